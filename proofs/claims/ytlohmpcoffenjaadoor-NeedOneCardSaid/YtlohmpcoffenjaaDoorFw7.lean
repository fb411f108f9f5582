/- Regions that draw their order: all orders come to the same. -/
/- Loops' heads. -/
/- THE EXECUTOR IS SOUND. -/
import Derived.Test.YtlohmpcoffenjaaDoorFw6
import Derived.ScopeJumps
set_option linter.unusedSimpArgs false
set_option linter.unusedVariables false
namespace Go.Lb
open Go.RowKit

variable {Y : List (Nat × Rnd)} {n0 : Nat} {w0 : Base} {c c' c2 : Cx} {ρ ρ' : Nat → AV} {st st' : St} {a : Act} {w : World} {ro : Option Nat} {E : Env}

/-! ### Sameness, decided -/
theorem pcsBeq_eq : ∀ {a b : List (SE × Bool)}, pcsBeq a b = true → a = b
  | [], [], _ => rfl
  | (e, b) :: as, (e', b') :: bs, h => by
    simp only [pcsBeq, Bool.and_eq_true, beq_iff_eq] at h
    rw [SE.beq_eq e e' h.1.1, h.1.2, pcsBeq_eq h.2]
theorem Ent.beq_eq {a b : Ent} (h : Ent.beq a b = true) : a = b := by
  simp only [Ent.beq, Bool.and_eq_true] at h
  cases a; cases b
  simp only at h
  rw [pcsBeq_eq h.1, SE.beq_eq _ _ h.2]
theorem slotsBeq_eq : ∀ {a b : List (Nat × Ent)}, slotsBeq a b = true → a = b
  | [], [], _ => rfl
  | (i, e) :: as, (j, e') :: bs, h => by
    simp only [slotsBeq, Bool.and_eq_true] at h
    rw [Nat.eq_of_beq_eq_true h.1.1, Ent.beq_eq h.1.2, slotsBeq_eq h.2]
theorem ownBeq_eq : ∀ {a b : Own}, ownBeq a b = true → a = b
  | [], [], _ => rfl
  | (i, e) :: as, (j, e') :: bs, h => by
    simp only [ownBeq, Bool.and_eq_true] at h
    rw [Nat.eq_of_beq_eq_true h.1.1, OS.beq_eq e e' h.1.2, ownBeq_eq h.2]
theorem St.beq_eq {a b : St} (h : St.beq a b = true) : a = b := by
  simp only [St.beq, Bool.and_eq_true] at h
  cases a; cases b
  simp only at h
  rw [Nat.eq_of_beq_eq_true h.1.1.1.1.1, slotsBeq_eq h.1.1.1.1.2, ownBeq_eq h.1.1.1.2, Nat.eq_of_beq_eq_true h.1.1.2, Nat.eq_of_beq_eq_true h.1.2, of_decide_eq_true h.2]
theorem Nd.beq_eq : ∀ {a b : Nd}, Nd.beq a b = true → a = b
  | .chk _ _ _, .chk _ _ _, h => by
    simp only [Nd.beq, Bool.and_eq_true, decide_eq_true_eq] at h
    rw [pcsBeq_eq h.1.1, h.1.2, SE.beqs_eq _ _ h.2]
  | .call _ _ _ _ _, .call _ _ _ _ _, h => by
    simp only [Nd.beq, Bool.and_eq_true, beq_iff_eq] at h
    rw [Nat.eq_of_beq_eq_true h.1.1.1.1, pcsBeq_eq h.1.1.1.2, Nat.eq_of_beq_eq_true h.1.1.2, SE.beqs_eq _ _ h.1.2, h.2]
  | .same _ _ _, .same _ _ _, h => by
    simp only [Nd.beq, Bool.and_eq_true] at h
    rw [Nat.eq_of_beq_eq_true h.1.1, pcsBeq_eq h.1.2, SE.beq_eq _ _ h.2]
theorem ndsBeq_eq : ∀ {a b : List Nd}, ndsBeq a b = true → a = b
  | [], [], _ => rfl
  | e :: as, e' :: bs, h => by
    simp only [ndsBeq, Bool.and_eq_true] at h
    rw [Nd.beq_eq h.1, ndsBeq_eq h.2]

/-! ### What is asked, as facts -/
def NdOk (P : Program) (G : Glob) (ρ : Nat → AV) : Nd → Prop
  | .chk pcs o args => Holds ρ pcs → pok o (dens ρ args)
  | .call n pcs f args b => (ρ n).pure = true ∧ (Holds ρ pcs → Contract P G f (dens ρ args) (ρ n) ∧ (b = true → (ρ n).scalar = true))
  | .same n pcs e => Holds ρ pcs → ρ n = den ρ e
  | .isNil _ _ _ => False
  | .srt _ _ => False
  | .cmp _ _ => False

theorem setEnv_self (ρ : Nat → AV) (n : Nat) : setEnv ρ n (ρ n) = ρ := by
  funext i; unfold setEnv; split
  · rename_i h; rw [h]
  · rfl

theorem facts_seg {P : Program} {G : Glob} : ∀ {ns : List Nd}, (∀ nd ∈ ns, NdOk P G ρ nd) → SegWp P G ρ ns (fun ρ' => ρ' = ρ)
  | [], _ => rfl
  | .chk pcs o args :: ns, h => ⟨h _ (List.mem_cons_self ..), facts_seg fun nd hn => h nd (List.mem_cons_of_mem _ hn)⟩
  | .call n pcs f args b :: ns, h => by
    have h1 := h _ (List.mem_cons_self ..)
    refine ⟨ρ n, h1.1, h1.2, ?_⟩
    rw [setEnv_self]
    exact facts_seg fun nd hn => h nd (List.mem_cons_of_mem _ hn)
  | .same n pcs e :: ns, h => ⟨h _ (List.mem_cons_self ..), facts_seg fun nd hn => h nd (List.mem_cons_of_mem _ hn)⟩
  | .isNil n pcs e :: ns, h => (h _ (List.mem_cons_self ..)).elim
  | .srt n e :: ns, h => (h _ (List.mem_cons_self ..)).elim
  | .cmp n e :: ns, h => (h _ (List.mem_cons_self ..)).elim

theorem NdOk.agree {P : Program} {G : Glob} {n : Nat} {pcs : List (SE × Bool)} {o : PF} {args : List SE} {D : Nat → Bool} (ha : Agree n ρ ρ') (hp : pcsWf n D pcs = true) (hw : SE.wfs n D args = true) (h : NdOk P G ρ (.chk pcs o args)) : NdOk P G ρ' (.chk pcs o args) := by
  intro hh
  rw [dens_agree ha args hw]
  exact h ((pcsWf_agree ha hp).1 hh)

theorem seg_facts {P : Program} {G : Glob} {K : (Nat → AV) → Prop} : ∀ (ns : List Nd) (n : Nat) (ρ : Nat → AV), (∀ i, (ρ i).pure = true) → ndsWf n ns = true → SegWp P G ρ ns K →
    ∃ ρ', Agree n ρ ρ' ∧ (∀ i, (ρ' i).pure = true) ∧ (∀ nd ∈ ns, NdOk P G ρ' nd) ∧ K ρ'
  | [], n, ρ, hρ, _, h => ⟨ρ, Agree.refl _ _, hρ, fun _ h => (by cases h), h⟩
  | .chk pcs o args :: ns, n, ρ, hρ, hw, h => by
    simp only [ndsWf, Bool.and_eq_true] at hw
    obtain ⟨ρ', a1, a2, a3, a4⟩ := seg_facts ns n ρ hρ hw.2 h.2
    refine ⟨ρ', a1, a2, fun nd hn => ?_, a4⟩
    rcases List.mem_cons.1 hn with rfl | hn
    · exact NdOk.agree a1 hw.1.1 hw.1.2 h.1
    · exact a3 nd hn
  | .call m pcs f args b :: ns, n, ρ, hρ, hw, h => by
    simp only [ndsWf, Bool.and_eq_true] at hw
    have hmn := Nat.eq_of_beq_eq_true hw.1.1.1
    subst hmn
    obtain ⟨r, hr, h1, h2⟩ := h
    obtain ⟨ρ', a1, a2, a3, a4⟩ := seg_facts ns (m + 1) _ (setEnv_pure hρ m hr) hw.2 h2
    have ha : Agree m ρ ρ' := (setEnv_agree ρ m r).trans (a1.mono (Nat.le_succ m))
    refine ⟨ρ', ha, a2, fun nd hn => ?_, a4⟩
    rcases List.mem_cons.1 hn with rfl | hn
    · refine ⟨a2 m, fun hh => ?_⟩
      have hm : ρ' m = r := by rw [a1 m (Nat.lt_succ_self m), setEnv_same]
      rw [hm, dens_agree ha args hw.1.2]
      exact h1 ((pcsWf_agree ha hw.1.1.2).1 hh)
    · exact a3 nd hn
  | .same m pcs e :: ns, n, ρ, hρ, hw, h => by
    simp only [ndsWf, Bool.and_eq_true, Nat.blt_eq] at hw
    obtain ⟨ρ', a1, a2, a3, a4⟩ := seg_facts ns n ρ hρ hw.2 h.2
    refine ⟨ρ', a1, a2, fun nd hn => ?_, a4⟩
    rcases List.mem_cons.1 hn with rfl | hn
    · intro hh
      rw [a1 m hw.1.1.1, den_agree a1 e hw.1.2]
      exact h.1 ((pcsWf_agree a1 hw.1.1.2).1 hh)
    · exact a3 nd hn
  | .isNil _ _ _ :: ns, n, ρ, hρ, hw, h => by simp [ndsWf] at hw
  | .srt _ _ :: ns, n, ρ, hρ, hw, h => by simp [ndsWf] at hw
  | .cmp _ _ :: ns, n, ρ, hρ, hw, h => by simp [ndsWf] at hw

/-! ### One operation -/
theorem drawStep_sound (hE : EnvOk E) (h0 : n0 ≤ w0.w.heap.size) {B i : Nat} {ops : Array Oper} {ns : List Nd} (hm : MatchSt E.G n0 w0 Y c ρ st a w) (h : drawStep E B ops i st = some (st', ns)) (hns : ∀ nd ∈ ns, NdOk E.P E.G ρ nd)
    {n : Nat} {K : Act → World → Prop} {Q : Exit → Act → World → Prop} (hk : ∀ c' a' w', Ext c ρ st.nenv st.D c' ρ st'.nenv st'.D → MatchSt E.G n0 w0 Y c' ρ st' a' w' → K a' w') : wpOpIn (FW ro) n E.P ops Q i K a w := by
  have hseg := facts_seg hns
  unfold drawStep at h
  split at h
  · cases h
  rename_i o hi
  split at h
  · cases h
  · rename_i hg
    have hw := guardOf_sound hm hg
    split at h
    · rename_i st1 hput
      simp only [Option.some.injEq, Prod.mk.injEq] at h
      obtain ⟨rfl, rfl⟩ := h
      refine unwanted_of hi hw ?_
      have hp := hm.put (st1 := st) (Ext.refl _ _ _ _) hm.mem rfl rfl rfl hm.glob hput (v := undef) (fun _ => .undef _ (fun _ h => by cases h)) (fun hn => absurd (Holds.nil _) hn) rfl rfl
      refine hk c _ w ?_ hp.1
      have : st1.D = st.D := by unfold St.D; rw [hp.2.2.1]
      rw [hp.2.1, this]; exact Ext.refl _ _ _ _
    · cases h
  · rename_i pcs hg
    have hw := guardOf_sound hm hg
    simp only at hw
    have unw : ¬ Holds ρ pcs → Region.wanted o (yielded ops a.tmps) = false := fun hp => by cases hx : Region.wanted o (yielded ops a.tmps); rfl; exact absurd (hw.1 hx) hp
    split at h
    · rename_i x y z ho
      split at h
      · rename_i e ns' hsp
        split at h
        · rename_i hwf
          split at h
          · rename_i st1 hput
            simp only [Option.some.injEq, Prod.mk.injEq] at h
            obtain ⟨rfl, rfl⟩ := h
            by_cases hp : Holds ρ pcs
            · obtain ⟨hk1, v, hv, hgo⟩ := sPick_sound (ro := ro) (P := E.P) hE hm ho hsp hp hseg
              refine wanted_of hi (hw.2 hp) (hgo n K Q ?_)
              have hpp := hm.put (st1 := st) (Ext.refl _ _ _ _) hm.mem rfl rfl rfl hm.glob hput (fun _ => hv) (fun hn => absurd hp hn) hwf.1 hwf.2
              refine hk c _ w ?_ hpp.1
              have : st1.D = st.D := by unfold St.D; rw [hpp.2.2.1]
              rw [hpp.2.1, this]; exact Ext.refl _ _ _ _
            · refine unwanted_of hi (unw hp) ?_
              have hpp := hm.put (st1 := st) (Ext.refl _ _ _ _) hm.mem rfl rfl rfl hm.glob hput (v := undef) (fun hh => absurd hh hp) (fun _ => rfl) hwf.1 hwf.2
              refine hk c _ w ?_ hpp.1
              have : st1.D = st.D := by unfold St.D; rw [hpp.2.2.1]
              rw [hpp.2.1, this]; exact Ext.refl _ _ _ _
          · cases h
        · cases h
      · cases h
    · split at h
      · rename_i s st1 hst
        split at h
        · rename_i hc
          split at h
          · rename_i st2 hput
            simp only [Option.some.injEq, Prod.mk.injEq] at h
            obtain ⟨rfl, rfl⟩ := h
            obtain ⟨cf, hmf, hkeep, e1, e2, e3, e4⟩ := frz_sound hE.G (frzTargets E st pcs o) c st hm
            generalize frz (frzTargets E st pcs o) st = sf at hst hmf e1 e2 e3 e4
            have hmf' : MatchSt E.G n0 w0 Y cf ρ { sf with nid := B + 2 * i } a w := ⟨hmf.mem, hmf.glob, hmf.sz, hmf.slots, hmf.dfr, hmf.mdom, hmf.rnds⟩
            have hxf : Ext c ρ st.nenv st.D cf ρ sf.nenv sf.D := Ext.keep_all hkeep e1 e4
            obtain ⟨hsop, _, _, hvw, hpw, hsl, hsz, hlk, hnv, hmk⟩ := stepSt_spec hst
            have hnle : sf.nenv ≤ st1.nenv := by rw [hnv]; exact Step.nenv_le _ _
            have hdom : ∀ i, sf.D i = true → st1.D i = true := fun i hi => by
              show (look st1.own).dom i = true
              rw [hlk]; exact upds_dom _ _ _ hi
            have hpw1 : pcsWf st1.nenv st1.D pcs = true := pcsWf_mono hnle hdom hpw
            rw [← e1] at hseg hput
            by_cases hp : Holds ρ pcs
            · refine wanted_of hi (hw.2 hp) (step_wanted hE h0 hmf' hst hp hseg ?_)
              intro ρ1 c1 v w1 hK hx hv hmem hg
              subst hK
              have hpp := hmf'.put (st1 := { st1 with nid := B }) hx hmem hsl hsz hmk hg hput (fun _ => hv) (fun hn => absurd hp hn) hvw hpw1
              refine hk c1 _ w1 ?_ hpp.1
              have : st2.D = st1.D := by unfold St.D; rw [hpp.2.2.1]
              rw [hpp.2.1, this]; exact hxf.trans hx
            · have hdl : s.dl = [] := by
                have h2 := hc.2
                cases pcs with
                | nil => exact absurd (Holds.nil _) hp
                | cons _ _ => simpa using h2
              have hlk' : look st1.own = look sf.own := by rw [hlk, hdl]; rfl
              have hx : Ext cf ρ sf.nenv sf.D cf ρ st1.nenv st1.D := ⟨Cx.Keeps.refl _ _, Agree.refl _ _, hnle, hdom⟩
              have hmem : Mem n0 w0 cf ρ (look st1.own) st1.nenv w := by rw [hlk']; exact hmf.mem.grow (hmf.mem.hn0 h0) hnle (Agree.refl _ _) hmf.mem.pure
              refine unwanted_of hi (unw hp) ?_
              have hpp := hmf'.put (st1 := { st1 with nid := B }) hx hmem hsl hsz hmk hmf.glob hput (v := undef) (fun hh => absurd hh hp) (fun _ => rfl) hvw hpw1
              refine hk cf _ w ?_ hpp.1
              have : st2.D = st1.D := by unfold St.D; rw [hpp.2.2.1]
              rw [hpp.2.1, this]; exact hxf.trans hx
          · cases h
        · cases h
      · cases h

/-! ### Which may come up -/
theorem bitOf_eq (X i : Nat) : bitOf X i = X.testBit i := by
  unfold bitOf
  rw [Nat.testBit_eq_decide_div_mod_eq, Nat.shiftRight_eq_div_pow]
  cases h : Nat.beq (X / 2 ^ i % 2) 1
  · symm; simp only [decide_eq_false_iff_not]; intro h2; rw [h2] at h; cases h
  · symm; simp only [decide_eq_true_eq]; exact Nat.eq_of_beq_eq_true h

structure Rel (n X : Nat) (listed : Array Bool) : Prop where
  size : listed.size = n
  bit : ∀ i, i < n → listed[i]? = some (X.testBit i)
  high : ∀ i, n ≤ i → X.testBit i = false

theorem Rel.getD {n X : Nat} {listed : Array Bool} (h : Rel n X listed) (i : Nat) : listed.getD i false = X.testBit i := by
  rw [Array.getD_eq_getD_getElem?]
  by_cases hi : i < n
  · rw [h.bit i hi]; rfl
  · rw [h.high i (by omega), Array.getElem?_eq_none (by rw [h.size]; omega)]; rfl

theorem Rel.init (n : Nat) : Rel n 0 (Array.replicate n false) :=
  ⟨by simp, fun i hi => by simp [hi], fun i _ => by simp⟩

theorem Rel.set {n X : Nat} {listed : Array Bool} (h : Rel n X listed) {i : Nat} (hi : i < n) : Rel n (X ||| (1 <<< i)) (listed.setIfInBounds i true) := by
  refine ⟨by simp [h.size], fun j hj => ?_, fun j hj => ?_⟩
  · rw [Array.getElem?_setIfInBounds, Nat.testBit_or, Nat.one_shiftLeft, Nat.testBit_two_pow]
    by_cases hij : i = j
    · subst hij; simp [h.size, hi]
    · simp [hij, h.bit j hj]
  · rw [Nat.testBit_or, Nat.one_shiftLeft, Nat.testBit_two_pow, h.high j hj]
    simp; omega

theorem predMask_bit (o : Oper) (X : Nat) : Nat.beq (predMask o &&& X) (predMask o) = o.after.all fun e => !Region.binds .any e || X.testBit e.on := by
  have key : ∀ (l : List Edge), Nat.beq ((l.foldr (fun e s => if Region.binds .any e then s ||| (1 <<< e.on) else s) 0) &&& X) (l.foldr (fun e s => if Region.binds .any e then s ||| (1 <<< e.on) else s) 0) = l.all fun e => !Region.binds .any e || X.testBit e.on := by
    intro l
    have sub : ∀ m : Nat, Nat.beq (m &&& X) m = true ↔ ∀ j, m.testBit j = true → X.testBit j = true := by
      intro m
      rw [Nat.beq_eq]
      constructor
      · intro h j hj
        have : (m &&& X).testBit j = true := by rw [h]; exact hj
        rw [Nat.testBit_and, Bool.and_eq_true] at this; exact this.2
      · intro h
        refine Nat.eq_of_testBit_eq fun j => ?_
        rw [Nat.testBit_and]
        cases hj : m.testBit j
        · rfl
        · rw [h j hj]; rfl
    have bits : ∀ (l : List Edge) (j : Nat), (l.foldr (fun e s => if Region.binds .any e then s ||| (1 <<< e.on) else s) 0).testBit j = true ↔ ∃ e ∈ l, Region.binds .any e = true ∧ e.on = j := by
      intro l
      induction l with
      | nil => intro j; simp
      | cons e l ih =>
        intro j
        simp only [List.foldr_cons]
        by_cases hb : Region.binds .any e = true
        · rw [if_pos hb, Nat.testBit_or, Bool.or_eq_true, ih j, Nat.one_shiftLeft, Nat.testBit_two_pow]
          simp only [hb, decide_eq_true_eq, List.mem_cons, exists_eq_or_imp, true_and]
          exact Or.comm
        · simp only [hb, List.mem_cons, exists_eq_or_imp, false_and, false_or, Bool.false_eq_true, if_false]
          exact ih j
    rw [Bool.eq_iff_iff, sub, List.all_eq_true]
    constructor
    · intro h e he
      by_cases hb : Region.binds .any e = true
      · simp [hb, h e.on ((bits l e.on).2 ⟨e, he, hb, rfl⟩)]
      · simp [hb]
    · intro h j hj
      obtain ⟨e, he, hb, rfl⟩ := (bits l j).1 hj
      have := h e he
      simpa [hb] using this
  unfold predMask
  rw [key, ← Array.all_toList]

theorem ready_rdy {ops : Array Oper} {X : Nat} {listed : Array Bool} (h : Rel ops.size X listed) : Region.ready .any ops listed = rdy (preds ops) X := by
  unfold Region.ready rdy preds
  rw [List.filter_map, List.map_map]
  have : ((fun x : Nat × Nat => x.1) ∘ fun i => (i, predAt ops i)) = (id : Nat → Nat) := rfl
  rw [this, List.map_id]
  refine List.filter_congr fun i hi => ?_
  have hlt : i < ops.size := List.mem_range.1 hi
  simp only [Function.comp, predAt]
  have h1 : listed.getD i true = X.testBit i := by rw [Array.getD_eq_getD_getElem?, h.bit i hlt]; rfl
  rw [h1, bitOf_eq, Array.getElem?_eq_getElem hlt]
  simp only [Option.map_some, Option.getD_some]
  rw [predMask_bit]
  congr 1
  congr 1
  funext e
  rw [h.getD]

/-! ### All orders -/
theorem insM_sound : ∀ {X : Nat} {st : St} {acc acc' : List (Nat × St)}, insM X st acc = some acc' → (X, st) ∈ acc' ∧ ∀ y ∈ acc, y ∈ acc'
  | X, st, [], acc', h => by simp only [insM, Option.some.injEq] at h; subst h; exact ⟨by simp, fun _ h => by cases h⟩
  | X, st, (Y, s) :: r, acc', h => by
    simp only [insM] at h
    split at h
    · rename_i hxy
      split at h
      · rename_i hs
        simp only [Option.some.injEq] at h; subst h
        rw [Nat.eq_of_beq_eq_true hxy, St.beq_eq hs]
        exact ⟨by simp, fun _ h => h⟩
      · cases h
    · split at h
      · rename_i r' hr
        simp only [Option.some.injEq] at h; subst h
        obtain ⟨h1, h2⟩ := insM_sound hr
        refine ⟨List.mem_cons_of_mem _ h1, fun y hy => ?_⟩
        rcases List.mem_cons.1 hy with rfl | hy
        · exact List.mem_cons_self ..
        · exact List.mem_cons_of_mem _ (h2 y hy)
      · cases h

theorem stepAll_sound {B : Nat} {ops : Array Oper} {N : List (List Nd)} {X : Nat} {st : St} : ∀ {is : List Nat} {acc acc' : List (Nat × St)}, stepAll E B ops N X st is acc = some acc' →
    (∀ y ∈ acc, y ∈ acc') ∧ ∀ i ∈ is, ∃ st', drawStep E B ops i st = some (st', N.getD i []) ∧ (X ||| (1 <<< i), st') ∈ acc'
  | [], acc, acc', h => by simp only [stepAll, Option.some.injEq] at h; subst h; exact ⟨fun _ h => h, fun _ h => by cases h⟩
  | i :: is, acc, acc', h => by
    simp only [stepAll] at h
    split at h
    · rename_i st' ns hd
      split at h
      · rename_i hn
        split at h
        · rename_i acc1 hi
          obtain ⟨h1, h2⟩ := stepAll_sound h
          obtain ⟨h3, h4⟩ := insM_sound hi
          refine ⟨fun y hy => h1 y (h4 y hy), fun j hj => ?_⟩
          rcases List.mem_cons.1 hj with rfl | hj
          · exact ⟨st', by rw [hd, ndsBeq_eq hn], h1 _ h3⟩
          · exact h2 j hj
        · cases h
      · cases h
    · cases h

theorem layer_sound {B : Nat} {ops : Array Oper} {pm : List (Nat × Nat)} {N : List (List Nd)} : ∀ {fr acc acc' : List (Nat × St)}, layer E B ops pm N fr acc = some acc' →
    (∀ y ∈ acc, y ∈ acc') ∧ ∀ X st, (X, st) ∈ fr → ∀ i ∈ rdy pm X, ∃ st', drawStep E B ops i st = some (st', N.getD i []) ∧ (X ||| (1 <<< i), st') ∈ acc'
  | [], acc, acc', h => by simp only [layer, Option.some.injEq] at h; subst h; exact ⟨fun _ h => h, fun _ _ h => by cases h⟩
  | (X, st) :: r, acc, acc', h => by
    simp only [layer] at h
    split at h
    · rename_i acc1 h1
      obtain ⟨h2, h3⟩ := layer_sound h
      obtain ⟨h4, h5⟩ := stepAll_sound h1
      refine ⟨fun y hy => h2 y (h4 y hy), fun Y s hy i hi => ?_⟩
      rcases List.mem_cons.1 hy with hy | hy
      · simp only [Prod.mk.injEq] at hy
        obtain ⟨rfl, rfl⟩ := hy
        obtain ⟨st', h6, h7⟩ := h5 i hi
        exact ⟨st', h6, h2 _ h7⟩
      · exact h3 Y s hy i hi
    · cases h

theorem rdy_lt {ops : Array Oper} {X i : Nat} (h : i ∈ rdy (preds ops) X) : i < ops.size := by
  unfold rdy preds at h
  obtain ⟨p, h1, rfl⟩ := List.mem_map.1 h
  obtain ⟨j, h2, rfl⟩ := List.mem_map.1 (List.mem_filter.1 h1).1
  exact List.mem_range.1 h2

theorem explore_sound (hE : EnvOk E) (h0 : n0 ≤ w0.w.heap.size) {B : Nat} {ops : Array Oper} {N : List (List Nd)} {fin : St} (hN : ∀ l ∈ N, ∀ nd ∈ l, NdOk E.P E.G ρ nd) {c0 : Cx} {nenv0 : Nat} {D0 : Nat → Bool} {n : Nat} {Q : Exit → Act → World → Prop}
    (hQ : ∀ c' a' w', Ext c0 ρ nenv0 D0 c' ρ fin.nenv fin.D → MatchSt E.G n0 w0 Y c' ρ fin a' w' → Q .normal a' w') : ∀ (k : Nat) (fr : List (Nat × St)), explore E B ops (preds ops) N fin k fr = true →
    ∀ X st, (X, st) ∈ fr → ∀ listed c a w, Rel ops.size X listed → Ext c0 ρ nenv0 D0 c ρ st.nenv st.D → MatchSt E.G n0 w0 Y c ρ st a w → wpAnyIn (FW ro) n E.P .any ops Q k listed a w := by
  intro k
  induction k with
  | zero =>
    intro fr h X st hx listed c a w hr he hm
    have := List.all_eq_true.1 h _ hx
    simp only [Bool.and_eq_true] at this
    refine ⟨by rw [ready_rdy hr]; exact List.isEmpty_iff.1 this.1, ?_⟩
    rw [← St.beq_eq this.2] at hQ
    exact hQ c a w he hm
  | succ k ih =>
    intro fr h X st hx listed c a w hr he hm
    simp only [explore, Bool.and_eq_true] at h
    obtain ⟨h1, h2⟩ := h
    constructor
    · intro hready
      have := List.all_eq_true.1 h1 _ hx
      rw [ready_rdy hr] at hready
      simp only [hready, List.isEmpty_nil, Bool.not_true, Bool.false_or] at this
      rw [← St.beq_eq this] at hQ
      exact hQ c a w he hm
    · intro i hi
      rw [ready_rdy hr] at hi
      split at h2
      · rename_i fr' hl
        obtain ⟨_, h3⟩ := layer_sound hl
        obtain ⟨st1, h4, h5⟩ := h3 X st hx i hi
        refine drawStep_sound hE h0 hm h4 (fun nd hnd => ?_) ?_
        · by_cases hlt : i < N.length
          · rw [List.getD_eq_getElem?_getD, List.getElem?_eq_getElem hlt] at hnd
            exact hN _ (List.getElem_mem hlt) nd hnd
          · rw [List.getD_eq_getElem?_getD, List.getElem?_eq_none (by omega)] at hnd
            cases hnd
        · intro c1 a1 w1 hx1 hm1
          exact ih fr' h2 _ st1 h5 _ c1 a1 w1 (hr.set (rdy_lt hi)) (he.trans hx1) hm1
      · cases h2

theorem Mem.drew {L : Lk} {nenv : Nat} (hm : Mem n0 w0 c ρ L nenv w) : Mem n0 w0 c ρ L nenv { w with drawn := w.drawn + 1 } := by
  refine ⟨⟨hm.imm.I, hm.imm.M⟩, hm.pure, hm.wf, fun i o h => ?_, hm.dist, hm.fresh, hm.disj, hm.immlt, ⟨hm.below.os, hm.below.tape, hm.below.output, hm.below.size, hm.below.block⟩, hm.old⟩
  have ho := hm.ok i o h
  cases o with
  | row sz e =>
    obtain ⟨xs, h1, h2⟩ := ho
    refine ⟨xs, h1, ?_⟩
    generalize c.h i = hv at h2 ⊢
    cases h2 with
    | nil => exact .nil
    | zero ad => exact .zero ad
    | row b o cap vs T _ q0 q1 q2 q3 q4 q5 => exact .row b o cap vs T xs q0 q1 q2 q3 q4 q5
  | _ => exact ho

theorem sxDraw_sound (hE : EnvOk E) (h0 : n0 ≤ w0.w.heap.size) (hmix : E.P.follows .mixedOrders = true) {R : AV → Prop} {d : Nat} {id : Nat} {ops : Array Oper} {k : St → RT} {n : Nat} {Q : Exit → Act → World → Prop} {Lp : Nat → List AV → Prop}
    (hm : MatchSt E.G n0 w0 Y c ρ st a w) (hk : KOk E R n0 w0 Y d Lp c ρ st.nenv st.D k (Q .normal)) (h : RTwp E.P E.G R (sxDraw E ops st k) Lp ρ) : (Code.region id ops true).wpIn (FW ro) n E.P Q a w := by
  unfold sxDraw at h
  split at h
  · rename_i fin N hdt
    split at h
    · rename_i hex
      split at h
      · rename_i hw
        obtain ⟨ρ', a1, a2, a3, a4⟩ := seg_facts _ _ _ hm.mem.pure hw (seg_RTwp h)
        refine wpIn_region_any hmix ?_
        have hm' : MatchSt E.G n0 w0 Y c ρ' st a { w with drawn := w.drawn + 1 } := by
          refine ⟨(hm.mem.grow (hm.mem.hn0 h0) (Nat.le_refl _) a1 a2).drew, hm.glob, hm.sz, ?_, hm.dfr, hm.mdom, hm.rnds.keeps (Cx.Keeps.refl _ _) a1 hm.mem.pure (Nat.le_refl _) (fun _ h => h)⟩
          exact hm.slots.keeps (Cx.Keeps.refl _ _) a1 hm.mem.pure (Nat.le_refl _) (fun _ h => h)
        refine explore_sound hE h0 (c0 := c) (nenv0 := st.nenv) (D0 := st.D) (N := N) (fin := fin) (fun l hl nd hnd => a3 nd (List.mem_flatten.2 ⟨l, hl, hnd⟩)) ?_ ops.size [(0, st)] hex 0 st (by simp) _ c a _ (Rel.init _) (Ext.refl _ _ _ _) hm'
        intro c1 w1a w1 hx1 hm1
        refine hk { fin with nid := st.nid + 2 * ops.size } c1 ρ' Lp w1a w1 ⟨hx1.keeps, a1, hx1.nenv, hx1.dom⟩ ⟨hm1.mem, hm1.glob, hm1.sz, hm1.slots, hm1.dfr, hm1.mdom, hm1.rnds⟩ (fun _ _ => rfl) a4
      · exact h.elim
    · exact h.elim
  · exact h.elim

end Go.Lb

namespace Go.Lb
open Go.RowKit

variable {Y : List (Nat × Rnd)} {n0 : Nat} {w0 : Base} {c c' c2 : Cx} {ρ ρ' : Nat → AV} {st st' : St} {a : Act} {w : World} {ro : Option Nat} {E : Env}

theorem findE_mem : ∀ {s : List (Nat × Ent)} {d : Nat} {e : Ent}, findE s d = some e → (d, e) ∈ s
  | (j, x) :: r, d, e, h => by
    simp only [findE, Nat.beq_eq] at h
    split at h
    · rename_i hd; simp only [Option.some.injEq] at h; subst h; rw [hd]; exact List.mem_cons_self ..
    · exact List.mem_cons_of_mem _ (findE_mem h)
theorem look_mem : ∀ {s : Own} {d : Nat} {e : OS}, look s d = some e → (d, e) ∈ s
  | (j, x) :: r, d, e, h => by
    simp only [look, Nat.beq_eq] at h
    split at h
    · rename_i hd; simp only [Option.some.injEq] at h; subst h; rw [hd]; exact List.mem_cons_self ..
    · exact List.mem_cons_of_mem _ (look_mem h)

theorem hdrVals_get (B : Bind) (n : Nat) : ∀ (len k : Nat), k < len → (hdrVals B n len)[k]? = some ((findV B.vals (n + k)).getD .undef)
  | len + 1, k, h => by
    have hl : ∀ m, (hdrVals B n m).length = m := by
      intro m; induction m with
      | zero => rfl
      | succ m ih => simp [hdrVals, ih]
    simp only [hdrVals]
    by_cases hk : k < len
    · rw [List.getElem?_append_left (by rw [hl]; exact hk)]; exact hdrVals_get B n len k hk
    · have : k = len := by omega
      subst this
      rw [List.getElem?_append_right (by rw [hl]; exact Nat.le_refl _), hl]; simp
theorem hdrVals_length (B : Bind) (n : Nat) : ∀ m, (hdrVals B n m).length = m
  | 0 => rfl
  | m + 1 => by simp [hdrVals, hdrVals_length B n m]

theorem setEnvs_agree (ρ : Nat → AV) (n : Nat) (vs : List AV) : Agree n ρ (setEnvs ρ n vs) := fun i hi => by
  unfold setEnvs; rw [if_neg (by omega)]
theorem pureAll_mem : ∀ {vs : List AV} {v : AV}, AV.pureAll vs = true → v ∈ vs → v.pure = true
  | x :: xs, v, h, hv => by
    simp only [AV.pureAll, Bool.and_eq_true] at h
    rcases List.mem_cons.1 hv with rfl | hv
    · exact h.1
    · exact pureAll_mem h.2 hv
theorem setEnvs_pure {ρ : Nat → AV} (hρ : ∀ i, (ρ i).pure = true) (n : Nat) {vs : List AV} (hv : AV.pureAll vs = true) : ∀ i, (setEnvs ρ n vs i).pure = true := by
  intro i
  unfold setEnvs
  split
  · rename_i h
    have hl : i - n < vs.length := by omega
    rw [List.getD_eq_getElem?_getD, List.getElem?_eq_getElem hl]
    exact pureAll_mem hv (List.getElem_mem hl)
  · exact hρ i

theorem noOwns_get : ∀ {es : List SE} {i : Nat} {e : SE}, SE.noOwns es = true → es[i]? = some e → e.noOwn = true
  | x :: xs, i, e, hw, h => by
    simp only [SE.noOwns, Bool.and_eq_true] at hw
    cases i with
    | zero => simp at h; subst h; exact hw.1
    | succ i => simp at h; exact noOwns_get hw.2 h

theorem rowsApart_gone {id0 : Nat} {hdr : St} : ∀ {rows : List (Nat × Option Nat)} {i p : Nat}, rowsApart id0 hdr rows = true → findR rows i = some (some p) → p < id0 → look hdr.own p = none ∨ look hdr.own p = some .gone
  | (k, some j) :: r, i, p, h, hf, hp => by
    simp only [rowsApart, Bool.and_eq_true] at h
    simp only [findR, Nat.beq_eq] at hf
    split at hf
    · simp only [Option.some.injEq] at hf; subst hf
      have := h.1.1
      simp only [Bool.or_eq_true, decide_eq_true_eq] at this
      rcases this with h1 | this
      · omega
      · split at this
        · rename_i hl; exact .inl hl
        · rename_i hl; exact .inr hl
        · cases this
    · exact rowsApart_gone h.2 hf hp
  | (k, none) :: r, i, p, h, hf, hp => by
    simp only [rowsApart] at h
    simp only [findR, Nat.beq_eq] at hf
    split at hf
    · simp at hf
    · exact rowsApart_gone h hf hp

theorem findR_mem : ∀ {rows : List (Nat × Option Nat)} {i : Nat} {p : Option Nat}, findR rows i = some p → (i, p) ∈ rows
  | (k, x) :: r, i, p, hf => by
    simp only [findR, Nat.beq_eq] at hf
    split at hf
    · rename_i hk; simp only [Option.some.injEq] at hf; subst hf; rw [hk]; exact List.mem_cons_self ..
    · exact List.mem_cons_of_mem _ (findR_mem hf)

theorem rowsApart_inj {id0 : Nat} {hdr : St} : ∀ {rows : List (Nat × Option Nat)} {i j p : Nat}, rowsApart id0 hdr rows = true → findR rows i = some (some p) → findR rows j = some (some p) → i = j
  | (k, x) :: r, i, j, p, h, hi, hj => by
    have hrest : rowsApart id0 hdr r = true := by
      cases x with
      | none => exact h
      | some y => simp only [rowsApart, Bool.and_eq_true] at h; exact h.2
    have hno : x = some p → ∀ i, findR r i ≠ some (some p) := by
      rintro rfl i hf
      simp only [rowsApart, Bool.and_eq_true, Bool.not_eq_true', List.any_eq_false] at h
      have := h.1.2 _ (findR_mem hf)
      simp at this
    simp only [findR, Nat.beq_eq] at hi hj
    split at hi
    · rename_i h1
      simp only [Option.some.injEq] at hi
      split at hj
      · rename_i h2; rw [h1, h2]
      · exact absurd hj (hno hi j)
    · split at hj
      · simp only [Option.some.injEq] at hj
        exact absurd hi (hno hj i)
      · exact rowsApart_inj hrest hi hj

/-- What is behind a fitting head. -/
structure FitCx (n0e id0 : Nat) (D0 : Nat → Bool) (B : Bind) (hn : Nat) (c : Cx) (ρ : Nat → AV) (c' : Cx) (ρ' : Nat → AV) : Prop where
  pure : ∀ i, (ρ' i).pure = true
  le : c.Le c'
  keeps : c.Keeps D0 c'
  agree : Agree n0e ρ ρ'
  val : ∀ k v, n0e ≤ k → k < hn → findV B.vals k = some v → ρ' k = den ρ v
  row : ∀ r, id0 ≤ r → match findR B.rows r with
    | some (some j) => c'.h r = c.h j
    | some none => c'.h r = .slice none 0 0
    | none => True

theorem agr_sound {n0e id0 : Nat} {D0 : Nat → Bool} {B : Bind} {hn : Nat} (hc : FitCx n0e id0 D0 B hn c ρ c' ρ') {DH : Nat → Bool} : ∀ {eH e : SE} {v : Value}, agr n0e id0 D0 B eH e = true → eH.wf hn DH = true → Rv c (den ρ e) v → Rv c' (den ρ' eH) v := by
  intro eH e v h hw hr
  have dflt : ∀ {eH e : SE}, (SE.beq eH e && eH.wf n0e D0) = true → Rv c (den ρ e) v → Rv c' (den ρ' eH) v := by
    intro eH e h hr
    simp only [Bool.and_eq_true] at h
    have he := SE.beq_eq _ _ h.1
    subst he
    rw [den_agree hc.agree _ h.2]
    have hρ : (den ρ eH).under D0 = true := by
      have := den_under hc.pure _ h.2
      rwa [den_agree hc.agree _ h.2] at this
    exact Rv_keeps hc.keeps hr hρ
  unfold agr at h
  split at h
  · rename_i k
    split at h
    · rename_i hk
      split at h
      · rename_i x hx
        have hlt : k < hn := by simpa [SE.wf] using hw
        have hv := hc.val k x hk hlt hx
        simp only [den]
        have hxe := SE.beq_eq _ _ h
        rw [hv, hxe]
        have hp : (den ρ e.weak).pure = true := by rw [← hxe, ← hv]; exact hc.pure k
        exact Rv_pure hc.le (weak_sound e hr) hp
      · cases h
    · rename_i hk
      rw [← SE.beq_eq _ _ h] at hr
      simp only [den] at hr ⊢
      have := hc.agree k (by omega)
      rw [this]
      refine Rv_pure hc.le hr ?_
      rw [← this]; exact hc.pure k
  · rename_i r
    split at h
    · rename_i hrid
      have hrow := hc.row r hrid
      split at h
      · rename_i j hj
        rw [hj] at hrow
        rw [SE.beq_eq _ _ h] at hr
        simp only [den] at hr ⊢
        cases hr with
        | row _ aa n cap hh => exact .row r aa n cap (hrow.trans hh)
      · rename_i hj
        rw [hj] at hrow
        rw [SE.beq_eq _ _ h] at hr
        simp only [den] at hr ⊢
        cases hr
        exact .row r none 0 0 hrow
      · cases h
    · simp only [Bool.and_eq_true] at h
      exact dflt (by simp only [Bool.and_eq_true]; exact ⟨h.1, h.2⟩) hr
  · exact dflt h hr

theorem agrs_sound {n0e id0 : Nat} {D0 : Nat → Bool} {B : Bind} {hn : Nat} (hc : FitCx n0e id0 D0 B hn c ρ c' ρ') {DH : Nat → Bool} : ∀ {eH e : List SE} {v : List Value}, agrs n0e id0 D0 B eH e = true → SE.wfs hn DH eH = true → Rvs c (dens ρ e) v → Rvs c' (dens ρ' eH) v
  | [], [], v, _, _, hr => by cases hr; exact .nil
  | x :: xs, y :: ys, v, h, hw, hr => by
    simp only [agrs, Bool.and_eq_true] at h
    simp only [SE.wfs, Bool.and_eq_true] at hw
    cases hr with
    | cons _ v _ vs h1 h2 => exact .cons _ _ _ _ (agr_sound hc h.1 hw.1 h1) (agrs_sound hc h.2 hw.2 h2)
  | [], _ :: _, _, h, _, _ => by simp [agrs] at h
  | _ :: _, [], _, h, _, _ => by simp [agrs] at h

theorem agrRow_sound {n0e id0 : Nat} {D0 : Nat → Bool} {B : Bind} {hn : Nat} (hc : FitCx n0e id0 D0 B hn c ρ c' ρ') {DH : Nat → Bool} {eH e : SE} (h : agrRow n0e D0 B eH e = true) (hw : eH.wf hn DH = true) : den ρ' eH = den ρ e ∧ (den ρ' eH).under D0 = true := by
  unfold agrRow at h
  split at h
  · rename_i k
    split at h
    · rename_i hk
      split at h
      · rename_i x hx
        have hlt : k < hn := by simpa [SE.wf] using hw
        have hv := hc.val k x hk hlt hx
        refine ⟨by simp only [den]; rw [hv, SE.beq_eq _ _ h], ?_⟩
        exact den_under hc.pure (n := k + 1) _ (by simp [SE.wf])
      · cases h
    · rename_i hk
      rw [← SE.beq_eq _ _ h]
      exact ⟨by simp only [den]; exact hc.agree k (by omega), den_under hc.pure (n := k + 1) _ (by simp [SE.wf])⟩
  · simp only [Bool.and_eq_true] at h
    rw [← SE.beq_eq _ _ h.1]
    exact ⟨den_agree hc.agree _ h.2, den_under hc.pure _ h.2⟩

theorem fits_sound (hE : EnvOk E) {st0 : St} {c0 : Cx} {ρ0 : Nat → AV} (hρ0 : ∀ i, (ρ0 i).pure = true) (hY0 : RoundsOk Y c0 ρ0 st0.nenv st0.D) {h : Hint} {vals : List SE} (hf : fits st0.nenv st0.nid st0.own h st = some vals)
    (hx : Ext c0 ρ0 st0.nenv st0.D c ρ st.nenv st.D) (hm : MatchSt E.G n0 w0 Y c ρ st a w) :
    vals.length = h.len ∧ AV.pureAll (dens ρ vals) = true ∧ ∃ c', MatchSt E.G n0 w0 Y c' (setEnvs ρ0 st0.nenv (dens ρ vals)) h.hdr a w ∧ Ext c0 ρ0 st0.nenv st0.D c' (setEnvs ρ0 st0.nenv (dens ρ vals)) h.hdr.nenv h.hdr.D := by
  unfold fits at hf
  simp only at hf
  split at hf
  case isFalse => cases hf
  rename_i hcond
  obtain ⟨k1, k2, k3, k4, k5, k6, k7, k8, km1, km2, k9, k10⟩ := hcond
  simp only [Option.some.injEq] at hf
  generalize guess st0.nenv st0.nid h.hdr st = B at *
  have hlen : vals.length = h.len := by rw [← hf]; exact hdrVals_length ..
  have hpure : AV.pureAll (dens ρ vals) = true := by rw [← hf]; exact SE.noOwns_pure hm.mem.pure _ k6
  refine ⟨hlen, hpure, ?_⟩
  have hdlt : ∀ i, st0.D i = true → i < st0.nid ∧ h.hdr.D i = true := by
    intro i hi
    unfold St.D Lk.dom at hi
    obtain ⟨o, ho⟩ := Option.isSome_iff_exists.1 hi
    have := List.all_eq_true.1 k1 _ (look_mem ho)
    simp only [Bool.and_eq_true, decide_eq_true_eq] at this
    exact ⟨this.1, this.2⟩
  let ρ' := setEnvs ρ0 st0.nenv (dens ρ vals)
  let c' : Cx := { c with h := fun i => if st0.nid ≤ i then (match findR B.rows i with | some (some j) => c.h j | some none => .slice none 0 0 | none => c.h i) else c.h i }
  have hρ' : ∀ i, (ρ' i).pure = true := setEnvs_pure hρ0 _ hpure
  have hag : Agree st0.nenv ρ ρ' := fun i hi => by
    exact (setEnvs_agree ρ0 st0.nenv _ i hi).trans (hx.agree i hi).symm
  have hle : c.Le c' := ⟨fun _ _ _ h => h, fun _ _ h => h⟩
  have hk0 : c.Keeps st0.D c' := ⟨hle, fun _ _ => rfl, fun i hi => by
    have := (hdlt i hi).1
    show (if st0.nid ≤ i then _ else c.h i) = c.h i
    rw [if_neg (by omega)], fun _ _ => rfl⟩
  have hc : FitCx st0.nenv st0.nid st0.D B h.hdr.nenv c ρ c' ρ' := by
    refine ⟨hρ', hle, hk0, hag, fun k v hk hlt hv => ?_, fun r hr => ?_⟩
    · have hl : (dens ρ vals).length = h.len := by rw [dens_length]; exact hlen
      show setEnvs ρ0 st0.nenv (dens ρ vals) k = den ρ v
      unfold setEnvs
      rw [if_pos ⟨hk, by rw [hl]; omega⟩, List.getD_eq_getElem?_getD, dens_getElem?, ← hf, hdrVals_get B st0.nenv h.len _ (by omega)]
      rw [show st0.nenv + (k - st0.nenv) = k from by omega, hv]; rfl
    · show match findR B.rows r with
        | some (some j) => c'.h r = c.h j
        | some none => c'.h r = .slice none 0 0
        | none => True
      have : c'.h r = (match findR B.rows r with | some (some j) => c.h j | some none => .slice none 0 0 | none => c.h r) := by
        show (if st0.nid ≤ r then _ else c.h r) = _
        rw [if_pos hr]
      rw [this]
      cases findR B.rows r with
      | none => trivial
      | some x => cases x <;> rfl
  have hown : ∀ i o, look h.hdr.own i = some o → agrOwn st0.nenv st0.nid st0.D B st i o = true ∧ o.wf h.hdr.nenv h.hdr.D = true := fun i o hl =>
    ⟨List.all_eq_true.1 k3 _ (look_mem hl), Own.wf_look k10 hl⟩
  have hlow : ∀ i, i < st0.nid → c'.h i = c.h i := fun i hi => by
    show (if st0.nid ≤ i then _ else c.h i) = c.h i
    rw [if_neg (by omega)]
  -- where a thing of the head's comes from
  have pre : ∀ i o b, look h.hdr.own i = some o → bl c' i o = some b → ∃ p op, look st.own p = some op ∧ bl c p op = some b ∧ (i < st0.nid → p = i) ∧ (st0.nid ≤ i → findR B.rows i = some (some p)) := by
    intro i o b hl hb
    have ha := (hown i o hl).1
    unfold agrOwn at ha
    split at ha
    · simp [bl] at hb
    · rename_i sz eH
      split at ha
      · rename_i hid
        have hr := hc.row i hid
        split at ha
        · rename_i j hj
          rw [hj] at hr
          split at ha
          · rename_i sz' e hlj
            refine ⟨j, _, hlj, ?_, fun h => by omega, fun _ => hj⟩
            simpa only [bl, hr] using hb
          · cases ha
        · rename_i hj
          rw [hj] at hr
          simp [bl, hr, hdrBlock] at hb
        · cases ha
      · rename_i hid
        simp only [Bool.and_eq_true] at ha
        have h2 := ha.2
        split at h2
        · rename_i sz' e hlj
          refine ⟨i, _, hlj, ?_, fun _ => rfl, fun h => by omega⟩
          simpa only [bl, hlow i (by omega)] using hb
        · cases h2
    · rename_i cs
      simp only [Bool.and_eq_true, decide_eq_true_eq] at ha
      have h2 := ha.2
      split at h2
      · rename_i cs' hlj
        exact ⟨i, _, hlj, hb, fun _ => rfl, fun h => by omega⟩
      · cases h2
    · simp only [Bool.and_eq_true, decide_eq_true_eq] at ha
      have h2 := ha.2
      split at h2
      · rename_i o' hlj
        rw [← OS.beq_eq _ _ h2] at hlj
        refine ⟨i, _, hlj, ?_, fun _ => rfl, fun h => by omega⟩
        rw [← hb]
        cases o <;> first | rfl | simp only [bl, hlow i ha.1.1.1]
      · cases h2
  have hExt : Ext c0 ρ0 st0.nenv st0.D c' ρ' h.hdr.nenv h.hdr.D := ⟨hx.keeps.trans (hk0.mono fun i hi => hi), setEnvs_agree _ _ _, by rw [k7]; omega, fun i hi => (hdlt i hi).2⟩
  refine ⟨c', ⟨⟨⟨hm.mem.imm.I, hm.mem.imm.M⟩, hρ', fun i o hl => (hown i o hl).2, ?_, ?_, ?_, ?_, hm.mem.immlt, hm.mem.below, hm.mem.old⟩, hm.glob.ext hE hle, hm.sz.trans k8.symm, ?_, by rw [km1]; exact hm.dfr, fun i hi => List.all_eq_true.1 km2 i hi, hY0.keeps hExt.keeps hExt.agree hρ0 hExt.nenv hExt.dom⟩, hExt⟩
  · intro i o hl
    obtain ⟨ha, hw⟩ := hown i o hl
    unfold agrOwn at ha
    split at ha
    · trivial
    · rename_i sz eH
      split at ha
      · rename_i hid
        have hr := hc.row i hid
        split at ha
        · rename_i j hj
          rw [hj] at hr
          split at ha
          · rename_i sz' e hlj
            simp only [Bool.and_eq_true] at ha
            have hsz := Nat.eq_of_beq_eq_true ha.1
            subst hsz
            obtain ⟨xs, h1, h2⟩ := hm.mem.ok j _ hlj
            obtain ⟨d1, d2⟩ := agrRow_sound hc ha.2 hw
            refine ⟨xs, d1.trans h1, ?_⟩
            rw [hr]
            rw [d1, h1] at d2
            exact h2.keeps hk0 (by simpa [AV.under] using d2) (fun _ _ => rfl)
          · cases ha
        · rename_i hj
          rw [hj] at hr
          obtain ⟨d1, d2⟩ := agrRow_sound hc ha hw
          refine ⟨[], d1, ?_⟩
          rw [hr]; exact .nil
        · cases ha
      · rename_i hid
        simp only [Bool.and_eq_true] at ha
        have h2 := ha.2
        split at h2
        · rename_i sz' e hlj
          simp only [Bool.and_eq_true] at h2
          have hsz := Nat.eq_of_beq_eq_true h2.1
          subst hsz
          obtain ⟨xs, h1, h3⟩ := hm.mem.ok i _ hlj
          obtain ⟨d1, d2⟩ := agrRow_sound hc h2.2 hw
          refine ⟨xs, d1.trans h1, ?_⟩
          rw [hlow i (by omega)]
          rw [d1, h1] at d2
          exact h3.keeps hk0 (by simpa [AV.under] using d2) (fun _ _ => rfl)
        · cases h2
    · rename_i cs
      simp only [Bool.and_eq_true, decide_eq_true_eq] at ha
      have h2 := ha.2
      split at h2
      · rename_i cs' hlj
        obtain ⟨vs, T, h3, h4⟩ := hm.mem.ok i _ hlj
        exact ⟨vs, T, h3, agrs_sound hc h2 hw h4⟩
      · cases h2
    · simp only [Bool.and_eq_true, decide_eq_true_eq] at ha
      have h2 := ha.2
      split at h2
      · rename_i o' hlj
        rw [← OS.beq_eq _ _ h2] at hlj
        have hok := hm.mem.ok i _ hlj
        have hwo : o.wf st0.nenv st0.D = true := ha.1.2
        exact hok.keeps hk0 ha.1.1.2 hm.mem.pure hag hwo (fun _ _ => rfl)
      · cases h2
  · intro i j oi oj b hi hj bi bj
    obtain ⟨p, op, p1, p2, p3, p4⟩ := pre i oi b hi bi
    obtain ⟨q, oq, q1, q2, q3, q4⟩ := pre j oj b hj bj
    have hpq : p = q := hm.mem.dist p q op oq b p1 q1 p2 q2
    by_cases hi0 : i < st0.nid
    · by_cases hj0 : j < st0.nid
      · rw [← p3 hi0, ← q3 hj0, hpq]
      · exfalso
        have hr := q4 (by omega)
        rw [← hpq, p3 hi0] at hr
        rcases rowsApart_gone k4 hr hi0 with h1 | h1
        · rw [hi] at h1; cases h1
        · rw [hi] at h1; simp only [Option.some.injEq] at h1; subst h1; simp [bl] at bi
    · by_cases hj0 : j < st0.nid
      · exfalso
        have hr := p4 (by omega)
        rw [hpq, q3 hj0] at hr
        rcases rowsApart_gone k4 hr hj0 with h1 | h1
        · rw [hj] at h1; cases h1
        · rw [hj] at h1; simp only [Option.some.injEq] at h1; subst h1; simp [bl] at bj
      · have h1 := p4 (by omega)
        have h2 := q4 (by omega)
        rw [← hpq] at h2
        exact rowsApart_inj k4 h1 h2
  · intro i o b hi bi
    obtain ⟨p, op, p1, p2, _, _⟩ := pre i o b hi bi
    exact hm.mem.fresh p op b p1 p2
  · intro i o b hi bi
    obtain ⟨p, op, p1, p2, _, _⟩ := pre i o b hi bi
    exact hm.mem.disj p op b p1 p2
  · intro d en hfe
    have h1 := List.all_eq_true.1 k2 _ (findE_mem hfe)
    have h2 := List.all_eq_true.1 k9 _ (findE_mem hfe)
    simp only [Bool.and_eq_true] at h1
    have hpn : en.pcs = [] := List.isEmpty_iff.1 h1.1
    have h3 := h1.2
    split at h3
    · rename_i e' he'
      simp only [Bool.and_eq_true] at h3
      have hpn' : e'.pcs = [] := List.isEmpty_iff.1 h3.1
      obtain ⟨v, hv1, hv2⟩ := (hm.slots d e' he').yes (by rw [hpn']; exact Holds.nil _)
      refine ⟨fun _ => ⟨v, hv1, agr_sound hc h3.2 h2 hv2⟩, fun hn => absurd (by rw [hpn]; exact Holds.nil _) hn, h2, by rw [hpn]; rfl⟩
    · cases h3

end Go.Lb

namespace Go.Lb
open Go.RowKit

variable {Y : List (Nat × Rnd)} {n0 : Nat} {w0 : Base} {c c' c2 : Cx} {ρ ρ' : Nat → AV} {st st' : St} {a : Act} {w : World} {ro : Option Nat} {E : Env}

/-! ### Loops, by what holds at each round and a number that sinks -/
theorem exists_least (p : Nat → Prop) : (∃ n, p n) → ∃ n, p n ∧ ∀ m, p m → n ≤ m := by
  rintro ⟨n, hn⟩
  induction n using Nat.strongRecOn with
  | _ n ih =>
    by_cases h : ∃ m, m < n ∧ p m
    · obtain ⟨m, h1, h2⟩ := h; exact ih m h1 h2
    · exact ⟨n, hn, fun m hm => by
        by_cases hlt : m < n
        · exact absurd ⟨m, hlt, hm⟩ h
        · omega⟩

open Classical in
theorem wpIn_loop_ix {F : Fence} {n : Nat} {P : Program} {Q : Exit → Act → World → Prop} {a : Act} {w : World} {cd : Code} (J : Nat → Act → World → Prop) (hs : ∃ j, J j a w)
    (round : ∀ j a w, J j a w → cd.wpIn F n P (Exit.then (fun a' w' => ∃ j', j' < j ∧ J j' a' w') Q) a w) : (Code.loop cd).wpIn F n P Q a w := by
  let μ : Act → World → Nat := fun a w => if h : ∃ j, J j a w then Classical.choose (exists_least _ h) else 0
  have hμ : ∀ a w, (∃ j, J j a w) → J (μ a w) a w ∧ ∀ m, J m a w → μ a w ≤ m := by
    intro a w h
    have := Classical.choose_spec (exists_least _ h)
    simp only [μ, dif_pos h]; exact this
  refine wpIn_loop (fun a w => ∃ j, J j a w) μ hs fun a w hI => ?_
  refine wpIn_mono (round (μ a w) a w (hμ a w hI).1) fun e a' w' hq => ?_
  cases e with
  | normal =>
    obtain ⟨j', h1, h2⟩ := hq
    exact ⟨⟨j', h2⟩, Nat.lt_of_le_of_lt ((hμ a' w' ⟨j', h2⟩).2 j' h2) h1⟩
  | _ => exact hq

/-! ### Scopes -/
def wpScope (F : Fence) (n : Nat) (P : Program) (c : Code) (Q : Exit → Act → World → Prop) : Nat → Code → Act → World → Prop
  | 0, _, _, _ => False
  | m + 1, code, a, w => code.wpIn F n P (fun e a w => match e with
    | .goto l => match findLabel c l with
      | some rest => wpScope F n P c Q m rest a w
      | none => Q (.goto l) a w
    | e => Q e a w) a w

theorem stepR_scope {P : Program} {b : Frame} {a : Act} {k : List Item} {cs : List Frame} {w : World} {c : Code} : step P (lone (b.atR a (.code (.scope c) :: k)) cs w) = .next (lone (b.atR a (.code c :: .inScope c :: k)) cs w) :=
  step_lone_go (by simp [stepG, stepG.exec, Frame.atR])
theorem stepR_inScope {P : Program} {b : Frame} {a : Act} {k : List Item} {cs : List Frame} {w : World} {c : Code} : step P (lone (b.atR a (.inScope c :: k)) cs w) = .next (lone (b.atR a k) cs w) :=
  step_lone_go (by simp [stepG, stepG.exec, Frame.atR])

theorem wpIn_scope {F : Fence} {n : Nat} {P : Program} {Q : Exit → Act → World → Prop} {a : Act} {w : World} {c : Code} {m : Nat} (h : wpScope F n P c Q m c a w) : (Code.scope c).wpIn F n P Q a w := by
  intro b k cs hro hb hr
  have key : ∀ m code a w, wpScope F n P c Q m code a w → ∃ e a' w', Q e a' w' ∧ ArrivesIn (Machine.fenced P F) P (lone (b.atR a (.code code :: .inScope c :: k)) cs w) b k cs e a' w' := by
    intro m
    induction m with
    | zero => intro code a w h; exact h.elim
    | succ m ih =>
      intro code a w h
      obtain ⟨e, a₁, w₁, hq, harr⟩ := h b (.inScope c :: k) cs hro hb hr
      cases e with
      | normal => exact ⟨.normal, a₁, w₁, hq, StepsIn.trans harr (.one (fenced_calm hb hr rfl) stepR_inScope)⟩
      | exit id =>
        have hx : exitTo id (.inScope c :: k) = exitTo id k := by simp [exitTo]
        exact ⟨.exit id, a₁, w₁, hq, fun k' hk => harr.1 k' (by rw [hx]; exact hk), fun hr' hk => harr.2 hr' (by rw [hx]; exact hk)⟩
      | goto l =>
        simp only at hq
        split at hq
        · rename_i rest hl
          have hg : gotoIn l (.inScope c :: k) = some (.code rest :: .inScope c :: k) := by simp [gotoIn, hl]
          obtain ⟨e₂, a₂, w₂, hq₂, harr₂⟩ := ih rest a₁ w₁ hq
          exact ⟨e₂, a₂, w₂, hq₂, .of_steps (harr.1 _ hg) harr₂⟩
        · rename_i hl
          have hx : gotoIn l (.inScope c :: k) = gotoIn l k := by simp [gotoIn, hl]
          exact ⟨.goto l, a₁, w₁, hq, fun k' hk => harr.1 k' (by rw [hx]; exact hk), fun hr' hk => harr.2 hr' (by rw [hx]; exact hk)⟩
      | ret => exact ⟨_, a₁, w₁, hq, harr⟩
      | panic ch => exact ⟨_, a₁, w₁, hq, harr⟩
      | outgrown => exact ⟨_, a₁, w₁, hq, harr⟩
  obtain ⟨e, a', w', hq, harr⟩ := key m c a w h
  exact ⟨e, a', w', hq, .of_steps (.one (fenced_calm hb hr rfl) stepR_scope) harr⟩

theorem scopeK_sound {R : AV → Prop} {d : Nat} {run : Code → St → Kont → RT} (hrun : ∀ (code : Code) (st : St) (k : Kont) (n : Nat) (Q : Exit → Act → World → Prop) (c : Cx) (ρ : Nat → AV) (Lp : Nat → List AV → Prop) (a : Act) (w : World),
    MatchSt E.G n0 w0 Y c ρ st a w → KontOk E R n0 w0 Y d Lp c ρ st.nenv st.D k Q → RTwp E.P E.G R (run code st k) Lp ρ → code.wpIn (FW ro) n E.P Q a w) {cd : Code} {n : Nat} {Q : Exit → Act → World → Prop} : ∀ (m : Nat) (code : Code) (st : St) (k : Kont) (c : Cx) (ρ : Nat → AV) (Lp : Nat → List AV → Prop) (a : Act) (w : World),
    MatchSt E.G n0 w0 Y c ρ st a w → KontOk E R n0 w0 Y d Lp c ρ st.nenv st.D k Q → RTwp E.P E.G R (scopeK run cd m code st k) Lp ρ → wpScope (FW ro) n E.P cd Q m code a w
  | 0, code, st, k, c, ρ, Lp, a, w, _, _, h => h.elim
  | m + 1, code, st, k, c, ρ, Lp, a, w, hm, hk, h => by
    simp only [scopeK] at h
    refine hrun code st _ n _ c ρ Lp a w hm ?_ h
    intro ke st1 c1 ρ1 Lp1 a1 w1 hx hm1 hL hr
    cases ke with
    | goto l =>
      show match findLabel cd l with
        | some rest => wpScope (FW ro) n E.P cd Q m rest a1 w1
        | none => Q (.goto l) a1 w1
      simp only at hr
      split at hr
      · rename_i rest hl
        simp only [hl]
        exact scopeK_sound hrun m rest st1 k c1 ρ1 Lp1 a1 w1 hm1 (hk.mono hx hL) hr
      · rename_i hl
        simp only [hl]
        exact hk (.goto l) st1 c1 ρ1 Lp1 a1 w1 hx hm1 hL hr
    | normal => exact hk .normal st1 c1 ρ1 Lp1 a1 w1 hx hm1 hL hr
    | exit id => exact hk (.exit id) st1 c1 ρ1 Lp1 a1 w1 hx hm1 hL hr
    | ret => exact hk .ret st1 c1 ρ1 Lp1 a1 w1 hx hm1 hL hr

theorem pickHint_fits {fn key n0 id0 : Nat} {own0 : Own} {st : St} : ∀ {hs : List Hint} {h : Hint} {v : List SE}, pickHint fn key n0 id0 own0 st hs = some (h, v) → fits n0 id0 own0 h st = some v
  | x :: hs, h, v, hp => by
    simp only [pickHint] at hp
    split at hp
    · split at hp
      · rename_i hf
        simp only [Option.some.injEq, Prod.mk.injEq] at hp
        obtain ⟨rfl, rfl⟩ := hp
        exact hf
      · exact pickHint_fits hp
    · exact pickHint_fits hp

/-! ### The whole -/
theorem rangeCallee_spec {st : St} {g : Operand} {fid : Nat} {f : Func} {cd : Code} {fs cs : List SE} (h : rangeCallee E st g = some (fid, f, cd, fs, cs)) :
    evS E.G st.slots [] g = some (.clo fid fs cs) ∧ callOk E.P fid = true ∧ E.P.funcs[fid]? = some f ∧ f.body = some cd := by
  unfold rangeCallee at h
  split at h
  · rename_i fid' fs' cs' h1
    split at h
    · rename_i h2
      split at h
      · rename_i fn h3
        split at h
        · rename_i c h4
          simp only [Option.some.injEq, Prod.mk.injEq] at h
          obtain ⟨rfl, rfl, rfl, rfl, rfl⟩ := h
          exact ⟨h1, h2, h3, h4⟩
        · cases h
      · cases h
    · cases h
  · cases h

/-- The blocks that a range lays. -/
theorem enter_range {Y : List (Nat × Rnd)} {fn : FuncId} {ps : Array Tmp} {assign body : Code} (hE : EnvOk E) (h0 : n0 ≤ w0.w.heap.size) (hm : MatchSt E.G n0 w0 Y c ρ st a w) (h1 : look st.own st.nid = none) (h2 : look st.own (st.nid + 1) = none) (fnum : Nat) :
    ∃ c', c.Keeps st.D c' ∧ c'.β st.nid = w.heap.size ∧ c'.β (st.nid + 1) = w.heap.size + 1 ∧
      Mem n0 w0 c' ρ (look (putOwn (putOwn st.own st.nid .dfr) (st.nid + 1) (.loop .ready))) st.nenv ((w.alloc (.deferred (some []))).alloc (.loop { state := .ready, pending := none, fn, tmps := a.tmps, params := ps, assign, body, defers := w.heap.size })) ∧
      GlobOk E.G c' ∧ RoundsOk ((st.nid + 1, ⟨fnum, st.sz, st.slots, ps.toList, assign, body⟩) :: Y) c' ρ st.nenv (look (putOwn (putOwn st.own st.nid .dfr) (st.nid + 1) (.loop .ready))).dom := by
  let rec0 : Loop := { state := .ready, pending := none, fn, tmps := a.tmps, params := ps, assign, body, defers := w.heap.size }
  have hn0 := hm.mem.hn0 h0
  let c1 := c.setβ st.nid w.heap.size
  have k1 : c.Keeps st.D c1 := Cx.setβ_keeps c h1
  have m1 : Mem n0 w0 c1 ρ ((look st.own).upd st.nid .dfr) st.nenv (w.alloc (.deferred (some []))) := by
    refine hm.mem.new _ st.nid h1 .dfr k1 rfl rfl rfl ?_ ?_ hn0
    · show (w.alloc _).heap[c1.β st.nid]? = _
      rw [show c1.β st.nid = w.heap.size from by simp [c1, Cx.setβ]]; exact World.alloc_heap_new _ _
    · intro b hb
      simp only [bl, Option.some.injEq] at hb
      rw [← hb]; simp [c1, Cx.setβ]
  have h2' : ((look st.own).upd st.nid .dfr) (st.nid + 1) = none := by rw [Lk.upd_other _ _ (by omega)]; exact h2
  let c2 := (c1.setβ (st.nid + 1) (w.heap.size + 1)).setL (st.nid + 1) rec0
  have k2 : c1.Keeps ((look st.own).upd st.nid .dfr).dom c2 := (Cx.setβ_keeps c1 h2').trans (Cx.setL_keeps _ h2')
  have m2 : Mem n0 w0 c2 ρ (((look st.own).upd st.nid .dfr).upd (st.nid + 1) (.loop .ready)) st.nenv ((w.alloc (.deferred (some []))).alloc (.loop rec0)) := by
    refine m1.new _ (st.nid + 1) h2' (.loop .ready) k2 rfl rfl rfl ?_ ?_ (by simp; omega)
    · show ((w.alloc _).alloc _).heap[c2.β (st.nid + 1)]? = some (.loop (stamp (c2.L (st.nid + 1)) .ready))
      have e1 : c2.β (st.nid + 1) = (w.alloc (.deferred (some []))).heap.size := by simp [c2, Cx.setβ, Cx.setL]
      have e2 : c2.L (st.nid + 1) = rec0 := by simp [c2, Cx.setL]
      rw [e1, e2]; exact World.alloc_heap_new _ _
    · intro b hb
      simp only [bl, Option.some.injEq] at hb
      rw [← hb]; simp [c2, Cx.setβ, Cx.setL]
  have hlk : look (putOwn (putOwn st.own st.nid .dfr) (st.nid + 1) (.loop .ready)) = ((look st.own).upd st.nid .dfr).upd (st.nid + 1) (.loop .ready) := by rw [look_putOwn, look_putOwn]
  have kk : c.Keeps st.D c2 := k1.trans (k2.mono fun i hi => Lk.dom_upd _ _ _ _ hi)
  have hdm : ∀ i, st.D i = true → (look (putOwn (putOwn st.own st.nid .dfr) (st.nid + 1) (.loop .ready))).dom i = true := fun i hi => by rw [hlk]; exact Lk.dom_upd _ _ _ _ (Lk.dom_upd _ _ _ _ hi)
  refine ⟨c2, kk, ?_, ?_, by rw [hlk]; exact m2, hm.glob.ext hE kk.toLe, ?_⟩
  · simp [c2, c1, Cx.setβ, Cx.setL]
  · simp [c2, Cx.setβ, Cx.setL]
  · intro i r hf
    simp only [findY, Nat.beq_eq] at hf
    split at hf
    · rename_i hi
      simp only [Option.some.injEq] at hf; subst hf; subst hi
      have e2 : c2.L (st.nid + 1) = rec0 := by simp [c2, Cx.setL]
      rw [e2]
      exact ⟨by rw [hlk]; exact Lk.dom_upd_same _ _ _, rfl, rfl, rfl, hm.sz, hm.slots.keeps kk (Agree.refl _ _) hm.mem.pure (Nat.le_refl _) hdm⟩
    · exact hm.rnds.keeps kk (Agree.refl _ _) hm.mem.pure (Nat.le_refl _) hdm i r hf

theorem sx_sound (hE : EnvOk E) (h0 : n0 ≤ w0.w.heap.size) (hmix : E.P.follows .mixedOrders = true) {R : AV → Prop} : ∀ (fuel d : Nat) (Y : List (Nat × Rnd)), RecOk E R n0 w0 Y d (fun rd fn code st k => sx E fuel d rd fn Y code st k) := by
  intro fuel
  induction fuel with
  | zero => intro d Y rd fn code st k ro n Q c ρ Lp a w _ _ _ h; exact h.elim
  | succ fuel ih =>
    intro d Y rd fn code st k ro n Q c ρ Lp a w hrd hm hk h
    have here : ∀ (ke : KE), RTwp E.P E.G R (k ke st) Lp ρ → Q ke.toExit a w := fun ke hr => hk ke st c ρ Lp a w (Ext.refl _ _ _ _) hm (fun _ _ => rfl) hr
    cases code with
    | skip => exact wpIn_skip (here .normal h)
    | label l => exact wpIn_label (here .normal h)
    | exit id => exact wpIn_exit (here (.exit id) h)
    | goto l => exact wpIn_goto (here (.goto l) h)
    | ret => exact wpIn_ret (here .ret h)
    | region id ops dr =>
      cases dr with
      | false => exact wpIn_region (sxOps_sound hE h0 (fun rd f cd st k => ih d Y rd f cd st k) _ st _ c ρ Lp a w hm (hk .normal) h)
      | true => exact sxDraw_sound hE h0 hmix hm (hk .normal) h
    | seq x y =>
      refine wpIn_seq (ih d Y rd fn x st _ ro n _ c ρ Lp a w hrd hm ?_ h)
      intro ke st1 c1 ρ1 Lp1 a1 w1 hx hm1 hL hr
      cases ke with
      | normal => exact ih d Y rd fn y st1 k ro n Q c1 ρ1 Lp1 a1 w1 hrd hm1 (hk.mono hx hL) hr
      | exit id => exact hk (.exit id) st1 c1 ρ1 Lp1 a1 w1 hx hm1 hL hr
      | goto l => exact hk (.goto l) st1 c1 ρ1 Lp1 a1 w1 hx hm1 hL hr
      | ret => exact hk .ret st1 c1 ρ1 Lp1 a1 w1 hx hm1 hL hr
    | cond x p q =>
      simp only [sx] at h
      have hev : ∀ {e}, evS E.G st.slots [] x = some e → Rv c (den ρ e) (a.eval x) := fun hx => (evS_sound hm.slots hm.glob hE.G (Holds.nil ρ) hx).1
      split at h
      · rename_i he
        exact wpIn_cond_true (Rv.bool_inv (hev he)) (ih d Y rd fn p st k ro n Q c ρ Lp a w hrd hm hk h)
      · rename_i he
        exact wpIn_cond_false (Rv.bool_inv (hev he)) (ih d Y rd fn q st k ro n Q c ρ Lp a w hrd hm hk h)
      · rename_i e _ _ he
        obtain ⟨b, st1, hb, hm1, hs1, hr⟩ := splitSE_sound hm h
        have hv := hev he
        rw [hb] at hv
        have hk1 := hk.mono (Ext.same hs1) (fun _ _ => rfl) (ρ' := ρ) (c' := c) (Lp' := Lp)
        refine wpIn_cond (Rv.bool_inv hv) ?_
        cases b
        · exact ih d Y rd fn q st1 k ro n Q c ρ Lp a w hrd hm1 hk1 hr
        · exact ih d Y rd fn p st1 k ro n Q c ρ Lp a w hrd hm1 hk1 hr
      · exact h.elim
    | block id x =>
      refine wpIn_block (ih d Y rd fn x st _ ro n _ c ρ Lp a w hrd hm ?_ h)
      intro ke st1 c1 ρ1 Lp1 a1 w1 hx hm1 hL hr
      cases ke with
      | normal => exact hk .normal st1 c1 ρ1 Lp1 a1 w1 hx hm1 hL hr
      | exit j =>
        show if j = id then Q .normal a1 w1 else Q (.exit j) a1 w1
        simp only at hr
        split at hr
        · rename_i hj; rw [if_pos hj]; exact hk .normal st1 c1 ρ1 Lp1 a1 w1 hx hm1 hL hr
        · rename_i hj; rw [if_neg hj]; exact hk (.exit j) st1 c1 ρ1 Lp1 a1 w1 hx hm1 hL hr
      | goto l => exact hk (.goto l) st1 c1 ρ1 Lp1 a1 w1 hx hm1 hL hr
      | ret => exact hk .ret st1 c1 ρ1 Lp1 a1 w1 hx hm1 hL hr
    | scope x =>
      exact wpIn_scope (scopeK_sound (run := fun x st k => sx E fuel d rd fn Y x st k) (fun code st k n Q c ρ Lp a w hm hk h => ih d Y rd fn code st k ro n Q c ρ Lp a w hrd hm hk h) fuel x st k c ρ Lp a w hm hk h)
    | loop x =>
      simp only [sx] at h
      split at h
      · exact h.elim
      · rename_i hint init hpick
        have hf := pickHint_fits hpick
        simp only [RTwp] at h
        obtain ⟨I, μ, hI, hround⟩ := h
        obtain ⟨l0, p0, c0, m0, x0⟩ := fits_sound hE hm.mem.pure hm.rnds hf (Ext.refl _ _ _ _) hm
        let J : Nat → Act → World → Prop := fun j a w => ∃ c' vs, vs.length = init.length ∧ AV.pureAll vs = true ∧ I vs ∧ μ vs = j ∧ MatchSt E.G n0 w0 Y c' (setEnvs ρ st.nenv vs) hint.hdr a w ∧ Ext c ρ st.nenv st.D c' (setEnvs ρ st.nenv vs) hint.hdr.nenv hint.hdr.D
        refine wpIn_loop_ix J ⟨μ (dens ρ init), c0, dens ρ init, dens_length _ _, p0, hI, rfl, m0, x0⟩ ?_
        rintro j a1 w1 ⟨c1, vs, hl, hp, hIv, hμ, hm1, hx1⟩
        have hb := hround vs hl hp hIv
        refine ih (d + 1) Y rd fn x hint.hdr _ ro n _ c1 _ _ a1 w1 hrd hm1 ?_ hb
        intro ke st2 c2 ρ2 Lp2 a2 w2 hx2 hm2 hL2 hr
        have hxx := hx1.trans hx2
        have hLd : ∀ j, j < d → Lp2 j = Lp j := fun j hj => by
          rw [hL2 j (by omega)]
          funext us
          simp only [if_neg (show j ≠ d from by omega)]
        cases ke with
        | normal =>
          show ∃ j', j' < j ∧ J j' a2 w2
          simp only at hr
          split at hr
          · rename_i vals hf2
            simp only [RTwp] at hr
            rw [hL2 d (by omega)] at hr
            simp only [if_true] at hr
            obtain ⟨l3, p3, c3, m3, x3⟩ := fits_sound hE hm.mem.pure hm.rnds hf2 hxx hm2
            refine ⟨μ (dens ρ2 vals), by rw [← hμ]; exact hr.2, c3, dens ρ2 vals, by rw [dens_length, l3, l0], p3, hr.1, rfl, m3, x3⟩
          · exact hr.elim
        | exit id => exact hk (.exit id) st2 c2 ρ2 Lp2 a2 w2 hxx hm2 hLd hr
        | goto l => exact hk (.goto l) st2 c2 ρ2 Lp2 a2 w2 hxx hm2 hLd hr
        | ret => exact hk .ret st2 c2 ρ2 Lp2 a2 w2 hxx hm2 hLd hr
    | rangeFunc g ps assign body =>
      simp only [sx] at h
      split at h
      · exact h.elim
      rename_i hrdf
      have hro : ro = none := hrd (by cases rd with | false => rfl | true => exact absurd rfl hrdf)
      subst hro
      split at h
      case isFalse => exact h.elim
      rename_i hfresh
      simp only [Bool.and_eq_true, Option.isNone_iff_eq_none] at hfresh
      split at h
      case h_2 => exact h.elim
      rename_i fid f cd fs cs hrc
      obtain ⟨hg, hok, hfn, hbody⟩ := rangeCallee_spec hrc
      have hgv := evS_sound hm.slots hm.glob hE.G (Holds.nil ρ) hg
      have hgr := hgv.1
      simp only [den] at hgr
      have hfv : ∃ vf vc, a.eval g = .func (.func fid) ⟨vf⟩ ⟨vc⟩ ∧ Rvs c (dens ρ fs) vf ∧ Rvs c (dens ρ cs) vc := by
        generalize a.eval g = v at hgr
        cases hgr with
        | clo _ _ _ vf vc h1 h2 => exact ⟨vf, vc, rfl, h1, h2⟩
      obtain ⟨vf, vc, hge, r1, r2⟩ := hfv
      have hgw := hgv.2
      simp only [SE.wf, Bool.and_eq_true] at hgw
      refine wpIn_rangeFunc fun fnb _ => ?_
      obtain ⟨c1, kk, b1, b2, m1, g1, y1⟩ := enter_range (Y := Y) (fn := fnb) (ps := ps) (assign := assign) (body := body) hE h0 hm hfresh.1 hfresh.2 fn
      have hlk1 : ∀ i, st.D i = true → (look (putOwn (putOwn st.own st.nid .dfr) (st.nid + 1) (.loop .ready))).dom i = true := fun i hi => by
        rw [look_putOwn, look_putOwn]; exact Lk.dom_upd _ _ _ _ (Lk.dom_upd _ _ _ _ hi)
      have u1 := dens_under hm.mem.pure fs hgw.1
      have u2 := dens_under hm.mem.pure cs hgw.2
      have hargs : Rvs c1 (dens ρ (fs ++ [SE.yield (st.nid + 1)] ++ cs)) (vf ++ [.func (.yield (w.heap.size + 1)) #[] #[]] ++ vc) := by
        rw [dens_append, dens_append]
        refine ((Rvs_keeps kk r1 u1).append ?_).append (Rvs_keeps kk r2 u2)
        have := Rv.yield (c := c1) (st.nid + 1)
        rw [b2] at this
        exact .cons _ _ _ _ this .nil
      have hwf : SE.wfs st.nenv (look (putOwn (putOwn st.own st.nid .dfr) (st.nid + 1) (.loop .ready))).dom (fs ++ [SE.yield (st.nid + 1)] ++ cs) = true := by
        have hy : (look (putOwn (putOwn st.own st.nid .dfr) (st.nid + 1) (.loop .ready))).dom (st.nid + 1) = true := by rw [look_putOwn]; exact Lk.dom_upd_same _ _ _
        have hz : SE.wfs st.nenv (look (putOwn (putOwn st.own st.nid .dfr) (st.nid + 1) (.loop .ready))).dom [SE.yield (st.nid + 1)] = true := by simp only [SE.wfs, SE.wf, hy, Bool.and_self]
        rw [wfs_append, wfs_append, hz, SE.wfs_mono (Nat.le_refl _) hlk1 hgw.1, SE.wfs_mono (Nat.le_refl _) hlk1 hgw.2]; rfl
      have hcf : ∀ (args : Array Value) (w : World), (callFunc fid args).run E.P w = .ok (.enter fid args) w := fun args w => run_callFunc hok args w
      let W2 : World := (w.alloc (.deferred (some []))).alloc (.loop { state := .ready, pending := none, fn := fnb, tmps := a.tmps, params := ps, assign := assign, body := body, defers := w.heap.size })
      refine ⟨w.heap.size + 1, _, _, { target := .fn (.func fid) ⟨vc⟩, args := ⟨vf ++ [.func (.yield (w.heap.size + 1)) #[] #[]]⟩ }, W2, fid, ⟨vf ++ [.func (.yield (w.heap.size + 1)) #[] #[]] ++ vc⟩, W2, run_enterLoop_outer fnb a.tmps ps assign body, ?_, (fun _ _ => trivial), ?_, by simp, ?_⟩
      · simp only [resolve, hge, Deferred.ofValue, Sem.run_pure]
        congr 2
        simp [Act.eval]
      · simp only [invoke]
        rw [hcf]
        congr 2
        apply Array.ext'
        simp
      · refine callsIn_of_wp_marks (F := FW none) hfn hbody trivial ?_
        refine ih d _ false fid cd _ _ none _ _ c1 ρ Lp _ _ (fun _ => rfl) (match_args y1 m1 g1 hargs hwf f.ntmps) ?_ h
        intro ke st1 c2 ρ2 Lp2 a2 w2 hx2 hm2 hL2 hr2
        have hx2' : Ext c1 ρ st.nenv (look (putOwn (putOwn st.own st.nid .dfr) (st.nid + 1) (.loop .ready))).dom c2 ρ2 st1.nenv st1.D := hx2
        have hxx : Ext c ρ st.nenv st.D c2 ρ2 st1.nenv st1.D := ⟨kk.trans (hx2'.keeps.mono hlk1), hx2'.agree, hx2'.nenv, fun i hi => hx2'.dom i (hlk1 i hi)⟩
        have good : ∀ (_ : RTwp E.P E.G R (match leaveOwn st1.marks st1.own with
            | some own1 => if f.results.isEmpty = true then match rangeEnd (look own1 (st.nid + 1)) with
              | some ke' => k ke' { st with own := putOwn own1 (st.nid + 1) .gone, nenv := st1.nenv, nid := st1.nid, marks := st.nid :: st.marks }
              | none => .dead 41 [] else .dead 42 []
            | none => .dead 43 []) Lp2 ρ2), LeavesInM (FW none) (n - 1) E.P f a2.tmps (rangePost (FW none) n E.P (w.heap.size + 1) Q { a with defers := [{ target := .collected w.heap.size, args := #[] }] ++ a.defers }) a2.defers .returning w2 := by
          intro hr
          split at hr
          case h_2 => exact hr.elim
          rename_i own1 hlv
          rw [hm2.dfr]
          refine leave_sound st1.marks st1.own own1 w2 hlv hm2.mem (fun w3 hmem3 => ?_)
          split at hr
          case isFalse => exact hr.elim
          rename_i hres
          refine ⟨.tuple #[], ?_, ?_⟩
          · have : f.results = #[] := by simpa using hres
            exact results_none this a2.tmps E.P w3
          split at hr
          case h_2 => exact hr.elim
          rename_i ke' hend
          have hdl : (look (putOwn (putOwn st.own st.nid .dfr) (st.nid + 1) (.loop .ready))).dom (st.nid + 1) = true := by rw [look_putOwn]; exact Lk.dom_upd_same _ _ _
          have hdd : (look (putOwn (putOwn st.own st.nid .dfr) (st.nid + 1) (.loop .ready))).dom st.nid = true := by rw [look_putOwn, look_putOwn]; exact Lk.dom_upd _ _ _ _ (Lk.dom_upd_same _ _ _)
          have eβ : c2.β (st.nid + 1) = w.heap.size + 1 := (hx2'.keeps.β _ hdl).trans b2
          have eβd : c2.β st.nid = w.heap.size := (hx2'.keeps.β _ hdd).trans b1
          have fin : ∀ (s : LSt), look own1 (st.nid + 1) = some (.loop s) → s ≠ .busy → ∃ w4, (Instr.endLoop (w.heap.size + 1)).run E.P w3 = .ok (stamp (c2.L (st.nid + 1)) s).pending w4 ∧ Q ke'.toExit { a with defers := [{ target := .collected w.heap.size, args := #[] }] ++ a.defers } w4 := by
            intro s hls hsb
            have hb3 : w3.heap[w.heap.size + 1]? = some (.loop (stamp (c2.L (st.nid + 1)) s)) := by
              have := hmem3.ok _ _ hls
              rw [← eβ]; exact this
            refine ⟨_, run_endLoop hb3 (by cases s <;> first | exact absurd rfl hsb | (simp [stamp])), ?_⟩
            have hmem4 : Mem n0 w0 c2 ρ2 (look (putOwn own1 (st.nid + 1) .gone)) st1.nenv (w3.putObj (w.heap.size + 1) (.loop { stamp (c2.L (st.nid + 1)) s with state := .exhausted })) := by
              rw [look_putOwn]
              exact hmem3.dropTurn hls rfl (fun k hk => World.putObj_heap_other (by rw [← eβ]; exact hk)) World.putObj_size rfl rfl rfl
            have hdm := leaveOwn_dom hlv
            have hD4 : ∀ i, st1.D i = true → (look (putOwn own1 (st.nid + 1) .gone)).dom i = true := fun i hi => by rw [look_putOwn]; exact Lk.dom_upd _ _ _ _ (hdm i hi)
            have hx4 : Ext c ρ st.nenv st.D c2 ρ2 st1.nenv (look (putOwn own1 (st.nid + 1) .gone)).dom := ⟨hxx.keeps, hxx.agree, hxx.nenv, fun i hi => hD4 i (hxx.dom i hi)⟩
            refine hk ke' { st with own := putOwn own1 (st.nid + 1) .gone, nenv := st1.nenv, nid := st1.nid, marks := st.nid :: st.marks } c2 ρ2 Lp2 _ _ hx4 ⟨hmem4, hm2.glob, hm.sz, hm.slots.keeps hx4.keeps hx4.agree hm.mem.pure hx4.nenv hx4.dom, ?_, ?_, hm.rnds.keeps hx4.keeps hx4.agree hm.mem.pure hx4.nenv hx4.dom⟩ hL2 hr
            · show [{ target := .collected w.heap.size, args := #[] }] ++ a.defers = (st.nid :: st.marks).map (markD c2)
              rw [List.map_cons, marks_keeps hm.mdom hx4.keeps, ← hm.dfr]
              simp [markD, eβd]
            · intro i hi
              rcases List.mem_cons.1 hi with rfl | hi
              · exact hD4 _ (hx2'.dom _ hdd)
              · exact hx4.dom i (hm.mdom i hi)
          unfold rangeEnd at hend
          split at hend
          · rename_i hls
            cases hend
            obtain ⟨w4, q1, q2⟩ := fin _ hls (by simp)
            exact ⟨none, w4, q1, q2⟩
          · rename_i hls
            cases hend
            obtain ⟨w4, q1, q2⟩ := fin _ hls (by simp)
            exact ⟨some .ret, w4, q1, wpIn_ret q2⟩
          · rename_i j hls
            cases hend
            obtain ⟨w4, q1, q2⟩ := fin _ hls (by simp)
            exact ⟨some (.exit j), w4, q1, wpIn_exit q2⟩
          · rename_i l hls
            cases hend
            obtain ⟨w4, q1, q2⟩ := fin _ hls (by simp)
            exact ⟨some (.goto l), w4, q1, wpIn_goto q2⟩
          · cases hend
        cases ke with
        | normal => exact good hr2
        | ret => exact good hr2
        | exit id => exact hr2.elim
        | goto l => exact hr2.elim
    | _ => exact h.elim

/-! ### Contracts -/
theorem contract_of_run (hE : EnvOk E) (hmix : E.P.follows .mixedOrders = true) {f : Nat} {args : List SE} {nenv : Nat} (hw : SE.wfs nenv (fun _ => false) args = true) (hρ : ∀ i, (ρ i).pure = true) {r : AV} (hr : r.pure = true)
    (h : RTwp E.P E.G (fun x => x = r) (runF E f args nenv) (fun _ _ => False) ρ) : Contract E.P E.G f (dens ρ args) r := by
  refine ⟨hr, fun w c vs himm hlt hg hargs => ?_⟩
  unfold runF at h
  split at h
  case h_2 => exact h.elim
  rename_i fn hfn
  split at h
  case h_2 => exact h.elim
  rename_i cd hbody
  let w0 : Base := ⟨w, c.I, c.M⟩
  have hmem : Mem w.heap.size w0 c ρ (look []) nenv w :=
    ⟨himm, hρ, fun _ _ h => (by simp [look] at h), fun _ _ h => (by simp [look] at h), fun _ _ _ _ _ h => (by simp [look] at h), fun _ _ _ h => (by simp [look] at h), fun _ _ _ h => (by simp [look] at h), hlt, Below.refl _ _, fun _ _ => ⟨fun _ _ h => h, fun _ h => h⟩⟩
  refine (callsIn_wide (n := 0)).1 ?_
  refine callsIn_of_wp_marks (F := FW none) hfn hbody trivial ?_
  have hwf : SE.wfs nenv (look []).dom args = true := SE.wfs_mono (Nat.le_refl _) (fun _ h => Bool.noConfusion h) hw
  refine sx_sound (n0 := w.heap.size) (w0 := w0) hE (Nat.le_refl _) hmix 200 0 [] false f cd _ _ none 0 _ c ρ _ _ w (fun _ => rfl) (match_args (fun _ _ h => by simp [findY] at h) hmem hg hargs hwf fn.ntmps) ?_ h
  intro ke st1 c1 ρ1 Lp1 a1 w1 hx hm1 hL hr1
  have good : ∀ (_ : RTwp E.P E.G (fun x => x = r) (match leaveOwn st1.marks st1.own with
      | some own1 => match resVal E { st1 with own := own1 } fn.results with
        | some (e, ns) => match viewSE (look own1) 64 e.weak with
          | some e' => seg ns (.ret e')
          | none => .dead 100 []
        | none => .dead 101 []
      | none => .dead 105 []) Lp1 ρ1), LeavesInM (FW none) 0 E.P fn a1.tmps (fun e w1 => ∃ v' c', e = Ending.returned v' ∧ c.Le c' ∧ Imm c' w1 ∧ (∀ b, b ≥ w1.heap.size → (∀ off v, c'.I b off ≠ some v) ∧ (∀ ob, c'.M b ≠ some ob)) ∧
      (∀ b, b < w.heap.size → (∀ off v, c'.I b off = some v → c.I b off = some v) ∧ (∀ o, c'.M b = some o → c.M b = some o)) ∧ Rv c' r v' ∧ Below w.heap.size w w1) a1.defers .returning w1 := by
    intro hr1
    split at hr1
    case h_2 => exact hr1.elim
    rename_i own1 hlv
    rw [hm1.dfr]
    refine leave_sound st1.marks st1.own own1 w1 hlv hm1.mem (fun w1 hmem1 => ?_)
    have hdm := leaveOwn_dom hlv
    have hm1 : MatchSt E.G w.heap.size w0 [] c1 ρ1 { st1 with own := own1 } a1 w1 :=
      ⟨hmem1, hm1.glob, hm1.sz, hm1.slots.keeps (Cx.Keeps.refl _ _) (Agree.refl _ _) hm1.mem.pure (Nat.le_refl _) hdm, hm1.dfr, fun i hi => hdm i (hm1.mdom i hi), hm1.rnds.keeps (Cx.Keeps.refl _ _) (Agree.refl _ _) hm1.mem.pure (Nat.le_refl _) hdm⟩
    split at hr1
    · rename_i e ns hres
      split at hr1
      · rename_i e' hview
        obtain ⟨hk2, v, hv1, hv2⟩ := resVal_sound hE hm1 hres (seg_RTwp hr1)
        simp only [RTwp] at hk2
        refine ⟨v, hv1, v, ?_⟩
        let c2 : Cx := { c1 with I := fun b off => if b < w.heap.size then c.I b off else w1.cell? ⟨b, off, none⟩, M := fun b => if b < w.heap.size then c.M b else w1.heap[b]? }
        have hold := hm1.mem.old
        have hvw : Views c1 c2 (look own1) w1 := by
          refine ⟨⟨fun b o v hv => ?_, fun b o hv => ?_⟩, fun i o b hl hb => ?_⟩
          · show (if b < w.heap.size then c.I b o else w1.cell? ⟨b, o, none⟩) = some v
            split
            · rename_i hb; exact (hold b hb).1 o v hv
            · exact hm1.mem.imm.I b o v hv
          · show (if b < w.heap.size then c.M b else w1.heap[b]?) = some o
            split
            · rename_i hb; exact (hold b hb).2 o hv
            · exact hm1.mem.imm.M b o hv
          · have hge := (hm1.mem.fresh i o b hl hb).1
            refine ⟨fun off v hv => ?_, fun ob hv => ?_⟩
            · show (if b < w.heap.size then c.I b off else w1.cell? ⟨b, off, none⟩) = some v
              rw [if_neg (by omega)]; exact hv
            · show (if b < w.heap.size then c.M b else w1.heap[b]?) = some ob
              rw [if_neg (by omega)]; exact hv
        have hrv := ((view_sound hm1.mem hvw 64).1 _ _ _ hview (weak_sound _ hv2)).1
        rw [hk2] at hrv
        refine ⟨c2, rfl, ⟨fun b o v hv => ?_, fun b o hv => ?_⟩, ⟨fun b o v hv => ?_, fun b o hv => ?_⟩, fun b hb => ⟨fun off v hv => ?_, fun ob hv => ?_⟩, fun b hb => ⟨fun off v hv => ?_, fun ob hv => ?_⟩, hrv, hm1.mem.below⟩
        · show (if b < w.heap.size then c.I b o else w1.cell? ⟨b, o, none⟩) = some v
          split
          · exact hv
          · rename_i hb; exact absurd hv ((hlt b (by omega)).1 o v)
        · show (if b < w.heap.size then c.M b else w1.heap[b]?) = some o
          split
          · exact hv
          · rename_i hb; exact absurd hv ((hlt b (by omega)).2 o)
        · have hv : (if b < w.heap.size then c.I b o else w1.cell? ⟨b, o, none⟩) = some v := hv
          split at hv
          · exact hm1.mem.imm.I b o v (hx.keeps.I b o v hv)
          · exact hv
        · have hv : (if b < w.heap.size then c.M b else w1.heap[b]?) = some o := hv
          split at hv
          · exact hm1.mem.imm.M b o (hx.keeps.M b o hv)
          · exact hv
        · have hv : (if b < w.heap.size then c.I b off else w1.cell? ⟨b, off, none⟩) = some v := hv
          have hs := hm1.mem.below.size
          simp only [show w0.w = w from rfl] at hs
          rw [if_neg (by omega)] at hv
          have := cell_lt hv; omega
        · have hv : (if b < w.heap.size then c.M b else w1.heap[b]?) = some ob := hv
          have hs := hm1.mem.below.size
          simp only [show w0.w = w from rfl] at hs
          rw [if_neg (by omega)] at hv
          have := (Array.getElem?_eq_some_iff.1 hv).1; omega
        · have hv : (if b < w.heap.size then c.I b off else w1.cell? ⟨b, off, none⟩) = some v := hv
          rwa [if_pos hb] at hv
        · have hv : (if b < w.heap.size then c.M b else w1.heap[b]?) = some ob := hv
          rwa [if_pos hb] at hv
      · exact hr1.elim
    · exact hr1.elim
  cases ke with
  | normal => exact good hr1
  | ret => exact good hr1
  | exit id => exact hr1.elim
  | goto l => exact hr1.elim

end Go.Lb
