/- Own rows that become immutable. -/
/- One operation, walked on. -/
/- One operation, and a region in order: walked on. -/
import Derived.Test.YtlohmpcoffenjaaDoorFw5
import Derived.RangeFuncRecord
set_option linter.unusedSimpArgs false
set_option linter.unusedVariables false
namespace Go.Lb
open Go.RowKit

variable {Y : List (Nat × Rnd)} {G : Glob} {n0 : Nat} {w0 : Base} {c c' c2 : Cx} {ρ ρ' : Nat → AV} {st st' : St} {a : Act} {w : World} {P : Program} {ro : Option Nat}

theorem nbeq {i j : Nat} (h : i ≠ j) : (!Nat.beq i j) = true := by
  cases hb : Nat.beq i j
  · rfl
  · exact absurd (Nat.eq_of_beq_eq_true hb) h

mutual
theorem fz_sound {n j : Nat} {e : SE} (hρ : ∀ i, (ρ i).pure = true) (hk : c.Keeps (fun i => !Nat.beq i j) c2) (hj : e.isRef = false → ∀ v, Rv c (.row j) v → Rv c2 (den ρ e) v) (hp : ∀ cs, e = .ref cs 0 → ∀ k v, Rv c (.ptr j k) v → Rv c2 (.ref (dens ρ cs) k) v) : ∀ (x y : SE) (v : Value), SE.fz n j e x = some y → Rv c (den ρ x) v → Rv c2 (den ρ y) v
  | .row i, y, v, h, hr => by
    simp only [SE.fz] at h
    split at h
    · rename_i hi
      split at h
      · cases h
      · rename_i hf
        simp only [Option.some.injEq] at h; subst h
        simp only [den] at hr; rw [hi] at hr; exact hj hf v hr
    · rename_i hi
      simp only [Option.some.injEq] at h; subst h
      exact Rv_keeps hk hr (by simp only [den, AV.under]; exact nbeq hi)
  | .ptr i k, y, v, h, hr => by
    simp only [SE.fz] at h
    split at h
    · rename_i hi
      split at h
      · rename_i cs
        simp only [Option.some.injEq] at h; subst h
        simp only [den] at hr ⊢; rw [hi] at hr; exact hp cs rfl k v hr
      · cases h
    · rename_i hi
      simp only [Option.some.injEq] at h; subst h
      exact Rv_keeps hk hr (by simp only [den, AV.under]; exact nbeq hi)
  | .agg cs, y, v, h, hr => by
    simp only [SE.fz] at h
    obtain ⟨ys, h1, rfl⟩ := Option.map_eq_some_iff.1 h
    simp only [den] at hr ⊢
    cases hr with
    | agg _ vs h2 => exact .agg _ _ (fzs_sound hρ hk hj hp cs ys vs h1 h2)
  | .tup cs, y, v, h, hr => by
    simp only [SE.fz] at h
    obtain ⟨ys, h1, rfl⟩ := Option.map_eq_some_iff.1 h
    simp only [den] at hr ⊢
    cases hr with
    | tup _ vs h2 => exact .tup _ _ (fzs_sound hρ hk hj hp cs ys vs h1 h2)
  | .clo f p q, y, v, h, hr => by
    simp only [SE.fz] at h
    split at h
    · rename_i p' q' h1 h2
      simp only [Option.some.injEq] at h; subst h
      simp only [den] at hr ⊢
      cases hr with
      | clo _ _ _ vf vc h3 h4 => exact .clo _ _ _ _ _ (fzs_sound hρ hk hj hp p p' vf h1 h3) (fzs_sound hρ hk hj hp q q' vc h2 h4)
    · cases h
  | .inp _, y, v, h, hr | .undef, y, v, h, hr | .bool _, y, v, h, hr | .int _ _, y, v, h, hr | .nilp, y, v, h, hr | .nilf, y, v, h, hr | .nils, y, v, h, hr | .enil, y, v, h, hr | .mp _ _ _, y, v, h, hr | .ref _ _, y, v, h, hr | .ptrx _ _ _ _ _ _, y, v, h, hr | .rptr _ _ _ _, y, v, h, hr | .yield _, y, v, h, hr | .mref _, y, v, h, hr | .app _ _, y, v, h, hr => by
    simp only [SE.fz] at h
    split at h
    · rename_i hw
      simp only [Option.some.injEq] at h; subst h
      exact Rv_keeps hk hr (den_under hρ _ hw)
    · cases h
theorem fzs_sound {n j : Nat} {e : SE} (hρ : ∀ i, (ρ i).pure = true) (hk : c.Keeps (fun i => !Nat.beq i j) c2) (hj : e.isRef = false → ∀ v, Rv c (.row j) v → Rv c2 (den ρ e) v) (hp : ∀ cs, e = .ref cs 0 → ∀ k v, Rv c (.ptr j k) v → Rv c2 (.ref (dens ρ cs) k) v) : ∀ (xs ys : List SE) (vs : List Value), SE.fzs n j e xs = some ys → Rvs c (dens ρ xs) vs → Rvs c2 (dens ρ ys) vs
  | [], ys, vs, h, hr => by
    simp only [SE.fzs, Option.some.injEq] at h; subst h
    cases hr; exact .nil
  | x :: xs, ys, vs, h, hr => by
    simp only [SE.fzs] at h
    split at h
    · rename_i y ys' h1 h2
      simp only [Option.some.injEq] at h; subst h
      simp only [dens] at hr ⊢
      cases hr with
      | cons _ v _ vs r1 r2 => exact .cons _ _ _ _ (fz_sound hρ hk hj hp x y v h1 r1) (fzs_sound hρ hk hj hp xs ys' vs h2 r2)
    · cases h
end

mutual
theorem fz_wf {n j : Nat} {D : Nat → Bool} {e : SE} (he : e.wf n D = true) : ∀ (x y : SE), SE.fz n j e x = some y → x.wf n D = true → y.wf n D = true
  | .row i, y, h, hw => by
    simp only [SE.fz] at h
    split at h
    · split at h
      · cases h
      · simp only [Option.some.injEq] at h; subst h; exact he
    · simp only [Option.some.injEq] at h; subst h; exact hw
  | .ptr i k, y, h, hw => by
    simp only [SE.fz] at h
    split at h
    · split at h
      · simp only [Option.some.injEq] at h; subst h; simpa only [SE.wf] using he
      · cases h
    · simp only [Option.some.injEq] at h; subst h; exact hw
  | .agg cs, y, h, hw => by
    simp only [SE.fz] at h
    obtain ⟨ys, h1, rfl⟩ := Option.map_eq_some_iff.1 h
    simp only [SE.wf] at hw ⊢; exact fzs_wf he cs ys h1 hw
  | .tup cs, y, h, hw => by
    simp only [SE.fz] at h
    obtain ⟨ys, h1, rfl⟩ := Option.map_eq_some_iff.1 h
    simp only [SE.wf] at hw ⊢; exact fzs_wf he cs ys h1 hw
  | .clo f p q, y, h, hw => by
    simp only [SE.fz] at h
    split at h
    · rename_i p' q' h1 h2
      simp only [Option.some.injEq] at h; subst h
      simp only [SE.wf, Bool.and_eq_true] at hw ⊢
      exact ⟨fzs_wf he p p' h1 hw.1, fzs_wf he q q' h2 hw.2⟩
    · cases h
  | .inp _, y, h, hw | .undef, y, h, hw | .bool _, y, h, hw | .int _ _, y, h, hw | .nilp, y, h, hw | .nilf, y, h, hw | .nils, y, h, hw | .enil, y, h, hw | .mp _ _ _, y, h, hw | .ref _ _, y, h, hw | .ptrx _ _ _ _ _ _, y, h, hw | .rptr _ _ _ _, y, h, hw | .yield _, y, h, hw | .mref _, y, h, hw | .app _ _, y, h, hw => by
    simp only [SE.fz] at h
    split at h
    · simp only [Option.some.injEq] at h; subst h; exact hw
    · cases h
theorem fzs_wf {n j : Nat} {D : Nat → Bool} {e : SE} (he : e.wf n D = true) : ∀ (xs ys : List SE), SE.fzs n j e xs = some ys → SE.wfs n D xs = true → SE.wfs n D ys = true
  | [], ys, h, hw => by
    simp only [SE.fzs, Option.some.injEq] at h; subst h; rfl
  | x :: xs, ys, h, hw => by
    simp only [SE.fzs] at h
    split at h
    · rename_i y ys' h1 h2
      simp only [Option.some.injEq] at h; subst h
      simp only [SE.wfs, Bool.and_eq_true] at hw ⊢
      exact ⟨fz_wf he x y h1 hw.1, fzs_wf he xs ys' h2 hw.2⟩
    · cases h
end

theorem look_fzOwn {n j : Nat} {e : SE} : ∀ (own own' : Own), fzOwn n j e own = some own' → ∀ i, match look own i with
    | none => look own' i = none
    | some o => if i = j then look own' i = some .gone else ∃ o', look own' i = some o' ∧ OS.fz n j e o = some o'
  | [], own', h, i => by simp only [fzOwn, Option.some.injEq] at h; subst h; rfl
  | (k, o) :: r, own', h, i => by
    simp only [fzOwn] at h
    split at h
    · cases h
    · rename_i r' hr
      have ih := look_fzOwn r r' hr i
      split at h
      · rename_i hk
        simp only [Option.some.injEq] at h; subst h
        simp only [look]
        by_cases hi : i = k
        · simp [hi, hk]
        · simp only [Nat.beq_eq, hi, if_false]; exact ih
      · rename_i hk
        split at h
        · rename_i o' ho
          simp only [Option.some.injEq] at h; subst h
          simp only [look]
          by_cases hi : i = k
          · subst hi; simp [hk, ho]
          · simp only [Nat.beq_eq, hi, if_false]; exact ih
        · cases h

theorem findE_filter (s : List (Nat × Ent)) (k d : Nat) : findE (s.filter fun x => !Nat.beq x.1 k) d = if d = k then none else findE s d := by
  induction s with
  | nil => simp [findE]
  | cons x s ih =>
    obtain ⟨i, e⟩ := x
    simp only [List.filter_cons]
    by_cases hik : i = k
    · subst hik
      simp only [Nat.beq_refl, Bool.not_true, Bool.false_eq_true, if_false, ih, findE, Nat.beq_eq]
      by_cases hd : d = i <;> simp [hd]
    · have : (!Nat.beq i k) = true := nbeq hik
      simp only [this, if_true, findE, Nat.beq_eq, ih]
      by_cases hd : d = i
      · subst hd; simp [hik]
      · simp [hd]

theorem findE_mapSlots {f : Ent → Option Ent} : ∀ (s : List (Nat × Ent)) (d : Nat) (e' : Ent), findE (mapSlots f s) d = some e' → ∃ e, findE s d = some e ∧ f e = some e'
  | [], d, e', h => by simp [mapSlots, findE] at h
  | (k, e) :: r, d, e', h => by
    simp only [mapSlots] at h
    split at h
    · rename_i y hy
      simp only [findE, Nat.beq_eq] at h ⊢
      by_cases hd : d = k
      · simp only [hd, if_true, Option.some.injEq] at h ⊢
        subst h; exact ⟨e, rfl, hy⟩
      · simp only [hd, if_false] at h ⊢; exact findE_mapSlots r d e' h
    · rw [findE_filter] at h
      split at h
      · cases h
      · rename_i hd
        simp only [findE, Nat.beq_eq, hd, if_false]
        exact findE_mapSlots r d e' h

theorem bl_beq {c c2 : Cx} (hβ : ∀ i, c2.β i = c.β i) (hh : ∀ i, c2.h i = c.h i) (i : Nat) (o : OS) : bl c2 i o = bl c i o := by
  cases o <;> simp [bl, hβ, hh]

theorem OS.fz_bl {n j : Nat} {e : SE} {o o' : OS} (h : OS.fz n j e o = some o') (c : Cx) (i : Nat) : bl c i o' = bl c i o := by
  cases o <;> simp only [OS.fz] at h
  · obtain ⟨ys, _, rfl⟩ := Option.map_eq_some_iff.1 h; rfl
  all_goals (split at h; (simp only [Option.some.injEq] at h; subst h; rfl); cases h)

theorem frz_ctx (hm : MatchSt G n0 w0 Y c ρ st a w) {j : Nat} {o0 : OS} (hl : look st.own j = some o0) {e : SE} (h : frzSE (some o0) = some e) :
    e.wf st.nenv st.D = true ∧ ∃ c2 : Cx, (∀ i, c2.β i = c.β i) ∧ (∀ i, c2.h i = c.h i) ∧ (∀ i, c2.L i = c.L i) ∧ c.Le c2 ∧ Imm c2 w ∧ (e.isRef = false → ∀ v, Rv c (.row j) v → Rv c2 (den ρ e) v) ∧
      (∀ cs, e = .ref cs 0 → ∀ k v, Rv c (.ptr j k) v → Rv c2 (.ref (dens ρ cs) k) v) ∧ (∀ b, bl c j o0 ≠ some b → (∀ off v, c2.I b off = some v → c.I b off = some v) ∧ ∀ o, c2.M b = some o → c.M b = some o) := by
  have hblk : ∀ b, bl c j o0 = some b → ∃ c2 : Cx, c2 = { c with I := fun b' off => if b' = b then w.cell? ⟨b', off, none⟩ else c.I b' off } ∧ c.Le c2 ∧ Imm c2 w ∧ (∀ b', b' ≠ b → (∀ off v, c2.I b' off = some v → c.I b' off = some v) ∧ ∀ o, c2.M b' = some o → c.M b' = some o) := by
    intro b hbl
    have hdis := hm.mem.disj j _ b hl hbl
    refine ⟨_, rfl, ⟨fun b' o v hv => ?_, fun _ _ hv => hv⟩, ⟨fun b' o v hv => ?_, fun b' o hv => hm.mem.imm.M b' o hv⟩, fun b' hb => ⟨fun off v hv => by simpa only [hb, if_false] using hv, fun _ hv => hv⟩⟩
    · show (if b' = b then w.cell? ⟨b', o, none⟩ else c.I b' o) = some v
      by_cases hb : b' = b
      · subst hb; exact absurd hv (hdis.1 o v)
      · rw [if_neg hb]; exact hv
    · by_cases hb : b' = b
      · simp only [hb, if_true] at hv; rw [hb]; exact hv
      · simp only [hb, if_false] at hv; exact hm.mem.imm.I _ _ _ hv
  have hwf := hm.mem.wf j _ hl
  cases o0 with
  | row sz e0 =>
    simp only [frzSE] at h
    split at h
    case isFalse => cases h
    rename_i hno
    simp only [Option.some.injEq] at h; subst h
    rw [Bool.and_eq_true] at hno
    have hp := SE.noOwn_pure hm.mem.pure e0 hno.1
    obtain ⟨xs, hx, hrow⟩ := hm.mem.ok j _ hl
    have hpa : AV.pureAll xs = true := by rw [hx] at hp; simpa [AV.pure] using hp
    refine ⟨hwf, ?_⟩
    have noref : ∀ cs, e0 = .ref cs 0 → ∀ k v, Rv c (.ptr j k) v → ∀ c2 : Cx, Rv c2 (.ref (dens ρ cs) k) v := by
      intro cs hcs
      subst hcs
      simp only [den] at hx; cases hx
    cases hh : c.h j with
    | slice aa nn cap =>
      rw [hh] at hrow
      have inv : ∀ v, Rv c (.row j) v → v = .slice aa nn cap := by
        intro v hv
        cases hv with
        | row _ a2 n2 cap2 h2 => rw [hh] at h2; rw [h2]
      cases hrow with
      | nil => exact ⟨c, fun _ => rfl, fun _ => rfl, fun _ => rfl, Cx.Le.refl c, hm.mem.imm, fun _ v hv => by rw [inv v hv, hx]; exact .slnil, fun cs h1 k v h2 => noref cs h1 k v h2 _, fun _ _ => ⟨fun _ _ h => h, fun _ h => h⟩⟩
      | zero ad => exact ⟨c, fun _ => rfl, fun _ => rfl, fun _ => rfl, Cx.Le.refl c, hm.mem.imm, fun _ v hv => by rw [inv v hv, hx]; exact .sl0 ad, fun cs h1 k v h2 => noref cs h1 k v h2 _, fun _ _ => ⟨fun _ _ h => h, fun _ h => h⟩⟩
      | row b oo _ vs T _ q0 q1 q2 q3 q4 q5 =>
        have hbl : bl c j (.row sz e0) = some b := by simp [bl, hh, hdrBlock]; omega
        obtain ⟨c2, hc2, hle, himm, hoth⟩ := hblk b hbl
        refine ⟨c2, fun _ => by rw [hc2], fun _ => by rw [hc2], fun _ => by rw [hc2], hle, himm, fun _ v hv => ?_, fun cs h1 k v h2 => noref cs h1 k v h2 _, fun b' hb' => ?_⟩
        · rw [inv v hv, hx]
          have hcap : xs.length * sz ≤ cap * sz := Nat.mul_le_mul_right _ q2
          refine .sl xs sz b oo cap q2 q4 ?_
          have hk : c.Keeps (fun _ => false) c2 := ⟨hle, fun _ h => Bool.noConfusion h, fun _ h => Bool.noConfusion h, fun _ h => Bool.noConfusion h⟩
          have q6 := Rvs_keeps hk q5 (by rw [AV.under_flat, ← AV.under_zero_of_pureAll]; exact hpa)
          refine Rcells_of_row q1 (fun off v hv => by rw [hc2]; simp only [if_true]; exact hv) q6 oo (fun j hj => ?_)
          simp only [List.length_take, List.length_drop] at hj
          rw [List.getElem?_take, if_pos (by omega), List.getElem?_drop]
        · exact hoth b' fun e' => hb' (by rw [hbl, e'])
    | _ => rw [hh] at hrow; cases hrow
  | box cs =>
    simp only [frzSE] at h
    split at h
    case isFalse => cases h
    rename_i hno
    simp only [Option.some.injEq] at h; subst h
    obtain ⟨vs, T, q1, q5⟩ := hm.mem.ok j _ hl
    have hpa := SE.noOwns_pure hm.mem.pure cs hno
    have hbl : bl c j (.box cs) = some (c.β j) := rfl
    obtain ⟨c2, hc2, hle, himm, hoth⟩ := hblk _ hbl
    refine ⟨by simp only [SE.wf]; exact hwf, c2, fun _ => by rw [hc2], fun _ => by rw [hc2], fun _ => by rw [hc2], hle, himm, (fun h => by cases h), fun cs' h1 k v h2 => ?_, fun b' hb' => hoth b' fun e' => hb' (by rw [hbl, e'])⟩
    cases h1
    cases h2
    have hk : c.Keeps (fun _ => false) c2 := ⟨hle, fun _ h => Bool.noConfusion h, fun _ h => Bool.noConfusion h, fun _ h => Bool.noConfusion h⟩
    have q6 := Rvs_keeps hk q5 (by rw [← AV.under_zero_of_pureAll]; exact hpa)
    have := Rv.ref (c := c2) (dens ρ cs) (c.β j) 0 k (Rcells_of_row q1 (fun off v hv => by rw [hc2]; simp only [if_true]; exact hv) q6 0 (fun i hi => by rw [Nat.zero_add]))
    simpa using this
  | _ => simp [frzSE] at h

theorem freeze_sound (hm : MatchSt G n0 w0 Y c ρ st a w) (hGw : ∀ (g : Nat) es, G[g]? = some es → SE.wfs 0 (fun _ => false) es = true) {j : Nat} (h : freeze st j = some st') :
    ∃ c2, MatchSt G n0 w0 Y c2 ρ st' a w ∧ c.Keeps (fun _ => true) c2 ∧ st'.nenv = st.nenv ∧ st'.nid = st.nid ∧ st'.sz = st.sz ∧ st'.D = st.D := by
  unfold freeze at h
  split at h
  case h_2 => cases h
  rename_i e hfe
  split at h
  case h_2 => cases h
  rename_i own' hown
  simp only [Option.some.injEq] at h
  obtain ⟨o0, hl⟩ : ∃ o0, look st.own j = some o0 := by
    cases hl : look st.own j with
    | none => rw [hl] at hfe; simp [frzSE] at hfe
    | some o0 => exact ⟨o0, rfl⟩
  rw [hl] at hfe
  have hctx := frz_ctx hm hl hfe
  obtain ⟨hew, hctx⟩ := hctx
  obtain ⟨c2, hβ, hhd, hL, hle, himm, hj, hpt, hother⟩ := hctx
  have hkA : c.Keeps (fun _ => true) c2 := ⟨hle, fun i _ => hβ i, fun i _ => hhd i, fun i _ => hL i⟩
  have hkj : c.Keeps (fun i => !Nat.beq i j) c2 := hkA.mono fun _ _ => rfl
  have hdom : (look own').dom = st.D := by
    funext i
    have := look_fzOwn _ _ hown i
    simp only [St.D, Lk.dom]
    cases hli : look st.own i with
    | none => rw [hli] at this; simp only at this; rw [this]
    | some o =>
      rw [hli] at this
      simp only at this
      split at this
      · rw [this]; rfl
      · obtain ⟨o', h1, _⟩ := this; rw [h1]; rfl
  have hcase : ∀ i o', look own' i = some o' → (i = j ∧ o' = .gone) ∨ (i ≠ j ∧ ∃ o, look st.own i = some o ∧ OS.fz st.nenv j e o = some o') := by
    intro i o' hi
    have := look_fzOwn _ _ hown i
    cases hli : look st.own i with
    | none => rw [hli] at this; simp only at this; rw [this] at hi; cases hi
    | some o =>
      rw [hli] at this
      simp only at this
      split at this
      · rename_i hij; rw [this] at hi; exact .inl ⟨hij, (Option.some.inj hi).symm⟩
      · rename_i hij
        obtain ⟨o2, h1, h2⟩ := this
        rw [h1] at hi
        simp only [Option.some.injEq] at hi; subst hi
        exact .inr ⟨hij, o, rfl, h2⟩
  subst h
  refine ⟨c2, ⟨⟨himm, hm.mem.pure, ?_, ?_, ?_, ?_, ?_, ?_, hm.mem.below, ?_⟩, hm.glob.keeps hle hGw, hm.sz, ?_, ?_, ?_, ?_⟩, hkA, rfl, rfl, rfl, hdom⟩
  · intro i o' hi
    show o'.wf st.nenv (look own').dom = true
    rw [hdom]
    rcases hcase i o' hi with ⟨_, rfl⟩ | ⟨_, o, h1, h2⟩
    · rfl
    · have hw := hm.mem.wf i o h1
      cases o <;> simp only [OS.fz] at h2
      · obtain ⟨ys, h3, rfl⟩ := Option.map_eq_some_iff.1 h2
        exact fzs_wf hew _ ys h3 hw
      all_goals (split at h2; (simp only [Option.some.injEq] at h2; subst h2; exact hw); cases h2)
  · intro i o' hi
    rcases hcase i o' hi with ⟨_, rfl⟩ | ⟨hij, o, h1, h2⟩
    · trivial
    · have ho := hm.mem.ok i o h1
      have hij' : (!Nat.beq i j) = true := nbeq hij
      have keep : o.wf st.nenv (fun i => !Nat.beq i j) = true → OwnOk c2 ρ w i o := fun hw =>
        ho.keeps hkj hij' hm.mem.pure (Agree.refl _ _) hw (fun _ _ => rfl)
      cases o <;> simp only [OS.fz] at h2
      · rename_i cs
        obtain ⟨ys, h3, rfl⟩ := Option.map_eq_some_iff.1 h2
        obtain ⟨vs, T, h4, h5⟩ := ho
        exact ⟨vs, T, by rw [hβ]; exact h4, fzs_sound hm.mem.pure hkj hj hpt _ ys vs h3 h5⟩
      all_goals
        split at h2
        · rename_i hw
          simp only [Option.some.injEq] at h2; subst h2
          exact keep hw
        · cases h2
  · intro i k oi ok b hi hk bi bk
    rw [bl_beq hβ hhd] at bi bk
    rcases hcase i oi hi with ⟨_, rfl⟩ | ⟨_, o, h1, h2⟩
    · simp [bl] at bi
    · rcases hcase k ok hk with ⟨_, rfl⟩ | ⟨_, o', h3, h4⟩
      · simp [bl] at bk
      · rw [OS.fz_bl h2] at bi; rw [OS.fz_bl h4] at bk
        exact hm.mem.dist i k o o' b h1 h3 bi bk
  · intro i o' b hi bi
    rw [bl_beq hβ hhd] at bi
    rcases hcase i o' hi with ⟨_, rfl⟩ | ⟨_, o, h1, h2⟩
    · simp [bl] at bi
    · rw [OS.fz_bl h2] at bi; exact hm.mem.fresh i o b h1 bi
  · intro i o' b hi bi
    rw [bl_beq hβ hhd] at bi
    rcases hcase i o' hi with ⟨_, rfl⟩ | ⟨hij, o, h1, h2⟩
    · simp [bl] at bi
    · rw [OS.fz_bl h2] at bi
      have hd := hm.mem.disj i o b h1 bi
      have hne : bl c j o0 ≠ some b := fun hb => hij (hm.mem.dist i j o _ b h1 hl bi hb)
      have ho := hother b hne
      exact ⟨fun off v hv => hd.1 off v (ho.1 off v hv), fun ob hv => hd.2 ob (ho.2 ob hv)⟩
  · intro b hb
    have hd := hm.mem.immlt b hb
    have hne : bl c j o0 ≠ some b := fun hbl => by have := (hm.mem.fresh j _ b hl hbl).2; omega
    have ho := hother b hne
    exact ⟨fun off v hv => hd.1 off v (ho.1 off v hv), fun ob hv => hd.2 ob (ho.2 ob hv)⟩
  · intro b hb
    have hd := hm.mem.old b hb
    have hne : bl c j o0 ≠ some b := fun hbl => by have := (hm.mem.fresh j _ b hl hbl).1; omega
    have ho := hother b hne
    exact ⟨fun off v hv => hd.1 off v (ho.1 off v hv), fun ob hv => hd.2 ob (ho.2 ob hv)⟩
  · intro d en hf
    show SlotOk c2 ρ st.nenv (look own').dom a.tmps d en
    rw [hdom]
    obtain ⟨e0, h1, h2⟩ := findE_mapSlots _ d en hf
    have hs := hm.slots d e0 h1
    unfold Ent.fz at h2
    split at h2
    · split at h2
      · rename_i se h3
        simp only [Option.some.injEq] at h2; subst h2
        refine ⟨fun hp => ?_, hs.no, fz_wf hew _ se h3 hs.wf.1, hs.wf.2⟩
        obtain ⟨v, h4, h5⟩ := hs.yes hp
        exact ⟨v, h4, fz_sound hm.mem.pure hkj hj hpt _ se v h3 h5⟩
      · cases h2
    · cases h2
  · show a.defers = st.marks.map (markD c2)
    rw [marks_keeps hm.mdom (hkA.mono fun _ _ => rfl)]; exact hm.dfr
  · show ∀ i ∈ st.marks, (look own').dom i = true
    rw [hdom]; exact hm.mdom
  · show RoundsOk Y c2 ρ st.nenv (look own').dom
    rw [hdom]; exact hm.rnds.keeps (hkA.mono fun _ _ => rfl) (Agree.refl _ _) hm.mem.pure (Nat.le_refl _) (fun _ h => h)

theorem frz_sound (hGw : ∀ (g : Nat) es, G[g]? = some es → SE.wfs 0 (fun _ => false) es = true) : ∀ (js : List Nat) (c : Cx) (st : St), MatchSt G n0 w0 Y c ρ st a w →
    ∃ c2, MatchSt G n0 w0 Y c2 ρ (frz js st) a w ∧ c.Keeps (fun _ => true) c2 ∧ (frz js st).nenv = st.nenv ∧ (frz js st).nid = st.nid ∧ (frz js st).sz = st.sz ∧ (frz js st).D = st.D
  | [], c, st, hm => ⟨c, hm, Cx.Keeps.refl _ _, rfl, rfl, rfl, rfl⟩
  | j :: js, c, st, hm => by
    simp only [frz]
    split
    · rename_i st1 h1
      obtain ⟨c1, m1, k1, e1, e2, e3, e4⟩ := freeze_sound hm hGw h1
      obtain ⟨c2, m2, k2, f1, f2, f3, f4⟩ := frz_sound hGw js c1 st1 m1
      exact ⟨c2, m2, k1.trans k2, f1.trans e1, f2.trans e2, f3.trans e3, f4.trans e4⟩
    · exact frz_sound hGw js c st hm

end Go.Lb

namespace Go.Lb
open Go.RowKit

variable {Y : List (Nat × Rnd)} {n0 : Nat} {w0 : Base} {c c' c2 : Cx} {ρ ρ' : Nat → AV} {st st' : St} {a : Act} {w : World} {ro : Option Nat} {E : Env}

/-! ### What a function hands back -/
def resM (tmps : Array Value) : ResultVar → Sem Value
  | .tmp t => pure (tmps.getD t undef)
  | .cell a t => do loadVar t (← asAddr (tmps.getD a undef))

theorem results_eq (fn : Func) (tmps : Array Value) : results fn tmps = (do
    let vs ← fn.results.mapM (resM tmps)
    pure (if h : vs.size = 1 then vs[0] else .tuple vs)) := rfl

theorem loadAt_asAddr {P : Program} {T : TypeId} {v u : Value} (h : (Instr.loadAt T v).run P w = .ok u w) : (do loadVar T (← asAddr v) : Sem Value).run P w = .ok u w := by
  unfold Instr.loadAt at h
  cases v with
  | pointer x => cases x with
    | none => simp [Instr.sureAddr, Sem.run_bind, stuck, Result.andThen] at h
    | some ad => simpa [Instr.sureAddr, asAddr, Sem.run_bind] using h
  | _ => simp [Instr.sureAddr, Sem.run_bind, stuck, Result.andThen] at h

theorem resSE_sound {P : Program} {G : Glob} (hP : P = E.P) (hG : G = E.G) (hE : EnvOk E) (hm : MatchSt G n0 w0 Y c ρ st a w) : ∀ (rs : List ResultVar) (es : List SE) (ns : List Nd), resSE E st rs = some (es, ns) → ∀ (K : (Nat → AV) → Prop), SegWp P G ρ ns K →
    K ρ ∧ ∃ vs, (rs.mapM (resM a.tmps)).run P w = .ok vs w ∧ Rvs c (dens ρ es) vs := by
  subst hP hG
  intro rs
  induction rs with
  | nil =>
    intro es ns h K hk
    simp only [resSE, Option.some.injEq, Prod.mk.injEq] at h
    obtain ⟨rfl, rfl⟩ := h
    exact ⟨hk, [], rfl, .nil⟩
  | cons r rs ih =>
    intro es ns h K hk
    have hev : ∀ {x e}, evS E.G st.slots [] x = some e → Rv c (den ρ e) (a.eval x) := fun hx => (evS_sound hm.slots hm.glob hE.G (Holds.nil ρ) hx).1
    simp only [resSE] at h
    split at h
    · rename_i e ns1 es1 ms h1 h2
      simp only [Option.some.injEq, Prod.mk.injEq] at h
      obtain ⟨rfl, rfl⟩ := h
      have head : SegWp E.P E.G ρ ms K ∧ ∃ v, (resM a.tmps r).run E.P w = .ok v w ∧ Rv c (den ρ e) v := by
        split at h1
        · rename_i t
          obtain ⟨e', h3, h4⟩ := Option.map_eq_some_iff.1 h1
          simp only [Prod.mk.injEq] at h4
          obtain ⟨rfl, rfl⟩ := h4
          exact ⟨hk, a.eval (.tmp t), rfl, hev h3⟩
        · rename_i t T
          split at h1
          · rename_i e' h3
            obtain ⟨x, h4, h5⟩ := Option.map_eq_some_iff.1 h1
            simp only [Prod.mk.injEq] at h5
            obtain ⟨rfl, rfl⟩ := h5
            obtain ⟨q1, q2⟩ := hk.chks
            obtain ⟨v, r1, r2⟩ := sLoad_sound (P := E.P) hm.mem (hev h3) (e := x.1) (ck := x.2) h4 (q1 (Holds.nil ρ))
            refine ⟨q2, v, ?_, r2⟩
            exact loadAt_asAddr r1
          · cases h1
      obtain ⟨hk2, v, hv1, hv2⟩ := head
      obtain ⟨hk3, vs, r1, r2⟩ := ih es1 ms h2 K hk2
      refine ⟨hk3, v :: vs, ?_, .cons _ _ _ _ hv2 r2⟩
      simp only [List.mapM_cons, Sem.run_bind, hv1, Result.andThen_ok, r1, Sem.run_pure]
    · cases h

theorem resVal_sound (hE : EnvOk E) (hm : MatchSt E.G n0 w0 Y c ρ st a w) {fn : Func} {e : SE} {ns : List Nd} (h : resVal E st fn.results = some (e, ns)) {K : (Nat → AV) → Prop} (hs : SegWp E.P E.G ρ ns K) :
    K ρ ∧ ∃ v, (results fn a.tmps).run E.P w = .ok v w ∧ Rv c (den ρ e) v := by
  have hrun : ∀ vs : List Value, ((fn.results.toList.mapM (resM a.tmps)).run E.P w = .ok vs w) → (fn.results.mapM (resM a.tmps)).run E.P w = .ok ⟨vs⟩ w := by
    intro vs hv
    rw [Array.mapM_eq_mapM_toList, Sem.run_map, hv]; rfl
  unfold resVal at h
  split at h
  · rename_i e' ns' h1
    simp only [Option.some.injEq, Prod.mk.injEq] at h
    obtain ⟨rfl, rfl⟩ := h
    obtain ⟨hk, vs, r1, r2⟩ := resSE_sound rfl rfl hE hm _ _ _ h1 K hs
    refine ⟨hk, ?_⟩
    cases r2 with
    | cons _ v _ vs r3 r4 =>
      cases r4
      refine ⟨v, ?_, r3⟩
      rw [results_eq, Sem.run_bind, hrun _ r1]; rfl
  · rename_i es ns' hne h1
    simp only [Option.some.injEq, Prod.mk.injEq] at h
    obtain ⟨rfl, rfl⟩ := h
    obtain ⟨hk, vs, r1, r2⟩ := resSE_sound rfl rfl hE hm _ _ _ h1 K hs
    refine ⟨hk, .tuple ⟨vs⟩, ?_, .tup _ _ r2⟩
    rw [results_eq, Sem.run_bind, hrun _ r1]
    simp only [Result.andThen_ok, Sem.run_pure]
    have hlen : vs.length ≠ 1 := by
      rw [Rvs.length r2, dens_length]
      intro hl
      match es, hl with
      | [e], _ => exact hne e rfl
    have : ¬ (Array.mk vs).size = 1 := by simpa using hlen
    rw [dif_neg this]
  · cases h

/-! ### Going on -/
/-- What comes behind is good. -/
def KOk (E : Env) (R : AV → Prop) (n0 : Nat) (w0 : Base) (Y : List (Nat × Rnd)) (d : Nat) (Lp : Nat → List AV → Prop) (c : Cx) (ρ : Nat → AV) (nenv : Nat) (D : Nat → Bool) (k : St → RT) (next : Act → World → Prop) : Prop :=
  ∀ (st' : St) (c' : Cx) (ρ' : Nat → AV) (Lp' : Nat → List AV → Prop) (a' : Act) (w' : World), Ext c ρ nenv D c' ρ' st'.nenv st'.D → MatchSt E.G n0 w0 Y c' ρ' st' a' w' → (∀ j, j < d → Lp' j = Lp j) → RTwp E.P E.G R (k st') Lp' ρ' → next a' w'

def KE.toExit : KE → Exit
  | .normal => .normal
  | .exit id => .exit id
  | .goto l => .goto l
  | .ret => .ret

def KontOk (E : Env) (R : AV → Prop) (n0 : Nat) (w0 : Base) (Y : List (Nat × Rnd)) (d : Nat) (Lp : Nat → List AV → Prop) (c : Cx) (ρ : Nat → AV) (nenv : Nat) (D : Nat → Bool) (k : Kont) (Q : Exit → Act → World → Prop) : Prop :=
  ∀ ke, KOk E R n0 w0 Y d Lp c ρ nenv D (k ke) (Q ke.toExit)

theorem KOk.mono {R : AV → Prop} {d : Nat} {Lp Lp' : Nat → List AV → Prop} {nenv nenv' : Nat} {D D' : Nat → Bool} {k : St → RT} {next : Act → World → Prop} (h : KOk E R n0 w0 Y d Lp c ρ nenv D k next)
    (hx : Ext c ρ nenv D c' ρ' nenv' D') (hL : ∀ j, j < d → Lp' j = Lp j) : KOk E R n0 w0 Y d Lp' c' ρ' nenv' D' k next :=
  fun st' c2 ρ2 Lp2 a' w' h1 h2 h3 h4 => h st' c2 ρ2 Lp2 a' w' (hx.trans h1) h2 (fun j hj => (h3 j hj).trans (hL j hj)) h4
theorem KontOk.mono {R : AV → Prop} {d : Nat} {Lp Lp' : Nat → List AV → Prop} {nenv nenv' : Nat} {D D' : Nat → Bool} {k : Kont} {Q : Exit → Act → World → Prop} (h : KontOk E R n0 w0 Y d Lp c ρ nenv D k Q)
    (hx : Ext c ρ nenv D c' ρ' nenv' D') (hL : ∀ j, j < d → Lp' j = Lp j) : KontOk E R n0 w0 Y d Lp' c' ρ' nenv' D' k Q :=
  fun ke => (h ke).mono hx hL

theorem seg_RTwp {P : Program} {G : Glob} {R : AV → Prop} {Lp : Nat → List AV → Prop} {ns : List Nd} {k : RT} (h : RTwp P G R (seg ns k) Lp ρ) : SegWp P G ρ ns (RTwp P G R k Lp) := by
  unfold seg at h
  cases ns with
  | nil => exact h
  | cons n ns => exact h

/-- Walks of other code. -/
def RecOk (E : Env) (R : AV → Prop) (n0 : Nat) (w0 : Base) (Y : List (Nat × Rnd)) (d : Nat) (rec : Bool → Nat → Code → St → Kont → RT) : Prop :=
  ∀ (rd : Bool) (fn : Nat) (code : Code) (st : St) (k : Kont) (ro : Option Nat) (n : Nat) (Q : Exit → Act → World → Prop) (c : Cx) (ρ : Nat → AV) (Lp : Nat → List AV → Prop) (a : Act) (w : World),
    (rd = false → ro = none) → MatchSt E.G n0 w0 Y c ρ st a w → KontOk E R n0 w0 Y d Lp c ρ st.nenv st.D k Q → RTwp E.P E.G R (rec rd fn code st k) Lp ρ → code.wpIn (FW ro) n E.P Q a w

theorem evAll_wf {xv : Ev} {n : Nat} {D : Nat → Bool} (hx : ∀ x e, xv x = some e → e.wf n D = true) : ∀ (xs : List Operand) (es : List SE), evAll xv xs = some es → SE.wfs n D es = true := by
  intro xs
  induction xs with
  | nil => intro es h; simp only [evAll, Option.some.injEq] at h; subst h; rfl
  | cons x xs ih =>
    intro es h
    simp only [evAll] at h
    split at h
    · rename_i e es' h1 h2
      simp only [Option.some.injEq] at h; subst h
      simp only [SE.wfs, hx x e h1, ih es' h2, Bool.and_self]
    · cases h

theorem wfs_append {n : Nat} {D : Nat → Bool} : ∀ (xs ys : List SE), SE.wfs n D (xs ++ ys) = (SE.wfs n D xs && SE.wfs n D ys)
  | [], ys => by simp [SE.wfs]
  | x :: xs, ys => by simp only [List.cons_append, SE.wfs, wfs_append xs ys, Bool.and_assoc]

/-- The callee's first state. -/
theorem argSlots_find : ∀ (es : List SE) (i d : Nat) (en : Ent), findE (argSlots i es) d = some en → i ≤ d ∧ ∃ e, es[d - i]? = some e ∧ en = ⟨[], e⟩
  | [], i, d, en, h => by simp [argSlots, findE] at h
  | e :: es, i, d, en, h => by
    simp only [argSlots, findE, Nat.beq_eq] at h
    split at h
    · rename_i hd
      simp only [Option.some.injEq] at h; subst h
      exact ⟨by omega, e, by simp [hd], rfl⟩
    · rename_i hd
      obtain ⟨h1, e', h2, h3⟩ := argSlots_find es (i + 1) d en h
      refine ⟨by omega, e', ?_, h3⟩
      rw [show d - i = (d - (i + 1)) + 1 from by omega, List.getElem?_cons_succ]; exact h2

theorem Rvs_getElem {as : List AV} {vs : List Value} (h : Rvs c as vs) : ∀ {i : Nat} {x : AV}, as[i]? = some x → ∃ v, vs[i]? = some v ∧ Rv c x v := by
  induction as generalizing vs with
  | nil => intro i x hx; simp at hx
  | cons a as ih =>
    cases h with
    | cons _ v _ vs h1 h2 =>
      intro i x hx
      cases i with
      | zero => simp at hx; subst hx; exact ⟨v, by simp, h1⟩
      | succ i => simp at hx; obtain ⟨u, r1, r2⟩ := ih h2 hx; exact ⟨u, by simpa using r1, r2⟩

theorem wfs_getElem {n : Nat} {D : Nat → Bool} : ∀ {es : List SE} {i : Nat} {e : SE}, SE.wfs n D es = true → es[i]? = some e → e.wf n D = true
  | x :: xs, i, e, hw, h => by
    simp only [SE.wfs, Bool.and_eq_true] at hw
    cases i with
    | zero => simp at h; subst h; exact hw.1
    | succ i => simp at h; exact wfs_getElem hw.2 h

theorem match_args {G : Glob} {own : Own} {nenv nid : Nat} (hY : RoundsOk Y c ρ nenv (look own).dom) (hmem : Mem n0 w0 c ρ (look own) nenv w) (hg : GlobOk G c) {es : List SE} {vs : List Value} (hr : Rvs c (dens ρ es) vs) (hw : SE.wfs nenv (look own).dom es = true) (nt : Nat) :
    MatchSt G n0 w0 Y c ρ ⟨es.length + (nt - es.length), argSlots 0 es, own, nenv, nid, []⟩ { tmps := Array.mk vs ++ Array.replicate (nt - (Array.mk vs).size) undef, defers := [] } w := by
  have hl : vs.length = es.length := by rw [Rvs.length hr, dens_length]
  refine ⟨hmem, hg, ?_, ?_, rfl, (fun _ h => by cases h), hY⟩
  · simp only [Array.size_append, Array.size_replicate, List.size_toArray, hl]
  · intro d en hf
    obtain ⟨_, e, h2, rfl⟩ := argSlots_find es 0 d en hf
    have hd : (dens ρ es)[d]? = some (den ρ e) := by rw [dens_getElem?]; simp only [Nat.sub_zero] at h2; rw [h2]; rfl
    obtain ⟨v, h3, h4⟩ := Rvs_getElem hr hd
    have hlt : d < vs.length := (List.getElem?_eq_some_iff.1 h3).1
    refine ⟨fun _ => ⟨v, ?_, h4⟩, fun hh => absurd (Holds.nil ρ) hh, wfs_getElem hw h2, rfl⟩
    rw [Array.getElem?_append_left (by simpa using hlt)]
    simpa using h3

/-! ### On the way out -/
/-- A thing of the call's own that has turned, and is no more. -/
theorem Mem.dropTurn {L : Lk} {nenv : Nat} {w w' : World} (hm : Mem n0 w0 c ρ L nenv w) {i : Nat} {o : OS} {b : Nat} (hl : L i = some o) (hb : bl c i o = some b)
    (hother : ∀ k, k ≠ b → w'.heap[k]? = w.heap[k]?) (hsize : w'.heap.size = w.heap.size) (hos : w'.os = w.os) (htape : w'.tape = w.tape) (hout : w'.output = w.output) :
    Mem n0 w0 c ρ (L.upd i .gone) nenv w' := by
  have hfr := hm.fresh i o b hl hb
  have hdj := hm.disj i o b hl hb
  refine hm.step i .gone (Nat.le_refl _) (Cx.Keeps.refl _ _) (Agree.refl _ _) hm.pure ?_ ?_ (by omega) ?_ hm.old rfl trivial ?_ (fun b h => by simp [bl] at h) (fun j o b _ => hm.disj j o b)
  · refine hm.imm.keeps rfl rfl (fun k hk => hother k ?_)
    rintro rfl
    rcases hk with ⟨off, v, h⟩ | ⟨ob, h⟩
    · exact hdj.1 off v h
    · exact hdj.2 ob h
  · intro k hk; exact hm.immlt k (by omega)
  · exact hm.below.trans ⟨hos, htape, hout, by omega, fun k hk => hother k (by omega)⟩
  · intro j oj bj hj hlj hbj
    refine hother bj ?_
    rintro rfl
    exact hj (hm.dist j i oj o bj hlj hl hbj hb)

theorem leaveOwn_dom : ∀ {ms : List Nat} {own own1 : Own}, leaveOwn ms own = some own1 → ∀ i, (look own).dom i = true → (look own1).dom i = true
  | [], own, own1, h, i, hi => by simp only [leaveOwn, Option.some.injEq] at h; subst h; exact hi
  | m :: ms, own, own1, h, i, hi => by
    simp only [leaveOwn] at h
    split at h
    · refine leaveOwn_dom h i ?_
      rw [look_putOwn]; exact Lk.dom_upd _ _ _ _ hi
    · cases h

theorem leave_sound {F : Fence} {n : Nat} {P : Program} {fn : Func} {tmps : Array Value} {R : Ending → World → Prop} {nenv : Nat} : ∀ (ms : List Nat) (own own1 : Own) (w : World), leaveOwn ms own = some own1 → Mem n0 w0 c ρ (look own) nenv w →
    (∀ w', Mem n0 w0 c ρ (look own1) nenv w' → ∃ v, (results fn tmps).run P w' = .ok v w' ∧ R (.returned v) w') → LeavesInM F n P fn tmps R (ms.map (markD c)) .returning w
  | [], own, own1, w, h, hm, hfin => by
    simp only [leaveOwn, Option.some.injEq] at h; subst h
    exact hfin w hm
  | i :: ms, own, own1, w, h, hm, hfin => by
    simp only [leaveOwn] at h
    split at h
    · rename_i hl
      have hb : w.heap[c.β i]? = some (.deferred (some [])) := hm.ok i _ hl
      have hlt := (Array.getElem?_eq_some_iff.1 hb).1
      refine ⟨by simp, .inl ⟨c.β i, _, rfl, run_takeDeferred hb, leave_sound ms _ own1 _ h ?_ hfin⟩⟩
      rw [look_putOwn]
      exact hm.dropTurn hl rfl (fun k hk => World.putObj_heap_other hk) World.putObj_size rfl rfl rfl
    · cases h

end Go.Lb

namespace Go.Lb
open Go.RowKit

variable {Y : List (Nat × Rnd)} {n0 : Nat} {w0 : Base} {c c' c2 : Cx} {ρ ρ' : Nat → AV} {st st' : St} {a : Act} {w : World} {ro : Option Nat} {E : Env}

theorem Ext.keep_all {c c2 : Cx} {ρ : Nat → AV} {st st2 : St} (h : c.Keeps (fun _ => true) c2) (h1 : st2.nenv = st.nenv) (h2 : st2.D = st.D) : Ext c ρ st.nenv st.D c2 ρ st2.nenv st2.D :=
  ⟨h.mono fun _ _ => rfl, Agree.refl _ _, by rw [h1]; exact Nat.le_refl _, fun i hi => by rw [h2]; exact hi⟩
theorem Ext.same {c : Cx} {ρ : Nat → AV} {st st2 : St} (h : St.Same st st2) : Ext c ρ st.nenv st.D c ρ st2.nenv st2.D :=
  Ext.keep_all (Cx.Keeps.refl _ _) h.nenv h.D

theorem inlCall_spec {pcs : List (SE × Bool)} {o : Oper} {fid : Nat} {fn : Func} {cd : Code} {args : List SE} (h : inlCall E st pcs o = some (fid, fn, cd, args)) :
    ∃ f xs tt fs es cs, o.op = .call { callee := .value f, args := xs, argTypes := tt } ∧ evS E.G st.slots pcs f = some (.clo fid fs cs) ∧ evAll (evS E.G st.slots pcs) xs.toList = some es ∧ callOk E.P fid = true ∧
      E.P.funcs[fid]? = some fn ∧ fn.body = some cd ∧ args = fs ++ es ++ cs := by
  unfold inlCall at h
  split at h
  · rename_i f xs tt ho
    split at h
    · rename_i fid' fs cs es h1 h2
      split at h
      · rename_i hc
        split at h
        · rename_i fn' h3
          split at h
          · rename_i cd' h4
            simp only [Option.some.injEq, Prod.mk.injEq] at h
            obtain ⟨rfl, rfl, rfl, rfl⟩ := h
            exact ⟨f, xs, tt, fs, es, cs, ho, h1, h2, hc.2, h3, h4, rfl⟩
          · cases h
        · cases h
      · cases h
    · cases h
  · cases h

theorem srtCall_spec {o : Oper} {fid i : Nat} {e : SE} (h : srtCall E st o = some (fid, i, e)) :
    ∃ f xs tt, o.op = .call { callee := .value f, args := xs, argTypes := tt } ∧ evS E.G st.slots [] f = some (.clo fid [] []) ∧ evAll (evS E.G st.slots []) xs.toList = some [.row i] ∧ E.srt fid = true ∧ callOk E.P fid = true ∧ look st.own i = some (.row 1 e) := by
  unfold srtCall at h
  split at h
  · rename_i f xs tt ho
    split at h
    · rename_i fid' i' h1 h2
      split at h
      · rename_i hc
        split at h
        · rename_i e' h3
          simp only [Option.some.injEq, Prod.mk.injEq] at h
          obtain ⟨rfl, rfl, rfl⟩ := h
          exact ⟨f, xs, tt, ho, h1, h2, hc.1, hc.2, h3⟩
        · cases h
      · cases h
    · cases h
  · cases h

theorem flat_intsL (l : List Int) : AV.flat (l.map (AV.int .i64)) = l.map (AV.int .i64) := by
  induction l with
  | nil => rfl
  | cons x l ih => rw [List.map_cons, flat_cons, ih]; rfl
theorem Rvs_intsL {c : Cx} : ∀ (l : List Int) (vs : List Value), Rvs c (l.map (AV.int .i64)) vs ↔ vs = l.map (Value.int .i64)
  | [], vs => ⟨fun h => by cases h; rfl, fun h => by subst h; exact .nil⟩
  | x :: l, vs => by
    constructor
    · intro h
      cases h with
      | cons _ v _ vs' h1 h2 =>
        cases h1
        rw [(Rvs_intsL l vs').1 h2]; rfl
    · rintro rfl
      exact .cons _ _ _ _ (.int _ _) ((Rvs_intsL l _).2 rfl)

theorem intsL_pure (l : List Int) : AV.pureAll (l.map (AV.int .i64)) = true := by
  induction l with
  | nil => rfl
  | cons x l ih => simp [AV.pureAll, AV.pure, ih]

theorem op_sort {P : Program} {O : Lk} {nenv : Nat} {o : Oper} (hm : Mem n0 w0 c ρ O nenv w) (hn0 : n0 ≤ w.heap.size) {f : Operand} {xs : Array Operand} {tt : Array TypeId} {fid i : Nat} {e : SE} {l : List Int}
    (ho : o.op = .call { callee := .value f, args := xs, argTypes := tt }) (hok : callOk P fid = true) (hf : Rv c (den ρ (.clo fid [] [])) (a.eval f)) (hes : Rvs c (dens ρ [.row i]) (xs.toList.map a.eval))
    (hl : O i = some (.row 1 e)) (hS : SrtOk P fid) (hlen : l.length ≤ 4294967296) (hden : den ρ e = .sl (l.map (AV.int .i64))) (hr : ρ nenv = .sl ((sortI l).map (AV.int .i64))) :
    OpGo P ro n0 w0 c ρ O (.tup []) (O.upd i (.row 1 (.inp nenv))) (nenv + 1) o a w := by
  intro n next Q hn
  simp only [den] at hf
  have hfe : a.eval f = .func (.func fid) ⟨[]⟩ ⟨[]⟩ := by
    generalize a.eval f = v at hf
    cases hf with
    | clo _ _ _ vf vc h1 h2 => cases h1; cases h2; rfl
  have hx : xs.toList.map a.eval = [c.h i] := by
    generalize xs.toList.map a.eval = vs at hes
    cases hes with
    | cons _ v _ vs' h1 h2 =>
      cases h2
      cases h1 with
      | row _ ad k cap h => rw [h]
  refine wpIn_run (by rw [ho]; intro c h; cases h) ?_
  rw [run_callValue hok ho hfe, hx]
  show ((FW ro).depth.isSome = true → 1 ≤ n) ∧ CallsIn (FW ro) (n - 1) P fid _ w _
  refine ⟨by simp, FW_calls ?_⟩
  have hrow : ∃ xs, den ρ e = .sl xs ∧ RowOk c w 1 (c.h i) xs := hm.ok i _ hl
  obtain ⟨ys, hys, hrow⟩ := hrow
  rw [hden] at hys
  simp only [AV.sl.injEq] at hys
  subst hys
  have hwf : (OS.row 1 (.inp nenv)).wf (nenv + 1) (O.upd i (.row 1 (.inp nenv))).dom = true := by
    simp [OS.wf, SE.wf]
  have hdi : O.dom i = true := Lk.dom_of hl
  have empty : l = [] → (c.h i = .slice none 0 0 ∨ ∃ ad, c.h i = .slice (some ad) 0 0) → Calls P fid ⟨[c.h i]⟩ w fun e w' => (match e, w' with
      | .returned v, w' => next (a.put o.dst v) w'
      | .panicked chain, w' => Q (.panic chain) a w'
      | .outgrown, _ => LetsOut Q) := by
    intro hl0 hv
    subst hl0
    have hs : sortI [] = [] := by simp [sortI]
    have hrv : Rv { I := fun _ _ => none, M := fun _ => none, β := fun _ => 0, h := fun _ => .nilFunc, L := fun _ => default } (.sl []) (c.h i) := by
      rcases hv with h | ⟨ad, h⟩ <;> rw [h]
      · exact .slnil
      · exact .sl0 _
    refine (hS.2.2 w { I := fun _ _ => none, M := fun _ => none, β := fun _ => 0, h := fun _ => .nilFunc, L := fun _ => default } _ ⟨fun _ _ _ h => (by cases h), fun _ _ h => (by cases h)⟩
      (fun _ _ => ⟨fun _ _ h => (by cases h), fun _ h => (by cases h)⟩) (fun _ _ h => by simp at h) (.cons _ _ _ _ hrv .nil)).mono ?_
    rintro e' w' ⟨v, c', rfl, _, _, _, _, hrv', hbel⟩
    cases hrv' with
    | tup _ vs hvs =>
      cases hvs
      have hm2 := hm.later (c' := c) (ρ' := ρ) (Nat.le_refl nenv) hbel hn0 (Cx.Keeps.refl _ _) (hm.imm.keeps rfl rfl (fun b hb => by
          have hlt := Imm.lt hm
          refine hbel.block b ?_
          rcases hb with ⟨off, v, h⟩ | ⟨ob, h⟩
          · exact hlt.1 b off v h
          · exact hlt.2 b ob h)) (fun b _ => ⟨fun _ _ h => h, fun _ h => h⟩) (fun b hb => hm.immlt b (by have := hbel.size; omega)) (Agree.refl _ _) hm.pure
      refine hn _ w' c (Cx.Keeps.refl _ _) (.tup _ _ .nil) ?_
      have hbl : bl c i (.row 1 (.inp nenv)) = none := by
        rcases hv with h | ⟨ad, h⟩ <;> simp [bl, hdrBlock, h]
      refine hm2.step i _ (Nat.le_succ _) (Cx.Keeps.refl _ _) (Agree.refl _ _) hm.pure hm2.imm hm2.immlt (Nat.le_refl _) hm2.below hm2.old hwf ?_ (fun _ _ _ _ _ _ => rfl) (fun b hb => by rw [hbl] at hb; cases hb) (fun j o b _ => hm2.disj j o b)
      refine ⟨[], by simp only [den]; rw [hr, hs]; rfl, ?_⟩
      rcases hv with h | ⟨ad, h⟩ <;> rw [h]
      · exact .nil
      · exact .zero _
  generalize hxs : l.map (AV.int .i64) = ys at hrow
  generalize hhi : c.h i = hv at hrow empty ⊢
  cases hrow with
  | nil => exact empty (by cases l; rfl; simp at hxs) (.inl rfl)
  | zero ad => exact empty (by cases l; rfl; simp at hxs) (.inr ⟨ad, rfl⟩)
  | row b o' cap vs T _ hcap hb hxl hov hsz hvs =>
    subst hxs
    rw [flat_intsL, Nat.mul_one, List.length_map] at hvs
    have hvs := (Rvs_intsL _ _).1 hvs
    rw [List.length_map] at hxl ⊢
    have hbl : bl c i (.row 1 e) = some b := by simp [bl, hhi, hdrBlock]; omega
    have hfr := hm.fresh i _ b hl hbl
    have hdj := hm.disj i _ b hl hbl
    have hcell : ∀ j, j < l.length → vs[o' + j]? = some (.int .i64 l[j]!) := by
      intro j hj
      have h1 : ((vs.drop o').take l.length)[j]? = (l.map (Value.int .i64))[j]? := by rw [hvs]
      rw [List.getElem?_take_of_lt hj, List.getElem?_drop] at h1
      rw [h1]; simp [List.getElem?_eq_getElem hj]
    have hH : Go.Sort.Holds (Value.int .i64) w b o' l.toArray := by
      intro j hj
      have hj : j < l.length := by simpa using hj
      refine ⟨?_, by simp [World.frozen?, hb]⟩
      simp only [World.cell?, hb, Option.isSome_none, Bool.false_eq_true, if_false]
      have := hcell j hj
      simpa using this
    have hcall := hS.1 b o' cap l w hH hfr.2 (by omega)
    refine hcall.mono ?_
    rintro e' w' ⟨rfl, d, os, rfl⟩
    have hlen2 : (sortI l).length = l.length := by simp [sortI]
    show next (a.put o.dst _) _
    generalize hz : (l.mergeSort fun x y => decide (x ≤ y)) = zs at *
    have hzl : zs.length = l.length := by rw [← hz]; simp
    have hheap : ∀ k, k < w.heap.size → k ≠ b → (Go.Sort.grow (Go.Sort.putRow (Value.int .i64) (Go.Sort.ahead w d) b o' zs.toArray) os).heap[k]? = w.heap[k]? := by
      intro k hk hne
      rw [Go.Sort.heap_grow_old _ _ (by simpa [Go.Sort.putRow, Go.Sort.mapBlock, Go.Sort.ahead] using hk)]
      simp only [Go.Sort.putRow, Go.Sort.mapBlock, Go.Sort.ahead, Array.getElem?_modify]
      rw [if_neg (fun h => hne h.symm)]
    have hheapb : (Go.Sort.grow (Go.Sort.putRow (Value.int .i64) (Go.Sort.ahead w d) b o' zs.toArray) os).heap[b]? = some (.cells ⟨(Go.Sort.putCells (Value.int .i64) o' zs.toArray ⟨vs⟩).toList⟩ T (0, 0)) := by
      rw [Go.Sort.heap_grow_old _ _ (by simpa [Go.Sort.putRow, Go.Sort.mapBlock, Go.Sort.ahead] using hfr.2)]
      simp [Go.Sort.putRow, Go.Sort.mapBlock, Go.Sort.ahead, Array.getElem?_modify, hb, Go.Sort.onCells]
    have hput : ((Go.Sort.putCells (Value.int .i64) o' zs.toArray ⟨vs⟩).toList.drop o').take l.length = zs.map (Value.int .i64) := by
      apply List.ext_getElem?
      intro j
      by_cases hj : j < l.length
      · rw [List.getElem?_take_of_lt hj, List.getElem?_drop, Array.getElem?_toList]
        have hj2 : o' + j < vs.length := by omega
        simp [Go.Sort.putCells, hj, hj2, hzl]
      · rw [List.getElem?_take_eq_none (by omega), List.getElem?_eq_none (by simp; omega)]
    have hputl : (Go.Sort.putCells (Value.int .i64) o' zs.toArray ⟨vs⟩).toList.length = vs.length := by simp [Go.Sort.putCells]
    generalize (Go.Sort.putCells (Value.int .i64) o' zs.toArray ⟨vs⟩).toList = vs2 at hheapb hput hputl
    have hsize : w.heap.size ≤ (Go.Sort.grow (Go.Sort.putRow (Value.int .i64) (Go.Sort.ahead w d) b o' zs.toArray) os).heap.size := by
      simp [Go.Sort.grow, Go.Sort.putRow, Go.Sort.mapBlock, Go.Sort.ahead]
    have hos : (Go.Sort.grow (Go.Sort.putRow (Value.int .i64) (Go.Sort.ahead w d) b o' zs.toArray) os).os = w.os := rfl
    have htp : (Go.Sort.grow (Go.Sort.putRow (Value.int .i64) (Go.Sort.ahead w d) b o' zs.toArray) os).tape = w.tape := rfl
    have hot : (Go.Sort.grow (Go.Sort.putRow (Value.int .i64) (Go.Sort.ahead w d) b o' zs.toArray) os).output = w.output := rfl
    generalize Go.Sort.grow (Go.Sort.putRow (Value.int .i64) (Go.Sort.ahead w d) b o' zs.toArray) os = w2 at hheap hheapb hsize hos htp hot ⊢
    refine hn _ w2 c (Cx.Keeps.refl _ _) (.tup _ _ .nil) ?_
    have hlt := Imm.lt hm
    refine hm.step i _ (Nat.le_succ _) (Cx.Keeps.refl _ _) (Agree.refl _ _) hm.pure (hm.imm.keeps rfl rfl (fun k hk => ?_)) (fun k hk => hm.immlt k (by omega)) hsize
      (hm.below.trans ⟨hos, htp, hot, hsize, fun k hk => hheap k (by omega) (by omega)⟩) hm.old hwf ?_ ?_ ?_ (fun j o b _ => hm.disj j o b)
    · have hk2 : k < w.heap.size := by
        rcases hk with ⟨off, v, h⟩ | ⟨ob, h⟩
        · exact hlt.1 k off v h
        · exact hlt.2 k ob h
      refine hheap k hk2 ?_
      rintro rfl
      rcases hk with ⟨off, v, h⟩ | ⟨ob, h⟩
      · exact hdj.1 off v h
      · exact hdj.2 ob h
    · refine ⟨zs.map (AV.int .i64), by simp only [den]; rw [hr, sortI, hz], ?_⟩
      rw [hhi, List.length_map, ← hzl, ← List.length_map (f := AV.int .i64)]
      refine .row b o' cap vs2 T _ hcap hheapb (by simp; omega) (by omega) ?_ ?_
      · intro x hx
        simp only [List.mem_map] at hx
        obtain ⟨m, _, rfl⟩ := hx; rfl
      · rw [flat_intsL, Nat.mul_one, List.length_map, hzl, hput]
        exact (Rvs_intsL _ _).2 rfl
    · intro j oj bj hj hlj hbj
      refine hheap bj (hm.fresh j oj bj hlj hbj).2 ?_
      rintro rfl
      exact hj (hm.dist j i oj _ bj hlj hl hbj hbl)
    · intro b2 hb2
      have hbl' : bl c i (.row 1 (.inp nenv)) = some b := by simpa [bl] using hbl
      rw [hbl'] at hb2; simp only [Option.some.injEq] at hb2; subst hb2
      exact ⟨hfr.1, by omega, fun j oj hj hlj hbj => hj (hm.dist j i oj _ b hlj hl hbj hbl), hdj⟩

theorem cmpCall_spec {o : Oper} {fid i : Nat} {e : SE} (h : cmpCall E st o = some (fid, i, e)) :
    ∃ f xs tt, o.op = .call { callee := .value f, args := xs, argTypes := tt } ∧ evS E.G st.slots [] f = some (.clo fid [] []) ∧ evAll (evS E.G st.slots []) xs.toList = some [.row i] ∧ E.cpt fid = true ∧ callOk E.P fid = true ∧ look st.own st.nid = none ∧ look st.own i = some (.row 1 e) := by
  unfold cmpCall at h
  split at h
  · rename_i f xs tt ho
    split at h
    · rename_i fid' i' h1 h2
      split at h
      · rename_i hc
        split at h
        · rename_i e' h3
          simp only [Option.some.injEq, Prod.mk.injEq] at h
          obtain ⟨rfl, rfl, rfl⟩ := h
          exact ⟨f, xs, tt, ho, h1, h2, hc.1.1, hc.1.2, by simpa using hc.2, h3⟩
        · cases h
      · cases h
    · cases h
  · cases h

theorem op_compact {P : Program} {O : Lk} {nenv : Nat} {o : Oper} (hm : Mem n0 w0 c ρ O nenv w) (hn0 : n0 ≤ w.heap.size) {f : Operand} {xs : Array Operand} {tt : Array TypeId} {fid i nid : Nat} {e : SE} {l : List Int}
    (ho : o.op = .call { callee := .value f, args := xs, argTypes := tt }) (hok : callOk P fid = true) (hf : Rv c (den ρ (.clo fid [] [])) (a.eval f)) (hes : Rvs c (dens ρ [.row i]) (xs.toList.map a.eval)) (hid : O nid = none)
    (hl : O i = some (.row 1 e)) (hS : CptOk P fid) (hlen : l.length ≤ 4294967296) (hden : den ρ e = .sl (l.map (AV.int .i64))) (hr : ρ nenv = .sl ((compactI l).map (AV.int .i64))) :
    OpGo P ro n0 w0 c ρ O (.row nid) ((O.upd i .gone).upd nid (.row 1 (.inp nenv))) (nenv + 1) o a w := by
  intro n next Q hn
  simp only [den] at hf
  have hfe : a.eval f = .func (.func fid) ⟨[]⟩ ⟨[]⟩ := by
    generalize a.eval f = v at hf
    cases hf with
    | clo _ _ _ vf vc h1 h2 => cases h1; cases h2; rfl
  have hx : xs.toList.map a.eval = [c.h i] := by
    generalize xs.toList.map a.eval = vs at hes
    cases hes with
    | cons _ v _ vs' h1 h2 =>
      cases h2
      cases h1 with
      | row _ ad k cap h => rw [h]
  refine wpIn_run (by rw [ho]; intro c h; cases h) ?_
  rw [run_callValue hok ho hfe, hx]
  show ((FW ro).depth.isSome = true → 1 ≤ n) ∧ CallsIn (FW ro) (n - 1) P fid _ w _
  refine ⟨by simp, FW_calls ?_⟩
  have hrow : ∃ xs, den ρ e = .sl xs ∧ RowOk c w 1 (c.h i) xs := hm.ok i _ hl
  obtain ⟨ys, hys, hrow⟩ := hrow
  rw [hden] at hys
  simp only [AV.sl.injEq] at hys
  subst hys
  have hid1 : (O.upd i .gone) nid = none := by
    rw [Lk.upd_other]
    · exact hid
    · rintro rfl; rw [hid] at hl; cases hl
  have hm1 : Mem n0 w0 c ρ (O.upd i .gone) (nenv + 1) w := (hm.later (nenv' := nenv + 1) (Nat.le_succ _) (Below.refl _ _) hn0 (Cx.Keeps.refl _ _) hm.imm (fun _ _ => ⟨fun _ _ h => h, fun _ h => h⟩) hm.immlt (Agree.refl _ _) hm.pure).drop i
  have hwf1 : (SE.inp nenv).wf (nenv + 1) (O.upd i .gone).dom = true := by simp [SE.wf]
  have empty : l = [] → (c.h i = .slice none 0 0 ∨ ∃ ad, c.h i = .slice (some ad) 0 0) → Calls P fid ⟨[c.h i]⟩ w fun e w' => (match e, w' with
      | .returned v, w' => next (a.put o.dst v) w'
      | .panicked chain, w' => Q (.panic chain) a w'
      | .outgrown, _ => LetsOut Q) := by
    intro hl0 hv
    subst hl0
    have hs : compactI [] = [] := List.eq_nil_of_length_eq_zero (Nat.le_zero.1 (compactI_le []))
    have hv2 : ∃ ad, c.h i = .slice ad 0 0 := by rcases hv with h | ⟨ad, h⟩ <;> exact ⟨_, h⟩
    obtain ⟨ad, hv2⟩ := hv2
    rw [hv2]
    refine (hS.2 ad 0 w).mono ?_
    rintro e' w' ⟨rfl, rfl⟩
    refine hn _ _ (c.seth nid (c.h i)) (c.seth_keeps hid) ?_ ?_
    · simp only [den]
      rw [← hv2]
      rcases hv with hs | ⟨ad, hs⟩
      · rw [hs]; exact .row nid none 0 0 (by simp [Cx.seth])
      · rw [hs]; exact .row nid (some ad) 0 0 (by simp [Cx.seth])
    · refine hm1.step nid _ (Nat.le_refl _) (c.seth_keeps hid1) (Agree.refl _ _) hm.pure ⟨hm.imm.I, hm.imm.M⟩ hm.immlt (Nat.le_refl _) hm.below hm.old (SE.wf_mono (Nat.le_refl _) (Lk.dom_upd _ nid _) hwf1) ?_ (fun _ _ _ _ _ _ => rfl) ?_ (fun j o b _ => hm1.disj j o b)
      · refine ⟨[], by simp only [den]; rw [hr, hs]; rfl, ?_⟩
        simp only [Cx.seth, if_true]
        rcases hv with hs | ⟨ad, hs⟩
        · rw [hs]; exact .nil
        · rw [hs]; exact .zero ad
      · intro b hb
        simp only [bl, Cx.seth, if_true] at hb
        rcases hv with hs | ⟨ad, hs⟩ <;> simp [hs, hdrBlock] at hb
  generalize hxs : l.map (AV.int .i64) = ys at hrow
  generalize hhi : c.h i = hv at hrow empty ⊢
  cases hrow with
  | nil => exact empty (by cases l; rfl; simp at hxs) (.inl rfl)
  | zero ad => exact empty (by cases l; rfl; simp at hxs) (.inr ⟨ad, rfl⟩)
  | row b o' cap vs T _ hcap hb hxl hov hsz hvs =>
    subst hxs
    rw [flat_intsL, Nat.mul_one, List.length_map] at hvs
    have hvs := (Rvs_intsL _ _).1 hvs
    rw [List.length_map] at hxl ⊢
    have hbl : bl c i (.row 1 e) = some b := by simp [bl, hhi, hdrBlock]; omega
    have hfr := hm.fresh i _ b hl hbl
    have hdj := hm.disj i _ b hl hbl
    have hcell : ∀ j, j < l.length → vs[o' + j]? = some (.int .i64 l[j]!) := by
      intro j hj
      have h1 : ((vs.drop o').take l.length)[j]? = (l.map (Value.int .i64))[j]? := by rw [hvs]
      rw [List.getElem?_take_of_lt hj, List.getElem?_drop] at h1
      rw [h1]; simp [List.getElem?_eq_getElem hj]
    have hH : Go.Sort.Holds (Value.int .i64) w b o' l.toArray := by
      intro j hj
      have hj : j < l.length := by simpa using hj
      refine ⟨?_, by simp [World.frozen?, hb]⟩
      simp only [World.cell?, hb, Option.isSome_none, Bool.false_eq_true, if_false]
      have := hcell j hj
      simpa using this
    have hcall := hS.1 b o' cap l w hH (by omega) hxl
    refine hcall.mono ?_
    rintro e' w' ⟨rfl, d, rfl⟩
    have hle := compactI_le l
    show next (a.put o.dst _) _
    unfold compactI at hr hle
    generalize Go.Lib.compact l = cz at *
    generalize hzz : cz ++ List.replicate (l.length - cz.length) 0 = zs at *
    have hzl : zs.length = l.length := by rw [← hzz]; simp; omega
    have hheap : ∀ k, k ≠ b → (Go.Sort.putRow (Value.int .i64) (Go.Sort.ahead w d) b o' zs.toArray).heap[k]? = w.heap[k]? := by
      intro k hne
      simp only [Go.Sort.putRow, Go.Sort.mapBlock, Go.Sort.ahead, Array.getElem?_modify]
      rw [if_neg (fun h => hne h.symm)]
    have hheapb : (Go.Sort.putRow (Value.int .i64) (Go.Sort.ahead w d) b o' zs.toArray).heap[b]? = some (.cells ⟨(Go.Sort.putCells (Value.int .i64) o' zs.toArray ⟨vs⟩).toList⟩ T (0, 0)) := by
      simp [Go.Sort.putRow, Go.Sort.mapBlock, Go.Sort.ahead, Array.getElem?_modify, hb, Go.Sort.onCells]
    have hput : ((Go.Sort.putCells (Value.int .i64) o' zs.toArray ⟨vs⟩).toList.drop o').take cz.length = cz.map (Value.int .i64) := by
      apply List.ext_getElem?
      intro j
      by_cases hj : j < cz.length
      · rw [List.getElem?_take_of_lt hj, List.getElem?_drop, Array.getElem?_toList]
        have hj2 : o' + j < vs.length := by omega
        have hj3 : j < l.length := by omega
        have hz : zs[j]? = cz[j]? := by rw [← hzz, List.getElem?_append_left hj]
        have hz1 : zs[j]? = some cz[j] := by rw [hz]; simp [hj]
        obtain ⟨_, hz2⟩ := List.getElem?_eq_some_iff.1 hz1
        simp [Go.Sort.putCells, hj, hj2, hj3, hzl, hz2]
      · rw [List.getElem?_take_eq_none (by omega), List.getElem?_eq_none (by simp; omega)]
    have hputl : (Go.Sort.putCells (Value.int .i64) o' zs.toArray ⟨vs⟩).toList.length = vs.length := by simp [Go.Sort.putCells]
    generalize (Go.Sort.putCells (Value.int .i64) o' zs.toArray ⟨vs⟩).toList = vs2 at hheapb hput hputl
    have hre := hm1.reRow (w' := Go.Sort.putRow (Value.int .i64) (Go.Sort.ahead w d) b o' zs.toArray) (b := b) (oo := o') (cap := cap) (sz := 1) (vs := vs2) (T := T) (e := .inp nenv) (xs := cz.map (AV.int .i64)) hid1 (by simp only [den]; exact hr) hwf1 hcap hheapb (by simp; omega) (by omega)
      (by
        intro x hx
        simp only [List.mem_map] at hx
        obtain ⟨m, _, rfl⟩ := hx; rfl)
      (by
        rw [flat_intsL, Nat.mul_one, List.length_map, hput]
        exact (Rvs_intsL _ _).2 rfl)
      hheap (by simp [Go.Sort.putRow, Go.Sort.mapBlock, Go.Sort.ahead]) rfl rfl rfl hfr.1
      (by
        intro j oj hlj hbj
        by_cases hji : j = i
        · subst hji; rw [Lk.upd_same] at hlj; simp only [Option.some.injEq] at hlj; subst hlj; simp [bl] at hbj
        · rw [Lk.upd_other _ _ hji] at hlj; exact hji (hm.dist j i oj _ b hlj hl hbj hbl))
      hdj
    rw [List.length_map] at hre
    refine hn _ _ _ (c.seth_keeps hid) ?_ hre
    simp only [den]
    exact .row nid _ _ _ (by simp [Cx.seth])

theorem FW_none_calls {P : Program} {n : Nat} {f : FuncId} {args : Array Value} {w : World} {R : Ending → World → Prop} (h : CallsIn (FW none) n P f args w R) : CallsIn (FW ro) n P f args w R :=
  FW_calls ((callsIn_wide (n := n)).1 h)

theorem yieldCall_spec {o : Oper} {l : Nat} {r : Rnd} {es : List SE} (h : yieldCall E Y st o = some (l, r, es)) :
    ∃ f xs tt, o.op = .call { callee := .value f, args := xs, argTypes := tt } ∧ evS E.G st.slots [] f = some (.yield l) ∧ evAll (evS E.G st.slots []) xs.toList = some es ∧ findY Y l = some r ∧ r.ps.length = es.length ∧ ∀ p ∈ r.ps, p < r.sz := by
  unfold yieldCall at h
  split at h
  · rename_i f xs tt ho
    split at h
    · rename_i l' es' h1 h2
      split at h
      · rename_i r' h3
        split at h
        · rename_i hc
          simp only [Option.some.injEq, Prod.mk.injEq] at h
          obtain ⟨rfl, rfl, rfl⟩ := h
          simp only [Bool.and_eq_true, List.all_eq_true, decide_eq_true_eq] at hc
          exact ⟨f, xs, tt, ho, h1, h2, h3, Nat.eq_of_beq_eq_true hc.1, hc.2⟩
        · cases h
      · cases h
    · cases h
  · cases h

theorem setSlots_ok {nenv : Nat} {D : Nat → Bool} : ∀ (ps : List Nat) (es : List SE) (vs : List Value) (slots : List (Nat × Ent)) (t : Array Value), SlotsOk c ρ nenv D t slots → Rvs c (dens ρ es) vs → SE.wfs nenv D es = true → (∀ p ∈ ps, p < t.size) → ps.length = es.length →
    SlotsOk c ρ nenv D ((ps.zip vs).foldl (fun tmps (x : Nat × Value) => tmps.setIfInBounds x.1 x.2) t) (setSlots slots (ps.zip es)) ∧ ((ps.zip vs).foldl (fun tmps (x : Nat × Value) => tmps.setIfInBounds x.1 x.2) t).size = t.size
  | [], _, vs, slots, t, h, _, _, _, _ => ⟨by simpa [setSlots] using h, by simp⟩
  | p :: ps, [], vs, slots, t, h, _, _, _, hl => by simp at hl
  | p :: ps, e :: es, vs, slots, t, h, hr, hw, hp, hl => by
    cases hr with
    | cons _ v _ vs h1 h2 =>
      simp only [SE.wfs, Bool.and_eq_true] at hw
      simp only [List.zip_cons_cons, List.foldl_cons, setSlots]
      have hpt : p < t.size := hp p (List.mem_cons_self ..)
      have hn : SlotsOk c ρ nenv D (t.setIfInBounds p v) (setSlot slots p ⟨[], e⟩) := by
        intro d en hf
        rw [findE_setSlot] at hf
        split at hf
        · rename_i hd
          simp only [Option.some.injEq] at hf; subst hf; subst hd
          exact ⟨fun _ => ⟨v, by simp [hpt], h1⟩, fun hn => absurd (Holds.nil _) hn, hw.1, rfl⟩
        · rename_i hd
          have := h d en hf
          refine ⟨fun hh => ?_, fun hh => ?_, this.wf⟩
          · rw [Array.getElem?_setIfInBounds_ne (Ne.symm hd)]; exact this.yes hh
          · rw [Array.getElem?_setIfInBounds_ne (Ne.symm hd)]; exact this.no hh
      obtain ⟨q1, q2⟩ := setSlots_ok ps es vs _ _ hn h2 hw.2 (fun q hq => by rw [Array.size_setIfInBounds]; exact hp q (List.mem_cons_of_mem _ hq)) (by simpa using hl)
      exact ⟨q1, by rw [q2, Array.size_setIfInBounds]⟩

theorem isReady_eq {x : Option OS} (h : OS.isReady x = true) : x = some (.loop .ready) := by
  unfold OS.isReady at h
  split at h
  · rfl
  · cases h
theorem isBusy_eq {x : Option OS} (h : OS.isBusy x = true) : x = some (.loop .busy) := by
  unfold OS.isBusy at h
  split at h
  · rfl
  · cases h

/-- The record turns. -/
theorem Mem.turnLoop {L : Lk} {nenv : Nat} (hm : Mem n0 w0 c ρ L nenv w) {i : Nat} {s : LSt} (hl : L i = some (.loop s)) (s' : LSt) :
    Mem n0 w0 c ρ (L.upd i (.loop s')) nenv (w.putObj (c.β i) (.loop (stamp (c.L i) s'))) := by
  have hb : w.heap[c.β i]? = some (.loop (stamp (c.L i) s)) := hm.ok i _ hl
  have hlt := (Array.getElem?_eq_some_iff.1 hb).1
  exact hm.turn hl rfl rfl rfl (World.putObj_heap_same hlt) (fun k hk => World.putObj_heap_other hk) World.putObj_size rfl rfl rfl

/-- A call of yield. -/
theorem run_callYield {P : Program} {o : Oper} {f : Operand} {xs : Array Operand} {tt : Array TypeId} {b : Nat} {r : Loop} (ho : o.op = .call { callee := .value f, args := xs, argTypes := tt }) (hf : a.eval f = .func (.yield b) #[] #[])
    (hb : w.heap[b]? = some (.loop r)) (hs : xs.size = r.params.size) :
    (execOp a.eval o).run P w = .ok (.round b r.fn ((r.params.zip (xs.map a.eval)).foldl (fun tmps (t, a) => tmps.setIfInBounds t a) r.tmps) r.assign r.body) w := by
  have hy := run_yield (P := P) (args := xs.map a.eval) hb (by simpa using hs)
  simp only [execOp, ho, Sem.run_bind, resolve, hf, Deferred.ofValue, Sem.run_pure, Result.andThen_ok, invoke]
  simpa using hy

theorem sxDo_sound (hE : EnvOk E) (h0 : n0 ≤ w0.w.heap.size) {R : AV → Prop} {d : Nat} {rec : Bool → Nat → Code → St → Kont → RT} (hrec : RecOk E R n0 w0 Y d rec) {o : Oper} {k : St → RT} {n : Nat} {next : Act → World → Prop} {Q : Exit → Act → World → Prop} :
    ∀ (m : Nat) (st : St) (c : Cx) (ρ : Nat → AV) (Lp : Nat → List AV → Prop), MatchSt E.G n0 w0 Y c ρ st a w → KOk E R n0 w0 Y d Lp c ρ st.nenv st.D k next → RTwp E.P E.G R (sxDo E Y rec [] o k m st) Lp ρ →
      o.wpIn (FW ro) n E.P a w next Q := by
  intro m
  induction m with
  | zero => intro st c ρ Lp _ _ h; exact h.elim
  | succ m ih =>
    intro st0 c0 ρ Lp hm0 hk0 h
    simp only [sxDo] at h
    obtain ⟨c, hm, hkeep, e1, e2, e3, e4⟩ := frz_sound hE.G (frzTargets E st0 [] o) c0 st0 hm0
    generalize frz (frzTargets E st0 [] o) st0 = st at h hm e1 e2 e3 e4
    have hk : KOk E R n0 w0 Y d Lp c ρ st.nenv st.D k next := hk0.mono (Ext.keep_all hkeep e1 e4) (fun _ _ => rfl)
    have hev : ∀ x e, evS E.G st.slots [] x = some e → Rv c (den ρ e) (a.eval x) ∧ e.wf st.nenv st.D = true := fun x e hx => evS_sound hm.slots hm.glob hE.G (Holds.nil ρ) hx
    split at h
    · rename_i cs hcp
      obtain ⟨b, st1, hb, hm1, hs1, h1⟩ := splitSE_sound hm h
      have hk1 : KOk E R n0 w0 Y d Lp c ρ st1.nenv st1.D k next := hk.mono (Ext.same hs1) (fun _ _ => rfl)
      cases b
      · exact ih st1 c ρ Lp hm1 hk1 h1
      · exact ih st1 c ρ Lp hm1 hk1 h1
    · split at h
      · -- a round
        rename_i l r es hyc
        obtain ⟨f, xs, tt, ho, hf, hes, hY, hpl, hps⟩ := yieldCall_spec hyc
        split at h
        case isFalse => exact h.elim
        rename_i hrdy
        have hl := isReady_eq hrdy
        have hfe : a.eval f = .func (.yield (c.β l)) #[] #[] := by
          have := (hev f _ hf).1
          simp only [den] at this
          generalize a.eval f = v at this
          cases this; rfl
        have hb : w.heap[c.β l]? = some (.loop (stamp (c.L l) .ready)) := hm.mem.ok l _ hl
        obtain ⟨y1, y2, y3, y4, y5, y6⟩ := hm.rnds l r hY
        have hes' := evAll_sound (c := c) (ρ := ρ) (a := a) (fun x e hx => (hev x e hx).1) _ _ hes
        have hsz : xs.size = (stamp (c.L l) .ready).params.size := by
          show xs.size = (c.L l).params.size
          rw [y2]
          show xs.size = r.ps.length
          rw [hpl, hes'.2]; simp
        refine wpIn_run (by rw [ho]; intro c h; cases h) ?_
        rw [run_callYield ho hfe hb hsz]
        show ((FW ro).depth.isSome = true → 1 ≤ n) ∧ RoundIn (FW ro) (n - 1) E.P (c.β l) _ _ _ _ w _
        refine ⟨by simp, roundIn_of_wpIn trivial ?_⟩
        show (stamp (c.L l) .ready).assign.wpIn (FW (some (c.β l))) (n - 1) E.P _ _ w
        have hwfs := evAll_wf (fun x e hx => (hev x e hx).2) _ _ hes
        obtain ⟨q1, q2⟩ := setSlots_ok (c := c) (ρ := ρ) r.ps es (xs.toList.map a.eval) r.slots (c.L l).tmps y6 hes'.1 hwfs (fun p hp => by rw [y5]; exact hps p hp) hpl
        have htm : ((stamp (c.L l) .ready).params.zip (xs.map a.eval)).foldl (fun tmps (t, a) => tmps.setIfInBounds t a) (stamp (c.L l) .ready).tmps = (r.ps.zip (xs.toList.map a.eval)).foldl (fun tmps (x : Nat × Value) => tmps.setIfInBounds x.1 x.2) (c.L l).tmps := by
          show ((c.L l).params.zip (xs.map a.eval)).foldl _ (c.L l).tmps = _
          rw [y2, ← Array.foldl_toList]
          simp
        rw [htm, show (stamp (c.L l) .ready).assign = r.assign from y3]
        have hm1 : MatchSt E.G n0 w0 Y c ρ ⟨r.sz, setSlots r.slots (r.ps.zip es), st.own, st.nenv, st.nid, []⟩ { tmps := (r.ps.zip (xs.toList.map a.eval)).foldl (fun tmps (x : Nat × Value) => tmps.setIfInBounds x.1 x.2) (c.L l).tmps, defers := [] } w :=
          ⟨hm.mem, hm.glob, q2.trans y5, q1, rfl, (fun _ h => by cases h), hm.rnds⟩
        refine hrec true r.fn r.assign _ _ (some (c.β l)) _ _ c ρ Lp _ w (fun h => by cases h) hm1 ?_ h
        intro ke st2 c2 ρ2 Lp2 a2 w2 hx2 hm2 hL2 hr2
        cases ke with
        | exit id => exact hr2.elim
        | goto l => exact hr2.elim
        | ret => exact hr2.elim
        | normal =>
          simp only at hr2
          split at hr2
          case isFalse => exact hr2.elim
          rename_i hrdy2
          have hl2 := isReady_eq hrdy2
          have hx2' : Ext c ρ st.nenv st.D c2 ρ2 st2.nenv st2.D := hx2
          have hdl : st.D l = true := Lk.dom_of hl
          have eβ : c2.β l = c.β l := hx2'.keeps.β l hdl
          have eL : c2.L l = c.L l := hx2'.keeps.L l hdl
          have hb2 : w2.heap[c.β l]? = some (.loop (stamp (c.L l) .ready)) := by
            have : w2.heap[c2.β l]? = some (.loop (stamp (c2.L l) .ready)) := hm2.mem.ok l _ hl2
            rwa [eβ, eL] at this
          refine ⟨_, run_beginRound hb2 rfl, ?_⟩
          have hmem3 : Mem n0 w0 c2 ρ2 (look (putOwn st2.own l (.loop .busy))) st2.nenv (w2.putObj (c.β l) (.loop { stamp (c.L l) .ready with state := .busy })) := by
            rw [look_putOwn]
            have := hm2.mem.turnLoop hl2 .busy
            rwa [eβ, eL] at this
          have hD3 : ∀ i, st2.D i = true → (look (putOwn st2.own l (.loop .busy))).dom i = true := fun i hi => by rw [look_putOwn]; exact Lk.dom_upd _ _ _ _ hi
          have hm3 : MatchSt E.G n0 w0 Y c2 ρ2 { st2 with own := putOwn st2.own l (.loop .busy) } a2 (w2.putObj (c.β l) (.loop { stamp (c.L l) .ready with state := .busy })) :=
            ⟨hmem3, hm2.glob, hm2.sz, hm2.slots.keeps (Cx.Keeps.refl _ _) (Agree.refl _ _) hm2.mem.pure (Nat.le_refl _) hD3, hm2.dfr, fun i hi => hD3 i (hm2.mdom i hi), hm2.rnds.keeps (Cx.Keeps.refl _ _) (Agree.refl _ _) hm2.mem.pure (Nat.le_refl _) hD3⟩
          show (stamp (c.L l) .ready).body.wpIn (FW (some (c.β l))) (n - 1) E.P _ a2 (w2.putObj (c.β l) (.loop { stamp (c.L l) .ready with state := .busy }))
          clear hmem3
          generalize (w2.putObj (c.β l) (.loop { stamp (c.L l) .ready with state := .busy })) = wz at hm3 ⊢
          rw [show (stamp (c.L l) .ready).body = r.body from y4]
          refine hrec true r.fn r.body _ _ (some (c.β l)) _ _ c2 ρ2 Lp2 a2 _ (fun h => by cases h) hm3 ?_ hr2
          intro ke st3 c3 ρ3 Lp3 a3 w3 hx3 hm3' hL3 hr3
          simp only at hr3
          split at hr3
          case isFalse => exact hr3.elim
          rename_i hbusy
          have hl3 := isBusy_eq hbusy
          split at hr3
          case h_2 => exact hr3.elim
          rename_i st4 hput
          have hx3' : Ext c2 ρ2 st2.nenv st2.D c3 ρ3 st3.nenv st3.D := ⟨hx3.keeps.mono hD3, hx3.agree, hx3.nenv, fun i hi => hx3.dom i (hD3 i hi)⟩
          have hx : Ext c ρ st.nenv st.D c3 ρ3 st3.nenv st3.D := hx2'.trans hx3'
          have eβ3 : c3.β l = c.β l := hx.keeps.β l hdl
          have eL3 : c3.L l = c.L l := hx.keeps.L l hdl
          have hb3 : w3.heap[c.β l]? = some (.loop (stamp (c.L l) .busy)) := by
            have : w3.heap[c3.β l]? = some (.loop (stamp (c3.L l) .busy)) := hm3'.mem.ok l _ hl3
            rwa [eβ3, eL3] at this
          have fin : ∀ (s : LSt) (bo : Bool), roundEnd ke = (s, bo) → ∀ w4, w4 = w3.putObj (c.β l) (.loop (stamp (c.L l) s)) → next (a.put o.dst (.bool bo)) w4 := by
            intro s bo hre w4 hw4
            rw [hre] at hput
            have hmem4 : Mem n0 w0 c3 ρ3 (look (putOwn st3.own l (.loop s))) st3.nenv w4 := by
              rw [look_putOwn, hw4]
              have := hm3'.mem.turnLoop hl3 s
              rwa [eβ3, eL3] at this
            have hD4 : ∀ i, st3.D i = true → (look (putOwn st3.own l (.loop s))).dom i = true := fun i hi => by rw [look_putOwn]; exact Lk.dom_upd _ _ _ _ hi
            have hx4 : Ext c ρ st.nenv st.D c3 ρ3 st3.nenv (look (putOwn st3.own l (.loop s))).dom := ⟨hx.keeps, hx.agree, hx.nenv, fun i hi => hD4 i (hx.dom i hi)⟩
            have hp := hm.put (st1 := { st with own := putOwn st3.own l (.loop s), nenv := st3.nenv, nid := st3.nid }) hx4 hmem4 rfl rfl rfl hm3'.glob hput (v := .bool bo) (fun _ => .bool bo) (fun hn => absurd (Holds.nil _) hn) rfl rfl
            refine hk st4 c3 ρ3 Lp3 _ w4 ?_ hp.1 (fun j hj => (hL3 j hj).trans (hL2 j hj)) hr3
            have : st4.D = (look (putOwn st3.own l (.loop s))).dom := by unfold St.D; rw [hp.2.2.1]
            rw [hp.2.1, this]; exact hx4
          cases ke with
          | normal => exact ⟨_, _, run_endRound none hb3, fin .ready true rfl _ rfl⟩
          | ret => exact ⟨_, _, run_endRound (some .ret) hb3, fin .doneRet false rfl _ rfl⟩
          | exit id => exact ⟨_, _, run_endRound (some (.exit id)) hb3, fin (.doneExit id) false rfl _ rfl⟩
          | goto t => exact ⟨_, _, run_endRound (some (.goto t)) hb3, fin (.doneGoto t) false rfl _ rfl⟩
      · split at h
        · rename_i fid i e hsr
          obtain ⟨f, xs, tt, ho, hf, hes, hsrt, hok, hl⟩ := srtCall_spec hsr
          split at h
          case h_2 => exact h.elim
          rename_i st2 hput
          obtain ⟨l, hlen, hden, hK⟩ := seg_RTwp h
          have hfe := (hev f _ hf).1
          have hes' := (evAll_sound (c := c) (ρ := ρ) (a := a) (fun x e hx => (hev x e hx).1) _ _ hes).1
          have hn0 := hm.mem.hn0 h0
          generalize hρ1 : setEnv ρ st.nenv (.sl ((sortI l).map (AV.int .i64))) = ρ1 at hK
          have hag : Agree st.nenv ρ ρ1 := by rw [← hρ1]; exact setEnv_agree _ _ _
          have hpu : ∀ j, (ρ1 j).pure = true := by
            intro j
            rw [← hρ1]; unfold setEnv
            split
            · simp only [AV.pure]
              exact intsL_pure _
            · exact hm.mem.pure j
          have hm1 := hm.mem.env hn0 hag hpu
          have hwe : e.wf st.nenv (look st.own).dom = true := hm.mem.wf i _ hl
          have hop := op_sort (ro := ro) (a := a) (o := o) (l := l) hm1 hn0 ho hok (by simpa only [den, dens] using hfe) (by simpa only [den, dens] using hes') hl (hE.srt fid hsrt) hlen (by rw [den_agree hag e hwe]; exact hden) (by rw [← hρ1]; simp [setEnv])
          refine hop n next Q fun v w' c' b1 b2 b3 => ?_
          rw [← look_putOwn] at b3
          have hD : ∀ j, st.D j = true → (look (putOwn st.own i (.row 1 (.inp st.nenv)))).dom j = true := fun j hj => by rw [look_putOwn]; exact Lk.dom_upd _ _ _ _ hj
          have hx : Ext c ρ st.nenv st.D c' ρ1 (st.nenv + 1) (look (putOwn st.own i (.row 1 (.inp st.nenv)))).dom := ⟨b1, hag, Nat.le_succ _, hD⟩
          have hp := hm.put (st1 := { st with own := putOwn st.own i (.row 1 (.inp st.nenv)), nenv := st.nenv + 1 }) hx b3 rfl rfl rfl (hm.glob.ext hE b1.toLe) hput (fun _ => b2) (fun hn => absurd (Holds.nil _) hn) rfl rfl
          refine hk st2 c' ρ1 Lp _ w' ?_ hp.1 (fun _ _ => rfl) hK
          have : st2.D = (look (putOwn st.own i (.row 1 (.inp st.nenv)))).dom := by unfold St.D; rw [hp.2.2.1]
          rw [hp.2.1, this]; exact hx
        split at h
        · rename_i fid i e hsr
          obtain ⟨f, xs, tt, ho, hf, hes, hcpt, hok, hfresh, hl⟩ := cmpCall_spec hsr
          split at h
          case h_2 => exact h.elim
          rename_i st2 hput
          obtain ⟨l, hlen, hden, hK⟩ := seg_RTwp h
          have hfe := (hev f _ hf).1
          have hes' := (evAll_sound (c := c) (ρ := ρ) (a := a) (fun x e hx => (hev x e hx).1) _ _ hes).1
          have hn0 := hm.mem.hn0 h0
          generalize hρ1 : setEnv ρ st.nenv (.sl ((compactI l).map (AV.int .i64))) = ρ1 at hK
          have hag : Agree st.nenv ρ ρ1 := by rw [← hρ1]; exact setEnv_agree _ _ _
          have hpu : ∀ j, (ρ1 j).pure = true := by
            intro j
            rw [← hρ1]; unfold setEnv
            split
            · simp only [AV.pure]
              exact intsL_pure _
            · exact hm.mem.pure j
          have hm1 := hm.mem.env hn0 hag hpu
          have hwe : e.wf st.nenv (look st.own).dom = true := hm.mem.wf i _ hl
          have hop := op_compact (ro := ro) (a := a) (o := o) (l := l) hm1 hn0 ho hok (by simpa only [den, dens] using hfe) (by simpa only [den, dens] using hes') hfresh hl (hE.cpt fid hcpt) hlen (by rw [den_agree hag e hwe]; exact hden) (by rw [← hρ1]; simp [setEnv])
          refine hop n next Q fun v w' c' b1 b2 b3 => ?_
          rw [← look_putOwn, ← look_putOwn] at b3
          have hD : ∀ j, st.D j = true → (look (putOwn (putOwn st.own i .gone) st.nid (.row 1 (.inp st.nenv)))).dom j = true := fun j hj => by rw [look_putOwn, look_putOwn]; exact Lk.dom_upd _ _ _ _ (Lk.dom_upd _ _ _ _ hj)
          have hx : Ext c ρ st.nenv st.D c' ρ1 (st.nenv + 1) (look (putOwn (putOwn st.own i .gone) st.nid (.row 1 (.inp st.nenv)))).dom := ⟨b1, hag, Nat.le_succ _, hD⟩
          have hp := hm.put (st1 := { st with own := putOwn (putOwn st.own i .gone) st.nid (.row 1 (.inp st.nenv)), nenv := st.nenv + 1, nid := st.nid + 1 }) hx b3 rfl rfl rfl (hm.glob.ext hE b1.toLe) hput (fun _ => b2) (fun hn => absurd (Holds.nil _) hn) (by simp only [SE.wf, St.D]; rw [look_putOwn]; exact Lk.dom_upd_same _ _ _) rfl
          refine hk st2 c' ρ1 Lp _ w' ?_ hp.1 (fun _ _ => rfl) hK
          have : st2.D = (look (putOwn (putOwn st.own i .gone) st.nid (.row 1 (.inp st.nenv)))).dom := by unfold St.D; rw [hp.2.2.1]
          rw [hp.2.1, this]; exact hx
        split at h
        · rename_i fid fn cd args hin
          obtain ⟨f, xs, tt, fs, es, cs, ho, hf, hes, hok, hfn, hbody, rfl⟩ := inlCall_spec hin
          have hfe := (hev f _ hf).1
          simp only [den] at hfe
          have hfv : ∃ vf vc, a.eval f = .func (.func fid) ⟨vf⟩ ⟨vc⟩ ∧ Rvs c (dens ρ fs) vf ∧ Rvs c (dens ρ cs) vc := by
            generalize a.eval f = v at hfe
            cases hfe with
            | clo _ _ _ vf vc h1 h2 => exact ⟨vf, vc, rfl, h1, h2⟩
          obtain ⟨vf, vc, hfe', h1, h2⟩ := hfv
          have hes' := (evAll_sound (c := c) (ρ := ρ) (a := a) (fun x e hx => (hev x e hx).1) _ _ hes).1
          have hall : Rvs c (dens ρ (fs ++ es ++ cs)) (vf ++ xs.toList.map a.eval ++ vc) := by
            rw [dens_append, dens_append]; exact (h1.append hes').append h2
          have hwf : SE.wfs st.nenv st.D (fs ++ es ++ cs) = true := by
            have w1 := (hev f _ hf).2
            simp only [SE.wf, Bool.and_eq_true] at w1
            rw [wfs_append, wfs_append, w1.1, w1.2, evAll_wf (fun x e hx => (hev x e hx).2) _ _ hes]; rfl
          refine wpIn_run (by rw [ho]; intro c h; cases h) ?_
          rw [run_callValue hok ho hfe']
          show ((FW ro).depth.isSome = true → 1 ≤ n) ∧ CallsIn (FW ro) (n - 1) E.P fid _ w _
          refine ⟨by simp, FW_none_calls ?_⟩
          refine callsIn_of_wp_marks (F := FW none) hfn hbody trivial ?_
          refine hrec false fid cd _ _ none _ _ c ρ Lp _ w (fun _ => rfl) (match_args hm.rnds hm.mem hm.glob hall hwf fn.ntmps) ?_ h
          intro ke st1 c1 ρ1 Lp1 a1 w1 hx hm1 hL hr
          have good : ∀ (hr : RTwp E.P E.G R (match leaveOwn st1.marks st1.own with
              | some own1 => match resVal E { st1 with own := own1 } fn.results with
                | some (e, ns) => if e.wf st1.nenv (look own1).dom = true then match ({ st with own := own1, nenv := st1.nenv, nid := st1.nid } : St).put o.dst ⟨[], e⟩ with
                  | some st'' => seg ns (k st'')
                  | none => .dead 2 [] else .dead 3 []
                | none => .dead 4 []
              | none => .dead 35 []) Lp1 ρ1), LeavesInM (FW none) (n - 1) E.P fn a1.tmps (fun
                | .returned v, w'' => next (a.put o.dst v) w''
                | .panicked chain, w'' => Q (.panic chain) a w''
                | .outgrown, _ => LetsOut Q) a1.defers .returning w1 := by
            intro hr
            split at hr
            · rename_i own1 hlv
              rw [hm1.dfr]
              refine leave_sound st1.marks st1.own own1 w1 hlv hm1.mem (fun w' hmem' => ?_)
              have hdm := leaveOwn_dom hlv
              split at hr
              · rename_i e ns hres
                split at hr
                · rename_i hew
                  split at hr
                  · rename_i st2 hput
                    have hm1' : MatchSt E.G n0 w0 Y c1 ρ1 { st1 with own := own1 } a1 w' :=
                      ⟨hmem', hm1.glob, hm1.sz, hm1.slots.keeps (Cx.Keeps.refl _ _) (Agree.refl _ _) hm1.mem.pure (Nat.le_refl _) hdm, hm1.dfr, fun i hi => hdm i (hm1.mdom i hi), hm1.rnds.keeps (Cx.Keeps.refl _ _) (Agree.refl _ _) hm1.mem.pure (Nat.le_refl _) hdm⟩
                    obtain ⟨hk2, v, hv1, hv2⟩ := resVal_sound hE hm1' hres (seg_RTwp hr)
                    refine ⟨v, hv1, ?_⟩
                    have hxx : Ext c ρ st.nenv st.D c1 ρ1 st1.nenv (look own1).dom := ⟨hx.keeps, hx.agree, hx.nenv, fun i hi => hdm i (hx.dom i hi)⟩
                    have hp := hm.put (st1 := { st with own := own1, nenv := st1.nenv, nid := st1.nid }) hxx hmem' rfl rfl rfl hm1.glob hput (fun _ => hv2) (fun hn => absurd (Holds.nil _) hn) hew rfl
                    refine hk st2 c1 ρ1 Lp1 _ w' ?_ hp.1 hL hk2
                    have : st2.D = (look own1).dom := by unfold St.D; rw [hp.2.2.1]
                    rw [hp.2.1, this]; exact hxx
                  · exact hr.elim
                · exact hr.elim
              · exact hr.elim
            · exact hr.elim
          cases ke with
          | normal => exact good hr
          | ret => exact good hr
          | exit id => exact hr.elim
          | goto l => exact hr.elim
        · split at h
          · exact h.elim
          · rename_i s st1 hst
            split at h
            · exact h.elim
            · rename_i st2 hput
              refine step_wanted hE h0 hm hst (Holds.nil ρ) (seg_RTwp h) ?_
              intro ρ1 c1 v w1 hK hx hv hmem hg
              obtain ⟨_, _, _, hvw, _, hsl, hsz, _, _, hmk⟩ := stepSt_spec hst
              have hp := hm.put hx hmem hsl hsz hmk hg hput (fun _ => hv) (fun hn => absurd (Holds.nil _) hn) hvw rfl
              refine hk st2 c1 ρ1 Lp _ w1 ?_ hp.1 (fun _ _ => rfl) hK
              have : st2.D = st1.D := by unfold St.D; rw [hp.2.2.1]
              rw [hp.2.1, this]; exact hx

theorem Mem.grow {L : Lk} {nenv nenv' : Nat} (hm : Mem n0 w0 c ρ L nenv w) (hn0 : n0 ≤ w.heap.size) (hn : nenv ≤ nenv') (ha : Agree nenv ρ ρ') (hρ : ∀ i, (ρ' i).pure = true) : Mem n0 w0 c ρ' L nenv' w :=
  hm.later hn (Below.refl _ _) hn0 (Cx.Keeps.refl _ _) hm.imm (fun _ _ => ⟨fun _ _ h => h, fun _ h => h⟩) hm.immlt ha hρ

/-- One operation of a region in order. -/
theorem sxOper_sound (hE : EnvOk E) (h0 : n0 ≤ w0.w.heap.size) {R : AV → Prop} {d : Nat} {rec : Bool → Nat → Code → St → Kont → RT} (hrec : RecOk E R n0 w0 Y d rec) {ops : Array Oper} {i : Nat} {o : Oper} (hi : ops[i]? = some o) {k : St → RT} {n : Nat} {next : Act → World → Prop} {Q : Exit → Act → World → Prop}
    {Lp : Nat → List AV → Prop} (hm : MatchSt E.G n0 w0 Y c ρ st a w) (hk : KOk E R n0 w0 Y d Lp c ρ st.nenv st.D k next) (h : RTwp E.P E.G R (sxOper E Y rec ops o st k) Lp ρ) :
    wpOpIn (FW ro) n E.P ops Q i next a w := by
  -- not wanted, its place unset
  have skip : ∀ (st1 st2 : St), MatchSt E.G n0 w0 Y c ρ st1 a w → St.Same st st1 → Region.wanted o (yielded ops a.tmps) = false → st1.put o.dst ⟨[], .undef⟩ = some st2 → RTwp E.P E.G R (k st2) Lp ρ → wpOpIn (FW ro) n E.P ops Q i next a w := by
    intro st1 st2 hm1 hs1 hw hput hr
    refine unwanted_of hi hw ?_
    have hp := hm1.put (st1 := st1) (Ext.refl _ _ _ _) hm1.mem rfl rfl rfl hm1.glob hput (v := undef) (fun _ => .undef _ (fun _ h => by cases h)) (fun hn => absurd (Holds.nil _) hn) rfl rfl
    refine hk st2 c ρ Lp _ w ?_ hp.1 (fun _ _ => rfl) hr
    have : st2.D = st1.D := by unfold St.D; rw [hp.2.2.1]
    rw [hp.2.1, this]; exact Ext.same hs1
  unfold sxOper at h
  split at h
  · exact h.elim
  · rename_i hg
    have hw := guardOf_sound hm hg
    split at h
    · rename_i st1 hput; exact skip st st1 hm (St.Same.refl _) hw hput h
    · exact h.elim
  · rename_i pcs hg
    have hw := guardOf_sound hm hg
    simp only at hw
    split at h
    · -- a choice
      rename_i x y z ho
      split at h
      · rename_i e ns hsp
        split at h
        · rename_i hwf
          split at h
          · rename_i st1 hput
            by_cases hp : Holds ρ pcs
            · obtain ⟨hk1, v, hv, hgo⟩ := sPick_sound (ro := ro) hE hm ho hsp hp (seg_RTwp h)
              refine wanted_of hi (hw.2 hp) (hgo n next Q ?_)
              have hpp := hm.put (st1 := st) (Ext.refl _ _ _ _) hm.mem rfl rfl rfl hm.glob hput (fun _ => hv) (fun hn => absurd hp hn) hwf.1 hwf.2
              refine hk st1 c ρ Lp _ w ?_ hpp.1 (fun _ _ => rfl) hk1
              have : st1.D = st.D := by unfold St.D; rw [hpp.2.2.1]
              rw [hpp.2.1, this]; exact Ext.refl _ _ _ _
            · have hk1 : RTwp E.P E.G R (k st1) Lp ρ := by
                have hh := seg_RTwp h
                -- the questions are checks alone
                unfold sPick at hsp
                split at hsp
                · obtain ⟨_, _, h3⟩ := Option.map_eq_some_iff.1 hsp
                  simp only [Prod.mk.injEq] at h3; rw [← h3.2] at hh; exact hh
                · obtain ⟨_, _, h3⟩ := Option.map_eq_some_iff.1 hsp
                  simp only [Prod.mk.injEq] at h3; rw [← h3.2] at hh; exact hh
                · split at hsp
                  · simp only [Option.some.injEq, Prod.mk.injEq] at hsp
                    rw [← hsp.2] at hh; exact hh.2
                  · cases hsp
                · cases hsp
              refine unwanted_of hi (by cases hx : Region.wanted o (yielded ops a.tmps); rfl; exact absurd (hw.1 hx) hp) ?_
              have hpp := hm.put (st1 := st) (Ext.refl _ _ _ _) hm.mem rfl rfl rfl hm.glob hput (v := undef) (fun hh => absurd hh hp) (fun _ => rfl) hwf.1 hwf.2
              refine hk st1 c ρ Lp _ w ?_ hpp.1 (fun _ _ => rfl) hk1
              have : st1.D = st.D := by unfold St.D; rw [hpp.2.2.1]
              rw [hpp.2.1, this]; exact Ext.refl _ _ _ _
          · exact h.elim
        · exact h.elim
      · exact h.elim
    · split at h
      · -- wanted for sure
        rename_i hemp
        have hnil : pcs = [] := by cases pcs with | nil => rfl | cons _ _ => simp at hemp
        rw [hnil] at hw
        exact wanted_of hi (hw.2 (Holds.nil ρ)) (sxDo_sound hE h0 hrec 16 st c ρ Lp hm hk h)
      · split at h
        · -- whether or not
          rename_i hmild
          split at h
          · exact h.elim
          · rename_i s st1 hst
            split at h
            · exact h.elim
            · rename_i st2 hput
              obtain ⟨cf, hmf, hkeep, e1, e2, e3, e4⟩ := frz_sound hE.G (frzTargets E st pcs o) c st hm
              generalize frz (frzTargets E st pcs o) st = sf at h hst hmf e1 e2 e3 e4 hmild
              have hkf : KOk E R n0 w0 Y d Lp cf ρ sf.nenv sf.D k next := hk.mono (Ext.keep_all hkeep e1 e4) (fun _ _ => rfl)
              obtain ⟨_, _, _, hvw, hpw, hsl, hsz, hlk, hnv, hmk⟩ := stepSt_spec hst
              have hnle : sf.nenv ≤ st1.nenv := by rw [hnv]; exact Step.nenv_le _ _
              have hdom : ∀ i, sf.D i = true → st1.D i = true := fun i hi => by
                show (look st1.own).dom i = true
                rw [hlk]; exact upds_dom _ _ _ hi
              have hpw1 : pcsWf st1.nenv st1.D pcs = true := pcsWf_mono hnle hdom hpw
              rw [← e1] at h hput
              by_cases hp : Holds ρ pcs
              · refine wanted_of hi (hw.2 hp) (step_wanted hE h0 hmf hst hp (seg_RTwp h) ?_)
                intro ρ1 c1 v w1 hK hx hv hmem hg
                have hpp := hmf.put hx hmem hsl hsz hmk hg hput (fun _ => hv) (fun hn => absurd ((pcsWf_agree hx.agree hpw).2 hp) hn) hvw hpw1
                refine hkf st2 c1 ρ1 Lp _ w1 ?_ hpp.1 (fun _ _ => rfl) hK
                have : st2.D = st1.D := by unfold St.D; rw [hpp.2.2.1]
                rw [hpp.2.1, this]; exact hx
              · obtain ⟨ρ1, a1, a2, a3⟩ := SegWp.skip hmf.mem.pure (seg_RTwp h)
                have hdl : s.dl = [] := by
                  unfold mild at hmild
                  simp only [Bool.and_eq_true] at hmild
                  have := hmild.2
                  rw [(stepSt_spec hst).1] at this
                  simpa using this
                have hlk' : look st1.own = look sf.own := by rw [hlk, hdl]; rfl
                have hx : Ext cf ρ sf.nenv sf.D cf ρ1 st1.nenv st1.D := ⟨Cx.Keeps.refl _ _, a1, hnle, hdom⟩
                have hmem : Mem n0 w0 cf ρ1 (look st1.own) st1.nenv w := by rw [hlk']; exact hmf.mem.grow (hmf.mem.hn0 h0) hnle a1 a2
                refine unwanted_of hi (by cases hx : Region.wanted o (yielded ops a.tmps); rfl; exact absurd (hw.1 hx) hp) ?_
                have hpp := hmf.put hx hmem hsl hsz hmk hmf.glob hput (v := undef) (fun hh => absurd ((pcsWf_agree a1 hpw).1 hh) hp) (fun _ => rfl) hvw hpw1
                refine hkf st2 cf ρ1 Lp _ w ?_ hpp.1 (fun _ _ => rfl) a3
                have : st2.D = st1.D := by unfold St.D; rw [hpp.2.2.1]
                rw [hpp.2.1, this]; exact hx
        · -- a split
          obtain ⟨st1, hm1, hs1, hor⟩ := splitOn_sound pcs _ st hm h
          rcases hor with ⟨hp, hr⟩ | ⟨hp, hr⟩
          · refine wanted_of hi (hw.2 hp) (sxDo_sound hE h0 hrec 16 st1 c ρ Lp hm1 (hk.mono (Ext.same hs1) (fun _ _ => rfl)) hr)
          · split at hr
            · rename_i st2 hput
              exact skip st1 st2 hm1 hs1 (by cases hx : Region.wanted o (yielded ops a.tmps); rfl; exact absurd (hw.1 hx) hp) hput hr
            · exact hr.elim

theorem sxOps_sound (hE : EnvOk E) (h0 : n0 ≤ w0.w.heap.size) {R : AV → Prop} {d : Nat} {rec : Bool → Nat → Code → St → Kont → RT} (hrec : RecOk E R n0 w0 Y d rec) {ops : Array Oper} {n : Nat} {Q : Exit → Act → World → Prop} :
    ∀ (is : List Nat) (st : St) (k : St → RT) (c : Cx) (ρ : Nat → AV) (Lp : Nat → List AV → Prop) (a : Act) (w : World), MatchSt E.G n0 w0 Y c ρ st a w → KOk E R n0 w0 Y d Lp c ρ st.nenv st.D k (Q .normal) → RTwp E.P E.G R (sxOps E Y rec ops is st k) Lp ρ →
      wpOpsIn (FW ro) n E.P ops Q is a w
  | [], st, k, c, ρ, Lp, a, w, hm, hk, h => hk st c ρ Lp a w (Ext.refl _ _ _ _) hm (fun _ _ => rfl) h
  | i :: is, st, k, c, ρ, Lp, a, w, hm, hk, h => by
    rw [wpOpsIn_cons]
    simp only [sxOps] at h
    split at h
    · exact h.elim
    · rename_i o hi
      refine sxOper_sound hE h0 hrec hi hm ?_ h
      intro st1 c1 ρ1 Lp1 a1 w1 hx hm1 hL hr
      exact sxOps_sound hE h0 hrec is st1 k c1 ρ1 Lp1 a1 w1 hm1 (hk.mono hx hL) hr

end Go.Lb
