/- Loops' heads. -/
import Derived.Test.YtkcpgfjlmicnnaaGreatDoorFw9
import Derived.ScopeJumps
import Derived.LoopNIn
set_option linter.unusedSimpArgs false
set_option linter.unusedVariables false
namespace Go.Lb
open Go.RowKit
variable {Y : List (Nat × Rnd)} {n0 : Nat} {w0 : Base} {c c' c2 : Cx} {ρ ρ' : Nat → AV} {st st' : St} {a : Act} {w : World} {ro : Option Nat} {E : Env}
theorem zfx : ∀ {s : List (Nat × Ent)} {d : Nat} {e : Ent}, zaM s d = some e → (d, e) ∈ s
 | (j, x) :: r, d, e, h => by
  simp only [zaM, Nat.beq_eq] at h
  split at h
  ·rename_i hd; simp only [Option.some.injEq] at h; subst h; rw [hd]; exact List.mem_cons_self ..
  ·exact List.mem_cons_of_mem _ (zfx h)
theorem zhn : ∀ {s : Own} {d : Nat} {e : OS}, look s d = some e → (d, e) ∈ s
 | (j, x) :: r, d, e, h => by
  simp only [look, Nat.beq_eq] at h
  split at h
  ·rename_i hd; simp only [Option.some.injEq] at h; subst h; rw [hd]; exact List.mem_cons_self ..
  ·exact List.mem_cons_of_mem _ (zhn h)
theorem zfB (B : Bind) : ∀ (n len k : Nat), k < len → (zdH B n len)[k]? = some ((zh8 B.vals (n + k)).getD .undef)
 | n, len + 1, 0, h => by simp [zdH]
 | n, len + 1, k + 1, h => by
  simp only [zdH, List.getElem?_cons_succ]
  rw [zfB B (n + 1) len k (by omega), show n + 1 + k = n + (k + 1) by omega]
theorem zdp (B : Bind) : ∀ (n m : Nat), (zdH B n m).length = m
 | _, 0 => rfl
 | n, m + 1 => by simp [zdH, zdp B (n + 1) m]
theorem zeh (ρ : Nat → AV) (n : Nat) (vs : List AV) : zam n ρ (zbk ρ n vs) := fun i hi => by
 unfold zbk; rw [if_neg (by omega)]
theorem zdL : ∀ {vs : List AV} {v : AV}, AV.pureAll vs = true → v ∈ vs → v.pure = true
 | x :: xs, v, h, hv => by
  simp only [AV.pureAll, Bool.and_eq_true] at h
  rcases List.mem_cons.1 hv with rfl | hv
  ·exact h.1
  ·exact zdL h.2 hv
theorem ziE {ρ : Nat → AV} (hρ : ∀ i, (ρ i).pure = true) (n : Nat) {vs : List AV} (hv : AV.pureAll vs = true) : ∀ i, (zbk ρ n vs i).pure = true := by
 intro i
 unfold zbk
 split
 ·rename_i h
  have hl : i - n < vs.length := by omega
  rw [List.getD_eq_getElem?_getD, List.getElem?_eq_getElem hl]
  exact zdL hv (List.getElem_mem hl)
 ·exact hρ i
theorem zbL {id0 : Nat} {hdr : St} : ∀ {rows : List (Nat × Option Nat)} {i p : Nat}, zbl id0 hdr rows = true → zct rows i = some (some p) → p < id0 → look hdr.own p = none ∨ look hdr.own p = some .gone
 | (k, some j) :: r, i, p, h, hf, hp => by
  simp only [zbl, Bool.and_eq_true] at h
  simp only [zct, Nat.beq_eq] at hf
  split at hf
  ·simp only [Option.some.injEq] at hf; subst hf
   have := h.1.1
   simp only [Bool.or_eq_true, decide_eq_true_eq] at this
   rcases this with h1 | this
   ·omega
   ·split at this
    ·rename_i hl; exact .inl hl
    ·rename_i hl; exact .inr hl
    ·cases this
  ·exact zbL h.2 hf hp
 | (k, none) :: r, i, p, h, hf, hp => by
  simp only [zbl] at h
  simp only [zct, Nat.beq_eq] at hf
  split at hf
  ·simp at hf
  ·exact zbL h hf hp
theorem zh7 : ∀ {rows : List (Nat × Option Nat)} {i : Nat} {p : Option Nat}, zct rows i = some p → (i, p) ∈ rows
 | (k, x) :: r, i, p, hf => by
  simp only [zct, Nat.beq_eq] at hf
  split at hf
  ·rename_i hk; simp only [Option.some.injEq] at hf; subst hf; rw [hk]; exact List.mem_cons_self ..
  ·exact List.mem_cons_of_mem _ (zh7 hf)
theorem zeg {id0 : Nat} {hdr : St} : ∀ {rows : List (Nat × Option Nat)} {i j p : Nat}, zbl id0 hdr rows = true → zct rows i = some (some p) → zct rows j = some (some p) → i = j
 | (k, x) :: r, i, j, p, h, hi, hj => by
  have hrest : zbl id0 hdr r = true := by
   cases x with
   | none => exact h
   | some y => simp only [zbl, Bool.and_eq_true] at h; exact h.2
  have hno : x = some p → ∀ i, zct r i ≠ some (some p) := by
   rintro rfl i hf
   simp only [zbl, Bool.and_eq_true, Bool.not_eq_true', List.any_eq_false] at h
   have := h.1.2 _ (zh7 hf)
   simp at this
  simp only [zct, Nat.beq_eq] at hi hj
  split at hi
  ·rename_i h1
   simp only [Option.some.injEq] at hi
   split at hj
   ·rename_i h2; rw [h1, h2]
   ·exact absurd hj (hno hi j)
  ·split at hj
   ·simp only [Option.some.injEq] at hj
    exact absurd hi (hno hj i)
   ·exact zeg hrest hi hj
structure FitCx (n0e id0 : Nat) (D0 : Nat → Bool) (B : Bind) (hn : Nat) (c : Cx) (ρ : Nat → AV) (c' : Cx) (ρ' : Nat → AV) : Prop where
 pure : ∀ i, (ρ' i).pure = true
 le : c.Le c'
 keeps : c.Keeps D0 c'
 agree : zam n0e ρ ρ'
 val : ∀ k v, n0e ≤ k → k < hn → zh8 B.vals k = some v → ρ' k = den ρ v
 row : ∀ r, id0 ≤ r → match zct B.rows r with
  | some (some j) => c'.h r = c.h j
  | some none => c'.h r = .slice none 0 0
  | none => True
theorem zhP {n0e id0 : Nat} {D0 : Nat → Bool} {B : Bind} {hn : Nat} (hc : FitCx n0e id0 D0 B hn c ρ c' ρ') {DH : Nat → Bool} : ∀ {eH e : SE} {v : Value}, agr n0e id0 D0 B eH e = true → eH.wf hn DH = true → Rv c (den ρ e) v → Rv c' (den ρ' eH) v := by
 intro eH e v h hw hr
 have dflt : ∀ {eH e : SE}, (SE.beq eH e && eH.wf n0e D0) = true → Rv c (den ρ e) v → Rv c' (den ρ' eH) v := by
  intro eH e h hr
  simp only [Bool.and_eq_true] at h
  have he := SE.beq_eq _ _ h.1
  subst he
  rw [zat hc.agree _ h.2]
  have hρ : (den ρ eH).under D0 = true := by
   have := zbb hc.pure _ h.2
   rwa [zat hc.agree _ h.2] at this
  exact zch hc.keeps hr hρ
 unfold agr at h
 split at h
 ·rename_i k
  split at h
  ·rename_i hk
   split at h
   ·rename_i x hx
    have hlt : k < hn := by simpa [SE.wf] using hw
    have hv := hc.val k x hk hlt hx
    simp only [den]
    have hxe := SE.beq_eq _ _ h
    rw [hv, hxe]
    have hp : (den ρ e.weak).pure = true := by rw [← hxe, ← hv]; exact hc.pure k
    exact zgX hc.le (zbJ e hr) hp
   ·cases h
  ·rename_i hk
   rw [← SE.beq_eq _ _ h] at hr
   simp only [den] at hr ⊢
   have := hc.agree k (by omega)
   rw [this]
   refine zgX hc.le hr ?_
   rw [← this]; exact hc.pure k
 ·rename_i r
  split at h
  ·rename_i hrid
   have hrow := hc.row r hrid
   split at h
   ·rename_i j hj
    rw [hj] at hrow
    rw [SE.beq_eq _ _ h] at hr
    simp only [den] at hr ⊢
    cases hr with
    | row _ aa n cap hh => exact .row r aa n cap (hrow.trans hh)
   ·rename_i hj
    rw [hj] at hrow
    rw [SE.beq_eq _ _ h] at hr
    simp only [den] at hr ⊢
    cases hr
    exact .row r none 0 0 hrow
   ·cases h
  ·simp only [Bool.and_eq_true] at h
   exact dflt (by simp only [Bool.and_eq_true]; exact ⟨h.1, h.2⟩) hr
 ·exact dflt h hr
theorem zgi {n0e id0 : Nat} {D0 : Nat → Bool} {B : Bind} {hn : Nat} (hc : FitCx n0e id0 D0 B hn c ρ c' ρ') {DH : Nat → Bool} : ∀ {eH e : List SE} {v : List Value}, agrs n0e id0 D0 B eH e = true → SE.wfs hn DH eH = true → Rvs c (dens ρ e) v → Rvs c' (dens ρ' eH) v
 | [], [], v, _, _, hr => by cases hr; exact .nil
 | x :: xs, y :: ys, v, h, hw, hr => by
  simp only [agrs, Bool.and_eq_true] at h
  simp only [SE.wfs, Bool.and_eq_true] at hw
  cases hr with
  | cons _ v _ vs h1 h2 => exact .cons _ _ _ _ (zhP hc h.1 hw.1 h1) (zgi hc h.2 hw.2 h2)
 | [], _ :: _, _, h, _, _ => by simp [agrs] at h
 | _ :: _, [], _, h, _, _ => by simp [agrs] at h
theorem zcO {n0e id0 : Nat} {D0 : Nat → Bool} {B : Bind} {hn : Nat} (hc : FitCx n0e id0 D0 B hn c ρ c' ρ') {DH : Nat → Bool} {eH e : SE} (h : zhO n0e D0 B eH e = true) (hw : eH.wf hn DH = true) : den ρ' eH = den ρ e ∧ (den ρ' eH).under D0 = true := by
 unfold zhO at h
 split at h
 ·rename_i k
  split at h
  ·rename_i hk
   split at h
   ·rename_i x hx
    have hlt : k < hn := by simpa [SE.wf] using hw
    have hv := hc.val k x hk hlt hx
    refine ⟨by simp only [den]; rw [hv, SE.beq_eq _ _ h], ?_⟩
    exact zbb hc.pure (n := k + 1) _ (by simp [SE.wf])
   ·cases h
  ·rename_i hk
   rw [← SE.beq_eq _ _ h]
   exact ⟨by simp only [den]; exact hc.agree k (by omega), zbb hc.pure (n := k + 1) _ (by simp [SE.wf])⟩
 ·simp only [Bool.and_eq_true] at h
  rw [← SE.beq_eq _ _ h.1]
  exact ⟨zat hc.agree _ h.2, zbb hc.pure _ h.2⟩
theorem zc9 (hE : EnvOk E) {st0 : St} {c0 : Cx} {ρ0 : Nat → AV} (hρ0 : ∀ i, (ρ0 i).pure = true) (hY0 : zbK Y c0 ρ0 st0.nenv st0.D) {h : Hint} {vals : List SE} (hf : fits st0.nenv st0.nid st0.own h st = some vals)
  (hx : Ext c0 ρ0 st0.nenv st0.D c ρ st.nenv st.D) (hm : MatchSt E.G n0 w0 Y c ρ st a w) :
  vals.length = h.len ∧ AV.pureAll (dens ρ vals) = true ∧ ∃ c', MatchSt E.G n0 w0 Y c' (zbk ρ0 st0.nenv (dens ρ vals)) h.hdr a w ∧ Ext c0 ρ0 st0.nenv st0.D c' (zbk ρ0 st0.nenv (dens ρ vals)) h.hdr.nenv h.hdr.D := by
 unfold fits at hf
 simp only at hf
 split at hf
 case isFalse => cases hf
 rename_i hcond
 obtain ⟨k1, k2, k3, k4, k5, k6, k7, k8, km1, km2, k9, k10⟩ := hcond
 simp only [Option.some.injEq] at hf
 generalize zof st0.nenv st0.nid h.hdr st = B at *
 have hlen : vals.length = h.len := by rw [← hf]; exact zdp ..
 have hpure : AV.pureAll (dens ρ vals) = true := by rw [← hf]; exact SE.noOwns_pure hm.mem.pure _ k6
 refine ⟨hlen, hpure, ?_⟩
 have hdlt : ∀ i, st0.D i = true → i < st0.nid ∧ h.hdr.D i = true := by
  intro i hi
  unfold St.D Lk.dom at hi
  obtain ⟨o, ho⟩ := Option.isSome_iff_exists.1 hi
  have := List.all_eq_true.1 k1 _ (zhn ho)
  simp only [Bool.and_eq_true, decide_eq_true_eq] at this
  exact ⟨this.1, this.2⟩
 let ρ' := zbk ρ0 st0.nenv (dens ρ vals)
 obtain ⟨FB, hFB⟩ : ∃ FB : List Nat, FB = (if h.hdr.marks = st.marks then [] else (st.marks.filter fun i => !Nat.beq i zal).map c.β) := ⟨_, rfl⟩
 have hforg : h.hdr.marks ≠ st.marks → h.hdr.marks = [zal] ∧ st.marks.Nodup ∧ ∀ i ∈ st.marks, i ≠ zal → look st.own i = some .dfr ∧ (look h.hdr.own i = none ∨ look h.hdr.own i = some .gone) := by
  intro hne
  unfold zk7 at km1
  rw [Bool.or_eq_true, decide_eq_true_eq] at km1
  have := km1.resolve_left hne
  rw [Bool.and_eq_true, Bool.and_eq_true, decide_eq_true_eq, decide_eq_true_eq] at this
  refine ⟨this.1.1, this.1.2, fun i hi hio => ?_⟩
  have h3 := List.all_eq_true.1 this.2 i hi
  rw [Bool.or_eq_true, Bool.and_eq_true] at h3
  have h4 := h3.resolve_left (fun e => hio (Nat.eq_of_beq_eq_true e))
  refine ⟨?_, ?_⟩
  ·have h5 := h4.1
   unfold zon at h5
   split at h5
   ·assumption
   ·cases h5
  ·have h5 := h4.2
   unfold isNo at h5
   split at h5
   ·exact .inl (by assumption)
   ·exact .inr (by assumption)
   ·cases h5
 have hFB2 : ∀ b ∈ FB, ∃ i ∈ st.marks, i ≠ zal ∧ b = c.β i ∧ look st.own i = some .dfr ∧ (look h.hdr.own i = none ∨ look h.hdr.own i = some .gone) := by
  intro b hb
  rw [hFB] at hb
  split at hb
  ·cases hb
  ·rename_i hne
   obtain ⟨i, hi, rfl⟩ := List.mem_map.1 hb
   obtain ⟨hi1, hi2⟩ := List.mem_filter.1 hi
   have hio : i ≠ zal := fun e => by rw [e] at hi2; simp at hi2
   obtain ⟨h3, h4⟩ := (hforg hne).2.2 i hi1 hio
   exact ⟨i, hi1, hio, rfl, h3, h4⟩
 let c' : Cx := { c with h := fun i => if st0.nid ≤ i then (match zct B.rows i with | some (some j) => c.h j | some none => .slice none 0 0 | none => c.h i) else c.h i, M := fun b => if b ∈ FB then some (.deferred (some [])) else c.M b }
 have hM' : ∀ b o, c'.M b = some o → (b ∈ FB ∧ o = .deferred (some [])) ∨ c.M b = some o := by
  intro b o hb
  have hb : (if b ∈ FB then some (.deferred (some [])) else c.M b) = some o := hb
  split at hb
  ·exact .inl ⟨by assumption, by simpa using hb.symm⟩
  ·exact .inr hb
 have hρ' : ∀ i, (ρ' i).pure = true := ziE hρ0 _ hpure
 have hag : zam st0.nenv ρ ρ' := fun i hi => by
  exact (zeh ρ0 st0.nenv _ i hi).trans (hx.agree i hi).symm
 have hle : c.Le c' := ⟨fun _ _ _ h => h, fun b o hb => by
  show (if b ∈ FB then some (.deferred (some [])) else c.M b) = some o
  split
  ·rename_i hin
   obtain ⟨i, _, _, rfl, h3, _⟩ := hFB2 b hin
   exact absurd hb ((hm.mem.disj i _ _ h3 rfl).2 o)
  ·exact hb⟩
 have hk0 : c.Keeps st0.D c' := ⟨hle, fun _ _ => rfl, fun i hi => by
  have := (hdlt i hi).1
  show (if st0.nid ≤ i then _ else c.h i) = c.h i
  rw [if_neg (by omega)], fun _ _ => rfl⟩
 have hc : FitCx st0.nenv st0.nid st0.D B h.hdr.nenv c ρ c' ρ' := by
  refine ⟨hρ', hle, hk0, hag, fun k v hk hlt hv => ?_, fun r hr => ?_⟩
  ·have hl : (dens ρ vals).length = h.len := by rw [zab]; exact hlen
   show zbk ρ0 st0.nenv (dens ρ vals) k = den ρ v
   unfold zbk
   rw [if_pos ⟨hk, by rw [hl]; omega⟩, List.getD_eq_getElem?_getD, zaq?, ← hf, zfB B st0.nenv h.len _ (by omega)]
   rw [show st0.nenv + (k - st0.nenv) = k from by omega, hv]; rfl
  ·show match zct B.rows r with
    | some (some j) => c'.h r = c.h j
    | some none => c'.h r = .slice none 0 0
    | none => True
   have : c'.h r = (match zct B.rows r with | some (some j) => c.h j | some none => .slice none 0 0 | none => c.h r) := by
    show (if st0.nid ≤ r then _ else c.h r) = _
    rw [if_pos hr]
   rw [this]
   cases zct B.rows r with
   | none => trivial
   | some x => cases x <;> rfl
 have hown : ∀ i o, look h.hdr.own i = some o → zjy st0.nenv st0.nid st0.D B st i o = true ∧ o.wf h.hdr.nenv h.hdr.D = true := fun i o hl =>
  ⟨List.all_eq_true.1 k3 _ (zhn hl), Own.wf_look k10 hl⟩
 have hlow : ∀ i, i < st0.nid → c'.h i = c.h i := fun i hi => by
  show (if st0.nid ≤ i then _ else c.h i) = c.h i
  rw [if_neg (by omega)]
 have pre : ∀ i o b, look h.hdr.own i = some o → bl c' i o = some b → ∃ p op, look st.own p = some op ∧ bl c p op = some b ∧ (i < st0.nid → p = i) ∧ (st0.nid ≤ i → zct B.rows i = some (some p)) ∧ (st0.nid ≤ i → ∃ sz e, op = .row sz e) := by
  intro i o b hl hb
  have ha := (hown i o hl).1
  unfold zjy at ha
  split at ha
  ·simp [bl] at hb
  ·rename_i sz eH
   split at ha
   ·rename_i hid
    have hr := hc.row i hid
    split at ha
    ·rename_i j hj
     rw [hj] at hr
     split at ha
     ·rename_i sz' e hlj
      refine ⟨j, _, hlj, ?_, fun h => by omega, fun _ => hj, fun _ => ⟨_, _, rfl⟩⟩
      simpa only [bl, hr] using hb
     ·cases ha
    ·rename_i hj
     rw [hj] at hr
     simp [bl, hr, zay] at hb
    ·cases ha
   ·rename_i hid
    simp only [Bool.and_eq_true] at ha
    have h2 := ha.2
    split at h2
    ·rename_i sz' e hlj
     refine ⟨i, _, hlj, ?_, fun _ => rfl, fun h => by omega, fun h => by omega⟩
     simpa only [bl, hlow i (by omega)] using hb
    ·cases h2
  ·rename_i cs
   simp only [Bool.and_eq_true, decide_eq_true_eq] at ha
   have h2 := ha.2
   split at h2
   ·rename_i cs' hlj
    exact ⟨i, _, hlj, hb, fun _ => rfl, fun h => by omega, fun h => by omega⟩
   ·cases h2
  ·simp only [Bool.and_eq_true, decide_eq_true_eq] at ha
   have h2 := ha.2
   split at h2
   ·rename_i o' hlj
    rw [← OS.beq_eq _ _ h2] at hlj
    refine ⟨i, _, hlj, ?_, fun _ => rfl, fun h => by omega, fun h => by omega⟩
    rw [← hb]
    cases o <;> first | rfl | simp only [bl, hlow i ha.1.1.1]
   ·cases h2
 have hExt : Ext c0 ρ0 st0.nenv st0.D c' ρ' h.hdr.nenv h.hdr.D := ⟨hx.keeps.trans (hk0.mono fun i hi => hi), zeh _ _ _, by rw [k7]; omega, fun i hi => (hdlt i hi).2⟩
 have himm : Imm c' w := ⟨hm.mem.imm.I, fun b o hb => by
  rcases hM' b o hb with ⟨h1, rfl⟩ | h1
  ·obtain ⟨i, _, _, rfl, h3, _⟩ := hFB2 b h1
   exact hm.mem.ok i _ h3
  ·exact hm.mem.imm.M b o h1⟩
 have himmlt : ∀ b, b ≥ w.heap.size → (∀ off v, c'.I b off ≠ some v) ∧ (∀ ob, c'.M b ≠ some ob) := fun b hb => ⟨(hm.mem.immlt b hb).1, fun ob hv => by
  rcases hM' b ob hv with ⟨h1, _⟩ | h1
  ·obtain ⟨i, _, _, rfl, h3, _⟩ := hFB2 b h1
   have := (hm.mem.fresh i _ _ h3 rfl).2
   omega
  ·exact (hm.mem.immlt b hb).2 ob h1⟩
 have hold' : ∀ b, b < n0 → (∀ off v, c'.I b off = some v → w0.I b off = some v) ∧ (∀ o, c'.M b = some o → w0.M b = some o) := fun b hb => ⟨(hm.mem.old b hb).1, fun ob hv => by
  rcases hM' b ob hv with ⟨h1, _⟩ | h1
  ·obtain ⟨i, _, _, rfl, h3, _⟩ := hFB2 b h1
   have := (hm.mem.fresh i _ _ h3 rfl).1
   omega
  ·exact (hm.mem.old b hb).2 ob h1⟩
 have hdfr : ze5 n0 c' h.hdr.marks a.defers := by
  obtain ⟨S, e1, e2, e3⟩ := hm.dfr
  by_cases heq : h.hdr.marks = st.marks
  ·refine ⟨S, ?_, ⟨e2.nodup, fun b hb => ⟨hle.M _ _ (e2.obj b hb).1, (e2.obj b hb).2⟩⟩, by rw [heq]; exact e3⟩
   rw [heq, e1]; rfl
  ·obtain ⟨f1, f2, f3⟩ := hforg heq
   refine ⟨zd9 c.β S st.marks, ?_, ⟨?_, fun b hb => ?_⟩, fun hno => absurd (by rw [f1]; exact List.mem_singleton.2 rfl) hno⟩
   ·rw [e1, zho, f1]
    show _ = List.flatMap _ [zal]
    simp
   ·refine zc1 e2.nodup f2 (fun i hi j hj hio hjo he => ?_) (fun i hi hio hS => ?_)
    ·exact hm.mem.dist i j _ _ (c.β i) (f3 i hi hio).1 (f3 j hj hjo).1 rfl (by show some (c.β j) = _; rw [he])
    ·exact absurd (e2.obj _ hS).1 ((hm.mem.disj i _ _ (f3 i hi hio).1 rfl).2 _)
   ·rcases zeB.1 hb with ⟨_, h2⟩ | ⟨i, hi, hio, rfl⟩
    ·exact ⟨hle.M _ _ (e2.obj b h2).1, (e2.obj b h2).2⟩
    ·refine ⟨?_, (hm.mem.fresh i _ _ (f3 i hi hio).1 rfl).1⟩
     show (if c.β i ∈ FB then some (.deferred (some [])) else c.M (c.β i)) = _
     rw [if_pos]
     rw [hFB, if_neg heq]
     exact List.mem_map.2 ⟨i, List.mem_filter.2 ⟨hi, by
      cases hbq : Nat.beq i zal
      ·rfl
      ·exact absurd (Nat.eq_of_beq_eq_true hbq) hio⟩, rfl⟩
 have hmdom : ∀ i ∈ h.hdr.marks, i ≠ zal → (look h.hdr.own).dom i = true := fun i hi hio => by
  have := List.all_eq_true.1 km2 i hi
  rw [Bool.or_eq_true] at this
  exact this.resolve_left (fun e => hio (Nat.eq_of_beq_eq_true e))
 refine ⟨c', ⟨⟨himm, hρ', fun i o hl => (hown i o hl).2, ?_, ?_, ?_, ?_, himmlt, hm.mem.below, hold'⟩, hm.glob.ext hE hle, hm.sz.trans k8.symm, ?_, hdfr, hmdom, hY0.keeps hExt.keeps hExt.agree hρ0 hExt.nenv hExt.dom⟩, hExt⟩
 ·intro i o hl
  obtain ⟨ha, hw⟩ := hown i o hl
  unfold zjy at ha
  split at ha
  ·trivial
  ·rename_i sz eH
   split at ha
   ·rename_i hid
    have hr := hc.row i hid
    split at ha
    ·rename_i j hj
     rw [hj] at hr
     split at ha
     ·rename_i sz' e hlj
      simp only [Bool.and_eq_true] at ha
      have hsz := Nat.eq_of_beq_eq_true ha.1
      subst hsz
      obtain ⟨xs, h1, h2⟩ := hm.mem.ok j _ hlj
      obtain ⟨d1, d2⟩ := zcO hc ha.2 hw
      refine ⟨xs, d1.trans h1, ?_⟩
      rw [hr]
      rw [d1, h1] at d2
      exact h2.keeps hk0 (by simpa [AV.under] using d2) (fun _ _ => rfl)
     ·cases ha
    ·rename_i hj
     rw [hj] at hr
     obtain ⟨d1, d2⟩ := zcO hc ha hw
     refine ⟨[], d1, ?_⟩
     rw [hr]; exact .nil
    ·cases ha
   ·rename_i hid
    simp only [Bool.and_eq_true] at ha
    have h2 := ha.2
    split at h2
    ·rename_i sz' e hlj
     simp only [Bool.and_eq_true] at h2
     have hsz := Nat.eq_of_beq_eq_true h2.1
     subst hsz
     obtain ⟨xs, h1, h3⟩ := hm.mem.ok i _ hlj
     obtain ⟨d1, d2⟩ := zcO hc h2.2 hw
     refine ⟨xs, d1.trans h1, ?_⟩
     rw [hlow i (by omega)]
     rw [d1, h1] at d2
     exact h3.keeps hk0 (by simpa [AV.under] using d2) (fun _ _ => rfl)
    ·cases h2
  ·rename_i cs
   simp only [Bool.and_eq_true, decide_eq_true_eq] at ha
   have h2 := ha.2
   split at h2
   ·rename_i cs' hlj
    obtain ⟨vs, T, h3, h4, h5⟩ := hm.mem.ok i _ hlj
    exact ⟨vs, T, h3, zgi hc h2 hw h4, by rw [hlow i ha.1.1]; exact h5⟩
   ·cases h2
  ·simp only [Bool.and_eq_true, decide_eq_true_eq] at ha
   have h2 := ha.2
   split at h2
   ·rename_i o' hlj
    rw [← OS.beq_eq _ _ h2] at hlj
    have hok := hm.mem.ok i _ hlj
    have hwo : o.wf st0.nenv st0.D = true := ha.1.2
    exact hok.keeps hk0 ha.1.1.2 hm.mem.pure hag hwo (fun _ _ => rfl)
   ·cases h2
 ·intro i j oi oj b hi hj bi bj
  obtain ⟨p, op, p1, p2, p3, p4, _⟩ := pre i oi b hi bi
  obtain ⟨q, oq, q1, q2, q3, q4, _⟩ := pre j oj b hj bj
  have hpq : p = q := hm.mem.dist p q op oq b p1 q1 p2 q2
  by_cases hi0 : i < st0.nid
  ·by_cases hj0 : j < st0.nid
   ·rw [← p3 hi0, ← q3 hj0, hpq]
   ·exfalso
    have hr := q4 (by omega)
    rw [← hpq, p3 hi0] at hr
    rcases zbL k4 hr hi0 with h1 | h1
    ·rw [hi] at h1; cases h1
    ·rw [hi] at h1; simp only [Option.some.injEq] at h1; subst h1; simp [bl] at bi
  ·by_cases hj0 : j < st0.nid
   ·exfalso
    have hr := p4 (by omega)
    rw [hpq, q3 hj0] at hr
    rcases zbL k4 hr hj0 with h1 | h1
    ·rw [hj] at h1; cases h1
    ·rw [hj] at h1; simp only [Option.some.injEq] at h1; subst h1; simp [bl] at bj
   ·have h1 := p4 (by omega)
    have h2 := q4 (by omega)
    rw [← hpq] at h2
    exact zeg k4 h1 h2
 ·intro i o b hi bi
  obtain ⟨p, op, p1, p2, _, _, _⟩ := pre i o b hi bi
  exact hm.mem.fresh p op b p1 p2
 ·intro i o b hi bi
  obtain ⟨p, op, p1, p2, p3, _, p5⟩ := pre i o b hi bi
  refine ⟨(hm.mem.disj p op b p1 p2).1, fun ob hv => ?_⟩
  rcases hM' b ob hv with ⟨h1, _⟩ | h1
  ·obtain ⟨m, _, _, hbm, h3, h4⟩ := hFB2 b h1
   have hpm : p = m := hm.mem.dist p m op _ b p1 h3 p2 (by show some (c.β m) = _; rw [hbm])
   subst hpm
   rw [p1] at h3
   simp only [Option.some.injEq] at h3
   by_cases hin : i < st0.nid
   ·have := p3 hin
    subst this
    rw [hi] at h4
    rcases h4 with h4 | h4
    ·cases h4
    ·simp only [Option.some.injEq] at h4; subst h4; simp [bl] at bi
   ·obtain ⟨sz, e, hr⟩ := p5 (by omega)
    rw [hr] at h3; cases h3
  ·exact (hm.mem.disj p op b p1 p2).2 ob h1
 ·intro d en hfe
  have h1 := List.all_eq_true.1 k2 _ (zfx hfe)
  have h2 := List.all_eq_true.1 k9 _ (zfx hfe)
  simp only [Bool.and_eq_true] at h1
  have hpn : en.pcs = [] := List.isEmpty_iff.1 h1.1
  have h3 := h1.2
  split at h3
  ·rename_i e' he'
   simp only [Bool.and_eq_true] at h3
   have hpn' : e'.pcs = [] := List.isEmpty_iff.1 h3.1
   obtain ⟨v, hv1, hv2⟩ := (hm.slots d e' he').yes (by rw [hpn']; exact Holds.nil _)
   refine ⟨fun _ => ⟨v, hv1, zhP hc h3.2 h2 hv2⟩, fun hn => absurd (by rw [hpn]; exact Holds.nil _) hn, h2, by rw [hpn]; rfl⟩
  ·cases h3
end Go.Lb
namespace Go.Lb
open Go.RowKit
variable {Y : List (Nat × Rnd)} {n0 : Nat} {w0 : Base} {c c' c2 : Cx} {ρ ρ' : Nat → AV} {st st' : St} {a : Act} {w : World} {ro : Option Nat} {E : Env}
theorem zeR (p : Nat → Prop) : (∃ n, p n) → ∃ n, p n ∧ ∀ m, p m → n ≤ m := by
 rintro ⟨n, hn⟩
 induction n using Nat.strongRecOn with
 | _ n ih =>
  by_cases h : ∃ m, m < n ∧ p m
  ·obtain ⟨m, h1, h2⟩ := h; exact ih m h1 h2
  ·exact ⟨n, hn, fun m hm => by
    by_cases hlt : m < n
    ·exact absurd ⟨m, hlt, hm⟩ h
    ·omega⟩
open Classical in
theorem ziO {F : Fence} {n : Nat} {P : Program} {Q : Exit → Act → World → Prop} {a : Act} {w : World} {cd : Code} (J : Nat → Act → World → Prop) (hs : ∃ j, J j a w)
  (round : ∀ j a w, J j a w → cd.wpIn F n P (Exit.then (fun a' w' => ∃ j', j' < j ∧ J j' a' w') Q) a w) : (Code.loop cd).wpIn F n P Q a w := by
 let μ : Act → World → Nat := fun a w => if h : ∃ j, J j a w then Classical.choose (zeR _ h) else 0
 have hμ : ∀ a w, (∃ j, J j a w) → J (μ a w) a w ∧ ∀ m, J m a w → μ a w ≤ m := by
  intro a w h
  have := Classical.choose_spec (zeR _ h)
  simp only [μ, dif_pos h]; exact this
 refine wpIn_loop (fun a w => ∃ j, J j a w) μ hs fun a w hI => ?_
 refine wpIn_mono (round (μ a w) a w (hμ a w hI).1) fun e a' w' hq => ?_
 cases e with
 | normal =>
  obtain ⟨j', h1, h2⟩ := hq
  exact ⟨⟨j', h2⟩, Nat.lt_of_le_of_lt ((hμ a' w' ⟨j', h2⟩).2 j' h2) h1⟩
 | _ => exact hq
def zgO (c : Code) (Q : Exit → Act → World → Prop) (X : Code → Act → World → Prop) : Exit → Act → World → Prop := fun e a w => match e with
  | .goto l => match findLabel c l with
   | some rest => X rest a w
   | none => Q (.goto l) a w
  | e => Q e a w
def zdU (F : Fence) (n : Nat) (P : Program) (c : Code) (Q : Exit → Act → World → Prop) (code : Code) (a : Act) (w : World) : Prop :=
 ∀ X : Code → Act → World → Prop, (∀ code a w, code.wpIn F n P (zgO c Q X) a w → X code a w) → X code a w
theorem zjm {c : Code} {Q : Exit → Act → World → Prop} {X Y : Code → Act → World → Prop} (h : ∀ code a w, X code a w → Y code a w) {e : Exit} {a : Act} {w : World} (hs : zgO c Q X e a w) : zgO c Q Y e a w := by
 unfold zgO at hs ⊢
 cases e with
 | goto l =>
  simp only at hs ⊢
  split at hs
  ·exact h _ _ _ hs
  ·exact hs
 | _ => exact hs
theorem ziP {F : Fence} {n : Nat} {P : Program} {c : Code} {Q : Exit → Act → World → Prop} {code : Code} {a : Act} {w : World} (h : code.wpIn F n P (zgO c Q (zdU F n P c Q)) a w) : zdU F n P c Q code a w :=
 fun X hX => hX code a w (wpIn_mono h fun _ _ _ hs => zjm (fun _ _ _ hx => hx X hX) hs)
theorem zjp {P : Program} {b : Frame} {a : Act} {k : List Item} {cs : List Frame} {w : World} {c : Code} : step P (lone (b.atR a (.code (.scope c) :: k)) cs w) = .next (lone (b.atR a (.code c :: .inScope c :: k)) cs w) :=
 step_lone_go (by simp [stepG, stepG.exec, Frame.atR])
theorem zhE {P : Program} {b : Frame} {a : Act} {k : List Item} {cs : List Frame} {w : World} {c : Code} : step P (lone (b.atR a (.inScope c :: k)) cs w) = .next (lone (b.atR a k) cs w) :=
 step_lone_go (by simp [stepG, stepG.exec, Frame.atR])
theorem zkC {F : Fence} {n : Nat} {P : Program} {Q : Exit → Act → World → Prop} {a : Act} {w : World} {c : Code} (h : zdU F n P c Q c a w) : (Code.scope c).wpIn F n P Q a w := by
 intro b k cs hro hb hr
 have key := h (fun code a w => ∃ e a' w', Q e a' w' ∧ ArrivesIn (Machine.fenced P F) P (lone (b.atR a (.code code :: .inScope c :: k)) cs w) b k cs e a' w') (by
  intro code a w h
  obtain ⟨e, a₁, w₁, hq, harr⟩ := h b (.inScope c :: k) cs hro hb hr
  cases e with
  | normal => exact ⟨.normal, a₁, w₁, hq, StepsIn.trans harr (.one (fenced_calm hb hr rfl) zhE)⟩
  | exit id =>
   have hx : exitTo id (.inScope c :: k) = exitTo id k := by simp [exitTo]
   exact ⟨.exit id, a₁, w₁, hq, fun k' hk => harr.1 k' (by rw [hx]; exact hk), fun hr' hk => harr.2 hr' (by rw [hx]; exact hk)⟩
  | goto l =>
   simp only [zgO] at hq
   split at hq
   ·rename_i rest hl
    have hg : gotoIn l (.inScope c :: k) = some (.code rest :: .inScope c :: k) := by simp [gotoIn, hl]
    obtain ⟨e₂, a₂, w₂, hq₂, harr₂⟩ := hq
    exact ⟨e₂, a₂, w₂, hq₂, .of_steps (harr.1 _ hg) harr₂⟩
   ·rename_i hl
    have hx : gotoIn l (.inScope c :: k) = gotoIn l k := by simp [gotoIn, hl]
    exact ⟨.goto l, a₁, w₁, hq, fun k' hk => harr.1 k' (by rw [hx]; exact hk), fun hr' hk => harr.2 hr' (by rw [hx]; exact hk)⟩
  | ret => exact ⟨_, a₁, w₁, hq, harr⟩
  | panic ch => exact ⟨_, a₁, w₁, hq, harr⟩
  | outgrown => exact ⟨_, a₁, w₁, hq, harr⟩)
 obtain ⟨e, a', w', hq, harr⟩ := key
 exact ⟨e, a', w', hq, .of_steps (.one (fenced_calm hb hr rfl) zjp) harr⟩
theorem zb3 {fn key n0 id0 : Nat} {own0 : Own} {st : St} : ∀ {hs : List Hint} {h : Hint} {v : List SE}, zde fn key n0 id0 own0 st hs = some (h, v) → fits n0 id0 own0 h st = some v
 | x :: hs, h, v, hp => by
  simp only [zde] at hp
  split at hp
  ·split at hp
   ·rename_i hf
    simp only [Option.some.injEq, Prod.mk.injEq] at hp
    obtain ⟨rfl, rfl⟩ := hp
    exact hf
   ·exact zb3 hp
  ·exact zb3 hp
def zl1 (E : Env) (R : AV → Prop) (n0 : Nat) (w0 : Base) (Y : List (Nat × Rnd)) (F : Fence) (n : Nat) (fn : Nat) (cd : Code) (Q : Exit → Act → World → Prop) (act : List (Nat × GLp)) (d : Nat) (Lp : Nat → List AV → Prop) (c : Cx) (ρ : Nat → AV) (nenv : Nat) (D : Nat → Bool) : Prop :=
 ∀ l g rest, zh5 l act = some g → findLabel cd l = some rest → ∀ d', d ≤ d' → KOk E R n0 w0 Y d Lp c ρ nenv D (ziT fn l d' g) (zdU F n E.P cd Q rest)
theorem zl1.mono {R : AV → Prop} {F : Fence} {n fn : Nat} {cd : Code} {Q : Exit → Act → World → Prop} {act : List (Nat × GLp)} {d d2 : Nat} {Lp Lp' : Nat → List AV → Prop} {nenv nenv' : Nat} {D D' : Nat → Bool}
  (h : zl1 E R n0 w0 Y F n fn cd Q act d Lp c ρ nenv D) (hd : d ≤ d2) (hx : Ext c ρ nenv D c' ρ' nenv' D') (hL : ∀ j, j < d → Lp' j = Lp j) : zl1 E R n0 w0 Y F n fn cd Q act d2 Lp' c' ρ' nenv' D' :=
 fun l g rest h1 h2 d' h3 st1 c1 ρ1 Lp1 a1 w1 q1 q2 q3 q4 => h l g rest h1 h2 d' (by omega) st1 c1 ρ1 Lp1 a1 w1 (hx.trans q1) q2 (fun j hj => (q3 j (by omega)).trans (hL j hj)) q4
theorem zdl.deeper {R : AV → Prop} {d d2 : Nat} {Lp : Nat → List AV → Prop} {nenv : Nat} {D : Nat → Bool} {k : Kont} {Q : Exit → Act → World → Prop} (h : zdl E R n0 w0 Y d Lp c ρ nenv D k Q) (hd : d ≤ d2) : zdl E R n0 w0 Y d2 Lp c ρ nenv D k Q :=
 fun ke st1 c1 ρ1 Lp1 a1 w1 q1 q2 q3 q4 => h ke st1 c1 ρ1 Lp1 a1 w1 q1 q2 (fun j hj => q3 j (by omega)) q4
theorem zc6 (hE : EnvOk E) {R : AV → Prop} {fn : Nat} {run : Nat → Code → St → Kont → RT} (hrun : ∀ (d : Nat) (code : Code) (st : St) (k : Kont) (n : Nat) (Q : Exit → Act → World → Prop) (c : Cx) (ρ : Nat → AV) (Lp : Nat → List AV → Prop) (a : Act) (w : World),
  MatchSt E.G n0 w0 Y c ρ st a w → zdl E R n0 w0 Y d Lp c ρ st.nenv st.D k Q → RTwp E.P E.G R (run d code st k) Lp ρ → code.wpIn (FW ro) n E.P Q a w) {cd : Code} {n : Nat} {Q : Exit → Act → World → Prop} : ∀ (m d : Nat) (act : List (Nat × GLp)) (code : Code) (st : St) (k : Kont) (c : Cx) (ρ : Nat → AV) (Lp : Nat → List AV → Prop) (a : Act) (w : World),
  MatchSt E.G n0 w0 Y c ρ st a w → zdl E R n0 w0 Y d Lp c ρ st.nenv st.D k Q → zl1 E R n0 w0 Y (FW ro) n fn cd Q act d Lp c ρ st.nenv st.D → RTwp E.P E.G R (ziA E.hints fn run cd m d act code st k) Lp ρ → zdU (FW ro) n E.P cd Q code a w
 | 0, d, act, code, st, k, c, ρ, Lp, a, w, _, _, _, h => h.elim
 | m + 1, d, act, code, st, k, c, ρ, Lp, a, w, hm, hk, hact, h => by
  simp only [ziA] at h
  refine ziP (hrun d code st _ n _ c ρ Lp a w hm ?_ h)
  intro ke st1 c1 ρ1 Lp1 a1 w1 hx hm1 hL hr
  cases ke with
  | goto l =>
   show match findLabel cd l with
    | some rest => zdU (FW ro) n E.P cd Q rest a1 w1
    | none => Q (.goto l) a1 w1
   simp only at hr
   split at hr
   ·rename_i rest hl
    simp only [hl]
    split at hr
    ·rename_i g hg
     exact hact l g rest hg hl d (Nat.le_refl _) st1 c1 ρ1 Lp1 a1 w1 hx hm1 hL hr
    ·rename_i hg
     split at hr
     ·split at hr
      ·exact hr.elim
      ·rename_i hint init hpick
       have hf := zb3 hpick
       simp only [RTwp] at hr
       obtain ⟨I, μ, hI, hround⟩ := hr
       obtain ⟨l0, p0, c0, m0, x0⟩ := zc9 hE hm1.mem.pure hm1.rnds hf (Ext.refl _ _ _ _) hm1
       have key : ∀ (j : Nat) (c2 : Cx) (vs : List AV) (a2 : Act) (w2 : World), vs.length = init.length → AV.pureAll vs = true → I vs → μ vs = j → MatchSt E.G n0 w0 Y c2 (zbk ρ1 st1.nenv vs) hint.hdr a2 w2 → Ext c1 ρ1 st1.nenv st1.D c2 (zbk ρ1 st1.nenv vs) hint.hdr.nenv hint.hdr.D → zdU (FW ro) n E.P cd Q rest a2 w2 := by
        intro j
        induction j using Nat.strongRecOn with
        | _ j ihj =>
         intro c2 vs a2 w2 hlen hp hIv hμ hm2 hx2
         have hb := hround vs hlen hp hIv
         refine zc6 hE hrun m (d + 1) _ rest hint.hdr k c2 _ _ a2 w2 hm2 ?_ ?_ hb
         ·exact (hk.mono (hx.trans hx2) (fun j hj => by
           have := hL j hj
           funext us
           simp only [if_neg (show j ≠ d from by omega), this])).deeper (Nat.le_succ d)
         ·intro l' g' rest' hg' hl' d' hd' st3 c3 ρ3 Lp3 a3 w3 q1 q2 q3 q4
          simp only [zh5] at hg'
          split at hg'
          ·rename_i hll
           have hll := Nat.eq_of_beq_eq_true hll
           subst hll
           simp only [Option.some.injEq] at hg'
           subst hg'
           rw [hl] at hl'
           simp only [Option.some.injEq] at hl'
           subst hl'
           unfold ziT at q4
           split at q4
           ·rename_i vals hf3
            simp only [RTwp] at q4
            rw [q3 d (by omega)] at q4
            simp only [if_true] at q4
            obtain ⟨l3, p3, c4, m4, x4⟩ := zc9 hE hm1.mem.pure hm1.rnds hf3 (hx2.trans q1) q2
            exact ihj _ (by rw [← hμ]; exact q4.2) c4 _ a3 w3 (by rw [zab, l3, l0]) p3 q4.1 rfl m4 x4
           ·exact q4.elim
          ·exact hact l' g' rest' hg' hl' d' (by omega) st3 c3 ρ3 Lp3 a3 w3 (hx.trans (hx2.trans q1)) q2 (fun j hj => by
            rw [q3 j (by omega)]
            have := hL j hj
            funext us
            simp only [if_neg (show j ≠ d from by omega), this]) q4
       exact key _ c0 _ a1 w1 (zab _ _) p0 hI rfl m0 x0
     ·exact zc6 hE hrun m d act rest st1 k c1 ρ1 Lp1 a1 w1 hm1 (hk.mono hx hL) (hact.mono (Nat.le_refl _) hx hL) hr
   ·rename_i hl
    simp only [hl]
    exact hk (.goto l) st1 c1 ρ1 Lp1 a1 w1 hx hm1 hL hr
  | normal => exact hk .normal st1 c1 ρ1 Lp1 a1 w1 hx hm1 hL hr
  | exit id => exact hk (.exit id) st1 c1 ρ1 Lp1 a1 w1 hx hm1 hL hr
  | ret => exact hk .ret st1 c1 ρ1 Lp1 a1 w1 hx hm1 hL hr
theorem ze9 {st : St} {g : Operand} {fid : Nat} {f : Func} {cd : Code} {fs cs : List SE} (h : zdM E st g = some (fid, f, cd, fs, cs)) :
  evS E.G st.slots [] g = some (.clo fid fs cs) ∧ zbE E.P fid = true ∧ E.P.funcs[fid]? = some f ∧ f.body = some cd := by
 unfold zdM at h
 split at h
 ·rename_i fid' fs' cs' h1
  split at h
  ·rename_i h2
   split at h
   ·rename_i fn h3
    split at h
    ·rename_i c h4
     simp only [Option.some.injEq, Prod.mk.injEq] at h
     obtain ⟨rfl, rfl, rfl, rfl, rfl⟩ := h
     exact ⟨h1, h2, h3, h4⟩
    ·cases h
   ·cases h
  ·cases h
 ·cases h
theorem zi7 {Y : List (Nat × Rnd)} {fn : FuncId} {ps : Array Tmp} {assign body : Code} (hE : EnvOk E) (h0 : n0 ≤ w0.w.heap.size) (hm : MatchSt E.G n0 w0 Y c ρ st a w) (h1 : look st.own st.nid = none) (h2 : look st.own (st.nid + 1) = none) (fnum : Nat) :
  ∃ c', c.Keeps st.D c' ∧ c'.β st.nid = w.heap.size ∧ c'.β (st.nid + 1) = w.heap.size + 1 ∧
   Mem n0 w0 c' ρ (look (zah (zah st.own st.nid .dfr) (st.nid + 1) (.loop .ready))) st.nenv ((w.alloc (.deferred (some []))).alloc (.loop { state := .ready, pending := none, fn, tmps := a.tmps, params := ps, assign, body, defers := w.heap.size })) ∧
   zbD E.G c' ∧ zbK ((st.nid + 1, ⟨fnum, st.sz, st.slots, ps.toList, assign, body⟩) :: Y) c' ρ st.nenv (look (zah (zah st.own st.nid .dfr) (st.nid + 1) (.loop .ready))).dom := by
 let rec0 : Loop := { state := .ready, pending := none, fn, tmps := a.tmps, params := ps, assign, body, defers := w.heap.size }
 have hn0 := hm.mem.hn0 h0
 let c1 := c.setβ st.nid w.heap.size
 have k1 : c.Keeps st.D c1 := Cx.setβ_keeps c h1
 have m1 : Mem n0 w0 c1 ρ ((look st.own).upd st.nid .dfr) st.nenv (w.alloc (.deferred (some []))) := by
  refine hm.mem.new _ st.nid h1 .dfr k1 rfl rfl rfl ?_ ?_ hn0
  ·show (w.alloc _).heap[c1.β st.nid]? = _
   rw [show c1.β st.nid = w.heap.size from by simp [c1, Cx.setβ]]; exact World.alloc_heap_new _ _
  ·intro b hb
   simp only [bl, Option.some.injEq] at hb
   rw [← hb]; simp [c1, Cx.setβ]
 have h2' : ((look st.own).upd st.nid .dfr) (st.nid + 1) = none := by rw [Lk.upd_other _ _ (by omega)]; exact h2
 let c2 := (c1.setβ (st.nid + 1) (w.heap.size + 1)).setL (st.nid + 1) rec0
 have k2 : c1.Keeps ((look st.own).upd st.nid .dfr).dom c2 := (Cx.setβ_keeps c1 h2').trans (Cx.setL_keeps _ h2')
 have m2 : Mem n0 w0 c2 ρ (((look st.own).upd st.nid .dfr).upd (st.nid + 1) (.loop .ready)) st.nenv ((w.alloc (.deferred (some []))).alloc (.loop rec0)) := by
  refine m1.new _ (st.nid + 1) h2' (.loop .ready) k2 rfl rfl rfl ?_ ?_ (by simp; omega)
  ·show ((w.alloc _).alloc _).heap[c2.β (st.nid + 1)]? = some (.loop (zbU (c2.L (st.nid + 1)) .ready))
   have e1 : c2.β (st.nid + 1) = (w.alloc (.deferred (some []))).heap.size := by simp [c2, Cx.setβ, Cx.setL]
   have e2 : c2.L (st.nid + 1) = rec0 := by simp [c2, Cx.setL]
   rw [e1, e2]; exact World.alloc_heap_new _ _
  ·intro b hb
   simp only [bl, Option.some.injEq] at hb
   rw [← hb]; simp [c2, Cx.setβ, Cx.setL]
 have hlk : look (zah (zah st.own st.nid .dfr) (st.nid + 1) (.loop .ready)) = ((look st.own).upd st.nid .dfr).upd (st.nid + 1) (.loop .ready) := by rw [zac, zac]
 have kk : c.Keeps st.D c2 := k1.trans (k2.mono fun i hi => Lk.dom_upd _ _ _ _ hi)
 have hdm : ∀ i, st.D i = true → (look (zah (zah st.own st.nid .dfr) (st.nid + 1) (.loop .ready))).dom i = true := fun i hi => by rw [hlk]; exact Lk.dom_upd _ _ _ _ (Lk.dom_upd _ _ _ _ hi)
 refine ⟨c2, kk, ?_, ?_, by rw [hlk]; exact m2, hm.glob.ext hE kk.toLe, ?_⟩
 ·simp [c2, c1, Cx.setβ, Cx.setL]
 ·simp [c2, Cx.setβ, Cx.setL]
 ·intro i r hf
  simp only [zi9, Nat.beq_eq] at hf
  split at hf
  ·rename_i hi
   simp only [Option.some.injEq] at hf; subst hf; subst hi
   have e2 : c2.L (st.nid + 1) = rec0 := by simp [c2, Cx.setL]
   rw [e2]
   exact ⟨by rw [hlk]; exact Lk.dom_upd_same _ _ _, rfl, rfl, rfl, hm.sz, hm.slots.keeps kk (zam.refl _ _) hm.mem.pure (Nat.le_refl _) hdm⟩
  ·exact hm.rnds.keeps kk (zam.refl _ _) hm.mem.pure (Nat.le_refl _) hdm i r hf
theorem zmP (hE : EnvOk E) (h0 : n0 ≤ w0.w.heap.size) (hmix : E.P.follows .mixedOrders = true) {R : AV → Prop} : ∀ (fuel d : Nat) (Y : List (Nat × Rnd)), zhL E R n0 w0 Y d (fun rd fn code st k => sx E fuel d rd fn Y code st k) := by
 intro fuel
 induction fuel with
 | zero => intro d Y rd fn code st k ro n Q c ρ Lp a w _ _ _ h; exact h.elim
 | succ fuel ih =>
  intro d Y rd fn code st k ro n Q c ρ Lp a w hrd hm hk h
  have here : ∀ (ke : KE), RTwp E.P E.G R (k ke st) Lp ρ → Q ke.toExit a w := fun ke hr => hk ke st c ρ Lp a w (Ext.refl _ _ _ _) hm (fun _ _ => rfl) hr
  cases code with
  | skip => exact wpIn_skip (here .normal h)
  | label l => exact wpIn_label (here .normal h)
  | exit id => exact wpIn_exit (here (.exit id) h)
  | goto l => exact wpIn_goto (here (.goto l) h)
  | ret => exact wpIn_ret (here .ret h)
  | region id ops dr =>
   cases dr with
   | false => exact wpIn_region (zdS hE h0 (fun rd f cd st k => ih d Y rd f cd st k) _ st _ c ρ Lp a w hm (hk .normal).named h)
   | true => exact ziK hE h0 hmix (fun rd f cd st k => ih d Y rd f cd st k) hm (hk .normal).named h
  | seq x y =>
   refine wpIn_seq (ih d Y rd fn x st _ ro n _ c ρ Lp a w hrd hm ?_ h)
   intro ke st1 c1 ρ1 Lp1 a1 w1 hx hm1 hL hr
   cases ke with
   | normal => exact ih d Y rd fn y st1 k ro n Q c1 ρ1 Lp1 a1 w1 hrd hm1 (hk.mono hx hL) hr
   | exit id => exact hk (.exit id) st1 c1 ρ1 Lp1 a1 w1 hx hm1 hL hr
   | goto l => exact hk (.goto l) st1 c1 ρ1 Lp1 a1 w1 hx hm1 hL hr
   | ret => exact hk .ret st1 c1 ρ1 Lp1 a1 w1 hx hm1 hL hr
  | cond x p q =>
   simp only [sx] at h
   have hev : ∀ {e}, evS E.G st.slots [] x = some e → Rv c (den ρ e) (a.eval x) := fun hx => (zb8 hm.slots hm.glob hE.G (Holds.nil ρ) hx).1
   split at h
   ·rename_i he
    exact wpIn_cond_true (Rv.bool_inv (hev he)) (ih d Y rd fn p st k ro n Q c ρ Lp a w hrd hm hk h)
   ·rename_i he
    exact wpIn_cond_false (Rv.bool_inv (hev he)) (ih d Y rd fn q st k ro n Q c ρ Lp a w hrd hm hk h)
   ·rename_i e _ _ he
    obtain ⟨b, st1, hb, hm1, hs1, hr⟩ := zb4 hm h
    have hv := hev he
    rw [hb] at hv
    have hk1 := hk.mono (Ext.same hs1) (fun _ _ => rfl) (ρ' := ρ) (c' := c) (Lp' := Lp)
    refine wpIn_cond (Rv.bool_inv hv) ?_
    cases b
    ·exact ih d Y rd fn q st1 k ro n Q c ρ Lp a w hrd hm1 hk1 hr
    ·exact ih d Y rd fn p st1 k ro n Q c ρ Lp a w hrd hm1 hk1 hr
   ·exact h.elim
  | block id x =>
   refine wpIn_block (ih d Y rd fn x st _ ro n _ c ρ Lp a w hrd hm ?_ h)
   intro ke st1 c1 ρ1 Lp1 a1 w1 hx hm1 hL hr
   cases ke with
   | normal => exact hk .normal st1 c1 ρ1 Lp1 a1 w1 hx hm1 hL hr
   | exit j =>
    show if j = id then Q .normal a1 w1 else Q (.exit j) a1 w1
    simp only at hr
    split at hr
    ·rename_i hj; rw [if_pos hj]; exact hk .normal st1 c1 ρ1 Lp1 a1 w1 hx hm1 hL hr
    ·rename_i hj; rw [if_neg hj]; exact hk (.exit j) st1 c1 ρ1 Lp1 a1 w1 hx hm1 hL hr
   | goto l => exact hk (.goto l) st1 c1 ρ1 Lp1 a1 w1 hx hm1 hL hr
   | ret => exact hk .ret st1 c1 ρ1 Lp1 a1 w1 hx hm1 hL hr
  | scope x =>
   exact zkC (zc6 hE (run := fun d x st k => sx E fuel d rd fn Y x st k) (fun d code st k n Q c ρ Lp a w hm hk h => ih d Y rd fn code st k ro n Q c ρ Lp a w hrd hm hk h) fuel d [] x st k c ρ Lp a w hm hk (fun l g rest h => (by simp [zh5] at h)) h)
  | loop x =>
   simp only [sx] at h
   split at h
   ·refine wpIn_loop_rounds (E.unr fn (zbF x)) ?_
    generalize E.unr fn (zbF x) = m at h
    clear here
    induction m generalizing st c ρ Lp a w with
    | zero => exact h.elim
    | succ m ihm =>
     refine ih d Y rd fn x st _ ro n _ c ρ Lp a w hrd hm ?_ h
     intro ke st1 c1 ρ1 Lp1 a1 w1 hx hm1 hL hr
     cases ke with
     | normal => exact ihm st1 c1 ρ1 Lp1 a1 w1 hm1 (hk.mono hx hL) hr
     | exit id => exact hk (.exit id) st1 c1 ρ1 Lp1 a1 w1 hx hm1 hL hr
     | goto l => exact hk (.goto l) st1 c1 ρ1 Lp1 a1 w1 hx hm1 hL hr
     | ret => exact hk .ret st1 c1 ρ1 Lp1 a1 w1 hx hm1 hL hr
   obtain ⟨cf, hmf, kf, f1, f2, f3, f4⟩ := zca hE.G (zlA E fn (zbF x) st) c st hm
   generalize hst2 : frz (zlA E fn (zbF x) st) st = st2 at h hmf f1 f2 f3 f4
   have hk2 : zdl E R n0 w0 Y d Lp cf ρ st2.nenv st2.D k Q := hk.mono ⟨kf.mono (fun _ _ => rfl), zam.refl _ _, by rw [f1]; exact Nat.le_refl _, fun i hi => by rw [f4]; exact hi⟩ (fun _ _ => rfl)
   clear hk here
   clear hm
   have hm := hmf
   have hk := hk2
   revert hm hk h
   generalize st2 = st
   generalize cf = c
   intro h hm hk
   split at h
   ·exact h.elim
   ·rename_i hint init hpick
    have hf := zb3 hpick
    simp only [RTwp] at h
    obtain ⟨I, μ, hI, hround⟩ := h
    obtain ⟨l0, p0, c0, m0, x0⟩ := zc9 hE hm.mem.pure hm.rnds hf (Ext.refl _ _ _ _) hm
    let J : Nat → Act → World → Prop := fun j a w => ∃ c' vs, vs.length = init.length ∧ AV.pureAll vs = true ∧ I vs ∧ μ vs = j ∧ MatchSt E.G n0 w0 Y c' (zbk ρ st.nenv vs) hint.hdr a w ∧ Ext c ρ st.nenv st.D c' (zbk ρ st.nenv vs) hint.hdr.nenv hint.hdr.D
    refine ziO J ⟨μ (dens ρ init), c0, dens ρ init, zab _ _, p0, hI, rfl, m0, x0⟩ ?_
    rintro j a1 w1 ⟨c1, vs, hl, hp, hIv, hμ, hm1, hx1⟩
    have hb := hround vs hl hp hIv
    refine ih (d + 1) Y rd fn x hint.hdr _ ro n _ c1 _ _ a1 w1 hrd hm1 ?_ hb
    intro ke st2 c2 ρ2 Lp2 a2 w2 hx2 hm2 hL2 hr
    have hxx := hx1.trans hx2
    have hLd : ∀ j, j < d → Lp2 j = Lp j := fun j hj => by
     rw [hL2 j (by omega)]
     funext us
     simp only [if_neg (show j ≠ d from by omega)]
    cases ke with
    | normal =>
     show ∃ j', j' < j ∧ J j' a2 w2
     simp only at hr
     split at hr
     ·rename_i vals hf2
      simp only [RTwp] at hr
      rw [hL2 d (by omega)] at hr
      simp only [if_true] at hr
      obtain ⟨l3, p3, c3, m3, x3⟩ := zc9 hE hm.mem.pure hm.rnds hf2 hxx hm2
      refine ⟨μ (dens ρ2 vals), by rw [← hμ]; exact hr.2, c3, dens ρ2 vals, by rw [zab, l3, l0], p3, hr.1, rfl, m3, x3⟩
     ·exact hr.elim
    | exit id => exact hk (.exit id) st2 c2 ρ2 Lp2 a2 w2 hxx hm2 hLd hr
    | goto l => exact hk (.goto l) st2 c2 ρ2 Lp2 a2 w2 hxx hm2 hLd hr
    | ret => exact hk .ret st2 c2 ρ2 Lp2 a2 w2 hxx hm2 hLd hr
  | rangeFunc g ps assign body =>
   simp only [sx] at h
   split at h
   ·exact h.elim
   rename_i hrdf
   have hro : ro = none := hrd (by cases rd with | false => rfl | true => exact absurd rfl hrdf)
   subst hro
   split at h
   case isFalse => exact h.elim
   rename_i hfresh
   simp only [Bool.and_eq_true, Option.isNone_iff_eq_none, Bool.not_eq_true'] at hfresh
   have hnold : st.nid ≠ zal := fun e => by rw [e] at hfresh; simp at hfresh
   replace hfresh := hfresh.1
   split at h
   case h_2 => exact h.elim
   rename_i fid f cd fs cs hrc
   obtain ⟨hg, hok, hfn, hbody⟩ := ze9 hrc
   have hgv := zb8 hm.slots hm.glob hE.G (Holds.nil ρ) hg
   have hgr := hgv.1
   simp only [den] at hgr
   have hfv : ∃ vf vc, a.eval g = .func (.func fid) ⟨vf⟩ ⟨vc⟩ ∧ Rvs c (dens ρ fs) vf ∧ Rvs c (dens ρ cs) vc := by
    generalize a.eval g = v at hgr
    cases hgr with
    | clo _ _ _ vf vc h1 h2 => exact ⟨vf, vc, rfl, h1, h2⟩
   obtain ⟨vf, vc, hge, r1, r2⟩ := hfv
   have hgw := hgv.2
   simp only [SE.wf, Bool.and_eq_true] at hgw
   refine wpIn_rangeFunc fun fnb _ => ?_
   obtain ⟨c1, kk, b1, b2, m1, g1, y1⟩ := zi7 (Y := Y) (fn := fnb) (ps := ps) (assign := assign) (body := body) hE h0 hm hfresh.1 hfresh.2 fn
   have hlk1 : ∀ i, st.D i = true → (look (zah (zah st.own st.nid .dfr) (st.nid + 1) (.loop .ready))).dom i = true := fun i hi => by
    rw [zac, zac]; exact Lk.dom_upd _ _ _ _ (Lk.dom_upd _ _ _ _ hi)
   have u1 := zaX hm.mem.pure fs hgw.1
   have u2 := zaX hm.mem.pure cs hgw.2
   have hargs : Rvs c1 (dens ρ (fs ++ [SE.yield (st.nid + 1)] ++ cs)) (vf ++ [.func (.yield (w.heap.size + 1)) #[] #[]] ++ vc) := by
    rw [zaE, zaE]
    refine ((za4 kk r1 u1).append ?_).append (za4 kk r2 u2)
    have := Rv.yield (c := c1) (st.nid + 1)
    rw [b2] at this
    exact .cons _ _ _ _ this .nil
   have hwf : SE.wfs st.nenv (look (zah (zah st.own st.nid .dfr) (st.nid + 1) (.loop .ready))).dom (fs ++ [SE.yield (st.nid + 1)] ++ cs) = true := by
    have hy : (look (zah (zah st.own st.nid .dfr) (st.nid + 1) (.loop .ready))).dom (st.nid + 1) = true := by rw [zac]; exact Lk.dom_upd_same _ _ _
    have hz : SE.wfs st.nenv (look (zah (zah st.own st.nid .dfr) (st.nid + 1) (.loop .ready))).dom [SE.yield (st.nid + 1)] = true := by simp only [SE.wfs, SE.wf, hy, Bool.and_self]
    rw [zcw, zcw, hz, SE.wfs_mono (Nat.le_refl _) hlk1 hgw.1, SE.wfs_mono (Nat.le_refl _) hlk1 hgw.2]; rfl
   have hcf : ∀ (args : Array Value) (w : World), (callFunc fid args).run E.P w = .ok (.enter fid args) w := fun args w => run_callFunc hok args w
   let W2 : World := (w.alloc (.deferred (some []))).alloc (.loop { state := .ready, pending := none, fn := fnb, tmps := a.tmps, params := ps, assign := assign, body := body, defers := w.heap.size })
   refine ⟨w.heap.size + 1, _, _, { target := .fn (.func fid) ⟨vc⟩, args := ⟨vf ++ [.func (.yield (w.heap.size + 1)) #[] #[]]⟩ }, W2, fid, ⟨vf ++ [.func (.yield (w.heap.size + 1)) #[] #[]] ++ vc⟩, W2, run_enterLoop_outer fnb a.tmps ps assign body, ?_, (fun _ _ => trivial), ?_, by simp, ?_⟩
   ·simp only [resolve, hge, Deferred.ofValue, Sem.run_pure]
    congr 2
    simp [Act.eval]
   ·simp only [invoke]
    rw [hcf]
    congr 2
    apply Array.ext'
    simp
   ·refine callsIn_of_wp_marks (F := FW none) hfn hbody trivial ?_
    refine ih d _ false fid cd _ _ none _ _ c1 ρ Lp _ _ (fun _ => rfl) (zeC y1 m1 g1 hargs hwf f.ntmps) ?_ h
    intro ke st1 c2 ρ2 Lp2 a2 w2 hx2 hm2 hL2 hr2
    have hx2' : Ext c1 ρ st.nenv (look (zah (zah st.own st.nid .dfr) (st.nid + 1) (.loop .ready))).dom c2 ρ2 st1.nenv st1.D := hx2
    have hxx : Ext c ρ st.nenv st.D c2 ρ2 st1.nenv st1.D := ⟨kk.trans (hx2'.keeps.mono hlk1), hx2'.agree, hx2'.nenv, fun i hi => hx2'.dom i (hlk1 i hi)⟩
    have good : ∀ (_ : RTwp E.P E.G R (match zaK st1.marks st1.own with
      | some own1 => if f.results.isEmpty = true then match zhv (look own1 (st.nid + 1)) with
       | some ke' => k ke' { st with own := zah own1 (st.nid + 1) .gone, nenv := st1.nenv, nid := st1.nid, marks := st.nid :: st.marks }
       | none => .dead 41 [] else .dead 42 []
      | none => .dead 43 []) Lp2 ρ2), LeavesInM (FW none) (n - 1) E.P f a2.tmps (rangePost (FW none) n E.P (w.heap.size + 1) Q { a with defers := [{ target := .collected w.heap.size, args := #[] }] ++ a.defers }) a2.defers .returning w2 := by
     intro hr
     split at hr
     case h_2 => exact hr.elim
     rename_i own1 hlv
     obtain ⟨_, hdf, _, _⟩ := hm2.dfr
     rw [hdf, zdK (zdI hlv)]
     refine zdJ st1.marks st1.own own1 w2 hlv hm2.mem (fun w3 hmem3 => ?_)
     split at hr
     case isFalse => exact hr.elim
     rename_i hres
     refine ⟨.tuple #[], ?_, ?_⟩
     ·have : f.results = #[] := by simpa using hres
      exact results_none this a2.tmps E.P w3
     split at hr
     case h_2 => exact hr.elim
     rename_i ke' hend
     have hdl : (look (zah (zah st.own st.nid .dfr) (st.nid + 1) (.loop .ready))).dom (st.nid + 1) = true := by rw [zac]; exact Lk.dom_upd_same _ _ _
     have hdd : (look (zah (zah st.own st.nid .dfr) (st.nid + 1) (.loop .ready))).dom st.nid = true := by rw [zac, zac]; exact Lk.dom_upd _ _ _ _ (Lk.dom_upd_same _ _ _)
     have eβ : c2.β (st.nid + 1) = w.heap.size + 1 := (hx2'.keeps.β _ hdl).trans b2
     have eβd : c2.β st.nid = w.heap.size := (hx2'.keeps.β _ hdd).trans b1
     have fin : ∀ (s : LSt), look own1 (st.nid + 1) = some (.loop s) → s ≠ .busy → ∃ w4, (Instr.endLoop (w.heap.size + 1)).run E.P w3 = .ok (zbU (c2.L (st.nid + 1)) s).pending w4 ∧ Q ke'.toExit { a with defers := [{ target := .collected w.heap.size, args := #[] }] ++ a.defers } w4 := by
      intro s hls hsb
      have hb3 : w3.heap[w.heap.size + 1]? = some (.loop (zbU (c2.L (st.nid + 1)) s)) := by
       have := hmem3.ok _ _ hls
       rw [← eβ]; exact this
      refine ⟨_, run_endLoop hb3 (by cases s <;> first | exact absurd rfl hsb | (simp [zbU])), ?_⟩
      have hmem4 : Mem n0 w0 c2 ρ2 (look (zah own1 (st.nid + 1) .gone)) st1.nenv (w3.putObj (w.heap.size + 1) (.loop { zbU (c2.L (st.nid + 1)) s with state := .exhausted })) := by
       rw [zac]
       exact hmem3.dropTurn hls rfl (fun k hk => World.putObj_heap_other (by rw [← eβ]; exact hk)) World.putObj_size rfl rfl rfl
      have hdm := zcj hlv
      have hD4 : ∀ i, st1.D i = true → (look (zah own1 (st.nid + 1) .gone)).dom i = true := fun i hi => by rw [zac]; exact Lk.dom_upd _ _ _ _ (hdm i hi)
      have hx4 : Ext c ρ st.nenv st.D c2 ρ2 st1.nenv (look (zah own1 (st.nid + 1) .gone)).dom := ⟨hxx.keeps, hxx.agree, hxx.nenv, fun i hi => hD4 i (hxx.dom i hi)⟩
      refine hk ke' { st with own := zah own1 (st.nid + 1) .gone, nenv := st1.nenv, nid := st1.nid, marks := st.nid :: st.marks } c2 ρ2 Lp2 _ _ hx4 ⟨hmem4, hm2.glob, hm.sz, hm.slots.keeps hx4.keeps hx4.agree hm.mem.pure hx4.nenv hx4.dom, ?_, ?_, hm.rnds.keeps hx4.keeps hx4.agree hm.mem.pure hx4.nenv hx4.dom⟩ hL2 hr
      ·show ze5 n0 c2 (st.nid :: st.marks) ([{ target := .collected w.heap.size, args := #[] }] ++ a.defers)
       obtain ⟨S, e1, e2, e3⟩ := hm.dfr.keeps hm.mdom hx4.keeps
       refine ⟨S, ?_, e2, fun hno => e3 (fun hin => hno (List.mem_cons_of_mem _ hin))⟩
       rw [e1]
       show _ = (if st.nid = zal then S.map coll else [zil c2 st.nid]) ++ zeX c2 S st.marks
       rw [if_neg hnold]
       simp [zil, eβd]
      ·intro i hi hne
       rcases List.mem_cons.1 hi with rfl | hi
       ·exact hD4 _ (hx2'.dom _ hdd)
       ·exact hx4.dom i (hm.mdom i hi hne)
     unfold zhv at hend
     split at hend
     ·rename_i hls
      cases hend
      obtain ⟨w4, q1, q2⟩ := fin _ hls (by simp)
      exact ⟨none, w4, q1, q2⟩
     ·rename_i hls
      cases hend
      obtain ⟨w4, q1, q2⟩ := fin _ hls (by simp)
      exact ⟨some .ret, w4, q1, wpIn_ret q2⟩
     ·rename_i j hls
      cases hend
      obtain ⟨w4, q1, q2⟩ := fin _ hls (by simp)
      exact ⟨some (.exit j), w4, q1, wpIn_exit q2⟩
     ·rename_i l hls
      cases hend
      obtain ⟨w4, q1, q2⟩ := fin _ hls (by simp)
      exact ⟨some (.goto l), w4, q1, wpIn_goto q2⟩
     ·cases hend
    cases ke with
    | normal => exact good hr2
    | ret => exact good hr2
    | exit id => exact hr2.elim
    | goto l => exact hr2.elim
  | _ => exact h.elim
theorem zfv (hE : EnvOk E) (hmix : E.P.follows .mixedOrders = true) {f : Nat} {args : List SE} {nenv : Nat} (hw : SE.wfs nenv (fun _ => false) args = true) (hρ : ∀ i, (ρ i).pure = true) {r : AV} (hr : r.pure = true)
  (h : RTwp E.P E.G (fun x => x = r) (runF E f args nenv) (fun _ _ => False) ρ) : zbh E.P E.G f (dens ρ args) r := by
 refine ⟨hr, fun w c vs himm hlt hg hargs => ?_⟩
 unfold runF at h
 split at h
 case h_2 => exact h.elim
 rename_i fn hfn
 split at h
 case h_2 => exact h.elim
 rename_i cd hbody
 let w0 : Base := ⟨w, c.I, c.M⟩
 have hmem : Mem w.heap.size w0 c ρ (look []) nenv w :=
  ⟨himm, hρ, fun _ _ h => (by simp [look] at h), fun _ _ h => (by simp [look] at h), fun _ _ _ _ _ h => (by simp [look] at h), fun _ _ _ h => (by simp [look] at h), fun _ _ _ h => (by simp [look] at h), hlt, Below.refl _ _, fun _ _ => ⟨fun _ _ h => h, fun _ h => h⟩⟩
 refine (callsIn_wide (n := 0)).1 ?_
 refine callsIn_of_wp_marks (F := FW none) hfn hbody trivial ?_
 have hwf : SE.wfs nenv (look []).dom args = true := SE.wfs_mono (Nat.le_refl _) (fun _ h => Bool.noConfusion h) hw
 refine zmP (n0 := w.heap.size) (w0 := w0) hE (Nat.le_refl _) hmix 200 0 [] false f cd _ _ none 0 _ c ρ _ _ w (fun _ => rfl) (zeC (fun _ _ h => by simp [zi9] at h) hmem hg hargs hwf fn.ntmps) ?_ h
 intro ke st1 c1 ρ1 Lp1 a1 w1 hx hm1 hL hr1
 have good : ∀ (_ : RTwp E.P E.G (fun x => x = r) (match (if decide st1.marks.Nodup = true then zaK (st1.marks.filter fun i => !Nat.beq i zal) st1.own else none) with
   | some own1 => match zgK E { st1 with own := own1 } fn.results with
    | some (e, ns) => match ze2 (look own1) 200 e.weak with
     | some e' => seg ns (.ret e')
     | none => .dead 100 []
    | none => .dead 101 []
   | none => .dead 105 []) Lp1 ρ1), LeavesInM (FW none) 0 E.P fn a1.tmps (fun e w1 => ∃ v' c', e = Ending.returned v' ∧ c.Le c' ∧ Imm c' w1 ∧ (∀ b, b ≥ w1.heap.size → (∀ off v, c'.I b off ≠ some v) ∧ (∀ ob, c'.M b ≠ some ob)) ∧
   (∀ b, b < w.heap.size → (∀ off v, c'.I b off = some v → c.I b off = some v) ∧ (∀ o, c'.M b = some o → c.M b = some o)) ∧ Rv c' r v' ∧ Below w.heap.size w w1) a1.defers .returning w1 := by
  intro hr1
  split at hr1
  case h_2 => exact hr1.elim
  rename_i own1 hlv0
  obtain ⟨hnd, hlv⟩ : st1.marks.Nodup ∧ zaK (st1.marks.filter fun i => !Nat.beq i zal) st1.own = some own1 := by
   split at hlv0
   ·rename_i hd; exact ⟨of_decide_eq_true hd, hlv0⟩
   ·cases hlv0
  obtain ⟨S, hdf, hSo, _⟩ := hm1.dfr
  have hSM : ∀ b ∈ S, c1.M b = some (.deferred (some [])) := fun b hb => (hSo.obj b hb).1
  obtain ⟨q1, _, q3, q4⟩ := zeV hlv hm1.mem
  have hmk : ∀ i ∈ st1.marks, i ≠ zal → look st1.own i = some .dfr := fun i hi hio => q3 i (List.mem_filter.2 ⟨hi, by
   cases hbq : Nat.beq i zal
   ·rfl
   ·exact absurd (Nat.eq_of_beq_eq_true hbq) hio⟩)
  have hdm := zcj hlv
  rw [hdf, zho]
  have hfree : FreeBs w.heap.size (c1.dropM S) (look own1) (zd9 c1.β S st1.marks) w1 := by
   refine ⟨zc1 hSo.nodup hnd (fun i hi j hj hio hjo he => ?_) (fun i hi hio hS => ?_), fun b hb => ?_⟩
   ·exact hm1.mem.dist i j _ _ (c1.β i) (hmk i hi hio) (hmk j hj hjo) rfl (by show some (c1.β j) = _; rw [he])
   ·exact absurd (hSM _ hS) ((hm1.mem.disj i _ _ (hmk i hi hio) rfl).2 _)
   ·have hbl : ∀ i o, bl (c1.dropM S) i o = bl c1 i o := fun i o => by cases o <;> rfl
    have hgn : ∀ i o, bl c1 i o = some b → o ≠ .gone := fun i o h e => by subst e; simp [bl] at h
    rcases zeB.1 hb with ⟨_, h2⟩ | ⟨i, hi, hio, rfl⟩
    ·have hob := hm1.mem.imm.M b _ (hSM b h2)
     refine ⟨hob, (hSo.obj b h2).2, fun i o hl hbb => ?_, fun off v hv => zme hob (hm1.mem.imm.I b off v hv), fun ob hv => (zcs hv).2 h2⟩
     rw [hbl] at hbb
     exact absurd (hSM b h2) ((hm1.mem.disj i o b (q4 i o hl (hgn i o hbb)).1 hbb).2 _)
    ·have hl0 := hmk i hi hio
     refine ⟨hm1.mem.ok i _ hl0, (hm1.mem.fresh i _ _ hl0 rfl).1, fun j o hl hbb => ?_, (hm1.mem.disj i _ _ hl0 rfl).1, fun ob hv => (hm1.mem.disj i _ _ hl0 rfl).2 ob (zcs hv).1⟩
     rw [hbl] at hbb
     obtain ⟨hl1, hl2⟩ := q4 j o hl (hgn j o hbb)
     have := hm1.mem.dist j i o _ (c1.β i) hl1 hl0 hbb rfl
     subst this
     exact hl2 (List.mem_filter.2 ⟨hi, by
      cases hbq : Nat.beq j zal
      ·rfl
      ·exact absurd (Nat.eq_of_beq_eq_true hbq) hio⟩)
  refine zeW (zd9 c1.β S st1.marks) w1 (q1.dropM hSM) hfree (fun w1 hmem1 => ?_)
  have hxI : ∀ b o v, c.I b o = some v → (c1.dropM S).I b o = some v := hx.keeps.I
  have hxM : ∀ b o, b < w.heap.size → c.M b = some o → (c1.dropM S).M b = some o := fun b o hb hv => by
   show (if b ∈ S then none else c1.M b) = some o
   rw [if_neg (fun hS => by have := (hSo.obj b hS).2; omega)]
   exact hx.keeps.M b o hv
  have hg1 : zbD E.G (c1.dropM S) := fun g es hge => zeL hSM (hm1.glob g es hge)
  have hrn : zbK [] (c1.dropM S) ρ1 st1.nenv (look own1).dom := fun i r hf => by simp [zi9] at hf
  have hm1 : MatchSt E.G w.heap.size w0 [] (c1.dropM S) ρ1 { st1 with own := own1 } { a1 with defers := zeX (c1.dropM S) [] st1.marks } w1 :=
   ⟨hmem1, hg1, hm1.sz, (hm1.slots.dropM hSM).keeps (Cx.Keeps.refl _ _) (zam.refl _ _) hm1.mem.pure (Nat.le_refl _) hdm, ⟨[], rfl, ⟨List.nodup_nil, fun _ h => by cases h⟩, fun _ => rfl⟩, fun i hi hne => hdm i (hm1.mdom i hi hne), hrn⟩
  generalize hcd : c1.dropM S = cd at hm1 hmem1 hxI hxM hg1
  split at hr1
  ·rename_i e ns hres
   split at hr1
   ·rename_i e' hview
    obtain ⟨hk2, v, hv1, hv2⟩ := zeZ hE hm1 hres (zbi hr1)
    simp only [RTwp] at hk2
    refine ⟨v, hv1, v, ?_⟩
    let c2 : Cx := { cd with I := fun b off => if b < w.heap.size then c.I b off else w1.cell? ⟨b, off, none⟩, M := fun b => if b < w.heap.size then c.M b else w1.heap[b]? }
    have hold := hm1.mem.old
    have hvw : Views cd c2 (look own1) w1 := by
     refine ⟨⟨fun b o v hv => ?_, fun b o hv => ?_⟩, fun i o b hl hb => ?_⟩
     ·show (if b < w.heap.size then c.I b o else w1.cell? ⟨b, o, none⟩) = some v
      split
      ·rename_i hb; exact (hold b hb).1 o v hv
      ·exact hm1.mem.imm.I b o v hv
     ·show (if b < w.heap.size then c.M b else w1.heap[b]?) = some o
      split
      ·rename_i hb; exact (hold b hb).2 o hv
      ·exact hm1.mem.imm.M b o hv
     ·have hge := (hm1.mem.fresh i o b hl hb).1
      refine ⟨fun off v hv => ?_, fun ob hv => ?_⟩
      ·show (if b < w.heap.size then c.I b off else w1.cell? ⟨b, off, none⟩) = some v
       rw [if_neg (by omega)]; exact hv
      ·show (if b < w.heap.size then c.M b else w1.heap[b]?) = some ob
       rw [if_neg (by omega)]; exact hv
    have hrv := ((zgS hm1.mem hvw 200).1 _ _ _ hview (zbJ _ hv2)).1
    rw [hk2] at hrv
    refine ⟨c2, rfl, ⟨fun b o v hv => ?_, fun b o hv => ?_⟩, ⟨fun b o v hv => ?_, fun b o hv => ?_⟩, fun b hb => ⟨fun off v hv => ?_, fun ob hv => ?_⟩, fun b hb => ⟨fun off v hv => ?_, fun ob hv => ?_⟩, hrv, hm1.mem.below⟩
    ·show (if b < w.heap.size then c.I b o else w1.cell? ⟨b, o, none⟩) = some v
     split
     ·exact hv
     ·rename_i hb; exact absurd hv ((hlt b (by omega)).1 o v)
    ·show (if b < w.heap.size then c.M b else w1.heap[b]?) = some o
     split
     ·exact hv
     ·rename_i hb; exact absurd hv ((hlt b (by omega)).2 o)
    ·have hv : (if b < w.heap.size then c.I b o else w1.cell? ⟨b, o, none⟩) = some v := hv
     split at hv
     ·exact hm1.mem.imm.I b o v (hxI b o v hv)
     ·exact hv
    ·have hv : (if b < w.heap.size then c.M b else w1.heap[b]?) = some o := hv
     split at hv
     ·rename_i hb; exact hm1.mem.imm.M b o (hxM b o hb hv)
     ·exact hv
    ·have hv : (if b < w.heap.size then c.I b off else w1.cell? ⟨b, off, none⟩) = some v := hv
     have hs := hm1.mem.below.size
     simp only [show w0.w = w from rfl] at hs
     rw [if_neg (by omega)] at hv
     have := zkU hv; omega
    ·have hv : (if b < w.heap.size then c.M b else w1.heap[b]?) = some ob := hv
     have hs := hm1.mem.below.size
     simp only [show w0.w = w from rfl] at hs
     rw [if_neg (by omega)] at hv
     have := (Array.getElem?_eq_some_iff.1 hv).1; omega
    ·have hv : (if b < w.heap.size then c.I b off else w1.cell? ⟨b, off, none⟩) = some v := hv
     rwa [if_pos hb] at hv
    ·have hv : (if b < w.heap.size then c.M b else w1.heap[b]?) = some ob := hv
     rwa [if_pos hb] at hv
   ·exact hr1.elim
  ·exact hr1.elim
 cases ke with
 | normal => exact good hr1
 | ret => exact good hr1
 | exit id => exact hr1.elim
 | goto l => exact hr1.elim
end Go.Lb
