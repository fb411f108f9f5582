/- What a train's tick frees. -/
import Derived.Test.YteihefiaceohdaaDoorCh7
set_option linter.unusedSimpArgs false
set_option linter.unusedVariables false
namespace Go.Lb.LK
open Go Go.Lb Go.Proofs Go.RowKit

theorem rightS_of {h o : Hd} (hr : rightS h = true) (h1 : o.id = h.id) (h2 : o.path = h.path) (h3 : o.over = h.over) (h4 : o.needs = h.needs) (h5 : o.stage = h.stage) (h6 : 0 ≤ o.timer ∧ o.timer ≤ 1073741824) (h7 : 0 ≤ o.gone ∧ o.gone ≤ h.path.steps.length) (h8 : ∀ k, h.path.steps.length ≤ k → o.was k = h.was k) : rightS o = true := by
  obtain ⟨⟨a1, a2, a3, a4, a5, a6, a7⟩, ⟨d1, d2, d3, d4⟩, b1, b2, b3, b4⟩ := right_facts hr
  have g1 : o.g1 := by unfold Hd.g1; rw [h1, h2, h3]; exact ⟨a1, a2, h6.1, h6.2, a5, a6, a7⟩
  have g2 : o.g2 := by unfold Hd.g2; rw [h2, h5]; exact ⟨d1, d2, h7.1, h7.2⟩
  have g3 : o.wasOk = true := by
    unfold Hd.wasOk at b2 ⊢
    rw [List.all_eq_true] at b2 ⊢
    intro k hk
    have := b2 k hk
    rw [h2]
    by_cases hn : k < h.path.steps.length
    · simp [hn]
    · rw [h8 k (by omega)]; exact this
  have g4 : o.secs = h.secs := by unfold Hd.secs; rw [h2, h3]
  simp only [rightS, g1, g2, g3, g4, h2, h4, b1, b3, b4, decide_true, Bool.not_false, Bool.and_self]
theorem nextT_in {n : Int} : 0 ≤ nextT n ∧ nextT n ≤ 1073741824 := by unfold nextT; omega
theorem runS_right {l : Lay} {im : Img} {h : Hd} (hr : rightS h = true) : rightS (runS l im h) = true := by
  cases ha : asleepS l im h
  · obtain ⟨⟨a1, a2, a3, a4, a5, a6, a7⟩, ⟨d1, d2, d3, d4⟩, _⟩ := right_facts hr
    have ⟨e1, e2, e3, e4, e5, e6⟩ := runS_same l im h
    refine rightS_of hr e4 e1 e2 e3 e6 ?_ ?_ ?_
    · rw [runS_awake ha]
      show 0 ≤ timerS l im h ∧ timerS l im h ≤ 1073741824
      unfold timerS
      split
      · exact nextT_in
      · exact ⟨a3, a4⟩
    · rw [runS_awake ha]
      have : goX l im h h.gone.toNat ≤ h.n := goF_le (by unfold Hd.n; omega)
      show 0 ≤ ((goX l im h h.gone.toNat : Nat) : Int) ∧ ((goX l im h h.gone.toNat : Nat) : Int) ≤ h.path.steps.length
      unfold Hd.n at this; omega
    · intro k hk
      rw [runS_awake ha]
      exact wr_high hk
  · rw [runS_asleep ha]; exact hr

structure Frees (l : Lay) (im : Img) (h o : Hd) (k : Nat) : Prop where
  f1 : h.was k = true → o.was k = true
  f2 : o.was k = true → h.was k = false → h.gone ≤ k ∧ told l im (secOf h k) = true ∧ (0 < k → o.was (k - 1) = true)
  f3 : h.gone ≤ k → k < o.gone → o.was k = true ∧ (k < h.n - 1 → o.was (k + 1) = true) ∧ occupied l im (secOf h k) = false ∧ stale l im = false
  f4 : (k : Int) = o.gone → stale l im = false → o.was k = true → (k = h.n - 1 ∨ o.was (k + 1) = true) → occupied l im (secOf h k) = true
theorem frees {l : Lay} {im : Img} {h : Hd} (hr : rightS h = true) (k : Nat) (hk : k < h.n) : Frees l im h (runS l im h) k := by
  cases ha : asleepS l im h
  · obtain ⟨_, ⟨d1, d2, d3, d4⟩, _⟩ := right_facts hr
    have hst := (asleep_false ha).2
    rw [runS_awake ha]
    refine ⟨fun h1 => wr_was h1, fun h1 h2 => ?_, fun h1 h2 => ?_, fun h1 h2 h3 h4 => ?_⟩
    · obtain ⟨q1, q2, q3, q4⟩ := wr_new h2 h1
      exact ⟨q1, q3, fun hp => by rcases q4 with q | q; omega; exact q⟩
    · have h2' : k < goX l im h h.gone.toNat := by simpa using h2
      have := goF_all (f := h.n - h.gone.toNat) (show h.gone.toNat ≤ k by omega) h2'
      simp only [canGo, Bool.and_eq_true, decide_eq_true_eq, Bool.or_eq_true, Bool.not_eq_true'] at this
      obtain ⟨q1, q2, q3, q4⟩ := this
      exact ⟨q2, fun hk2 => by rcases q3 with q | q; omega; exact q, q4, hst⟩
    · have h1' : k = goX l im h h.gone.toNat := by
        have h1 : (k : Int) = ((goX l im h h.gone.toNat : Nat) : Int) := h1
        omega
      have he := goX_end (l := l) (im := im) (h := h) (f := h.n - h.gone.toNat) (g := h.gone.toNat) (Nat.le_refl _)
      have he : canGo l im h k = false := by rw [h1']; exact he
      cases ho : occupied l im (secOf h k)
      · exfalso
        have : canGo l im h k = true := by
          have h3 : wr l im h k = true := h3
          have h4 : k = h.n - 1 ∨ wr l im h (k + 1) = true := h4
          simp only [canGo, Bool.and_eq_true, decide_eq_true_eq, Bool.or_eq_true, Bool.not_eq_true']
          exact ⟨hk, h3, by rcases h4 with q | q; exact .inl (by omega); exact .inr q, ho⟩
        rw [he] at this; cases this
      · rfl
  · rw [runS_asleep ha]
    have hst : stale l im = true := by
      rcases asleep_true ha with h1 | h1
      · rw [hr] at h1; cases h1
      · exact h1
    refine ⟨fun h1 => h1, fun h1 h2 => ?_, fun h1 h2 => ?_, fun h1 h2 => ?_⟩
    · rw [h1] at h2; cases h2
    · omega
    · rw [hst] at h2; cases h2
theorem frees_opn {l : Lay} {im : Img} {h : Hd} (hr : rightS h = true) (h1 : (runS l im h).opn = true) (h2 : h.opn = false) (h3 : (runS l im h).gone < h.n) : (runS l im h).was (h.n - 1) = true ∧ l.over ≤ (runS l im h).timer := by
  cases ha : asleepS l im h
  · rw [runS_awake ha] at h1 h3 ⊢
    have h1 : opnS l im h = true := h1
    have h3 : goX l im h h.gone.toNat < h.n := by simpa using h3
    simp only [opnS, h2, Bool.false_or, Bool.or_eq_true, decide_eq_true_eq, Bool.and_eq_true] at h1
    rcases h1 with q | q
    · omega
    · exact q
  · rw [runS_asleep ha] at h1; rw [h1] at h2; cases h2

set_option maxHeartbeats 16000000 in
theorem c_PassFrees (l : Lay) (im : Img) (hi : im.ok) (h : Hd) (hs : 0 ≤ h.stage ∧ h.stage ≤ 255) : C f_lockbarlaw21_PassFrees [l.av, im.av, h.av] (.bool true) := by
  refine ctr (l.cells ++ im.cells ++ h.cells) run_lockbarlaw21_PassFrees rfl (lih l im h) rfl ?_ rfl
  unfold rt_lockbarlaw21_PassFrees
  simp [Lay.cells, Img.cells, Hd.cells, -pv_aidx]
  refine call (c_r07_Great l) (by simp [Lay.cells]) (by simp) ?_
  simp [-pv_aidx]
  refine callIf (.bool (great17 h)) rfl (fun _ => ⟨by simp [Hd.cells], c_r17Great h⟩) (by simp) ?_
  simp [-pv_aidx]
  refine callIf (avs := [h.av]) (.bool (rightS h)) rfl (fun hh => ⟨by simp [Hd.cells], c_r17Right h (small17 (by simp at hh; exact hh.2)).1 hs⟩) (by simp) ?_
  simp [-pv_aidx]
  refine ⟨fun _ => ?_, fun g1 g2 g3 => ?_⟩
  · refine call c_wakes (by simp) (by simp) ?_
    simp
  · obtain ⟨hl, hn1, hn2, hn3⟩ := small17 g2
    obtain ⟨⟨a1, a2, a3, a4, a5, a6, a7⟩, ⟨d1, d2, d3, d4⟩, b1, b2, b3, b4⟩ := right_facts g3
    refine call (c_pass_Run l im hi h hl hs) (by simp [Lay.cells, Img.cells, Hd.cells]) (by simp) ?_
    have hfr := fun k hk => frees (l := l) (im := im) g3 k hk
    have hfo := frees_opn (l := l) (im := im) g3
    have hor := runS_right (l := l) (im := im) g3
    have hol := runS_len (l := l) (im := im) hl
    have hg := runS_gone l im h
    have hop := runS_opn l im h
    obtain ⟨e1, e2, e3, e4, e5, e6⟩ := runS_same l im h
    generalize runS l im h = o at *
    obtain ⟨_, ⟨_, _, _, o4⟩, _⟩ := right_facts hor
    rw [e1] at o4
    have c1 : ¬ o.gone < h.gone := by omega
    have c2 : ¬ (h.path.steps.length : Int) < o.gone := by omega
    have c3 : (h.opn = true ∧ o.opn = false) = False := by
      simp only [eq_iff_iff, iff_false]
      rintro ⟨q1, q2⟩
      rw [hop q1] at q2; cases q2
    simp [Hd.cells, c1, c2, -pv_aidx]
    refine callIf (avs := [o.av]) (.bool true) rfl (fun _ => ⟨by simp [Hd.cells], by have := c_r17Right o hol (by rw [e6]; exact hs); rw [hor] at this; exact this⟩) (by simp) ?_
    have c3' : (h.opn && !o.opn) = false := by
      cases q : h.opn
      · rfl
      · rw [hop q]; rfl
    simp [Hd.cells, c1, c2, c3', -pv_aidx]
    have hn : h.n = h.path.steps.length := rfl
    have hwn : IntKind.i64.wrap ((h.path.steps.length : Int) - 1) = (h.path.steps.length : Int) - 1 := by rw [wrap_i] <;> omega
    refine RTwp_loop rfl (fun vs => ∃ k : Nat, k ≤ h.path.steps.length ∧ vs = [I k]) (fun vs => match vs with | [.int _ j] => h.path.steps.length - j.toNat | _ => 0) ⟨0, by omega, by simp⟩ ?_
    rintro vs - ⟨k, hk, rfl⟩
    simp only [List.cons_append, List.nil_append]
    refine RTwp_chk.2 ⟨fun _ => by simp, RTwp_nil.2 (RTwp_condE.2 ⟨decide ((k : Int) < h.path.steps.length), by simp, fun hlt => ?_, fun hge => ?_⟩)⟩
    · have hlt : k < h.path.steps.length := by simpa using hlt
      obtain ⟨f1, f2, f3, f4⟩ := hfr k hlt
      have hAh := fun a0 a1 a2 a3 a4 a5 a6 a7 t => aidx8 h.was a0 a1 a2 a3 a4 a5 a6 a7 t (i := k) (z := (k : Int)) rfl (by omega)
      have hAo := fun a0 a1 a2 a3 a4 a5 a6 a7 t => aidx8 o.was a0 a1 a2 a3 a4 a5 a6 a7 t (i := k) (z := (k : Int)) rfl (by omega)
      have hAo1 := fun (hk1 : k < h.path.steps.length - 1) a0 a1 a2 a3 a4 a5 a6 a7 t => aidx8 o.was a0 a1 a2 a3 a4 a5 a6 a7 t (i := k + 1) (z := (k : Int) + 1) rfl (by omega)
      have hAo0 := fun (hk0 : 0 < k) a0 a1 a2 a3 a4 a5 a6 a7 t => aidx8 o.was a0 a1 a2 a3 a4 a5 a6 a7 t (i := k - 1) (z := (k : Int) - 1) (by omega) (by omega)
      have hw : IntKind.i64.wrap ((k : Int) + 1) = (k : Int) + 1 := by rw [wrap_i] <;> omega
      have hw0 : 0 < k → IntKind.i64.wrap ((k : Int) - 1) = (k : Int) - 1 := fun _ => by rw [wrap_i] <;> omega
      have hlast : ((k : Int) < (h.path.steps.length : Int) - 1) = (k < h.path.steps.length - 1) := by simp only [eq_iff_iff]; omega
      have hlast2 : ((k : Int) = (h.path.steps.length : Int) - 1) = (k = h.path.steps.length - 1) := by simp only [eq_iff_iff]; omega
      have hb : (k : Int) < 12 := by omega
      have hgk : ((k : Int) < h.gone) = ¬ (h.gone ≤ k) := by simp only [eq_iff_iff]; omega
      simp only [Hd.av, Hd.cells]
      cases hh : h.was k
      · cases ho : o.was k
        · by_cases z1 : h.gone ≤ (k : Int)
          · by_cases z2 : (k : Int) < o.gone
            · have z3 : ¬ (k : Int) = o.gone := by omega
              obtain ⟨p1, p2, p3, p4⟩ := f3 z1 z2
              rw [ho] at p1; cases p1
            · by_cases z3 : (k : Int) = o.gone
              · simp [hh, ho, hAh, hAo, hlt, hb, Hd.cells, Step.cells, hlast, hlast2, hwn, hw, hgk, z1, z2, eq_true z3, -pv_aidx]
                repeat refine And.intro (by intros; omega) ?_
                refine callIf (avs := [l.av, im.av, I (secOf h k)]) (.bool (told l im (secOf h k))) rfl (fun _ => ⟨by simp [Lay.cells, Img.cells, hlt, Step.cells, secOf_lt], c_r15Told l im hi _⟩) (by simp) ?_
                simp [hh, ho, hAh, hAo, hlt, hb, Hd.cells, Step.cells, hlast, hlast2, hwn, hw, hgk, z1, z2, eq_true z3, -pv_aidx]
                repeat refine And.intro (by intros; omega) ?_
                refine callIf (avs := [l.av, im.av, I (secOf h k)]) (.bool (occupied l im (secOf h k))) rfl (fun _ => ⟨by simp [Lay.cells, Img.cells, hlt, Step.cells, secOf_lt], c_r15Occupied l im hi _⟩) (by simp) ?_
                simp [hh, ho, hAh, hAo, hlt, hb, Hd.cells, Step.cells, hlast, hlast2, hwn, hw, hgk, z1, z2, eq_true z3, -pv_aidx]
                repeat refine And.intro (by intros; omega) ?_
                refine callIf (avs := [l.av, im.av]) (.bool (stale l im)) rfl (fun _ => ⟨by simp [Lay.cells, Img.cells], c_r15Stale l im⟩) (by simp) ?_
                simp [hh, ho, hAh, hAo, hlt, hb, Hd.cells, Step.cells, hlast, hlast2, hwn, hw, hgk, z1, z2, eq_true z3, -pv_aidx]
                repeat refine And.intro (by intros; omega) ?_
                refine callIf (avs := [l.av, im.av]) (.bool (stale l im)) rfl (fun _ => ⟨by simp [Lay.cells, Img.cells], c_r15Stale l im⟩) (by simp) ?_
                simp [hh, ho, hAh, hAo, hlt, hb, Hd.cells, Step.cells, hlast, hlast2, hwn, hw, hgk, z1, z2, eq_true z3, -pv_aidx]
                repeat refine And.intro (by intros; omega) ?_
                refine callIf (avs := [l.av, im.av, I (secOf h k)]) (.bool (occupied l im (secOf h k))) rfl (fun _ => ⟨by simp [Lay.cells, Img.cells, hlt, Step.cells, secOf_lt], c_r15Occupied l im hi _⟩) (by simp) ?_
                simp [hh, ho, hAh, hAo, hlt, hb, Hd.cells, Step.cells, hlast, hlast2, hwn, hw, hgk, z1, z2, eq_true z3, -pv_aidx]
                repeat refine And.intro (by intros; omega) ?_
                first | exact ⟨⟨k + 1, by omega, by omega⟩, by omega⟩ | omega
              · simp [hh, ho, hAh, hAo, hlt, hb, Hd.cells, Step.cells, hlast, hlast2, hwn, hw, hgk, z1, z2, z3, -pv_aidx]
                repeat refine And.intro (by intros; omega) ?_
                refine callIf (avs := [l.av, im.av, I (secOf h k)]) (.bool (told l im (secOf h k))) rfl (fun _ => ⟨by simp [Lay.cells, Img.cells, hlt, Step.cells, secOf_lt], c_r15Told l im hi _⟩) (by simp) ?_
                simp [hh, ho, hAh, hAo, hlt, hb, Hd.cells, Step.cells, hlast, hlast2, hwn, hw, hgk, z1, z2, z3, -pv_aidx]
                repeat refine And.intro (by intros; omega) ?_
                refine callIf (avs := [l.av, im.av, I (secOf h k)]) (.bool (occupied l im (secOf h k))) rfl (fun _ => ⟨by simp [Lay.cells, Img.cells, hlt, Step.cells, secOf_lt], c_r15Occupied l im hi _⟩) (by simp) ?_
                simp [hh, ho, hAh, hAo, hlt, hb, Hd.cells, Step.cells, hlast, hlast2, hwn, hw, hgk, z1, z2, z3, -pv_aidx]
                repeat refine And.intro (by intros; omega) ?_
                refine callIf (avs := [l.av, im.av]) (.bool (stale l im)) rfl (fun _ => ⟨by simp [Lay.cells, Img.cells], c_r15Stale l im⟩) (by simp) ?_
                simp [hh, ho, hAh, hAo, hlt, hb, Hd.cells, Step.cells, hlast, hlast2, hwn, hw, hgk, z1, z2, z3, -pv_aidx]
                repeat refine And.intro (by intros; omega) ?_
                refine callIf (avs := [l.av, im.av]) (.bool (stale l im)) rfl (fun _ => ⟨by simp [Lay.cells, Img.cells], c_r15Stale l im⟩) (by simp) ?_
                simp [hh, ho, hAh, hAo, hlt, hb, Hd.cells, Step.cells, hlast, hlast2, hwn, hw, hgk, z1, z2, z3, -pv_aidx]
                repeat refine And.intro (by intros; omega) ?_
                refine callIf (avs := [l.av, im.av, I (secOf h k)]) (.bool (occupied l im (secOf h k))) rfl (fun _ => ⟨by simp [Lay.cells, Img.cells, hlt, Step.cells, secOf_lt], c_r15Occupied l im hi _⟩) (by simp) ?_
                simp [hh, ho, hAh, hAo, hlt, hb, Hd.cells, Step.cells, hlast, hlast2, hwn, hw, hgk, z1, z2, z3, -pv_aidx]
                repeat refine And.intro (by intros; omega) ?_
                first | exact ⟨⟨k + 1, by omega, by omega⟩, by omega⟩ | omega
          · by_cases z2 : (k : Int) < o.gone
            · have z3 : ¬ (k : Int) = o.gone := by omega
              simp [hh, ho, hAh, hAo, hlt, hb, Hd.cells, Step.cells, hlast, hlast2, hwn, hw, hgk, z1, z2, z3, -pv_aidx]
              repeat refine And.intro (by intros; omega) ?_
              refine callIf (avs := [l.av, im.av, I (secOf h k)]) (.bool (told l im (secOf h k))) rfl (fun _ => ⟨by simp [Lay.cells, Img.cells, hlt, Step.cells, secOf_lt], c_r15Told l im hi _⟩) (by simp) ?_
              simp [hh, ho, hAh, hAo, hlt, hb, Hd.cells, Step.cells, hlast, hlast2, hwn, hw, hgk, z1, z2, z3, -pv_aidx]
              repeat refine And.intro (by intros; omega) ?_
              refine callIf (avs := [l.av, im.av, I (secOf h k)]) (.bool (occupied l im (secOf h k))) rfl (fun _ => ⟨by simp [Lay.cells, Img.cells, hlt, Step.cells, secOf_lt], c_r15Occupied l im hi _⟩) (by simp) ?_
              simp [hh, ho, hAh, hAo, hlt, hb, Hd.cells, Step.cells, hlast, hlast2, hwn, hw, hgk, z1, z2, z3, -pv_aidx]
              repeat refine And.intro (by intros; omega) ?_
              refine callIf (avs := [l.av, im.av]) (.bool (stale l im)) rfl (fun _ => ⟨by simp [Lay.cells, Img.cells], c_r15Stale l im⟩) (by simp) ?_
              simp [hh, ho, hAh, hAo, hlt, hb, Hd.cells, Step.cells, hlast, hlast2, hwn, hw, hgk, z1, z2, z3, -pv_aidx]
              repeat refine And.intro (by intros; omega) ?_
              refine callIf (avs := [l.av, im.av]) (.bool (stale l im)) rfl (fun _ => ⟨by simp [Lay.cells, Img.cells], c_r15Stale l im⟩) (by simp) ?_
              simp [hh, ho, hAh, hAo, hlt, hb, Hd.cells, Step.cells, hlast, hlast2, hwn, hw, hgk, z1, z2, z3, -pv_aidx]
              repeat refine And.intro (by intros; omega) ?_
              refine callIf (avs := [l.av, im.av, I (secOf h k)]) (.bool (occupied l im (secOf h k))) rfl (fun _ => ⟨by simp [Lay.cells, Img.cells, hlt, Step.cells, secOf_lt], c_r15Occupied l im hi _⟩) (by simp) ?_
              simp [hh, ho, hAh, hAo, hlt, hb, Hd.cells, Step.cells, hlast, hlast2, hwn, hw, hgk, z1, z2, z3, -pv_aidx]
              repeat refine And.intro (by intros; omega) ?_
              first | exact ⟨⟨k + 1, by omega, by omega⟩, by omega⟩ | omega
            · by_cases z3 : (k : Int) = o.gone
              · omega
              · simp [hh, ho, hAh, hAo, hlt, hb, Hd.cells, Step.cells, hlast, hlast2, hwn, hw, hgk, z1, z2, z3, -pv_aidx]
                repeat refine And.intro (by intros; omega) ?_
                refine callIf (avs := [l.av, im.av, I (secOf h k)]) (.bool (told l im (secOf h k))) rfl (fun _ => ⟨by simp [Lay.cells, Img.cells, hlt, Step.cells, secOf_lt], c_r15Told l im hi _⟩) (by simp) ?_
                simp [hh, ho, hAh, hAo, hlt, hb, Hd.cells, Step.cells, hlast, hlast2, hwn, hw, hgk, z1, z2, z3, -pv_aidx]
                repeat refine And.intro (by intros; omega) ?_
                refine callIf (avs := [l.av, im.av, I (secOf h k)]) (.bool (occupied l im (secOf h k))) rfl (fun _ => ⟨by simp [Lay.cells, Img.cells, hlt, Step.cells, secOf_lt], c_r15Occupied l im hi _⟩) (by simp) ?_
                simp [hh, ho, hAh, hAo, hlt, hb, Hd.cells, Step.cells, hlast, hlast2, hwn, hw, hgk, z1, z2, z3, -pv_aidx]
                repeat refine And.intro (by intros; omega) ?_
                refine callIf (avs := [l.av, im.av]) (.bool (stale l im)) rfl (fun _ => ⟨by simp [Lay.cells, Img.cells], c_r15Stale l im⟩) (by simp) ?_
                simp [hh, ho, hAh, hAo, hlt, hb, Hd.cells, Step.cells, hlast, hlast2, hwn, hw, hgk, z1, z2, z3, -pv_aidx]
                repeat refine And.intro (by intros; omega) ?_
                refine callIf (avs := [l.av, im.av]) (.bool (stale l im)) rfl (fun _ => ⟨by simp [Lay.cells, Img.cells], c_r15Stale l im⟩) (by simp) ?_
                simp [hh, ho, hAh, hAo, hlt, hb, Hd.cells, Step.cells, hlast, hlast2, hwn, hw, hgk, z1, z2, z3, -pv_aidx]
                repeat refine And.intro (by intros; omega) ?_
                refine callIf (avs := [l.av, im.av, I (secOf h k)]) (.bool (occupied l im (secOf h k))) rfl (fun _ => ⟨by simp [Lay.cells, Img.cells, hlt, Step.cells, secOf_lt], c_r15Occupied l im hi _⟩) (by simp) ?_
                simp [hh, ho, hAh, hAo, hlt, hb, Hd.cells, Step.cells, hlast, hlast2, hwn, hw, hgk, z1, z2, z3, -pv_aidx]
                repeat refine And.intro (by intros; omega) ?_
                first | exact ⟨⟨k + 1, by omega, by omega⟩, by omega⟩ | omega
        · obtain ⟨q1, q2, q3⟩ := f2 ho hh
          by_cases hk0 : 0 < k
          · have q4 := q3 hk0
            by_cases z1 : h.gone ≤ (k : Int)
            · by_cases z2 : (k : Int) < o.gone
              · have z3 : ¬ (k : Int) = o.gone := by omega
                obtain ⟨p1, p2, p3, p4⟩ := f3 z1 z2
                by_cases z4 : k < h.path.steps.length - 1
                · have z5 : (k = h.path.steps.length - 1) = False := by simp only [eq_iff_iff, iff_false]; omega
                  have p5 := p2 z4
                  simp [hh, ho, hAh, hAo, hlt, hb, Hd.cells, Step.cells, hlast, hlast2, hwn, hw, hgk, hk0, q1, q2, q4, hAo0 hk0, hw0 hk0, z1, z2, z3, z4, z5, hAo1 z4, p3, p4, p5, -pv_aidx]
                  repeat refine And.intro (by intros; omega) ?_
                  refine callIf (avs := [l.av, im.av, I (secOf h k)]) (.bool (told l im (secOf h k))) rfl (fun _ => ⟨by simp [Lay.cells, Img.cells, hlt, Step.cells, secOf_lt], c_r15Told l im hi _⟩) (by simp) ?_
                  simp [hh, ho, hAh, hAo, hlt, hb, Hd.cells, Step.cells, hlast, hlast2, hwn, hw, hgk, hk0, q1, q2, q4, hAo0 hk0, hw0 hk0, z1, z2, z3, z4, z5, hAo1 z4, p3, p4, p5, -pv_aidx]
                  repeat refine And.intro (by intros; omega) ?_
                  refine callIf (avs := [l.av, im.av, I (secOf h k)]) (.bool (occupied l im (secOf h k))) rfl (fun _ => ⟨by simp [Lay.cells, Img.cells, hlt, Step.cells, secOf_lt], c_r15Occupied l im hi _⟩) (by simp) ?_
                  simp [hh, ho, hAh, hAo, hlt, hb, Hd.cells, Step.cells, hlast, hlast2, hwn, hw, hgk, hk0, q1, q2, q4, hAo0 hk0, hw0 hk0, z1, z2, z3, z4, z5, hAo1 z4, p3, p4, p5, -pv_aidx]
                  repeat refine And.intro (by intros; omega) ?_
                  refine callIf (avs := [l.av, im.av]) (.bool (stale l im)) rfl (fun _ => ⟨by simp [Lay.cells, Img.cells], c_r15Stale l im⟩) (by simp) ?_
                  simp [hh, ho, hAh, hAo, hlt, hb, Hd.cells, Step.cells, hlast, hlast2, hwn, hw, hgk, hk0, q1, q2, q4, hAo0 hk0, hw0 hk0, z1, z2, z3, z4, z5, hAo1 z4, p3, p4, p5, -pv_aidx]
                  repeat refine And.intro (by intros; omega) ?_
                  refine callIf (avs := [l.av, im.av]) (.bool (stale l im)) rfl (fun _ => ⟨by simp [Lay.cells, Img.cells], c_r15Stale l im⟩) (by simp) ?_
                  simp [hh, ho, hAh, hAo, hlt, hb, Hd.cells, Step.cells, hlast, hlast2, hwn, hw, hgk, hk0, q1, q2, q4, hAo0 hk0, hw0 hk0, z1, z2, z3, z4, z5, hAo1 z4, p3, p4, p5, -pv_aidx]
                  repeat refine And.intro (by intros; omega) ?_
                  refine callIf (avs := [l.av, im.av, I (secOf h k)]) (.bool (occupied l im (secOf h k))) rfl (fun _ => ⟨by simp [Lay.cells, Img.cells, hlt, Step.cells, secOf_lt], c_r15Occupied l im hi _⟩) (by simp) ?_
                  simp [hh, ho, hAh, hAo, hlt, hb, Hd.cells, Step.cells, hlast, hlast2, hwn, hw, hgk, hk0, q1, q2, q4, hAo0 hk0, hw0 hk0, z1, z2, z3, z4, z5, hAo1 z4, p3, p4, p5, -pv_aidx]
                  repeat refine And.intro (by intros; omega) ?_
                  first | exact ⟨⟨k + 1, by omega, by omega⟩, by omega⟩ | omega
                · have z5 : (k = h.path.steps.length - 1) = True := by simp only [eq_iff_iff, iff_true]; omega
                  simp [hh, ho, hAh, hAo, hlt, hb, Hd.cells, Step.cells, hlast, hlast2, hwn, hw, hgk, hk0, q1, q2, q4, hAo0 hk0, hw0 hk0, z1, z2, z3, z4, z5, p3, p4, -pv_aidx]
                  repeat refine And.intro (by intros; omega) ?_
                  refine callIf (avs := [l.av, im.av, I (secOf h k)]) (.bool (told l im (secOf h k))) rfl (fun _ => ⟨by simp [Lay.cells, Img.cells, hlt, Step.cells, secOf_lt], c_r15Told l im hi _⟩) (by simp) ?_
                  simp [hh, ho, hAh, hAo, hlt, hb, Hd.cells, Step.cells, hlast, hlast2, hwn, hw, hgk, hk0, q1, q2, q4, hAo0 hk0, hw0 hk0, z1, z2, z3, z4, z5, p3, p4, -pv_aidx]
                  repeat refine And.intro (by intros; omega) ?_
                  refine callIf (avs := [l.av, im.av, I (secOf h k)]) (.bool (occupied l im (secOf h k))) rfl (fun _ => ⟨by simp [Lay.cells, Img.cells, hlt, Step.cells, secOf_lt], c_r15Occupied l im hi _⟩) (by simp) ?_
                  simp [hh, ho, hAh, hAo, hlt, hb, Hd.cells, Step.cells, hlast, hlast2, hwn, hw, hgk, hk0, q1, q2, q4, hAo0 hk0, hw0 hk0, z1, z2, z3, z4, z5, p3, p4, -pv_aidx]
                  repeat refine And.intro (by intros; omega) ?_
                  refine callIf (avs := [l.av, im.av]) (.bool (stale l im)) rfl (fun _ => ⟨by simp [Lay.cells, Img.cells], c_r15Stale l im⟩) (by simp) ?_
                  simp [hh, ho, hAh, hAo, hlt, hb, Hd.cells, Step.cells, hlast, hlast2, hwn, hw, hgk, hk0, q1, q2, q4, hAo0 hk0, hw0 hk0, z1, z2, z3, z4, z5, p3, p4, -pv_aidx]
                  repeat refine And.intro (by intros; omega) ?_
                  refine callIf (avs := [l.av, im.av]) (.bool (stale l im)) rfl (fun _ => ⟨by simp [Lay.cells, Img.cells], c_r15Stale l im⟩) (by simp) ?_
                  simp [hh, ho, hAh, hAo, hlt, hb, Hd.cells, Step.cells, hlast, hlast2, hwn, hw, hgk, hk0, q1, q2, q4, hAo0 hk0, hw0 hk0, z1, z2, z3, z4, z5, p3, p4, -pv_aidx]
                  repeat refine And.intro (by intros; omega) ?_
                  refine callIf (avs := [l.av, im.av, I (secOf h k)]) (.bool (occupied l im (secOf h k))) rfl (fun _ => ⟨by simp [Lay.cells, Img.cells, hlt, Step.cells, secOf_lt], c_r15Occupied l im hi _⟩) (by simp) ?_
                  simp [hh, ho, hAh, hAo, hlt, hb, Hd.cells, Step.cells, hlast, hlast2, hwn, hw, hgk, hk0, q1, q2, q4, hAo0 hk0, hw0 hk0, z1, z2, z3, z4, z5, p3, p4, -pv_aidx]
                  repeat refine And.intro (by intros; omega) ?_
                  first | exact ⟨⟨k + 1, by omega, by omega⟩, by omega⟩ | omega
              · by_cases z3 : (k : Int) = o.gone
                · cases hst : stale l im
                  · by_cases z4 : k < h.path.steps.length - 1
                    · have z5 : (k = h.path.steps.length - 1) = False := by simp only [eq_iff_iff, iff_false]; omega
                      cases p5 : o.was (k + 1)
                      · simp [hh, ho, hAh, hAo, hlt, hb, Hd.cells, Step.cells, hlast, hlast2, hwn, hw, hgk, hk0, q1, q2, q4, hAo0 hk0, hw0 hk0, z1, z2, eq_true z3, z4, z5, hAo1 z4, hst, p5, -pv_aidx]
                        repeat refine And.intro (by intros; omega) ?_
                        refine callIf (avs := [l.av, im.av, I (secOf h k)]) (.bool (told l im (secOf h k))) rfl (fun _ => ⟨by simp [Lay.cells, Img.cells, hlt, Step.cells, secOf_lt], c_r15Told l im hi _⟩) (by simp) ?_
                        simp [hh, ho, hAh, hAo, hlt, hb, Hd.cells, Step.cells, hlast, hlast2, hwn, hw, hgk, hk0, q1, q2, q4, hAo0 hk0, hw0 hk0, z1, z2, eq_true z3, z4, z5, hAo1 z4, hst, p5, -pv_aidx]
                        repeat refine And.intro (by intros; omega) ?_
                        refine callIf (avs := [l.av, im.av, I (secOf h k)]) (.bool (occupied l im (secOf h k))) rfl (fun _ => ⟨by simp [Lay.cells, Img.cells, hlt, Step.cells, secOf_lt], c_r15Occupied l im hi _⟩) (by simp) ?_
                        simp [hh, ho, hAh, hAo, hlt, hb, Hd.cells, Step.cells, hlast, hlast2, hwn, hw, hgk, hk0, q1, q2, q4, hAo0 hk0, hw0 hk0, z1, z2, eq_true z3, z4, z5, hAo1 z4, hst, p5, -pv_aidx]
                        repeat refine And.intro (by intros; omega) ?_
                        refine callIf (avs := [l.av, im.av]) (.bool (stale l im)) rfl (fun _ => ⟨by simp [Lay.cells, Img.cells], c_r15Stale l im⟩) (by simp) ?_
                        simp [hh, ho, hAh, hAo, hlt, hb, Hd.cells, Step.cells, hlast, hlast2, hwn, hw, hgk, hk0, q1, q2, q4, hAo0 hk0, hw0 hk0, z1, z2, eq_true z3, z4, z5, hAo1 z4, hst, p5, -pv_aidx]
                        repeat refine And.intro (by intros; omega) ?_
                        refine callIf (avs := [l.av, im.av]) (.bool (stale l im)) rfl (fun _ => ⟨by simp [Lay.cells, Img.cells], c_r15Stale l im⟩) (by simp) ?_
                        simp [hh, ho, hAh, hAo, hlt, hb, Hd.cells, Step.cells, hlast, hlast2, hwn, hw, hgk, hk0, q1, q2, q4, hAo0 hk0, hw0 hk0, z1, z2, eq_true z3, z4, z5, hAo1 z4, hst, p5, -pv_aidx]
                        repeat refine And.intro (by intros; omega) ?_
                        refine callIf (avs := [l.av, im.av, I (secOf h k)]) (.bool (occupied l im (secOf h k))) rfl (fun _ => ⟨by simp [Lay.cells, Img.cells, hlt, Step.cells, secOf_lt], c_r15Occupied l im hi _⟩) (by simp) ?_
                        simp [hh, ho, hAh, hAo, hlt, hb, Hd.cells, Step.cells, hlast, hlast2, hwn, hw, hgk, hk0, q1, q2, q4, hAo0 hk0, hw0 hk0, z1, z2, eq_true z3, z4, z5, hAo1 z4, hst, p5, -pv_aidx]
                        repeat refine And.intro (by intros; omega) ?_
                        first | exact ⟨⟨k + 1, by omega, by omega⟩, by omega⟩ | omega
                      · have p6 := f4 z3 hst ho (.inr p5)
                        simp [hh, ho, hAh, hAo, hlt, hb, Hd.cells, Step.cells, hlast, hlast2, hwn, hw, hgk, hk0, q1, q2, q4, hAo0 hk0, hw0 hk0, z1, z2, eq_true z3, z4, z5, hAo1 z4, hst, p5, p6, -pv_aidx]
                        repeat refine And.intro (by intros; omega) ?_
                        refine callIf (avs := [l.av, im.av, I (secOf h k)]) (.bool (told l im (secOf h k))) rfl (fun _ => ⟨by simp [Lay.cells, Img.cells, hlt, Step.cells, secOf_lt], c_r15Told l im hi _⟩) (by simp) ?_
                        simp [hh, ho, hAh, hAo, hlt, hb, Hd.cells, Step.cells, hlast, hlast2, hwn, hw, hgk, hk0, q1, q2, q4, hAo0 hk0, hw0 hk0, z1, z2, eq_true z3, z4, z5, hAo1 z4, hst, p5, p6, -pv_aidx]
                        repeat refine And.intro (by intros; omega) ?_
                        refine callIf (avs := [l.av, im.av, I (secOf h k)]) (.bool (occupied l im (secOf h k))) rfl (fun _ => ⟨by simp [Lay.cells, Img.cells, hlt, Step.cells, secOf_lt], c_r15Occupied l im hi _⟩) (by simp) ?_
                        simp [hh, ho, hAh, hAo, hlt, hb, Hd.cells, Step.cells, hlast, hlast2, hwn, hw, hgk, hk0, q1, q2, q4, hAo0 hk0, hw0 hk0, z1, z2, eq_true z3, z4, z5, hAo1 z4, hst, p5, p6, -pv_aidx]
                        repeat refine And.intro (by intros; omega) ?_
                        refine callIf (avs := [l.av, im.av]) (.bool (stale l im)) rfl (fun _ => ⟨by simp [Lay.cells, Img.cells], c_r15Stale l im⟩) (by simp) ?_
                        simp [hh, ho, hAh, hAo, hlt, hb, Hd.cells, Step.cells, hlast, hlast2, hwn, hw, hgk, hk0, q1, q2, q4, hAo0 hk0, hw0 hk0, z1, z2, eq_true z3, z4, z5, hAo1 z4, hst, p5, p6, -pv_aidx]
                        repeat refine And.intro (by intros; omega) ?_
                        refine callIf (avs := [l.av, im.av]) (.bool (stale l im)) rfl (fun _ => ⟨by simp [Lay.cells, Img.cells], c_r15Stale l im⟩) (by simp) ?_
                        simp [hh, ho, hAh, hAo, hlt, hb, Hd.cells, Step.cells, hlast, hlast2, hwn, hw, hgk, hk0, q1, q2, q4, hAo0 hk0, hw0 hk0, z1, z2, eq_true z3, z4, z5, hAo1 z4, hst, p5, p6, -pv_aidx]
                        repeat refine And.intro (by intros; omega) ?_
                        refine callIf (avs := [l.av, im.av, I (secOf h k)]) (.bool (occupied l im (secOf h k))) rfl (fun _ => ⟨by simp [Lay.cells, Img.cells, hlt, Step.cells, secOf_lt], c_r15Occupied l im hi _⟩) (by simp) ?_
                        simp [hh, ho, hAh, hAo, hlt, hb, Hd.cells, Step.cells, hlast, hlast2, hwn, hw, hgk, hk0, q1, q2, q4, hAo0 hk0, hw0 hk0, z1, z2, eq_true z3, z4, z5, hAo1 z4, hst, p5, p6, -pv_aidx]
                        repeat refine And.intro (by intros; omega) ?_
                        first | exact ⟨⟨k + 1, by omega, by omega⟩, by omega⟩ | omega
                    · have z5 : (k = h.path.steps.length - 1) = True := by simp only [eq_iff_iff, iff_true]; omega
                      have p6 := f4 z3 hst ho (.inl (of_eq_true z5))
                      simp [hh, ho, hAh, hAo, hlt, hb, Hd.cells, Step.cells, hlast, hlast2, hwn, hw, hgk, hk0, q1, q2, q4, hAo0 hk0, hw0 hk0, z1, z2, eq_true z3, z4, z5, hst, p6, -pv_aidx]
                      repeat refine And.intro (by intros; omega) ?_
                      refine callIf (avs := [l.av, im.av, I (secOf h k)]) (.bool (told l im (secOf h k))) rfl (fun _ => ⟨by simp [Lay.cells, Img.cells, hlt, Step.cells, secOf_lt], c_r15Told l im hi _⟩) (by simp) ?_
                      simp [hh, ho, hAh, hAo, hlt, hb, Hd.cells, Step.cells, hlast, hlast2, hwn, hw, hgk, hk0, q1, q2, q4, hAo0 hk0, hw0 hk0, z1, z2, eq_true z3, z4, z5, hst, p6, -pv_aidx]
                      repeat refine And.intro (by intros; omega) ?_
                      refine callIf (avs := [l.av, im.av, I (secOf h k)]) (.bool (occupied l im (secOf h k))) rfl (fun _ => ⟨by simp [Lay.cells, Img.cells, hlt, Step.cells, secOf_lt], c_r15Occupied l im hi _⟩) (by simp) ?_
                      simp [hh, ho, hAh, hAo, hlt, hb, Hd.cells, Step.cells, hlast, hlast2, hwn, hw, hgk, hk0, q1, q2, q4, hAo0 hk0, hw0 hk0, z1, z2, eq_true z3, z4, z5, hst, p6, -pv_aidx]
                      repeat refine And.intro (by intros; omega) ?_
                      refine callIf (avs := [l.av, im.av]) (.bool (stale l im)) rfl (fun _ => ⟨by simp [Lay.cells, Img.cells], c_r15Stale l im⟩) (by simp) ?_
                      simp [hh, ho, hAh, hAo, hlt, hb, Hd.cells, Step.cells, hlast, hlast2, hwn, hw, hgk, hk0, q1, q2, q4, hAo0 hk0, hw0 hk0, z1, z2, eq_true z3, z4, z5, hst, p6, -pv_aidx]
                      repeat refine And.intro (by intros; omega) ?_
                      refine callIf (avs := [l.av, im.av]) (.bool (stale l im)) rfl (fun _ => ⟨by simp [Lay.cells, Img.cells], c_r15Stale l im⟩) (by simp) ?_
                      simp [hh, ho, hAh, hAo, hlt, hb, Hd.cells, Step.cells, hlast, hlast2, hwn, hw, hgk, hk0, q1, q2, q4, hAo0 hk0, hw0 hk0, z1, z2, eq_true z3, z4, z5, hst, p6, -pv_aidx]
                      repeat refine And.intro (by intros; omega) ?_
                      refine callIf (avs := [l.av, im.av, I (secOf h k)]) (.bool (occupied l im (secOf h k))) rfl (fun _ => ⟨by simp [Lay.cells, Img.cells, hlt, Step.cells, secOf_lt], c_r15Occupied l im hi _⟩) (by simp) ?_
                      simp [hh, ho, hAh, hAo, hlt, hb, Hd.cells, Step.cells, hlast, hlast2, hwn, hw, hgk, hk0, q1, q2, q4, hAo0 hk0, hw0 hk0, z1, z2, eq_true z3, z4, z5, hst, p6, -pv_aidx]
                      repeat refine And.intro (by intros; omega) ?_
                      first | exact ⟨⟨k + 1, by omega, by omega⟩, by omega⟩ | omega
                  · simp [hh, ho, hAh, hAo, hlt, hb, Hd.cells, Step.cells, hlast, hlast2, hwn, hw, hgk, hk0, q1, q2, q4, hAo0 hk0, hw0 hk0, z1, z2, eq_true z3, hst, -pv_aidx]
                    repeat refine And.intro (by intros; omega) ?_
                    refine callIf (avs := [l.av, im.av, I (secOf h k)]) (.bool (told l im (secOf h k))) rfl (fun _ => ⟨by simp [Lay.cells, Img.cells, hlt, Step.cells, secOf_lt], c_r15Told l im hi _⟩) (by simp) ?_
                    simp [hh, ho, hAh, hAo, hlt, hb, Hd.cells, Step.cells, hlast, hlast2, hwn, hw, hgk, hk0, q1, q2, q4, hAo0 hk0, hw0 hk0, z1, z2, eq_true z3, hst, -pv_aidx]
                    repeat refine And.intro (by intros; omega) ?_
                    refine callIf (avs := [l.av, im.av, I (secOf h k)]) (.bool (occupied l im (secOf h k))) rfl (fun _ => ⟨by simp [Lay.cells, Img.cells, hlt, Step.cells, secOf_lt], c_r15Occupied l im hi _⟩) (by simp) ?_
                    simp [hh, ho, hAh, hAo, hlt, hb, Hd.cells, Step.cells, hlast, hlast2, hwn, hw, hgk, hk0, q1, q2, q4, hAo0 hk0, hw0 hk0, z1, z2, eq_true z3, hst, -pv_aidx]
                    repeat refine And.intro (by intros; omega) ?_
                    refine callIf (avs := [l.av, im.av]) (.bool (stale l im)) rfl (fun _ => ⟨by simp [Lay.cells, Img.cells], c_r15Stale l im⟩) (by simp) ?_
                    simp [hh, ho, hAh, hAo, hlt, hb, Hd.cells, Step.cells, hlast, hlast2, hwn, hw, hgk, hk0, q1, q2, q4, hAo0 hk0, hw0 hk0, z1, z2, eq_true z3, hst, -pv_aidx]
                    repeat refine And.intro (by intros; omega) ?_
                    refine callIf (avs := [l.av, im.av]) (.bool (stale l im)) rfl (fun _ => ⟨by simp [Lay.cells, Img.cells], c_r15Stale l im⟩) (by simp) ?_
                    simp [hh, ho, hAh, hAo, hlt, hb, Hd.cells, Step.cells, hlast, hlast2, hwn, hw, hgk, hk0, q1, q2, q4, hAo0 hk0, hw0 hk0, z1, z2, eq_true z3, hst, -pv_aidx]
                    repeat refine And.intro (by intros; omega) ?_
                    refine callIf (avs := [l.av, im.av, I (secOf h k)]) (.bool (occupied l im (secOf h k))) rfl (fun _ => ⟨by simp [Lay.cells, Img.cells, hlt, Step.cells, secOf_lt], c_r15Occupied l im hi _⟩) (by simp) ?_
                    simp [hh, ho, hAh, hAo, hlt, hb, Hd.cells, Step.cells, hlast, hlast2, hwn, hw, hgk, hk0, q1, q2, q4, hAo0 hk0, hw0 hk0, z1, z2, eq_true z3, hst, -pv_aidx]
                    repeat refine And.intro (by intros; omega) ?_
                    first | exact ⟨⟨k + 1, by omega, by omega⟩, by omega⟩ | omega
                · simp [hh, ho, hAh, hAo, hlt, hb, Hd.cells, Step.cells, hlast, hlast2, hwn, hw, hgk, hk0, q1, q2, q4, hAo0 hk0, hw0 hk0, z1, z2, z3, -pv_aidx]
                  repeat refine And.intro (by intros; omega) ?_
                  refine callIf (avs := [l.av, im.av, I (secOf h k)]) (.bool (told l im (secOf h k))) rfl (fun _ => ⟨by simp [Lay.cells, Img.cells, hlt, Step.cells, secOf_lt], c_r15Told l im hi _⟩) (by simp) ?_
                  simp [hh, ho, hAh, hAo, hlt, hb, Hd.cells, Step.cells, hlast, hlast2, hwn, hw, hgk, hk0, q1, q2, q4, hAo0 hk0, hw0 hk0, z1, z2, z3, -pv_aidx]
                  repeat refine And.intro (by intros; omega) ?_
                  refine callIf (avs := [l.av, im.av, I (secOf h k)]) (.bool (occupied l im (secOf h k))) rfl (fun _ => ⟨by simp [Lay.cells, Img.cells, hlt, Step.cells, secOf_lt], c_r15Occupied l im hi _⟩) (by simp) ?_
                  simp [hh, ho, hAh, hAo, hlt, hb, Hd.cells, Step.cells, hlast, hlast2, hwn, hw, hgk, hk0, q1, q2, q4, hAo0 hk0, hw0 hk0, z1, z2, z3, -pv_aidx]
                  repeat refine And.intro (by intros; omega) ?_
                  refine callIf (avs := [l.av, im.av]) (.bool (stale l im)) rfl (fun _ => ⟨by simp [Lay.cells, Img.cells], c_r15Stale l im⟩) (by simp) ?_
                  simp [hh, ho, hAh, hAo, hlt, hb, Hd.cells, Step.cells, hlast, hlast2, hwn, hw, hgk, hk0, q1, q2, q4, hAo0 hk0, hw0 hk0, z1, z2, z3, -pv_aidx]
                  repeat refine And.intro (by intros; omega) ?_
                  refine callIf (avs := [l.av, im.av]) (.bool (stale l im)) rfl (fun _ => ⟨by simp [Lay.cells, Img.cells], c_r15Stale l im⟩) (by simp) ?_
                  simp [hh, ho, hAh, hAo, hlt, hb, Hd.cells, Step.cells, hlast, hlast2, hwn, hw, hgk, hk0, q1, q2, q4, hAo0 hk0, hw0 hk0, z1, z2, z3, -pv_aidx]
                  repeat refine And.intro (by intros; omega) ?_
                  refine callIf (avs := [l.av, im.av, I (secOf h k)]) (.bool (occupied l im (secOf h k))) rfl (fun _ => ⟨by simp [Lay.cells, Img.cells, hlt, Step.cells, secOf_lt], c_r15Occupied l im hi _⟩) (by simp) ?_
                  simp [hh, ho, hAh, hAo, hlt, hb, Hd.cells, Step.cells, hlast, hlast2, hwn, hw, hgk, hk0, q1, q2, q4, hAo0 hk0, hw0 hk0, z1, z2, z3, -pv_aidx]
                  repeat refine And.intro (by intros; omega) ?_
                  first | exact ⟨⟨k + 1, by omega, by omega⟩, by omega⟩ | omega
            · by_cases z2 : (k : Int) < o.gone
              · have z3 : ¬ (k : Int) = o.gone := by omega
                simp [hh, ho, hAh, hAo, hlt, hb, Hd.cells, Step.cells, hlast, hlast2, hwn, hw, hgk, hk0, q1, q2, q4, hAo0 hk0, hw0 hk0, z1, z2, z3, -pv_aidx]
                repeat refine And.intro (by intros; omega) ?_
                refine callIf (avs := [l.av, im.av, I (secOf h k)]) (.bool (told l im (secOf h k))) rfl (fun _ => ⟨by simp [Lay.cells, Img.cells, hlt, Step.cells, secOf_lt], c_r15Told l im hi _⟩) (by simp) ?_
                simp [hh, ho, hAh, hAo, hlt, hb, Hd.cells, Step.cells, hlast, hlast2, hwn, hw, hgk, hk0, q1, q2, q4, hAo0 hk0, hw0 hk0, z1, z2, z3, -pv_aidx]
                repeat refine And.intro (by intros; omega) ?_
                refine callIf (avs := [l.av, im.av, I (secOf h k)]) (.bool (occupied l im (secOf h k))) rfl (fun _ => ⟨by simp [Lay.cells, Img.cells, hlt, Step.cells, secOf_lt], c_r15Occupied l im hi _⟩) (by simp) ?_
                simp [hh, ho, hAh, hAo, hlt, hb, Hd.cells, Step.cells, hlast, hlast2, hwn, hw, hgk, hk0, q1, q2, q4, hAo0 hk0, hw0 hk0, z1, z2, z3, -pv_aidx]
                repeat refine And.intro (by intros; omega) ?_
                refine callIf (avs := [l.av, im.av]) (.bool (stale l im)) rfl (fun _ => ⟨by simp [Lay.cells, Img.cells], c_r15Stale l im⟩) (by simp) ?_
                simp [hh, ho, hAh, hAo, hlt, hb, Hd.cells, Step.cells, hlast, hlast2, hwn, hw, hgk, hk0, q1, q2, q4, hAo0 hk0, hw0 hk0, z1, z2, z3, -pv_aidx]
                repeat refine And.intro (by intros; omega) ?_
                refine callIf (avs := [l.av, im.av]) (.bool (stale l im)) rfl (fun _ => ⟨by simp [Lay.cells, Img.cells], c_r15Stale l im⟩) (by simp) ?_
                simp [hh, ho, hAh, hAo, hlt, hb, Hd.cells, Step.cells, hlast, hlast2, hwn, hw, hgk, hk0, q1, q2, q4, hAo0 hk0, hw0 hk0, z1, z2, z3, -pv_aidx]
                repeat refine And.intro (by intros; omega) ?_
                refine callIf (avs := [l.av, im.av, I (secOf h k)]) (.bool (occupied l im (secOf h k))) rfl (fun _ => ⟨by simp [Lay.cells, Img.cells, hlt, Step.cells, secOf_lt], c_r15Occupied l im hi _⟩) (by simp) ?_
                simp [hh, ho, hAh, hAo, hlt, hb, Hd.cells, Step.cells, hlast, hlast2, hwn, hw, hgk, hk0, q1, q2, q4, hAo0 hk0, hw0 hk0, z1, z2, z3, -pv_aidx]
                repeat refine And.intro (by intros; omega) ?_
                first | exact ⟨⟨k + 1, by omega, by omega⟩, by omega⟩ | omega
              · by_cases z3 : (k : Int) = o.gone
                · omega
                · simp [hh, ho, hAh, hAo, hlt, hb, Hd.cells, Step.cells, hlast, hlast2, hwn, hw, hgk, hk0, q1, q2, q4, hAo0 hk0, hw0 hk0, z1, z2, z3, -pv_aidx]
                  repeat refine And.intro (by intros; omega) ?_
                  refine callIf (avs := [l.av, im.av, I (secOf h k)]) (.bool (told l im (secOf h k))) rfl (fun _ => ⟨by simp [Lay.cells, Img.cells, hlt, Step.cells, secOf_lt], c_r15Told l im hi _⟩) (by simp) ?_
                  simp [hh, ho, hAh, hAo, hlt, hb, Hd.cells, Step.cells, hlast, hlast2, hwn, hw, hgk, hk0, q1, q2, q4, hAo0 hk0, hw0 hk0, z1, z2, z3, -pv_aidx]
                  repeat refine And.intro (by intros; omega) ?_
                  refine callIf (avs := [l.av, im.av, I (secOf h k)]) (.bool (occupied l im (secOf h k))) rfl (fun _ => ⟨by simp [Lay.cells, Img.cells, hlt, Step.cells, secOf_lt], c_r15Occupied l im hi _⟩) (by simp) ?_
                  simp [hh, ho, hAh, hAo, hlt, hb, Hd.cells, Step.cells, hlast, hlast2, hwn, hw, hgk, hk0, q1, q2, q4, hAo0 hk0, hw0 hk0, z1, z2, z3, -pv_aidx]
                  repeat refine And.intro (by intros; omega) ?_
                  refine callIf (avs := [l.av, im.av]) (.bool (stale l im)) rfl (fun _ => ⟨by simp [Lay.cells, Img.cells], c_r15Stale l im⟩) (by simp) ?_
                  simp [hh, ho, hAh, hAo, hlt, hb, Hd.cells, Step.cells, hlast, hlast2, hwn, hw, hgk, hk0, q1, q2, q4, hAo0 hk0, hw0 hk0, z1, z2, z3, -pv_aidx]
                  repeat refine And.intro (by intros; omega) ?_
                  refine callIf (avs := [l.av, im.av]) (.bool (stale l im)) rfl (fun _ => ⟨by simp [Lay.cells, Img.cells], c_r15Stale l im⟩) (by simp) ?_
                  simp [hh, ho, hAh, hAo, hlt, hb, Hd.cells, Step.cells, hlast, hlast2, hwn, hw, hgk, hk0, q1, q2, q4, hAo0 hk0, hw0 hk0, z1, z2, z3, -pv_aidx]
                  repeat refine And.intro (by intros; omega) ?_
                  refine callIf (avs := [l.av, im.av, I (secOf h k)]) (.bool (occupied l im (secOf h k))) rfl (fun _ => ⟨by simp [Lay.cells, Img.cells, hlt, Step.cells, secOf_lt], c_r15Occupied l im hi _⟩) (by simp) ?_
                  simp [hh, ho, hAh, hAo, hlt, hb, Hd.cells, Step.cells, hlast, hlast2, hwn, hw, hgk, hk0, q1, q2, q4, hAo0 hk0, hw0 hk0, z1, z2, z3, -pv_aidx]
                  repeat refine And.intro (by intros; omega) ?_
                  first | exact ⟨⟨k + 1, by omega, by omega⟩, by omega⟩ | omega
          · by_cases z1 : h.gone ≤ (k : Int)
            · by_cases z2 : (k : Int) < o.gone
              · have z3 : ¬ (k : Int) = o.gone := by omega
                obtain ⟨p1, p2, p3, p4⟩ := f3 z1 z2
                by_cases z4 : k < h.path.steps.length - 1
                · have z5 : (k = h.path.steps.length - 1) = False := by simp only [eq_iff_iff, iff_false]; omega
                  have p5 := p2 z4
                  simp [hh, ho, hAh, hAo, hlt, hb, Hd.cells, Step.cells, hlast, hlast2, hwn, hw, hgk, hk0, q1, q2, z1, z2, z3, z4, z5, hAo1 z4, p3, p4, p5, -pv_aidx]
                  repeat refine And.intro (by intros; omega) ?_
                  refine callIf (avs := [l.av, im.av, I (secOf h k)]) (.bool (told l im (secOf h k))) rfl (fun _ => ⟨by simp [Lay.cells, Img.cells, hlt, Step.cells, secOf_lt], c_r15Told l im hi _⟩) (by simp) ?_
                  simp [hh, ho, hAh, hAo, hlt, hb, Hd.cells, Step.cells, hlast, hlast2, hwn, hw, hgk, hk0, q1, q2, z1, z2, z3, z4, z5, hAo1 z4, p3, p4, p5, -pv_aidx]
                  repeat refine And.intro (by intros; omega) ?_
                  refine callIf (avs := [l.av, im.av, I (secOf h k)]) (.bool (occupied l im (secOf h k))) rfl (fun _ => ⟨by simp [Lay.cells, Img.cells, hlt, Step.cells, secOf_lt], c_r15Occupied l im hi _⟩) (by simp) ?_
                  simp [hh, ho, hAh, hAo, hlt, hb, Hd.cells, Step.cells, hlast, hlast2, hwn, hw, hgk, hk0, q1, q2, z1, z2, z3, z4, z5, hAo1 z4, p3, p4, p5, -pv_aidx]
                  repeat refine And.intro (by intros; omega) ?_
                  refine callIf (avs := [l.av, im.av]) (.bool (stale l im)) rfl (fun _ => ⟨by simp [Lay.cells, Img.cells], c_r15Stale l im⟩) (by simp) ?_
                  simp [hh, ho, hAh, hAo, hlt, hb, Hd.cells, Step.cells, hlast, hlast2, hwn, hw, hgk, hk0, q1, q2, z1, z2, z3, z4, z5, hAo1 z4, p3, p4, p5, -pv_aidx]
                  repeat refine And.intro (by intros; omega) ?_
                  refine callIf (avs := [l.av, im.av]) (.bool (stale l im)) rfl (fun _ => ⟨by simp [Lay.cells, Img.cells], c_r15Stale l im⟩) (by simp) ?_
                  simp [hh, ho, hAh, hAo, hlt, hb, Hd.cells, Step.cells, hlast, hlast2, hwn, hw, hgk, hk0, q1, q2, z1, z2, z3, z4, z5, hAo1 z4, p3, p4, p5, -pv_aidx]
                  repeat refine And.intro (by intros; omega) ?_
                  refine callIf (avs := [l.av, im.av, I (secOf h k)]) (.bool (occupied l im (secOf h k))) rfl (fun _ => ⟨by simp [Lay.cells, Img.cells, hlt, Step.cells, secOf_lt], c_r15Occupied l im hi _⟩) (by simp) ?_
                  simp [hh, ho, hAh, hAo, hlt, hb, Hd.cells, Step.cells, hlast, hlast2, hwn, hw, hgk, hk0, q1, q2, z1, z2, z3, z4, z5, hAo1 z4, p3, p4, p5, -pv_aidx]
                  repeat refine And.intro (by intros; omega) ?_
                  first | exact ⟨⟨k + 1, by omega, by omega⟩, by omega⟩ | omega
                · have z5 : (k = h.path.steps.length - 1) = True := by simp only [eq_iff_iff, iff_true]; omega
                  simp [hh, ho, hAh, hAo, hlt, hb, Hd.cells, Step.cells, hlast, hlast2, hwn, hw, hgk, hk0, q1, q2, z1, z2, z3, z4, z5, p3, p4, -pv_aidx]
                  repeat refine And.intro (by intros; omega) ?_
                  refine callIf (avs := [l.av, im.av, I (secOf h k)]) (.bool (told l im (secOf h k))) rfl (fun _ => ⟨by simp [Lay.cells, Img.cells, hlt, Step.cells, secOf_lt], c_r15Told l im hi _⟩) (by simp) ?_
                  simp [hh, ho, hAh, hAo, hlt, hb, Hd.cells, Step.cells, hlast, hlast2, hwn, hw, hgk, hk0, q1, q2, z1, z2, z3, z4, z5, p3, p4, -pv_aidx]
                  repeat refine And.intro (by intros; omega) ?_
                  refine callIf (avs := [l.av, im.av, I (secOf h k)]) (.bool (occupied l im (secOf h k))) rfl (fun _ => ⟨by simp [Lay.cells, Img.cells, hlt, Step.cells, secOf_lt], c_r15Occupied l im hi _⟩) (by simp) ?_
                  simp [hh, ho, hAh, hAo, hlt, hb, Hd.cells, Step.cells, hlast, hlast2, hwn, hw, hgk, hk0, q1, q2, z1, z2, z3, z4, z5, p3, p4, -pv_aidx]
                  repeat refine And.intro (by intros; omega) ?_
                  refine callIf (avs := [l.av, im.av]) (.bool (stale l im)) rfl (fun _ => ⟨by simp [Lay.cells, Img.cells], c_r15Stale l im⟩) (by simp) ?_
                  simp [hh, ho, hAh, hAo, hlt, hb, Hd.cells, Step.cells, hlast, hlast2, hwn, hw, hgk, hk0, q1, q2, z1, z2, z3, z4, z5, p3, p4, -pv_aidx]
                  repeat refine And.intro (by intros; omega) ?_
                  refine callIf (avs := [l.av, im.av]) (.bool (stale l im)) rfl (fun _ => ⟨by simp [Lay.cells, Img.cells], c_r15Stale l im⟩) (by simp) ?_
                  simp [hh, ho, hAh, hAo, hlt, hb, Hd.cells, Step.cells, hlast, hlast2, hwn, hw, hgk, hk0, q1, q2, z1, z2, z3, z4, z5, p3, p4, -pv_aidx]
                  repeat refine And.intro (by intros; omega) ?_
                  refine callIf (avs := [l.av, im.av, I (secOf h k)]) (.bool (occupied l im (secOf h k))) rfl (fun _ => ⟨by simp [Lay.cells, Img.cells, hlt, Step.cells, secOf_lt], c_r15Occupied l im hi _⟩) (by simp) ?_
                  simp [hh, ho, hAh, hAo, hlt, hb, Hd.cells, Step.cells, hlast, hlast2, hwn, hw, hgk, hk0, q1, q2, z1, z2, z3, z4, z5, p3, p4, -pv_aidx]
                  repeat refine And.intro (by intros; omega) ?_
                  first | exact ⟨⟨k + 1, by omega, by omega⟩, by omega⟩ | omega
              · by_cases z3 : (k : Int) = o.gone
                · cases hst : stale l im
                  · by_cases z4 : k < h.path.steps.length - 1
                    · have z5 : (k = h.path.steps.length - 1) = False := by simp only [eq_iff_iff, iff_false]; omega
                      cases p5 : o.was (k + 1)
                      · simp [hh, ho, hAh, hAo, hlt, hb, Hd.cells, Step.cells, hlast, hlast2, hwn, hw, hgk, hk0, q1, q2, z1, z2, eq_true z3, z4, z5, hAo1 z4, hst, p5, -pv_aidx]
                        repeat refine And.intro (by intros; omega) ?_
                        refine callIf (avs := [l.av, im.av, I (secOf h k)]) (.bool (told l im (secOf h k))) rfl (fun _ => ⟨by simp [Lay.cells, Img.cells, hlt, Step.cells, secOf_lt], c_r15Told l im hi _⟩) (by simp) ?_
                        simp [hh, ho, hAh, hAo, hlt, hb, Hd.cells, Step.cells, hlast, hlast2, hwn, hw, hgk, hk0, q1, q2, z1, z2, eq_true z3, z4, z5, hAo1 z4, hst, p5, -pv_aidx]
                        repeat refine And.intro (by intros; omega) ?_
                        refine callIf (avs := [l.av, im.av, I (secOf h k)]) (.bool (occupied l im (secOf h k))) rfl (fun _ => ⟨by simp [Lay.cells, Img.cells, hlt, Step.cells, secOf_lt], c_r15Occupied l im hi _⟩) (by simp) ?_
                        simp [hh, ho, hAh, hAo, hlt, hb, Hd.cells, Step.cells, hlast, hlast2, hwn, hw, hgk, hk0, q1, q2, z1, z2, eq_true z3, z4, z5, hAo1 z4, hst, p5, -pv_aidx]
                        repeat refine And.intro (by intros; omega) ?_
                        refine callIf (avs := [l.av, im.av]) (.bool (stale l im)) rfl (fun _ => ⟨by simp [Lay.cells, Img.cells], c_r15Stale l im⟩) (by simp) ?_
                        simp [hh, ho, hAh, hAo, hlt, hb, Hd.cells, Step.cells, hlast, hlast2, hwn, hw, hgk, hk0, q1, q2, z1, z2, eq_true z3, z4, z5, hAo1 z4, hst, p5, -pv_aidx]
                        repeat refine And.intro (by intros; omega) ?_
                        refine callIf (avs := [l.av, im.av]) (.bool (stale l im)) rfl (fun _ => ⟨by simp [Lay.cells, Img.cells], c_r15Stale l im⟩) (by simp) ?_
                        simp [hh, ho, hAh, hAo, hlt, hb, Hd.cells, Step.cells, hlast, hlast2, hwn, hw, hgk, hk0, q1, q2, z1, z2, eq_true z3, z4, z5, hAo1 z4, hst, p5, -pv_aidx]
                        repeat refine And.intro (by intros; omega) ?_
                        refine callIf (avs := [l.av, im.av, I (secOf h k)]) (.bool (occupied l im (secOf h k))) rfl (fun _ => ⟨by simp [Lay.cells, Img.cells, hlt, Step.cells, secOf_lt], c_r15Occupied l im hi _⟩) (by simp) ?_
                        simp [hh, ho, hAh, hAo, hlt, hb, Hd.cells, Step.cells, hlast, hlast2, hwn, hw, hgk, hk0, q1, q2, z1, z2, eq_true z3, z4, z5, hAo1 z4, hst, p5, -pv_aidx]
                        repeat refine And.intro (by intros; omega) ?_
                        first | exact ⟨⟨k + 1, by omega, by omega⟩, by omega⟩ | omega
                      · have p6 := f4 z3 hst ho (.inr p5)
                        simp [hh, ho, hAh, hAo, hlt, hb, Hd.cells, Step.cells, hlast, hlast2, hwn, hw, hgk, hk0, q1, q2, z1, z2, eq_true z3, z4, z5, hAo1 z4, hst, p5, p6, -pv_aidx]
                        repeat refine And.intro (by intros; omega) ?_
                        refine callIf (avs := [l.av, im.av, I (secOf h k)]) (.bool (told l im (secOf h k))) rfl (fun _ => ⟨by simp [Lay.cells, Img.cells, hlt, Step.cells, secOf_lt], c_r15Told l im hi _⟩) (by simp) ?_
                        simp [hh, ho, hAh, hAo, hlt, hb, Hd.cells, Step.cells, hlast, hlast2, hwn, hw, hgk, hk0, q1, q2, z1, z2, eq_true z3, z4, z5, hAo1 z4, hst, p5, p6, -pv_aidx]
                        repeat refine And.intro (by intros; omega) ?_
                        refine callIf (avs := [l.av, im.av, I (secOf h k)]) (.bool (occupied l im (secOf h k))) rfl (fun _ => ⟨by simp [Lay.cells, Img.cells, hlt, Step.cells, secOf_lt], c_r15Occupied l im hi _⟩) (by simp) ?_
                        simp [hh, ho, hAh, hAo, hlt, hb, Hd.cells, Step.cells, hlast, hlast2, hwn, hw, hgk, hk0, q1, q2, z1, z2, eq_true z3, z4, z5, hAo1 z4, hst, p5, p6, -pv_aidx]
                        repeat refine And.intro (by intros; omega) ?_
                        refine callIf (avs := [l.av, im.av]) (.bool (stale l im)) rfl (fun _ => ⟨by simp [Lay.cells, Img.cells], c_r15Stale l im⟩) (by simp) ?_
                        simp [hh, ho, hAh, hAo, hlt, hb, Hd.cells, Step.cells, hlast, hlast2, hwn, hw, hgk, hk0, q1, q2, z1, z2, eq_true z3, z4, z5, hAo1 z4, hst, p5, p6, -pv_aidx]
                        repeat refine And.intro (by intros; omega) ?_
                        refine callIf (avs := [l.av, im.av]) (.bool (stale l im)) rfl (fun _ => ⟨by simp [Lay.cells, Img.cells], c_r15Stale l im⟩) (by simp) ?_
                        simp [hh, ho, hAh, hAo, hlt, hb, Hd.cells, Step.cells, hlast, hlast2, hwn, hw, hgk, hk0, q1, q2, z1, z2, eq_true z3, z4, z5, hAo1 z4, hst, p5, p6, -pv_aidx]
                        repeat refine And.intro (by intros; omega) ?_
                        refine callIf (avs := [l.av, im.av, I (secOf h k)]) (.bool (occupied l im (secOf h k))) rfl (fun _ => ⟨by simp [Lay.cells, Img.cells, hlt, Step.cells, secOf_lt], c_r15Occupied l im hi _⟩) (by simp) ?_
                        simp [hh, ho, hAh, hAo, hlt, hb, Hd.cells, Step.cells, hlast, hlast2, hwn, hw, hgk, hk0, q1, q2, z1, z2, eq_true z3, z4, z5, hAo1 z4, hst, p5, p6, -pv_aidx]
                        repeat refine And.intro (by intros; omega) ?_
                        first | exact ⟨⟨k + 1, by omega, by omega⟩, by omega⟩ | omega
                    · have z5 : (k = h.path.steps.length - 1) = True := by simp only [eq_iff_iff, iff_true]; omega
                      have p6 := f4 z3 hst ho (.inl (of_eq_true z5))
                      simp [hh, ho, hAh, hAo, hlt, hb, Hd.cells, Step.cells, hlast, hlast2, hwn, hw, hgk, hk0, q1, q2, z1, z2, eq_true z3, z4, z5, hst, p6, -pv_aidx]
                      repeat refine And.intro (by intros; omega) ?_
                      refine callIf (avs := [l.av, im.av, I (secOf h k)]) (.bool (told l im (secOf h k))) rfl (fun _ => ⟨by simp [Lay.cells, Img.cells, hlt, Step.cells, secOf_lt], c_r15Told l im hi _⟩) (by simp) ?_
                      simp [hh, ho, hAh, hAo, hlt, hb, Hd.cells, Step.cells, hlast, hlast2, hwn, hw, hgk, hk0, q1, q2, z1, z2, eq_true z3, z4, z5, hst, p6, -pv_aidx]
                      repeat refine And.intro (by intros; omega) ?_
                      refine callIf (avs := [l.av, im.av, I (secOf h k)]) (.bool (occupied l im (secOf h k))) rfl (fun _ => ⟨by simp [Lay.cells, Img.cells, hlt, Step.cells, secOf_lt], c_r15Occupied l im hi _⟩) (by simp) ?_
                      simp [hh, ho, hAh, hAo, hlt, hb, Hd.cells, Step.cells, hlast, hlast2, hwn, hw, hgk, hk0, q1, q2, z1, z2, eq_true z3, z4, z5, hst, p6, -pv_aidx]
                      repeat refine And.intro (by intros; omega) ?_
                      refine callIf (avs := [l.av, im.av]) (.bool (stale l im)) rfl (fun _ => ⟨by simp [Lay.cells, Img.cells], c_r15Stale l im⟩) (by simp) ?_
                      simp [hh, ho, hAh, hAo, hlt, hb, Hd.cells, Step.cells, hlast, hlast2, hwn, hw, hgk, hk0, q1, q2, z1, z2, eq_true z3, z4, z5, hst, p6, -pv_aidx]
                      repeat refine And.intro (by intros; omega) ?_
                      refine callIf (avs := [l.av, im.av]) (.bool (stale l im)) rfl (fun _ => ⟨by simp [Lay.cells, Img.cells], c_r15Stale l im⟩) (by simp) ?_
                      simp [hh, ho, hAh, hAo, hlt, hb, Hd.cells, Step.cells, hlast, hlast2, hwn, hw, hgk, hk0, q1, q2, z1, z2, eq_true z3, z4, z5, hst, p6, -pv_aidx]
                      repeat refine And.intro (by intros; omega) ?_
                      refine callIf (avs := [l.av, im.av, I (secOf h k)]) (.bool (occupied l im (secOf h k))) rfl (fun _ => ⟨by simp [Lay.cells, Img.cells, hlt, Step.cells, secOf_lt], c_r15Occupied l im hi _⟩) (by simp) ?_
                      simp [hh, ho, hAh, hAo, hlt, hb, Hd.cells, Step.cells, hlast, hlast2, hwn, hw, hgk, hk0, q1, q2, z1, z2, eq_true z3, z4, z5, hst, p6, -pv_aidx]
                      repeat refine And.intro (by intros; omega) ?_
                      first | exact ⟨⟨k + 1, by omega, by omega⟩, by omega⟩ | omega
                  · simp [hh, ho, hAh, hAo, hlt, hb, Hd.cells, Step.cells, hlast, hlast2, hwn, hw, hgk, hk0, q1, q2, z1, z2, eq_true z3, hst, -pv_aidx]
                    repeat refine And.intro (by intros; omega) ?_
                    refine callIf (avs := [l.av, im.av, I (secOf h k)]) (.bool (told l im (secOf h k))) rfl (fun _ => ⟨by simp [Lay.cells, Img.cells, hlt, Step.cells, secOf_lt], c_r15Told l im hi _⟩) (by simp) ?_
                    simp [hh, ho, hAh, hAo, hlt, hb, Hd.cells, Step.cells, hlast, hlast2, hwn, hw, hgk, hk0, q1, q2, z1, z2, eq_true z3, hst, -pv_aidx]
                    repeat refine And.intro (by intros; omega) ?_
                    refine callIf (avs := [l.av, im.av, I (secOf h k)]) (.bool (occupied l im (secOf h k))) rfl (fun _ => ⟨by simp [Lay.cells, Img.cells, hlt, Step.cells, secOf_lt], c_r15Occupied l im hi _⟩) (by simp) ?_
                    simp [hh, ho, hAh, hAo, hlt, hb, Hd.cells, Step.cells, hlast, hlast2, hwn, hw, hgk, hk0, q1, q2, z1, z2, eq_true z3, hst, -pv_aidx]
                    repeat refine And.intro (by intros; omega) ?_
                    refine callIf (avs := [l.av, im.av]) (.bool (stale l im)) rfl (fun _ => ⟨by simp [Lay.cells, Img.cells], c_r15Stale l im⟩) (by simp) ?_
                    simp [hh, ho, hAh, hAo, hlt, hb, Hd.cells, Step.cells, hlast, hlast2, hwn, hw, hgk, hk0, q1, q2, z1, z2, eq_true z3, hst, -pv_aidx]
                    repeat refine And.intro (by intros; omega) ?_
                    refine callIf (avs := [l.av, im.av]) (.bool (stale l im)) rfl (fun _ => ⟨by simp [Lay.cells, Img.cells], c_r15Stale l im⟩) (by simp) ?_
                    simp [hh, ho, hAh, hAo, hlt, hb, Hd.cells, Step.cells, hlast, hlast2, hwn, hw, hgk, hk0, q1, q2, z1, z2, eq_true z3, hst, -pv_aidx]
                    repeat refine And.intro (by intros; omega) ?_
                    refine callIf (avs := [l.av, im.av, I (secOf h k)]) (.bool (occupied l im (secOf h k))) rfl (fun _ => ⟨by simp [Lay.cells, Img.cells, hlt, Step.cells, secOf_lt], c_r15Occupied l im hi _⟩) (by simp) ?_
                    simp [hh, ho, hAh, hAo, hlt, hb, Hd.cells, Step.cells, hlast, hlast2, hwn, hw, hgk, hk0, q1, q2, z1, z2, eq_true z3, hst, -pv_aidx]
                    repeat refine And.intro (by intros; omega) ?_
                    first | exact ⟨⟨k + 1, by omega, by omega⟩, by omega⟩ | omega
                · simp [hh, ho, hAh, hAo, hlt, hb, Hd.cells, Step.cells, hlast, hlast2, hwn, hw, hgk, hk0, q1, q2, z1, z2, z3, -pv_aidx]
                  repeat refine And.intro (by intros; omega) ?_
                  refine callIf (avs := [l.av, im.av, I (secOf h k)]) (.bool (told l im (secOf h k))) rfl (fun _ => ⟨by simp [Lay.cells, Img.cells, hlt, Step.cells, secOf_lt], c_r15Told l im hi _⟩) (by simp) ?_
                  simp [hh, ho, hAh, hAo, hlt, hb, Hd.cells, Step.cells, hlast, hlast2, hwn, hw, hgk, hk0, q1, q2, z1, z2, z3, -pv_aidx]
                  repeat refine And.intro (by intros; omega) ?_
                  refine callIf (avs := [l.av, im.av, I (secOf h k)]) (.bool (occupied l im (secOf h k))) rfl (fun _ => ⟨by simp [Lay.cells, Img.cells, hlt, Step.cells, secOf_lt], c_r15Occupied l im hi _⟩) (by simp) ?_
                  simp [hh, ho, hAh, hAo, hlt, hb, Hd.cells, Step.cells, hlast, hlast2, hwn, hw, hgk, hk0, q1, q2, z1, z2, z3, -pv_aidx]
                  repeat refine And.intro (by intros; omega) ?_
                  refine callIf (avs := [l.av, im.av]) (.bool (stale l im)) rfl (fun _ => ⟨by simp [Lay.cells, Img.cells], c_r15Stale l im⟩) (by simp) ?_
                  simp [hh, ho, hAh, hAo, hlt, hb, Hd.cells, Step.cells, hlast, hlast2, hwn, hw, hgk, hk0, q1, q2, z1, z2, z3, -pv_aidx]
                  repeat refine And.intro (by intros; omega) ?_
                  refine callIf (avs := [l.av, im.av]) (.bool (stale l im)) rfl (fun _ => ⟨by simp [Lay.cells, Img.cells], c_r15Stale l im⟩) (by simp) ?_
                  simp [hh, ho, hAh, hAo, hlt, hb, Hd.cells, Step.cells, hlast, hlast2, hwn, hw, hgk, hk0, q1, q2, z1, z2, z3, -pv_aidx]
                  repeat refine And.intro (by intros; omega) ?_
                  refine callIf (avs := [l.av, im.av, I (secOf h k)]) (.bool (occupied l im (secOf h k))) rfl (fun _ => ⟨by simp [Lay.cells, Img.cells, hlt, Step.cells, secOf_lt], c_r15Occupied l im hi _⟩) (by simp) ?_
                  simp [hh, ho, hAh, hAo, hlt, hb, Hd.cells, Step.cells, hlast, hlast2, hwn, hw, hgk, hk0, q1, q2, z1, z2, z3, -pv_aidx]
                  repeat refine And.intro (by intros; omega) ?_
                  first | exact ⟨⟨k + 1, by omega, by omega⟩, by omega⟩ | omega
            · by_cases z2 : (k : Int) < o.gone
              · have z3 : ¬ (k : Int) = o.gone := by omega
                simp [hh, ho, hAh, hAo, hlt, hb, Hd.cells, Step.cells, hlast, hlast2, hwn, hw, hgk, hk0, q1, q2, z1, z2, z3, -pv_aidx]
                repeat refine And.intro (by intros; omega) ?_
                refine callIf (avs := [l.av, im.av, I (secOf h k)]) (.bool (told l im (secOf h k))) rfl (fun _ => ⟨by simp [Lay.cells, Img.cells, hlt, Step.cells, secOf_lt], c_r15Told l im hi _⟩) (by simp) ?_
                simp [hh, ho, hAh, hAo, hlt, hb, Hd.cells, Step.cells, hlast, hlast2, hwn, hw, hgk, hk0, q1, q2, z1, z2, z3, -pv_aidx]
                repeat refine And.intro (by intros; omega) ?_
                refine callIf (avs := [l.av, im.av, I (secOf h k)]) (.bool (occupied l im (secOf h k))) rfl (fun _ => ⟨by simp [Lay.cells, Img.cells, hlt, Step.cells, secOf_lt], c_r15Occupied l im hi _⟩) (by simp) ?_
                simp [hh, ho, hAh, hAo, hlt, hb, Hd.cells, Step.cells, hlast, hlast2, hwn, hw, hgk, hk0, q1, q2, z1, z2, z3, -pv_aidx]
                repeat refine And.intro (by intros; omega) ?_
                refine callIf (avs := [l.av, im.av]) (.bool (stale l im)) rfl (fun _ => ⟨by simp [Lay.cells, Img.cells], c_r15Stale l im⟩) (by simp) ?_
                simp [hh, ho, hAh, hAo, hlt, hb, Hd.cells, Step.cells, hlast, hlast2, hwn, hw, hgk, hk0, q1, q2, z1, z2, z3, -pv_aidx]
                repeat refine And.intro (by intros; omega) ?_
                refine callIf (avs := [l.av, im.av]) (.bool (stale l im)) rfl (fun _ => ⟨by simp [Lay.cells, Img.cells], c_r15Stale l im⟩) (by simp) ?_
                simp [hh, ho, hAh, hAo, hlt, hb, Hd.cells, Step.cells, hlast, hlast2, hwn, hw, hgk, hk0, q1, q2, z1, z2, z3, -pv_aidx]
                repeat refine And.intro (by intros; omega) ?_
                refine callIf (avs := [l.av, im.av, I (secOf h k)]) (.bool (occupied l im (secOf h k))) rfl (fun _ => ⟨by simp [Lay.cells, Img.cells, hlt, Step.cells, secOf_lt], c_r15Occupied l im hi _⟩) (by simp) ?_
                simp [hh, ho, hAh, hAo, hlt, hb, Hd.cells, Step.cells, hlast, hlast2, hwn, hw, hgk, hk0, q1, q2, z1, z2, z3, -pv_aidx]
                repeat refine And.intro (by intros; omega) ?_
                first | exact ⟨⟨k + 1, by omega, by omega⟩, by omega⟩ | omega
              · by_cases z3 : (k : Int) = o.gone
                · omega
                · simp [hh, ho, hAh, hAo, hlt, hb, Hd.cells, Step.cells, hlast, hlast2, hwn, hw, hgk, hk0, q1, q2, z1, z2, z3, -pv_aidx]
                  repeat refine And.intro (by intros; omega) ?_
                  refine callIf (avs := [l.av, im.av, I (secOf h k)]) (.bool (told l im (secOf h k))) rfl (fun _ => ⟨by simp [Lay.cells, Img.cells, hlt, Step.cells, secOf_lt], c_r15Told l im hi _⟩) (by simp) ?_
                  simp [hh, ho, hAh, hAo, hlt, hb, Hd.cells, Step.cells, hlast, hlast2, hwn, hw, hgk, hk0, q1, q2, z1, z2, z3, -pv_aidx]
                  repeat refine And.intro (by intros; omega) ?_
                  refine callIf (avs := [l.av, im.av, I (secOf h k)]) (.bool (occupied l im (secOf h k))) rfl (fun _ => ⟨by simp [Lay.cells, Img.cells, hlt, Step.cells, secOf_lt], c_r15Occupied l im hi _⟩) (by simp) ?_
                  simp [hh, ho, hAh, hAo, hlt, hb, Hd.cells, Step.cells, hlast, hlast2, hwn, hw, hgk, hk0, q1, q2, z1, z2, z3, -pv_aidx]
                  repeat refine And.intro (by intros; omega) ?_
                  refine callIf (avs := [l.av, im.av]) (.bool (stale l im)) rfl (fun _ => ⟨by simp [Lay.cells, Img.cells], c_r15Stale l im⟩) (by simp) ?_
                  simp [hh, ho, hAh, hAo, hlt, hb, Hd.cells, Step.cells, hlast, hlast2, hwn, hw, hgk, hk0, q1, q2, z1, z2, z3, -pv_aidx]
                  repeat refine And.intro (by intros; omega) ?_
                  refine callIf (avs := [l.av, im.av]) (.bool (stale l im)) rfl (fun _ => ⟨by simp [Lay.cells, Img.cells], c_r15Stale l im⟩) (by simp) ?_
                  simp [hh, ho, hAh, hAo, hlt, hb, Hd.cells, Step.cells, hlast, hlast2, hwn, hw, hgk, hk0, q1, q2, z1, z2, z3, -pv_aidx]
                  repeat refine And.intro (by intros; omega) ?_
                  refine callIf (avs := [l.av, im.av, I (secOf h k)]) (.bool (occupied l im (secOf h k))) rfl (fun _ => ⟨by simp [Lay.cells, Img.cells, hlt, Step.cells, secOf_lt], c_r15Occupied l im hi _⟩) (by simp) ?_
                  simp [hh, ho, hAh, hAo, hlt, hb, Hd.cells, Step.cells, hlast, hlast2, hwn, hw, hgk, hk0, q1, q2, z1, z2, z3, -pv_aidx]
                  repeat refine And.intro (by intros; omega) ?_
                  first | exact ⟨⟨k + 1, by omega, by omega⟩, by omega⟩ | omega
      · have ho := f1 hh
        by_cases z1 : h.gone ≤ (k : Int)
        · by_cases z2 : (k : Int) < o.gone
          · have z3 : ¬ (k : Int) = o.gone := by omega
            obtain ⟨p1, p2, p3, p4⟩ := f3 z1 z2
            by_cases z4 : k < h.path.steps.length - 1
            · have z5 : (k = h.path.steps.length - 1) = False := by simp only [eq_iff_iff, iff_false]; omega
              have p5 := p2 z4
              simp [hh, ho, hAh, hAo, hlt, hb, Hd.cells, Step.cells, hlast, hlast2, hwn, hw, hgk, z1, z2, z3, z4, z5, hAo1 z4, p3, p4, p5, -pv_aidx]
              repeat refine And.intro (by intros; omega) ?_
              refine callIf (avs := [l.av, im.av, I (secOf h k)]) (.bool (told l im (secOf h k))) rfl (fun _ => ⟨by simp [Lay.cells, Img.cells, hlt, Step.cells, secOf_lt], c_r15Told l im hi _⟩) (by simp) ?_
              simp [hh, ho, hAh, hAo, hlt, hb, Hd.cells, Step.cells, hlast, hlast2, hwn, hw, hgk, z1, z2, z3, z4, z5, hAo1 z4, p3, p4, p5, -pv_aidx]
              repeat refine And.intro (by intros; omega) ?_
              refine callIf (avs := [l.av, im.av, I (secOf h k)]) (.bool (occupied l im (secOf h k))) rfl (fun _ => ⟨by simp [Lay.cells, Img.cells, hlt, Step.cells, secOf_lt], c_r15Occupied l im hi _⟩) (by simp) ?_
              simp [hh, ho, hAh, hAo, hlt, hb, Hd.cells, Step.cells, hlast, hlast2, hwn, hw, hgk, z1, z2, z3, z4, z5, hAo1 z4, p3, p4, p5, -pv_aidx]
              repeat refine And.intro (by intros; omega) ?_
              refine callIf (avs := [l.av, im.av]) (.bool (stale l im)) rfl (fun _ => ⟨by simp [Lay.cells, Img.cells], c_r15Stale l im⟩) (by simp) ?_
              simp [hh, ho, hAh, hAo, hlt, hb, Hd.cells, Step.cells, hlast, hlast2, hwn, hw, hgk, z1, z2, z3, z4, z5, hAo1 z4, p3, p4, p5, -pv_aidx]
              repeat refine And.intro (by intros; omega) ?_
              refine callIf (avs := [l.av, im.av]) (.bool (stale l im)) rfl (fun _ => ⟨by simp [Lay.cells, Img.cells], c_r15Stale l im⟩) (by simp) ?_
              simp [hh, ho, hAh, hAo, hlt, hb, Hd.cells, Step.cells, hlast, hlast2, hwn, hw, hgk, z1, z2, z3, z4, z5, hAo1 z4, p3, p4, p5, -pv_aidx]
              repeat refine And.intro (by intros; omega) ?_
              refine callIf (avs := [l.av, im.av, I (secOf h k)]) (.bool (occupied l im (secOf h k))) rfl (fun _ => ⟨by simp [Lay.cells, Img.cells, hlt, Step.cells, secOf_lt], c_r15Occupied l im hi _⟩) (by simp) ?_
              simp [hh, ho, hAh, hAo, hlt, hb, Hd.cells, Step.cells, hlast, hlast2, hwn, hw, hgk, z1, z2, z3, z4, z5, hAo1 z4, p3, p4, p5, -pv_aidx]
              repeat refine And.intro (by intros; omega) ?_
              first | exact ⟨⟨k + 1, by omega, by omega⟩, by omega⟩ | omega
            · have z5 : (k = h.path.steps.length - 1) = True := by simp only [eq_iff_iff, iff_true]; omega
              simp [hh, ho, hAh, hAo, hlt, hb, Hd.cells, Step.cells, hlast, hlast2, hwn, hw, hgk, z1, z2, z3, z4, z5, p3, p4, -pv_aidx]
              repeat refine And.intro (by intros; omega) ?_
              refine callIf (avs := [l.av, im.av, I (secOf h k)]) (.bool (told l im (secOf h k))) rfl (fun _ => ⟨by simp [Lay.cells, Img.cells, hlt, Step.cells, secOf_lt], c_r15Told l im hi _⟩) (by simp) ?_
              simp [hh, ho, hAh, hAo, hlt, hb, Hd.cells, Step.cells, hlast, hlast2, hwn, hw, hgk, z1, z2, z3, z4, z5, p3, p4, -pv_aidx]
              repeat refine And.intro (by intros; omega) ?_
              refine callIf (avs := [l.av, im.av, I (secOf h k)]) (.bool (occupied l im (secOf h k))) rfl (fun _ => ⟨by simp [Lay.cells, Img.cells, hlt, Step.cells, secOf_lt], c_r15Occupied l im hi _⟩) (by simp) ?_
              simp [hh, ho, hAh, hAo, hlt, hb, Hd.cells, Step.cells, hlast, hlast2, hwn, hw, hgk, z1, z2, z3, z4, z5, p3, p4, -pv_aidx]
              repeat refine And.intro (by intros; omega) ?_
              refine callIf (avs := [l.av, im.av]) (.bool (stale l im)) rfl (fun _ => ⟨by simp [Lay.cells, Img.cells], c_r15Stale l im⟩) (by simp) ?_
              simp [hh, ho, hAh, hAo, hlt, hb, Hd.cells, Step.cells, hlast, hlast2, hwn, hw, hgk, z1, z2, z3, z4, z5, p3, p4, -pv_aidx]
              repeat refine And.intro (by intros; omega) ?_
              refine callIf (avs := [l.av, im.av]) (.bool (stale l im)) rfl (fun _ => ⟨by simp [Lay.cells, Img.cells], c_r15Stale l im⟩) (by simp) ?_
              simp [hh, ho, hAh, hAo, hlt, hb, Hd.cells, Step.cells, hlast, hlast2, hwn, hw, hgk, z1, z2, z3, z4, z5, p3, p4, -pv_aidx]
              repeat refine And.intro (by intros; omega) ?_
              refine callIf (avs := [l.av, im.av, I (secOf h k)]) (.bool (occupied l im (secOf h k))) rfl (fun _ => ⟨by simp [Lay.cells, Img.cells, hlt, Step.cells, secOf_lt], c_r15Occupied l im hi _⟩) (by simp) ?_
              simp [hh, ho, hAh, hAo, hlt, hb, Hd.cells, Step.cells, hlast, hlast2, hwn, hw, hgk, z1, z2, z3, z4, z5, p3, p4, -pv_aidx]
              repeat refine And.intro (by intros; omega) ?_
              first | exact ⟨⟨k + 1, by omega, by omega⟩, by omega⟩ | omega
          · by_cases z3 : (k : Int) = o.gone
            · cases hst : stale l im
              · by_cases z4 : k < h.path.steps.length - 1
                · have z5 : (k = h.path.steps.length - 1) = False := by simp only [eq_iff_iff, iff_false]; omega
                  cases p5 : o.was (k + 1)
                  · simp [hh, ho, hAh, hAo, hlt, hb, Hd.cells, Step.cells, hlast, hlast2, hwn, hw, hgk, z1, z2, eq_true z3, z4, z5, hAo1 z4, hst, p5, -pv_aidx]
                    repeat refine And.intro (by intros; omega) ?_
                    refine callIf (avs := [l.av, im.av, I (secOf h k)]) (.bool (told l im (secOf h k))) rfl (fun _ => ⟨by simp [Lay.cells, Img.cells, hlt, Step.cells, secOf_lt], c_r15Told l im hi _⟩) (by simp) ?_
                    simp [hh, ho, hAh, hAo, hlt, hb, Hd.cells, Step.cells, hlast, hlast2, hwn, hw, hgk, z1, z2, eq_true z3, z4, z5, hAo1 z4, hst, p5, -pv_aidx]
                    repeat refine And.intro (by intros; omega) ?_
                    refine callIf (avs := [l.av, im.av, I (secOf h k)]) (.bool (occupied l im (secOf h k))) rfl (fun _ => ⟨by simp [Lay.cells, Img.cells, hlt, Step.cells, secOf_lt], c_r15Occupied l im hi _⟩) (by simp) ?_
                    simp [hh, ho, hAh, hAo, hlt, hb, Hd.cells, Step.cells, hlast, hlast2, hwn, hw, hgk, z1, z2, eq_true z3, z4, z5, hAo1 z4, hst, p5, -pv_aidx]
                    repeat refine And.intro (by intros; omega) ?_
                    refine callIf (avs := [l.av, im.av]) (.bool (stale l im)) rfl (fun _ => ⟨by simp [Lay.cells, Img.cells], c_r15Stale l im⟩) (by simp) ?_
                    simp [hh, ho, hAh, hAo, hlt, hb, Hd.cells, Step.cells, hlast, hlast2, hwn, hw, hgk, z1, z2, eq_true z3, z4, z5, hAo1 z4, hst, p5, -pv_aidx]
                    repeat refine And.intro (by intros; omega) ?_
                    refine callIf (avs := [l.av, im.av]) (.bool (stale l im)) rfl (fun _ => ⟨by simp [Lay.cells, Img.cells], c_r15Stale l im⟩) (by simp) ?_
                    simp [hh, ho, hAh, hAo, hlt, hb, Hd.cells, Step.cells, hlast, hlast2, hwn, hw, hgk, z1, z2, eq_true z3, z4, z5, hAo1 z4, hst, p5, -pv_aidx]
                    repeat refine And.intro (by intros; omega) ?_
                    refine callIf (avs := [l.av, im.av, I (secOf h k)]) (.bool (occupied l im (secOf h k))) rfl (fun _ => ⟨by simp [Lay.cells, Img.cells, hlt, Step.cells, secOf_lt], c_r15Occupied l im hi _⟩) (by simp) ?_
                    simp [hh, ho, hAh, hAo, hlt, hb, Hd.cells, Step.cells, hlast, hlast2, hwn, hw, hgk, z1, z2, eq_true z3, z4, z5, hAo1 z4, hst, p5, -pv_aidx]
                    repeat refine And.intro (by intros; omega) ?_
                    first | exact ⟨⟨k + 1, by omega, by omega⟩, by omega⟩ | omega
                  · have p6 := f4 z3 hst ho (.inr p5)
                    simp [hh, ho, hAh, hAo, hlt, hb, Hd.cells, Step.cells, hlast, hlast2, hwn, hw, hgk, z1, z2, eq_true z3, z4, z5, hAo1 z4, hst, p5, p6, -pv_aidx]
                    repeat refine And.intro (by intros; omega) ?_
                    refine callIf (avs := [l.av, im.av, I (secOf h k)]) (.bool (told l im (secOf h k))) rfl (fun _ => ⟨by simp [Lay.cells, Img.cells, hlt, Step.cells, secOf_lt], c_r15Told l im hi _⟩) (by simp) ?_
                    simp [hh, ho, hAh, hAo, hlt, hb, Hd.cells, Step.cells, hlast, hlast2, hwn, hw, hgk, z1, z2, eq_true z3, z4, z5, hAo1 z4, hst, p5, p6, -pv_aidx]
                    repeat refine And.intro (by intros; omega) ?_
                    refine callIf (avs := [l.av, im.av, I (secOf h k)]) (.bool (occupied l im (secOf h k))) rfl (fun _ => ⟨by simp [Lay.cells, Img.cells, hlt, Step.cells, secOf_lt], c_r15Occupied l im hi _⟩) (by simp) ?_
                    simp [hh, ho, hAh, hAo, hlt, hb, Hd.cells, Step.cells, hlast, hlast2, hwn, hw, hgk, z1, z2, eq_true z3, z4, z5, hAo1 z4, hst, p5, p6, -pv_aidx]
                    repeat refine And.intro (by intros; omega) ?_
                    refine callIf (avs := [l.av, im.av]) (.bool (stale l im)) rfl (fun _ => ⟨by simp [Lay.cells, Img.cells], c_r15Stale l im⟩) (by simp) ?_
                    simp [hh, ho, hAh, hAo, hlt, hb, Hd.cells, Step.cells, hlast, hlast2, hwn, hw, hgk, z1, z2, eq_true z3, z4, z5, hAo1 z4, hst, p5, p6, -pv_aidx]
                    repeat refine And.intro (by intros; omega) ?_
                    refine callIf (avs := [l.av, im.av]) (.bool (stale l im)) rfl (fun _ => ⟨by simp [Lay.cells, Img.cells], c_r15Stale l im⟩) (by simp) ?_
                    simp [hh, ho, hAh, hAo, hlt, hb, Hd.cells, Step.cells, hlast, hlast2, hwn, hw, hgk, z1, z2, eq_true z3, z4, z5, hAo1 z4, hst, p5, p6, -pv_aidx]
                    repeat refine And.intro (by intros; omega) ?_
                    refine callIf (avs := [l.av, im.av, I (secOf h k)]) (.bool (occupied l im (secOf h k))) rfl (fun _ => ⟨by simp [Lay.cells, Img.cells, hlt, Step.cells, secOf_lt], c_r15Occupied l im hi _⟩) (by simp) ?_
                    simp [hh, ho, hAh, hAo, hlt, hb, Hd.cells, Step.cells, hlast, hlast2, hwn, hw, hgk, z1, z2, eq_true z3, z4, z5, hAo1 z4, hst, p5, p6, -pv_aidx]
                    repeat refine And.intro (by intros; omega) ?_
                    first | exact ⟨⟨k + 1, by omega, by omega⟩, by omega⟩ | omega
                · have z5 : (k = h.path.steps.length - 1) = True := by simp only [eq_iff_iff, iff_true]; omega
                  have p6 := f4 z3 hst ho (.inl (of_eq_true z5))
                  simp [hh, ho, hAh, hAo, hlt, hb, Hd.cells, Step.cells, hlast, hlast2, hwn, hw, hgk, z1, z2, eq_true z3, z4, z5, hst, p6, -pv_aidx]
                  repeat refine And.intro (by intros; omega) ?_
                  refine callIf (avs := [l.av, im.av, I (secOf h k)]) (.bool (told l im (secOf h k))) rfl (fun _ => ⟨by simp [Lay.cells, Img.cells, hlt, Step.cells, secOf_lt], c_r15Told l im hi _⟩) (by simp) ?_
                  simp [hh, ho, hAh, hAo, hlt, hb, Hd.cells, Step.cells, hlast, hlast2, hwn, hw, hgk, z1, z2, eq_true z3, z4, z5, hst, p6, -pv_aidx]
                  repeat refine And.intro (by intros; omega) ?_
                  refine callIf (avs := [l.av, im.av, I (secOf h k)]) (.bool (occupied l im (secOf h k))) rfl (fun _ => ⟨by simp [Lay.cells, Img.cells, hlt, Step.cells, secOf_lt], c_r15Occupied l im hi _⟩) (by simp) ?_
                  simp [hh, ho, hAh, hAo, hlt, hb, Hd.cells, Step.cells, hlast, hlast2, hwn, hw, hgk, z1, z2, eq_true z3, z4, z5, hst, p6, -pv_aidx]
                  repeat refine And.intro (by intros; omega) ?_
                  refine callIf (avs := [l.av, im.av]) (.bool (stale l im)) rfl (fun _ => ⟨by simp [Lay.cells, Img.cells], c_r15Stale l im⟩) (by simp) ?_
                  simp [hh, ho, hAh, hAo, hlt, hb, Hd.cells, Step.cells, hlast, hlast2, hwn, hw, hgk, z1, z2, eq_true z3, z4, z5, hst, p6, -pv_aidx]
                  repeat refine And.intro (by intros; omega) ?_
                  refine callIf (avs := [l.av, im.av]) (.bool (stale l im)) rfl (fun _ => ⟨by simp [Lay.cells, Img.cells], c_r15Stale l im⟩) (by simp) ?_
                  simp [hh, ho, hAh, hAo, hlt, hb, Hd.cells, Step.cells, hlast, hlast2, hwn, hw, hgk, z1, z2, eq_true z3, z4, z5, hst, p6, -pv_aidx]
                  repeat refine And.intro (by intros; omega) ?_
                  refine callIf (avs := [l.av, im.av, I (secOf h k)]) (.bool (occupied l im (secOf h k))) rfl (fun _ => ⟨by simp [Lay.cells, Img.cells, hlt, Step.cells, secOf_lt], c_r15Occupied l im hi _⟩) (by simp) ?_
                  simp [hh, ho, hAh, hAo, hlt, hb, Hd.cells, Step.cells, hlast, hlast2, hwn, hw, hgk, z1, z2, eq_true z3, z4, z5, hst, p6, -pv_aidx]
                  repeat refine And.intro (by intros; omega) ?_
                  first | exact ⟨⟨k + 1, by omega, by omega⟩, by omega⟩ | omega
              · simp [hh, ho, hAh, hAo, hlt, hb, Hd.cells, Step.cells, hlast, hlast2, hwn, hw, hgk, z1, z2, eq_true z3, hst, -pv_aidx]
                repeat refine And.intro (by intros; omega) ?_
                refine callIf (avs := [l.av, im.av, I (secOf h k)]) (.bool (told l im (secOf h k))) rfl (fun _ => ⟨by simp [Lay.cells, Img.cells, hlt, Step.cells, secOf_lt], c_r15Told l im hi _⟩) (by simp) ?_
                simp [hh, ho, hAh, hAo, hlt, hb, Hd.cells, Step.cells, hlast, hlast2, hwn, hw, hgk, z1, z2, eq_true z3, hst, -pv_aidx]
                repeat refine And.intro (by intros; omega) ?_
                refine callIf (avs := [l.av, im.av, I (secOf h k)]) (.bool (occupied l im (secOf h k))) rfl (fun _ => ⟨by simp [Lay.cells, Img.cells, hlt, Step.cells, secOf_lt], c_r15Occupied l im hi _⟩) (by simp) ?_
                simp [hh, ho, hAh, hAo, hlt, hb, Hd.cells, Step.cells, hlast, hlast2, hwn, hw, hgk, z1, z2, eq_true z3, hst, -pv_aidx]
                repeat refine And.intro (by intros; omega) ?_
                refine callIf (avs := [l.av, im.av]) (.bool (stale l im)) rfl (fun _ => ⟨by simp [Lay.cells, Img.cells], c_r15Stale l im⟩) (by simp) ?_
                simp [hh, ho, hAh, hAo, hlt, hb, Hd.cells, Step.cells, hlast, hlast2, hwn, hw, hgk, z1, z2, eq_true z3, hst, -pv_aidx]
                repeat refine And.intro (by intros; omega) ?_
                refine callIf (avs := [l.av, im.av]) (.bool (stale l im)) rfl (fun _ => ⟨by simp [Lay.cells, Img.cells], c_r15Stale l im⟩) (by simp) ?_
                simp [hh, ho, hAh, hAo, hlt, hb, Hd.cells, Step.cells, hlast, hlast2, hwn, hw, hgk, z1, z2, eq_true z3, hst, -pv_aidx]
                repeat refine And.intro (by intros; omega) ?_
                refine callIf (avs := [l.av, im.av, I (secOf h k)]) (.bool (occupied l im (secOf h k))) rfl (fun _ => ⟨by simp [Lay.cells, Img.cells, hlt, Step.cells, secOf_lt], c_r15Occupied l im hi _⟩) (by simp) ?_
                simp [hh, ho, hAh, hAo, hlt, hb, Hd.cells, Step.cells, hlast, hlast2, hwn, hw, hgk, z1, z2, eq_true z3, hst, -pv_aidx]
                repeat refine And.intro (by intros; omega) ?_
                first | exact ⟨⟨k + 1, by omega, by omega⟩, by omega⟩ | omega
            · simp [hh, ho, hAh, hAo, hlt, hb, Hd.cells, Step.cells, hlast, hlast2, hwn, hw, hgk, z1, z2, z3, -pv_aidx]
              repeat refine And.intro (by intros; omega) ?_
              refine callIf (avs := [l.av, im.av, I (secOf h k)]) (.bool (told l im (secOf h k))) rfl (fun _ => ⟨by simp [Lay.cells, Img.cells, hlt, Step.cells, secOf_lt], c_r15Told l im hi _⟩) (by simp) ?_
              simp [hh, ho, hAh, hAo, hlt, hb, Hd.cells, Step.cells, hlast, hlast2, hwn, hw, hgk, z1, z2, z3, -pv_aidx]
              repeat refine And.intro (by intros; omega) ?_
              refine callIf (avs := [l.av, im.av, I (secOf h k)]) (.bool (occupied l im (secOf h k))) rfl (fun _ => ⟨by simp [Lay.cells, Img.cells, hlt, Step.cells, secOf_lt], c_r15Occupied l im hi _⟩) (by simp) ?_
              simp [hh, ho, hAh, hAo, hlt, hb, Hd.cells, Step.cells, hlast, hlast2, hwn, hw, hgk, z1, z2, z3, -pv_aidx]
              repeat refine And.intro (by intros; omega) ?_
              refine callIf (avs := [l.av, im.av]) (.bool (stale l im)) rfl (fun _ => ⟨by simp [Lay.cells, Img.cells], c_r15Stale l im⟩) (by simp) ?_
              simp [hh, ho, hAh, hAo, hlt, hb, Hd.cells, Step.cells, hlast, hlast2, hwn, hw, hgk, z1, z2, z3, -pv_aidx]
              repeat refine And.intro (by intros; omega) ?_
              refine callIf (avs := [l.av, im.av]) (.bool (stale l im)) rfl (fun _ => ⟨by simp [Lay.cells, Img.cells], c_r15Stale l im⟩) (by simp) ?_
              simp [hh, ho, hAh, hAo, hlt, hb, Hd.cells, Step.cells, hlast, hlast2, hwn, hw, hgk, z1, z2, z3, -pv_aidx]
              repeat refine And.intro (by intros; omega) ?_
              refine callIf (avs := [l.av, im.av, I (secOf h k)]) (.bool (occupied l im (secOf h k))) rfl (fun _ => ⟨by simp [Lay.cells, Img.cells, hlt, Step.cells, secOf_lt], c_r15Occupied l im hi _⟩) (by simp) ?_
              simp [hh, ho, hAh, hAo, hlt, hb, Hd.cells, Step.cells, hlast, hlast2, hwn, hw, hgk, z1, z2, z3, -pv_aidx]
              repeat refine And.intro (by intros; omega) ?_
              first | exact ⟨⟨k + 1, by omega, by omega⟩, by omega⟩ | omega
        · by_cases z2 : (k : Int) < o.gone
          · have z3 : ¬ (k : Int) = o.gone := by omega
            simp [hh, ho, hAh, hAo, hlt, hb, Hd.cells, Step.cells, hlast, hlast2, hwn, hw, hgk, z1, z2, z3, -pv_aidx]
            repeat refine And.intro (by intros; omega) ?_
            refine callIf (avs := [l.av, im.av, I (secOf h k)]) (.bool (told l im (secOf h k))) rfl (fun _ => ⟨by simp [Lay.cells, Img.cells, hlt, Step.cells, secOf_lt], c_r15Told l im hi _⟩) (by simp) ?_
            simp [hh, ho, hAh, hAo, hlt, hb, Hd.cells, Step.cells, hlast, hlast2, hwn, hw, hgk, z1, z2, z3, -pv_aidx]
            repeat refine And.intro (by intros; omega) ?_
            refine callIf (avs := [l.av, im.av, I (secOf h k)]) (.bool (occupied l im (secOf h k))) rfl (fun _ => ⟨by simp [Lay.cells, Img.cells, hlt, Step.cells, secOf_lt], c_r15Occupied l im hi _⟩) (by simp) ?_
            simp [hh, ho, hAh, hAo, hlt, hb, Hd.cells, Step.cells, hlast, hlast2, hwn, hw, hgk, z1, z2, z3, -pv_aidx]
            repeat refine And.intro (by intros; omega) ?_
            refine callIf (avs := [l.av, im.av]) (.bool (stale l im)) rfl (fun _ => ⟨by simp [Lay.cells, Img.cells], c_r15Stale l im⟩) (by simp) ?_
            simp [hh, ho, hAh, hAo, hlt, hb, Hd.cells, Step.cells, hlast, hlast2, hwn, hw, hgk, z1, z2, z3, -pv_aidx]
            repeat refine And.intro (by intros; omega) ?_
            refine callIf (avs := [l.av, im.av]) (.bool (stale l im)) rfl (fun _ => ⟨by simp [Lay.cells, Img.cells], c_r15Stale l im⟩) (by simp) ?_
            simp [hh, ho, hAh, hAo, hlt, hb, Hd.cells, Step.cells, hlast, hlast2, hwn, hw, hgk, z1, z2, z3, -pv_aidx]
            repeat refine And.intro (by intros; omega) ?_
            refine callIf (avs := [l.av, im.av, I (secOf h k)]) (.bool (occupied l im (secOf h k))) rfl (fun _ => ⟨by simp [Lay.cells, Img.cells, hlt, Step.cells, secOf_lt], c_r15Occupied l im hi _⟩) (by simp) ?_
            simp [hh, ho, hAh, hAo, hlt, hb, Hd.cells, Step.cells, hlast, hlast2, hwn, hw, hgk, z1, z2, z3, -pv_aidx]
            repeat refine And.intro (by intros; omega) ?_
            first | exact ⟨⟨k + 1, by omega, by omega⟩, by omega⟩ | omega
          · by_cases z3 : (k : Int) = o.gone
            · omega
            · simp [hh, ho, hAh, hAo, hlt, hb, Hd.cells, Step.cells, hlast, hlast2, hwn, hw, hgk, z1, z2, z3, -pv_aidx]
              repeat refine And.intro (by intros; omega) ?_
              refine callIf (avs := [l.av, im.av, I (secOf h k)]) (.bool (told l im (secOf h k))) rfl (fun _ => ⟨by simp [Lay.cells, Img.cells, hlt, Step.cells, secOf_lt], c_r15Told l im hi _⟩) (by simp) ?_
              simp [hh, ho, hAh, hAo, hlt, hb, Hd.cells, Step.cells, hlast, hlast2, hwn, hw, hgk, z1, z2, z3, -pv_aidx]
              repeat refine And.intro (by intros; omega) ?_
              refine callIf (avs := [l.av, im.av, I (secOf h k)]) (.bool (occupied l im (secOf h k))) rfl (fun _ => ⟨by simp [Lay.cells, Img.cells, hlt, Step.cells, secOf_lt], c_r15Occupied l im hi _⟩) (by simp) ?_
              simp [hh, ho, hAh, hAo, hlt, hb, Hd.cells, Step.cells, hlast, hlast2, hwn, hw, hgk, z1, z2, z3, -pv_aidx]
              repeat refine And.intro (by intros; omega) ?_
              refine callIf (avs := [l.av, im.av]) (.bool (stale l im)) rfl (fun _ => ⟨by simp [Lay.cells, Img.cells], c_r15Stale l im⟩) (by simp) ?_
              simp [hh, ho, hAh, hAo, hlt, hb, Hd.cells, Step.cells, hlast, hlast2, hwn, hw, hgk, z1, z2, z3, -pv_aidx]
              repeat refine And.intro (by intros; omega) ?_
              refine callIf (avs := [l.av, im.av]) (.bool (stale l im)) rfl (fun _ => ⟨by simp [Lay.cells, Img.cells], c_r15Stale l im⟩) (by simp) ?_
              simp [hh, ho, hAh, hAo, hlt, hb, Hd.cells, Step.cells, hlast, hlast2, hwn, hw, hgk, z1, z2, z3, -pv_aidx]
              repeat refine And.intro (by intros; omega) ?_
              refine callIf (avs := [l.av, im.av, I (secOf h k)]) (.bool (occupied l im (secOf h k))) rfl (fun _ => ⟨by simp [Lay.cells, Img.cells, hlt, Step.cells, secOf_lt], c_r15Occupied l im hi _⟩) (by simp) ?_
              simp [hh, ho, hAh, hAo, hlt, hb, Hd.cells, Step.cells, hlast, hlast2, hwn, hw, hgk, z1, z2, z3, -pv_aidx]
              repeat refine And.intro (by intros; omega) ?_
              first | exact ⟨⟨k + 1, by omega, by omega⟩, by omega⟩ | omega
    · have hge : h.path.steps.length ≤ k := by simpa using hge
      have hAn := fun a0 a1 a2 a3 a4 a5 a6 a7 t => aidx8 o.was a0 a1 a2 a3 a4 a5 a6 a7 t (i := h.path.steps.length - 1) (z := (h.path.steps.length : Int) - 1) (by omega) (by omega)
      have hfin : (((o.opn && !h.opn) && decide (o.gone < h.path.steps.length)) && (!o.was (h.path.steps.length - 1) || decide (o.timer < l.over))) = false := by
        cases q1 : o.opn
        · rfl
        · cases q2 : h.opn
          · by_cases q3 : o.gone < h.path.steps.length
            · obtain ⟨q4, q5⟩ := hfo q1 q2 q3
              have : ¬ o.timer < l.over := by omega
              rw [hn] at q4
              simp [q4, this]
            · simp [q3]
          · rfl
      simp [hwn, hAn, Hd.cells, -pv_aidx]
      have hfo2 : o.opn = true → h.opn = false → o.gone < h.path.steps.length → o.was (h.path.steps.length - 1) = true ∧ l.over ≤ o.timer := fun q1 q2 q3 => hfo q1 q2 q3
      refine ⟨fun _ _ _ => by omega, fun _ _ _ => by omega, hfo2, fun _ => ?_⟩
      refine call c_wakes (by simp) (by simp) ?_
      simp
end Go.Lb.LK
