/- A train's tick, as the document has it. -/
/- A train's tick, as the program has it. -/
/- Trains in a route, told in it, in rear of a signal; what lies in rear: both. -/
/- What lies in rear of a signal; ticks of routes that are cancelled: both. -/
/- A route's tick, both. -/
/- A route's tick, as the program has it. -/
/- Ticks of routes that are cancelled: both. -/
/- What comes of a cancelled route, by its stage; where it stands. -/
import Derived.Test.YtkcpgfjlmicnnaaGreatDoorCh6
set_option linter.unusedSimpArgs false
set_option linter.unusedVariables false
namespace Go.Lb.LK
open Go Go.Lb Go.Proofs Go.RowKit

theorem secOf_lt {h : Hd} {k : Nat} (hk : k < h.path.steps.length) : secOf h k = h.path.steps[k].s := by
  simp [secOf, hk]
theorem runS_asleep {l : Lay} {im : Img} {h : Hd} (ha : asleepS l im h = true) : runS l im h = h := by simp [runS, ha]
theorem runS_awake {l : Lay} {im : Img} {h : Hd} (ha : asleepS l im h = false) : runS l im h = { h with was := wr l im h, gone := goX l im h h.gone.toNat, timer := timerS l im h, opn := opnS l im h } := by simp [runS, ha]

set_option maxHeartbeats 2000000 in
theorem c_r21Run (l : Lay) (im : Img) (hi : im.ok) (h : Hd) (hl : h.len) (hs : 0 ≤ h.stage ∧ h.stage ≤ 255) : C f_lockbarref21_Run [l.av, im.av, h.av] (runS l im h).av := by
  refine ctr (l.cells ++ im.cells ++ h.cells) run_lockbarref21_Run rfl (lih l im h) (by simp [AV.pure]) ?_ rfl
  unfold rt_lockbarref21_Run
  simp [Lay.cells, Img.cells, Hd.cells]
  refine call (c_r17Own h hl) (by simp [Hd.cells]) (by simp) ?_
  simp [Hd.av, Hd.cells]
  refine call (c_r17Right h hl hs) (by simp [Hd.cells]) (by simp) ?_
  simp
  refine callIf (avs := [l.av, im.av]) (.bool (stale l im)) rfl (fun _ => ⟨by simp [Lay.cells, Img.cells], c_r15Stale l im⟩) (by simp) ?_
  simp
  cases ha : asleepS l im h
  · rw [runS_awake ha]
    simp only [asleepS, Bool.or_eq_false_iff, Bool.not_eq_false'] at ha
    obtain ⟨⟨a1, a2, a3, a4, a5, a6, a7⟩, ⟨d1, d2, d3, d4⟩, _⟩ := right_facts ha.1
    simp [ha.1, ha.2]

    obtain ⟨g, hg⟩ : ∃ g : Nat, h.gone = g := ⟨h.gone.toNat, by omega⟩
    refine RTwp_loop rfl (fun vs => ∃ k : Nat, g ≤ k ∧ k ≤ h.n ∧ vs = I k :: wcells (wrM l im h k)) (fun vs => match vs with | .int _ j :: _ => h.n - j.toNat | _ => 0) ⟨g, by omega, by unfold Hd.n; omega, by simp [wrM_zero (l := l) (im := im) (h := h) (m := g) (by omega), hg, wcells]⟩ ?_
    rintro vs - ⟨k, hk1, hk2, rfl⟩
    have hn : h.n = h.path.steps.length := rfl
    simp [wcells]
    refine ⟨fun hlt => ?_, fun hge => ?_⟩
    · simp [hlt, Step.cells]
      refine call (c_r15Told l im hi (secOf h k)) (by simp [Lay.cells, Img.cells, hlt, Step.cells, secOf_lt]) (by simp) ?_
      simp [hlt, Step.cells]
      have hw := wrap_succ (i := k) (by omega)
      have hat := wr_at (l := l) (im := im) (h := h) (k := k) (by omega) (by omega)
      have hprev : ¬ k = 0 → IntKind.i64.wrap ((k : Int) - 1) = ((k - 1 : Nat) : Int) := fun hk0 => by rw [wrap_i] <;> omega
      have hpw : ¬ k = 0 → wrM l im h k (k - 1) = wr l im h (k - 1) := fun hk0 => by unfold wrM; rw [if_pos (by omega)]
      have hcell : ¬ k = 0 → _ := fun hk0 => wtail_get (wrM l im h k) [AV.bool h.opn, I h.timer, AV.bool h.shown] (i := k - 1) (by omega)
      rw [hw]
      refine ⟨fun h1 h2 => by rw [hprev h1]; omega, fun h1 h2 => by rw [hprev h1]; omega, ?_⟩
      cases ht : told l im (secOf h k)
      · left
        rw [ht] at hat
        refine ⟨fun hh => (by cases hh), ⟨k + 1, by omega, by omega, rfl, ?_⟩, by omega⟩
        rw [wrM_same (by simpa using hat)]
        simp
      · by_cases hk0 : k = 0
        · right
          refine ⟨by simp [hk0], by omega, ⟨k + 1, by omega, by omega, rfl, ?_⟩, by omega⟩
          have : wr l im h k = true := by rw [hat, ht]; simp [hk0]
          simp only [wrM_on this]
          subst hk0
          simp
        · rw [hprev hk0]
          simp only [Int.toNat_natCast, hcell hk0, hpw hk0, if_neg hk0]
          cases hp : wr l im h (k - 1)
          · left
            refine ⟨fun _ => rfl, ⟨k + 1, by omega, by omega, rfl, ?_⟩, by omega⟩
            rw [wrM_same (by rw [hat, hp]; simp [hk0])]
            simp
          · right
            refine ⟨rfl, by omega, ⟨k + 1, by omega, by omega, rfl, ?_⟩, by omega⟩
            have : wr l im h k = true := by rw [hat, ht, hp]; simp
            simp only [wrM_on this]
            have hd : ∀ a b : Nat, b = 8 + a → decide (b = 8 + k) = decide (a = k) := fun a b e => decide_eq_decide.2 (by omega)
            rw [hd 1 9 rfl, hd 2 10 rfl, hd 3 11 rfl, hd 4 12 rfl, hd 5 13 rfl, hd 6 14 rfl, hd 7 15 rfl, hd 8 16 rfl, hd 9 17 rfl, hd 10 18 rfl, hd 11 19 rfl]
            simp [eq_comm]
    · have hkn : k = h.n := by omega
      subst hkn
      rw [wrM_all (Nat.le_refl _)]
      refine RTwp_loop rfl (fun vs => ∃ k : Nat, g ≤ k ∧ k ≤ h.n ∧ vs = [I k] ∧ goX l im h h.gone.toNat = goX l im h k) (fun vs => match vs with | .int _ j :: _ => h.n + 1 - j.toNat | _ => 0) ⟨g, by omega, by omega, by simp [hg], by rw [hg]; rfl⟩ ?_
      rintro vs - ⟨k, hk1, hk2, rfl, hgo⟩
      by_cases hlt : k < h.path.steps.length
      · have hk12 : k < 12 := by omega
        have hwn : IntKind.i64.wrap ((h.path.steps.length : Int) - 1) = ((h.path.steps.length - 1 : Nat) : Int) := by rw [wrap_i] <;> omega
        have hw := wrap_succ (i := k) (by omega)
        have hAk := fun a0 a1 a2 a3 a4 a5 a6 a7 t => aidx8 (wr l im h) a0 a1 a2 a3 a4 a5 a6 a7 t (i := k) (z := (k : Int)) rfl (by omega)
        have hAk1 := fun (hk : ¬ k = h.path.steps.length - 1) a0 a1 a2 a3 a4 a5 a6 a7 t => aidx8 (wr l im h) a0 a1 a2 a3 a4 a5 a6 a7 t (i := k + 1) (z := (k : Int) + 1) rfl (by omega)
        have hAn := fun a0 a1 a2 a3 a4 a5 a6 a7 t => aidx8 (wr l im h) a0 a1 a2 a3 a4 a5 a6 a7 t (i := h.path.steps.length - 1) (z := ((h.path.steps.length - 1 : Nat) : Int)) rfl (by omega)
        rw [show wr l im h (h.path.steps.length - 1) = lastW l im h from rfl] at hAn
        simp [hlt, hAk, -pv_aidx, Step.cells]
        repeat refine ⟨by omega, ?_⟩
        refine callIf (avs := [l.av, im.av, I (secOf h k)]) (.bool (occupied l im (secOf h k))) rfl (fun _ => ⟨by simp [Lay.cells, Img.cells, hlt, Step.cells, secOf_lt], c_r15Occupied l im hi _⟩) (by simp) ?_
        have hkn2 : ¬ k = h.path.steps.length := by omega
        have hcan : canGo l im h k = (wr l im h k && ((decide (k = h.path.steps.length - 1) || wr l im h (k + 1)) && !occupied l im (secOf h k))) := by
          have e : decide (k + 1 = h.path.steps.length) = decide (k = h.path.steps.length - 1) := decide_eq_decide.2 (by omega)
          unfold canGo
          rw [hn, e]; simp [hlt]
        have hstop : canGo l im h k = false → goX l im h h.gone.toNat = k := fun hc => by rw [hgo]; exact goX_stop hc
        have hgoon : canGo l im h k = true → goX l im h h.gone.toNat = goX l im h (k + 1) := fun hc => by rw [hgo]; exact goX_go hc
        have hbnd : ((h.path.steps.length - 1 : Nat) : Int) < 12 ∧ h.path.steps.length - 1 + 8 < 23 := by omega
        have hdz2 : ((k : Int) = (h.path.steps.length : Int)) = False := by simp only [eq_iff_iff, iff_false]; omega
        by_cases hgo2 : canGo l im h k = true
        · have hgo3 := hgo2
          rw [hcan] at hgo2
          simp at hgo2
          by_cases hkn : k = h.path.steps.length - 1
          · have hdz : ((k : Int) = ((h.path.steps.length - 1 : Nat) : Int)) = True := by simp only [eq_iff_iff, iff_true]; omega
            simp [hlt, hAk, hAn, hwn, hw, hgo2.1, hgo2.2.2, hdz, hdz2, -pv_aidx]
            exact ⟨⟨k + 1, by omega, by omega, by omega, hgoon hgo3⟩, by omega⟩
          · have hdz : ((k : Int) = ((h.path.steps.length - 1 : Nat) : Int)) = False := by simp only [eq_iff_iff, iff_false]; omega
            have hk1 : wr l im h (k + 1) = true := by
              rcases hgo2.2.1 with h1 | h1
              · exact absurd h1 hkn
              · exact h1
            simp [hlt, hAk, hAk1 hkn, hAn, hwn, hw, hgo2.1, hgo2.2.2, hk1, hdz, hdz2, -pv_aidx]
            repeat refine ⟨by omega, ?_⟩
            exact ⟨⟨k + 1, by omega, by omega, by omega, hgoon hgo3⟩, by omega⟩
        · have hst := hstop (by simpa using hgo2)
          rw [hcan] at hgo2
          simp at hgo2
          by_cases hkn : k = h.path.steps.length - 1
          · have hdz : ((k : Int) = ((h.path.steps.length - 1 : Nat) : Int)) = True := by simp only [eq_iff_iff, iff_true]; omega
            cases hwk : wr l im h k
            · simp [hlt, hAk, hAn, hwn, hw, hdz, hdz2, hwk, -pv_aidx]
              repeat refine ⟨by omega, ?_⟩
              refine ⟨fun hL => ?_, fun hL => ?_⟩
              · refine call (c_r03Next h.timer) (by simp) (by simp) ?_
                simp [hAn, hL, hst, hwn, hdz2, opnS, timerS, hn, hkn2, -pv_aidx]
                and_intros <;> intros <;> omega
              · simp [hAn, hL, hst, hwn, hdz2, opnS, timerS, hn, hkn2, -pv_aidx]
                and_intros <;> intros <;> omega
            · have hoc : occupied l im (secOf h k) = true := hgo2 hwk (.inl hkn)
              simp [hlt, hAk, hAn, hwn, hw, hdz, hdz2, hwk, hoc, -pv_aidx]
              repeat refine ⟨by omega, ?_⟩
              refine ⟨fun hL => ?_, fun hL => ?_⟩
              · refine call (c_r03Next h.timer) (by simp) (by simp) ?_
                simp [hAn, hL, hst, hwn, hdz2, opnS, timerS, hn, hkn2, -pv_aidx]
                and_intros <;> intros <;> omega
              · simp [hAn, hL, hst, hwn, hdz2, opnS, timerS, hn, hkn2, -pv_aidx]
                and_intros <;> intros <;> omega
          · have hdz : ((k : Int) = ((h.path.steps.length - 1 : Nat) : Int)) = False := by simp only [eq_iff_iff, iff_false]; omega
            cases hwk : wr l im h k
            · simp [hlt, hAk, hAn, hwn, hw, hdz, hdz2, hwk, -pv_aidx]
              repeat refine ⟨by omega, ?_⟩
              refine ⟨fun hL => ?_, fun hL => ?_⟩
              · refine call (c_r03Next h.timer) (by simp) (by simp) ?_
                simp [hAn, hL, hst, hwn, hdz2, opnS, timerS, hn, hkn2, -pv_aidx]
                and_intros <;> intros <;> omega
              · simp [hAn, hL, hst, hwn, hdz2, opnS, timerS, hn, hkn2, -pv_aidx]
                and_intros <;> intros <;> omega
            · cases hoc : occupied l im (secOf h k)
              · have hk1 : wr l im h (k + 1) = false := by
                  cases hk1 : wr l im h (k + 1)
                  · rfl
                  · rw [hgo2 hwk (.inr hk1)] at hoc; cases hoc
                simp [hlt, hAk, hAk1 hkn, hAn, hwn, hw, hdz, hdz2, hwk, hoc, hk1, -pv_aidx]
                repeat refine ⟨by omega, ?_⟩
                refine ⟨fun hL => ?_, fun hL => ?_⟩
                · refine call (c_r03Next h.timer) (by simp) (by simp) ?_
                  simp [hAn, hL, hst, hwn, hdz2, opnS, timerS, hn, hkn2, -pv_aidx]
                  and_intros <;> intros <;> omega
                · simp [hAn, hL, hst, hwn, hdz2, opnS, timerS, hn, hkn2, -pv_aidx]
                  and_intros <;> intros <;> omega
              · simp [hlt, hAk, hAk1 hkn, hAn, hwn, hw, hdz, hdz2, hwk, hoc, -pv_aidx]
                repeat refine ⟨by omega, ?_⟩
                refine ⟨fun hL => ?_, fun hL => ?_⟩
                · refine call (c_r03Next h.timer) (by simp) (by simp) ?_
                  simp [hAn, hL, hst, hwn, hdz2, opnS, timerS, hn, hkn2, -pv_aidx]
                  and_intros <;> intros <;> omega
                · simp [hAn, hL, hst, hwn, hdz2, opnS, timerS, hn, hkn2, -pv_aidx]
                  and_intros <;> intros <;> omega
      · have hkn : k = h.path.steps.length := by omega
        have hwn : IntKind.i64.wrap ((h.path.steps.length : Int) - 1) = ((h.path.steps.length - 1 : Nat) : Int) := by rw [wrap_i] <;> omega
        have hAn := fun a0 a1 a2 a3 a4 a5 a6 a7 t => aidx8 (wr l im h) a0 a1 a2 a3 a4 a5 a6 a7 t (i := h.path.steps.length - 1) (z := ((h.path.steps.length - 1 : Nat) : Int)) rfl (by omega)
        rw [show wr l im h (h.path.steps.length - 1) = lastW l im h from rfl] at hAn
        have hst : goX l im h h.gone.toNat = k := by
          rw [hgo]; refine goX_stop ?_
          unfold canGo; rw [hn]; simp [hlt]
        have hdz2 : ((k : Int) = (h.path.steps.length : Int)) = True := by simp only [eq_iff_iff, iff_true]; omega
        simp [hlt, hwn, hAn, -pv_aidx]
        refine callIf (avs := []) (.bool false) rfl (fun hh => ?_) (by simp) ?_
        · simp [hlt] at hh
        simp [hlt, hwn, hAn, -pv_aidx]
        repeat refine ⟨by omega, ?_⟩
        refine ⟨fun hL => ?_, fun hL => ?_⟩
        · refine call (c_r03Next h.timer) (by simp) (by simp) ?_
          simp [hAn, hL, hst, hwn, hdz2, opnS, timerS, hn, hkn, -pv_aidx]
        · simp [hAn, hL, hst, hwn, hdz2, opnS, timerS, hn, hkn, -pv_aidx]
  · rw [runS_asleep ha]
    have : rightS h = false ∨ stale l im = true := by simpa [asleepS] using ha
    rcases this with this | this <;> simp [this, Hd.cells]
end Go.Lb.LK

namespace Go.Lb.LK
open Go Go.Lb Go.Proofs Go.RowKit

set_option maxHeartbeats 4000000 in
theorem c_pass_Run (l : Lay) (im : Img) (hi : im.ok) (h : Hd) (hl : h.len) (hs : 0 ≤ h.stage ∧ h.stage ≤ 255) : C f_pass_Run [l.av, im.av, h.av] (runS l im h).av := by
  refine ctr (l.cells ++ im.cells ++ h.cells) run_pass_Run rfl (lih l im h) (by simp [AV.pure]) ?_ rfl
  unfold rt_pass_Run
  simp [Lay.cells, Img.cells, Hd.cells]
  refine call (c_held_Own h hl) (by simp [Hd.cells]) (by simp) ?_
  simp [Hd.av, Hd.cells]
  have hll := hl.1
  have hwn : IntKind.i64.wrap ((h.path.steps.length : Int) - 1) = (h.path.steps.length : Int) - 1 := by rw [wrap_i] <;> omega
  refine call (c_pass_asleep l im h hl hs) (by simp [Lay.cells, Img.cells, Hd.cells]) (by simp) ?_
  simp
  refine ⟨fun ha => by rw [runS_asleep ha]; simp, fun ha => ?_⟩
  rw [runS_awake ha]
  simp only [asleepS, Bool.or_eq_false_iff, Bool.not_eq_false'] at ha
  obtain ⟨⟨a1, a2, a3, a4, a5, a6, a7⟩, ⟨d1, d2, d3, d4⟩, _⟩ := right_facts ha.1
  obtain ⟨g, hg⟩ : ∃ g : Nat, h.gone = g := ⟨h.gone.toNat, by omega⟩
  refine RTwp_loop rfl (fun vs => ∃ k : Nat, g ≤ k ∧ k ≤ h.n ∧ vs = I k :: wcells (wrM l im h k)) (fun vs => match vs with | .int _ j :: _ => h.n - j.toNat | _ => 0) ⟨g, by omega, by unfold Hd.n; omega, by simp [wrM_zero (l := l) (im := im) (h := h) (m := g) (by omega), hg, wcells]⟩ ?_
  rintro vs - ⟨k, hk1, hk2, rfl⟩
  have hn : h.n = h.path.steps.length := rfl
  simp only [wcells, List.cons_append, List.nil_append]
  refine RTwp_chk.2 ⟨fun _ => by simp, RTwp_nil.2 (RTwp_chk.2 ⟨fun _ => by simp, RTwp_nil.2 (RTwp_condE.2 ⟨decide ((k : Int) < h.path.steps.length), by simp, fun hlt => ?_, fun hge => ?_⟩)⟩)⟩
  · have hlt : k < h.path.steps.length := by simpa using hlt
    have hAk := aidx0 (wrM l im h k) (i := k) (z := (k : Int)) rfl (by omega)
    have hAk1 := fun hk0 : ¬ k = 0 => aidx0 (wrM l im h k) (i := k - 1) (z := (k : Int) - 1) (by omega) (by omega)
    have hwk1 : ¬ k = 0 → IntKind.i64.wrap ((k : Int) - 1) = (k : Int) - 1 := fun _ => by rw [wrap_i] <;> omega
    have hw := wrap_succ (i := k) (by omega)
    have hat := wr_at (l := l) (im := im) (h := h) (k := k) (by omega) (by omega)
    have hkk : wrM l im h k k = h.was k := by simp [wrM]
    have hpw : ¬ k = 0 → wrM l im h k (k - 1) = wr l im h (k - 1) := fun hk0 => by unfold wrM; rw [if_pos (by omega)]
    simp [hlt, Step.cells, hAk, hkk, -pv_aidx]
    cases hwas : h.was k
    · simp
      repeat refine ⟨by omega, ?_⟩
      refine call (c_image_Told l im hi (secOf h k)) (by simp [Lay.cells, Img.cells, hlt, Step.cells, secOf_lt]) (by simp) ?_
      by_cases hk0 : k = 0
      · have hkt : (k = 0) = True := eq_true hk0
        have hat2 : wr l im h k = told l im (secOf h k) := by rw [hat, hwas]; simp [hk0]
        simp [hkt, hw, -pv_aidx]
        refine ⟨by omega, ⟨k + 1, by omega, by omega, by omega, ?_⟩, by omega⟩
        simp only [wrM_succ, hat2, and_self]
      · have hat2 : wr l im h k = (told l im (secOf h k) && wr l im h (k - 1)) := by rw [hat, hwas]; simp [hk0]
        simp [hk0, hwk1 hk0, hAk1 hk0, hpw hk0, hw, -pv_aidx]
        repeat refine ⟨by intros; omega, ?_⟩
        refine ⟨⟨k + 1, by omega, by omega, by omega, ?_⟩, by omega⟩
        simp only [wrM_succ, hat2, and_self]
    · have hat2 : wr l im h k = true := by rw [hat, hwas]; rfl
      simp [hw, -pv_aidx]
      repeat refine ⟨by intros; omega, ?_⟩
      refine ⟨⟨k + 1, by omega, by omega, by omega, ?_⟩, by omega⟩
      simp only [wrM_on hat2]
      simp [eq_comm]
  · have hge : h.path.steps.length ≤ k := by simpa using hge
    have hkn : k = h.n := by omega
    subst hkn
    rw [wrM_all (Nat.le_refl _)]
    have hwn : IntKind.i64.wrap ((h.path.steps.length : Int) - 1) = (h.path.steps.length : Int) - 1 := by rw [wrap_i] <;> omega
    refine RTwp_chk.2 ⟨fun _ => by simp [AV.kinds], RTwp_nil.2 (RTwp_bind.2 (RTwp_nil.2 ?_))⟩
    rw [envOf_set]
    case h => rfl
    refine RTwp_condE.2 ⟨_, rfl, fun hb => ?_, fun hb => ?_⟩
    · clear hb
      have hrs : h.gone.toNat = g := by omega
      simp only [hrs]
      have hAn := aidx0 (wr l im h) (i := h.path.steps.length - 1) (z := (h.path.steps.length : Int) - 1) (by omega) (by omega)
      rw [show wr l im h (h.path.steps.length - 1) = lastW l im h from rfl] at hAn
      have hgo : goX l im h g = goX l im h g := rfl
      by_cases hlt : g < h.path.steps.length
      · have hAk := aidx0 (wr l im h) (i := g) (z := (g : Int)) rfl (by omega)
        have hAk1 := fun (hk : ¬ g = h.path.steps.length - 1) => aidx0 (wr l im h) (i := g + 1) (z := (g : Int) + 1) rfl (by omega)
        have hw : IntKind.i64.wrap ((g : Int) + 1) = (g : Int) + 1 := by rw [wrap_i] <;> omega
        have hle : ((g : Int) ≤ (h.path.steps.length : Int) - 1) = True := by simp only [eq_iff_iff, iff_true]; omega
        have hgt : ((h.path.steps.length : Int) - 1 < (g : Int)) = False := by simp only [eq_iff_iff, iff_false]; omega
        have hkn2 : ¬ g = h.path.steps.length := by omega
        have hcan : canGo l im h g = (wr l im h g && ((decide (g = h.path.steps.length - 1) || wr l im h (g + 1)) && !occupied l im (secOf h g))) := by
          have e : decide (g + 1 = h.path.steps.length) = decide (g = h.path.steps.length - 1) := decide_eq_decide.2 (by omega)
          unfold canGo
          rw [hn, e]; simp [hlt]
        have hstop : canGo l im h g = false → goX l im h g = g := fun hc => by rw [hgo]; exact goX_stop hc
        have hgoon : canGo l im h g = true → goX l im h g = goX l im h (g + 1) := fun hc => by rw [hgo]; exact goX_go hc
        by_cases hkn : g = h.path.steps.length - 1
        · have heq : ((g : Int) = (h.path.steps.length : Int) - 1) = True := by simp only [eq_iff_iff, iff_true]; omega
          have hdk : decide (g = h.path.steps.length - 1) = true := decide_eq_true hkn
          rw [hdk] at hcan
          cases hwk : wr l im h g
          · have hst := hstop (by rw [hcan, hwk]; rfl)
            simp [hg, hwn, hle, heq, hgt, hAk, hAn, hwk, hlt, -pv_aidx]
            repeat refine And.intro (by omega) ?_
            refine ⟨fun hL => ?_, fun hL => ?_⟩
            · refine call (c_tick_Next h.timer) (by simp) (by simp) ?_
              simp [hL, hst, hrs, hwn, hgt, opnS, timerS, hn, hkn2, Bool.or_assoc, Bool.or_comm, -pv_aidx]
            · simp [hL, hst, hrs, hwn, hgt, opnS, timerS, hn, hkn2, Bool.or_comm, -pv_aidx]
          · simp [hg, hwn, hle, heq, hgt, hAk, hAn, hwk, hlt, Step.cells, -pv_aidx]
            repeat refine And.intro (by omega) ?_
            refine call (c_image_Occupied l im hi (secOf h g)) (by simp [Lay.cells, Img.cells, hlt, Step.cells, secOf_lt]) (by simp) ?_
            cases hoc : occupied l im (secOf h g)
            · have hgo3 := hgoon (by rw [hcan, hwk, hoc]; rfl)
              simp [hg, hwn, hle, heq, hgt, hAk, hAn, hwk, hlt, hw, -pv_aidx]
              repeat refine And.intro (by omega) ?_
              have hgo4 := hgo3
              have hwg : IntKind.i64.wrap ((g : Int) + 1) = ((g + 1 : Nat) : Int) := by rw [wrap_i] <;> omega
              have hlt0 := hlt
              clear hgo3 hwk hAk hAk1 hcan hstop hgoon hle hgt heq hw hdk hkn hkn2 hgo hoc hlt
              refine RTwp_loop rfl (fun vs => ∃ (k : Nat) (a b c d e f p q r s t z : AV), g ≤ k ∧ k ≤ h.n ∧ vs = [a, b, c, d, e, f, p, q, r, s, t, z] ∧ z = I k ∧ goX l im h g = goX l im h k) (fun vs => match vs with | [_, _, _, _, _, _, _, _, _, _, _, .int _ j] => h.n + 1 - j.toNat | _ => 0) ⟨g + 1, _, _, _, _, _, _, _, _, _, _, _, _, by omega, by omega, rfl, by simp [hg, hwg], hgo4⟩ ?_
              rintro vs - ⟨k, a, b, c, d, e, f, p, q, r, s, t, _, hk1, hk2, rfl, rfl, hgo⟩
              simp only [List.cons_append, List.nil_append]

              by_cases hlt : k < h.path.steps.length
              · have hAk := aidx0 (wr l im h) (i := k) (z := (k : Int)) rfl (by omega)
                have hAk1 := fun (hk : ¬ k = h.path.steps.length - 1) => aidx0 (wr l im h) (i := k + 1) (z := (k : Int) + 1) rfl (by omega)
                have hw : IntKind.i64.wrap ((k : Int) + 1) = (k : Int) + 1 := by rw [wrap_i] <;> omega
                have hle : ((k : Int) ≤ (h.path.steps.length : Int) - 1) = True := by simp only [eq_iff_iff, iff_true]; omega
                have hgt : ((h.path.steps.length : Int) - 1 < (k : Int)) = False := by simp only [eq_iff_iff, iff_false]; omega
                have hkn2 : ¬ k = h.path.steps.length := by omega
                have hcan : canGo l im h k = (wr l im h k && ((decide (k = h.path.steps.length - 1) || wr l im h (k + 1)) && !occupied l im (secOf h k))) := by
                  have e : decide (k + 1 = h.path.steps.length) = decide (k = h.path.steps.length - 1) := decide_eq_decide.2 (by omega)
                  unfold canGo
                  rw [hn, e]; simp [hlt]
                have hstop : canGo l im h k = false → goX l im h g = k := fun hc => by rw [hgo]; exact goX_stop hc
                have hgoon : canGo l im h k = true → goX l im h g = goX l im h (k + 1) := fun hc => by rw [hgo]; exact goX_go hc
                by_cases hkn : k = h.path.steps.length - 1
                · have heq : ((k : Int) = (h.path.steps.length : Int) - 1) = True := by simp only [eq_iff_iff, iff_true]; omega
                  have hdk : decide (k = h.path.steps.length - 1) = true := decide_eq_true hkn
                  rw [hdk] at hcan
                  cases hwk : wr l im h k
                  · have hst := hstop (by rw [hcan, hwk]; rfl)
                    simp [hg, hwn, hle, heq, hgt, hAk, hAn, hwk, hlt, -pv_aidx]
                    repeat refine And.intro (by omega) ?_
                    refine ⟨fun hL => ?_, fun hL => ?_⟩
                    · refine call (c_tick_Next h.timer) (by simp) (by simp) ?_
                      simp [hL, hst, hrs, hwn, hgt, opnS, timerS, hn, hkn2, Bool.or_assoc, Bool.or_comm, -pv_aidx]
                    · simp [hL, hst, hrs, hwn, hgt, opnS, timerS, hn, hkn2, Bool.or_comm, -pv_aidx]
                  · simp [hg, hwn, hle, heq, hgt, hAk, hAn, hwk, hlt, Step.cells, -pv_aidx]
                    repeat refine And.intro (by omega) ?_
                    refine call (c_image_Occupied l im hi (secOf h k)) (by simp [Lay.cells, Img.cells, hlt, Step.cells, secOf_lt]) (by simp) ?_
                    cases hoc : occupied l im (secOf h k)
                    · have hgo3 := hgoon (by rw [hcan, hwk, hoc]; rfl)
                      simp [hg, hwn, hle, heq, hgt, hAk, hAn, hwk, hlt, hw, -pv_aidx]
                      repeat refine And.intro (by omega) ?_
                      refine ⟨⟨k + 1, by omega, by omega, ?_⟩, by omega⟩
                      simp [hgo3]
                    · have hst := hstop (by rw [hcan, hwk, hoc]; rfl)
                      simp [hg, hwn, hle, heq, hgt, hAk, hAn, hwk, hlt, -pv_aidx]
                      repeat refine And.intro (by omega) ?_
                      refine ⟨fun hL => ?_, fun hL => ?_⟩
                      · refine call (c_tick_Next h.timer) (by simp) (by simp) ?_
                        simp [hL, hst, hrs, hwn, hgt, opnS, timerS, hn, hkn2, Bool.or_assoc, Bool.or_comm, -pv_aidx]
                      · simp [hL, hst, hrs, hwn, hgt, opnS, timerS, hn, hkn2, Bool.or_comm, -pv_aidx]
                · have heq : ((k : Int) = (h.path.steps.length : Int) - 1) = False := by simp only [eq_iff_iff, iff_false]; omega
                  have hdk : decide (k = h.path.steps.length - 1) = false := decide_eq_false hkn
                  rw [hdk, Bool.false_or] at hcan
                  cases hwk : wr l im h k
                  · have hst := hstop (by rw [hcan, hwk]; rfl)
                    simp [hg, hwn, hle, heq, hgt, hAk, hAk1 hkn, hAn, hwk, hlt, hw, -pv_aidx]
                    repeat refine And.intro (by omega) ?_
                    refine ⟨fun hL => ?_, fun hL => ?_⟩
                    · refine call (c_tick_Next h.timer) (by simp) (by simp) ?_
                      simp [hL, hst, hrs, hwn, hgt, opnS, timerS, hn, hkn2, Bool.or_assoc, Bool.or_comm, -pv_aidx]
                    · simp [hL, hst, hrs, hwn, hgt, opnS, timerS, hn, hkn2, Bool.or_comm, -pv_aidx]
                  · cases hwk2 : wr l im h (k + 1)
                    · have hst := hstop (by rw [hcan, hwk, hwk2]; rfl)
                      simp [hg, hwn, hle, heq, hgt, hAk, hAk1 hkn, hAn, hwk, hwk2, hlt, hw, -pv_aidx]
                      repeat refine And.intro (by omega) ?_
                      refine ⟨fun hL => ?_, fun hL => ?_⟩
                      · refine call (c_tick_Next h.timer) (by simp) (by simp) ?_
                        simp [hL, hst, hrs, hwn, hgt, opnS, timerS, hn, hkn2, Bool.or_assoc, Bool.or_comm, -pv_aidx]
                      · simp [hL, hst, hrs, hwn, hgt, opnS, timerS, hn, hkn2, Bool.or_comm, -pv_aidx]
                    · simp [hg, hwn, hle, heq, hgt, hAk, hAk1 hkn, hAn, hwk, hwk2, hlt, hw, Step.cells, -pv_aidx]
                      repeat refine And.intro (by omega) ?_
                      refine call (c_image_Occupied l im hi (secOf h k)) (by simp [Lay.cells, Img.cells, hlt, Step.cells, secOf_lt]) (by simp) ?_
                      cases hoc : occupied l im (secOf h k)
                      · have hgo3 := hgoon (by rw [hcan, hwk, hwk2, hoc]; rfl)
                        simp [hg, hwn, hle, heq, hgt, hAk, hAk1 hkn, hAn, hwk, hwk2, hlt, hw, -pv_aidx]
                        repeat refine And.intro (by omega) ?_
                        refine ⟨⟨k + 1, by omega, by omega, ?_⟩, by omega⟩
                        simp [hgo3]
                      · have hst := hstop (by rw [hcan, hwk, hwk2, hoc]; rfl)
                        simp [hg, hwn, hle, heq, hgt, hAk, hAk1 hkn, hAn, hwk, hwk2, hlt, hw, -pv_aidx]
                        repeat refine And.intro (by omega) ?_
                        refine ⟨fun hL => ?_, fun hL => ?_⟩
                        · refine call (c_tick_Next h.timer) (by simp) (by simp) ?_
                          simp [hL, hst, hrs, hwn, hgt, opnS, timerS, hn, hkn2, Bool.or_assoc, Bool.or_comm, -pv_aidx]
                        · simp [hL, hst, hrs, hwn, hgt, opnS, timerS, hn, hkn2, Bool.or_comm, -pv_aidx]
              · have hkn3 : k = h.path.steps.length := by omega
                have hle : ((k : Int) ≤ (h.path.steps.length : Int) - 1) = False := by simp only [eq_iff_iff, iff_false]; omega
                have hgt : ((h.path.steps.length : Int) - 1 < (k : Int)) = True := by simp only [eq_iff_iff, iff_true]; omega
                have heq : ((k : Int) = (h.path.steps.length : Int) - 1) = False := by simp only [eq_iff_iff, iff_false]; omega
                have hkn2 : (k = h.path.steps.length) = True := eq_true hkn3
                have hw : IntKind.i64.wrap ((k : Int) + 1) = (k : Int) + 1 := by rw [wrap_i] <;> omega
                have hst : goX l im h g = k := by
                  rw [hgo]; refine goX_stop ?_
                  unfold canGo; rw [hn]; simp [hlt]
                simp [hg, hwn, hle, heq, hgt, hAn, hw, -pv_aidx]
                repeat refine And.intro (by omega) ?_
                refine ⟨fun hL => ?_, fun hL => ?_⟩
                · refine call (c_tick_Next h.timer) (by simp) (by simp) ?_
                  simp [hL, hst, hrs, hwn, hgt, opnS, timerS, hn, hkn2, Bool.or_assoc, Bool.or_comm, -pv_aidx]
                · simp [hL, hst, hrs, hwn, hgt, opnS, timerS, hn, hkn2, Bool.or_comm, -pv_aidx]
            · have hst := hstop (by rw [hcan, hwk, hoc]; rfl)
              simp [hg, hwn, hle, heq, hgt, hAk, hAn, hwk, hlt, -pv_aidx]
              repeat refine And.intro (by omega) ?_
              refine ⟨fun hL => ?_, fun hL => ?_⟩
              · refine call (c_tick_Next h.timer) (by simp) (by simp) ?_
                simp [hL, hst, hrs, hwn, hgt, opnS, timerS, hn, hkn2, Bool.or_assoc, Bool.or_comm, -pv_aidx]
              · simp [hL, hst, hrs, hwn, hgt, opnS, timerS, hn, hkn2, Bool.or_comm, -pv_aidx]
        · have heq : ((g : Int) = (h.path.steps.length : Int) - 1) = False := by simp only [eq_iff_iff, iff_false]; omega
          have hdk : decide (g = h.path.steps.length - 1) = false := decide_eq_false hkn
          rw [hdk, Bool.false_or] at hcan
          cases hwk : wr l im h g
          · have hst := hstop (by rw [hcan, hwk]; rfl)
            simp [hg, hwn, hle, heq, hgt, hAk, hAk1 hkn, hAn, hwk, hlt, hw, -pv_aidx]
            repeat refine And.intro (by omega) ?_
            refine ⟨fun hL => ?_, fun hL => ?_⟩
            · refine call (c_tick_Next h.timer) (by simp) (by simp) ?_
              simp [hL, hst, hrs, hwn, hgt, opnS, timerS, hn, hkn2, Bool.or_assoc, Bool.or_comm, -pv_aidx]
            · simp [hL, hst, hrs, hwn, hgt, opnS, timerS, hn, hkn2, Bool.or_comm, -pv_aidx]
          · cases hwk2 : wr l im h (g + 1)
            · have hst := hstop (by rw [hcan, hwk, hwk2]; rfl)
              simp [hg, hwn, hle, heq, hgt, hAk, hAk1 hkn, hAn, hwk, hwk2, hlt, hw, -pv_aidx]
              repeat refine And.intro (by omega) ?_
              refine ⟨fun hL => ?_, fun hL => ?_⟩
              · refine call (c_tick_Next h.timer) (by simp) (by simp) ?_
                simp [hL, hst, hrs, hwn, hgt, opnS, timerS, hn, hkn2, Bool.or_assoc, Bool.or_comm, -pv_aidx]
              · simp [hL, hst, hrs, hwn, hgt, opnS, timerS, hn, hkn2, Bool.or_comm, -pv_aidx]
            · simp [hg, hwn, hle, heq, hgt, hAk, hAk1 hkn, hAn, hwk, hwk2, hlt, hw, Step.cells, -pv_aidx]
              repeat refine And.intro (by omega) ?_
              refine call (c_image_Occupied l im hi (secOf h g)) (by simp [Lay.cells, Img.cells, hlt, Step.cells, secOf_lt]) (by simp) ?_
              cases hoc : occupied l im (secOf h g)
              · have hgo3 := hgoon (by rw [hcan, hwk, hwk2, hoc]; rfl)
                simp [hg, hwn, hle, heq, hgt, hAk, hAk1 hkn, hAn, hwk, hwk2, hlt, hw, -pv_aidx]
                repeat refine And.intro (by omega) ?_
                have hgo4 := hgo3
                have hwg : IntKind.i64.wrap ((g : Int) + 1) = ((g + 1 : Nat) : Int) := by rw [wrap_i] <;> omega
                have hlt0 := hlt
                clear hgo3 hwk hAk hAk1 hcan hstop hgoon hle hgt heq hw hdk hkn hkn2 hgo hoc hlt
                refine RTwp_loop rfl (fun vs => ∃ (k : Nat) (a b c d e f p q r s t z : AV), g ≤ k ∧ k ≤ h.n ∧ vs = [a, b, c, d, e, f, p, q, r, s, t, z] ∧ z = I k ∧ goX l im h g = goX l im h k) (fun vs => match vs with | [_, _, _, _, _, _, _, _, _, _, _, .int _ j] => h.n + 1 - j.toNat | _ => 0) ⟨g + 1, _, _, _, _, _, _, _, _, _, _, _, _, by omega, by omega, rfl, by simp [hg, hwg], hgo4⟩ ?_
                rintro vs - ⟨k, a, b, c, d, e, f, p, q, r, s, t, _, hk1, hk2, rfl, rfl, hgo⟩
                simp only [List.cons_append, List.nil_append]

                by_cases hlt : k < h.path.steps.length
                · have hAk := aidx0 (wr l im h) (i := k) (z := (k : Int)) rfl (by omega)
                  have hAk1 := fun (hk : ¬ k = h.path.steps.length - 1) => aidx0 (wr l im h) (i := k + 1) (z := (k : Int) + 1) rfl (by omega)
                  have hw : IntKind.i64.wrap ((k : Int) + 1) = (k : Int) + 1 := by rw [wrap_i] <;> omega
                  have hle : ((k : Int) ≤ (h.path.steps.length : Int) - 1) = True := by simp only [eq_iff_iff, iff_true]; omega
                  have hgt : ((h.path.steps.length : Int) - 1 < (k : Int)) = False := by simp only [eq_iff_iff, iff_false]; omega
                  have hkn2 : ¬ k = h.path.steps.length := by omega
                  have hcan : canGo l im h k = (wr l im h k && ((decide (k = h.path.steps.length - 1) || wr l im h (k + 1)) && !occupied l im (secOf h k))) := by
                    have e : decide (k + 1 = h.path.steps.length) = decide (k = h.path.steps.length - 1) := decide_eq_decide.2 (by omega)
                    unfold canGo
                    rw [hn, e]; simp [hlt]
                  have hstop : canGo l im h k = false → goX l im h g = k := fun hc => by rw [hgo]; exact goX_stop hc
                  have hgoon : canGo l im h k = true → goX l im h g = goX l im h (k + 1) := fun hc => by rw [hgo]; exact goX_go hc
                  by_cases hkn : k = h.path.steps.length - 1
                  · have heq : ((k : Int) = (h.path.steps.length : Int) - 1) = True := by simp only [eq_iff_iff, iff_true]; omega
                    have hdk : decide (k = h.path.steps.length - 1) = true := decide_eq_true hkn
                    rw [hdk] at hcan
                    cases hwk : wr l im h k
                    · have hst := hstop (by rw [hcan, hwk]; rfl)
                      simp [hg, hwn, hle, heq, hgt, hAk, hAn, hwk, hlt, -pv_aidx]
                      repeat refine And.intro (by omega) ?_
                      refine ⟨fun hL => ?_, fun hL => ?_⟩
                      · refine call (c_tick_Next h.timer) (by simp) (by simp) ?_
                        simp [hL, hst, hrs, hwn, hgt, opnS, timerS, hn, hkn2, Bool.or_assoc, Bool.or_comm, -pv_aidx]
                      · simp [hL, hst, hrs, hwn, hgt, opnS, timerS, hn, hkn2, Bool.or_comm, -pv_aidx]
                    · simp [hg, hwn, hle, heq, hgt, hAk, hAn, hwk, hlt, Step.cells, -pv_aidx]
                      repeat refine And.intro (by omega) ?_
                      refine call (c_image_Occupied l im hi (secOf h k)) (by simp [Lay.cells, Img.cells, hlt, Step.cells, secOf_lt]) (by simp) ?_
                      cases hoc : occupied l im (secOf h k)
                      · have hgo3 := hgoon (by rw [hcan, hwk, hoc]; rfl)
                        simp [hg, hwn, hle, heq, hgt, hAk, hAn, hwk, hlt, hw, -pv_aidx]
                        repeat refine And.intro (by omega) ?_
                        refine ⟨⟨k + 1, by omega, by omega, ?_⟩, by omega⟩
                        simp [hgo3]
                      · have hst := hstop (by rw [hcan, hwk, hoc]; rfl)
                        simp [hg, hwn, hle, heq, hgt, hAk, hAn, hwk, hlt, -pv_aidx]
                        repeat refine And.intro (by omega) ?_
                        refine ⟨fun hL => ?_, fun hL => ?_⟩
                        · refine call (c_tick_Next h.timer) (by simp) (by simp) ?_
                          simp [hL, hst, hrs, hwn, hgt, opnS, timerS, hn, hkn2, Bool.or_assoc, Bool.or_comm, -pv_aidx]
                        · simp [hL, hst, hrs, hwn, hgt, opnS, timerS, hn, hkn2, Bool.or_comm, -pv_aidx]
                  · have heq : ((k : Int) = (h.path.steps.length : Int) - 1) = False := by simp only [eq_iff_iff, iff_false]; omega
                    have hdk : decide (k = h.path.steps.length - 1) = false := decide_eq_false hkn
                    rw [hdk, Bool.false_or] at hcan
                    cases hwk : wr l im h k
                    · have hst := hstop (by rw [hcan, hwk]; rfl)
                      simp [hg, hwn, hle, heq, hgt, hAk, hAk1 hkn, hAn, hwk, hlt, hw, -pv_aidx]
                      repeat refine And.intro (by omega) ?_
                      refine ⟨fun hL => ?_, fun hL => ?_⟩
                      · refine call (c_tick_Next h.timer) (by simp) (by simp) ?_
                        simp [hL, hst, hrs, hwn, hgt, opnS, timerS, hn, hkn2, Bool.or_assoc, Bool.or_comm, -pv_aidx]
                      · simp [hL, hst, hrs, hwn, hgt, opnS, timerS, hn, hkn2, Bool.or_comm, -pv_aidx]
                    · cases hwk2 : wr l im h (k + 1)
                      · have hst := hstop (by rw [hcan, hwk, hwk2]; rfl)
                        simp [hg, hwn, hle, heq, hgt, hAk, hAk1 hkn, hAn, hwk, hwk2, hlt, hw, -pv_aidx]
                        repeat refine And.intro (by omega) ?_
                        refine ⟨fun hL => ?_, fun hL => ?_⟩
                        · refine call (c_tick_Next h.timer) (by simp) (by simp) ?_
                          simp [hL, hst, hrs, hwn, hgt, opnS, timerS, hn, hkn2, Bool.or_assoc, Bool.or_comm, -pv_aidx]
                        · simp [hL, hst, hrs, hwn, hgt, opnS, timerS, hn, hkn2, Bool.or_comm, -pv_aidx]
                      · simp [hg, hwn, hle, heq, hgt, hAk, hAk1 hkn, hAn, hwk, hwk2, hlt, hw, Step.cells, -pv_aidx]
                        repeat refine And.intro (by omega) ?_
                        refine call (c_image_Occupied l im hi (secOf h k)) (by simp [Lay.cells, Img.cells, hlt, Step.cells, secOf_lt]) (by simp) ?_
                        cases hoc : occupied l im (secOf h k)
                        · have hgo3 := hgoon (by rw [hcan, hwk, hwk2, hoc]; rfl)
                          simp [hg, hwn, hle, heq, hgt, hAk, hAk1 hkn, hAn, hwk, hwk2, hlt, hw, -pv_aidx]
                          repeat refine And.intro (by omega) ?_
                          refine ⟨⟨k + 1, by omega, by omega, ?_⟩, by omega⟩
                          simp [hgo3]
                        · have hst := hstop (by rw [hcan, hwk, hwk2, hoc]; rfl)
                          simp [hg, hwn, hle, heq, hgt, hAk, hAk1 hkn, hAn, hwk, hwk2, hlt, hw, -pv_aidx]
                          repeat refine And.intro (by omega) ?_
                          refine ⟨fun hL => ?_, fun hL => ?_⟩
                          · refine call (c_tick_Next h.timer) (by simp) (by simp) ?_
                            simp [hL, hst, hrs, hwn, hgt, opnS, timerS, hn, hkn2, Bool.or_assoc, Bool.or_comm, -pv_aidx]
                          · simp [hL, hst, hrs, hwn, hgt, opnS, timerS, hn, hkn2, Bool.or_comm, -pv_aidx]
                · have hkn3 : k = h.path.steps.length := by omega
                  have hle : ((k : Int) ≤ (h.path.steps.length : Int) - 1) = False := by simp only [eq_iff_iff, iff_false]; omega
                  have hgt : ((h.path.steps.length : Int) - 1 < (k : Int)) = True := by simp only [eq_iff_iff, iff_true]; omega
                  have heq : ((k : Int) = (h.path.steps.length : Int) - 1) = False := by simp only [eq_iff_iff, iff_false]; omega
                  have hkn2 : (k = h.path.steps.length) = True := eq_true hkn3
                  have hw : IntKind.i64.wrap ((k : Int) + 1) = (k : Int) + 1 := by rw [wrap_i] <;> omega
                  have hst : goX l im h g = k := by
                    rw [hgo]; refine goX_stop ?_
                    unfold canGo; rw [hn]; simp [hlt]
                  simp [hg, hwn, hle, heq, hgt, hAn, hw, -pv_aidx]
                  repeat refine And.intro (by omega) ?_
                  refine ⟨fun hL => ?_, fun hL => ?_⟩
                  · refine call (c_tick_Next h.timer) (by simp) (by simp) ?_
                    simp [hL, hst, hrs, hwn, hgt, opnS, timerS, hn, hkn2, Bool.or_assoc, Bool.or_comm, -pv_aidx]
                  · simp [hL, hst, hrs, hwn, hgt, opnS, timerS, hn, hkn2, Bool.or_comm, -pv_aidx]
              · have hst := hstop (by rw [hcan, hwk, hwk2, hoc]; rfl)
                simp [hg, hwn, hle, heq, hgt, hAk, hAk1 hkn, hAn, hwk, hwk2, hlt, hw, -pv_aidx]
                repeat refine And.intro (by omega) ?_
                refine ⟨fun hL => ?_, fun hL => ?_⟩
                · refine call (c_tick_Next h.timer) (by simp) (by simp) ?_
                  simp [hL, hst, hrs, hwn, hgt, opnS, timerS, hn, hkn2, Bool.or_assoc, Bool.or_comm, -pv_aidx]
                · simp [hL, hst, hrs, hwn, hgt, opnS, timerS, hn, hkn2, Bool.or_comm, -pv_aidx]
      · have hkn3 : g = h.path.steps.length := by omega
        have hle : ((g : Int) ≤ (h.path.steps.length : Int) - 1) = False := by simp only [eq_iff_iff, iff_false]; omega
        have hgt : ((h.path.steps.length : Int) - 1 < (g : Int)) = True := by simp only [eq_iff_iff, iff_true]; omega
        have heq : ((g : Int) = (h.path.steps.length : Int) - 1) = False := by simp only [eq_iff_iff, iff_false]; omega
        have hkn2 : (g = h.path.steps.length) = True := eq_true hkn3
        have hw : IntKind.i64.wrap ((g : Int) + 1) = (g : Int) + 1 := by rw [wrap_i] <;> omega
        have hst : goX l im h g = g := by
          rw [hgo]; refine goX_stop ?_
          unfold canGo; rw [hn]; simp [hlt]
        simp [hg, hwn, hle, heq, hgt, hAn, hw, -pv_aidx]
        repeat refine And.intro (by omega) ?_
        refine ⟨fun hL => ?_, fun hL => ?_⟩
        · refine call (c_tick_Next h.timer) (by simp) (by simp) ?_
          simp [hL, hst, hrs, hwn, hgt, opnS, timerS, hn, hkn2, Bool.or_assoc, Bool.or_comm, -pv_aidx]
        · simp [hL, hst, hrs, hwn, hgt, opnS, timerS, hn, hkn2, Bool.or_comm, -pv_aidx]
    · simp [AV.eqs, AV.eq1] at hb
      obtain ⟨e0, e1, e2, e3, e4, e5, e6, e7, e8, e9, e10, e11⟩ := hb
      simp only [← e0, ← e1, ← e2, ← e3, ← e4, ← e5, ← e6, ← e7, ← e8, ← e9, ← e10, ← e11]
      have hrs : h.gone.toNat = g := by omega
      simp only [hrs]
      have hAn := aidx0 (wr l im h) (i := h.path.steps.length - 1) (z := (h.path.steps.length : Int) - 1) (by omega) (by omega)
      rw [show wr l im h (h.path.steps.length - 1) = lastW l im h from rfl] at hAn
      have hgo : goX l im h g = goX l im h g := rfl
      by_cases hlt : g < h.path.steps.length
      · have hAk := aidx0 (wr l im h) (i := g) (z := (g : Int)) rfl (by omega)
        have hAk1 := fun (hk : ¬ g = h.path.steps.length - 1) => aidx0 (wr l im h) (i := g + 1) (z := (g : Int) + 1) rfl (by omega)
        have hw : IntKind.i64.wrap ((g : Int) + 1) = (g : Int) + 1 := by rw [wrap_i] <;> omega
        have hle : ((g : Int) ≤ (h.path.steps.length : Int) - 1) = True := by simp only [eq_iff_iff, iff_true]; omega
        have hgt : ((h.path.steps.length : Int) - 1 < (g : Int)) = False := by simp only [eq_iff_iff, iff_false]; omega
        have hkn2 : ¬ g = h.path.steps.length := by omega
        have hcan : canGo l im h g = (wr l im h g && ((decide (g = h.path.steps.length - 1) || wr l im h (g + 1)) && !occupied l im (secOf h g))) := by
          have e : decide (g + 1 = h.path.steps.length) = decide (g = h.path.steps.length - 1) := decide_eq_decide.2 (by omega)
          unfold canGo
          rw [hn, e]; simp [hlt]
        have hstop : canGo l im h g = false → goX l im h g = g := fun hc => by rw [hgo]; exact goX_stop hc
        have hgoon : canGo l im h g = true → goX l im h g = goX l im h (g + 1) := fun hc => by rw [hgo]; exact goX_go hc
        by_cases hkn : g = h.path.steps.length - 1
        · have heq : ((g : Int) = (h.path.steps.length : Int) - 1) = True := by simp only [eq_iff_iff, iff_true]; omega
          have hdk : decide (g = h.path.steps.length - 1) = true := decide_eq_true hkn
          rw [hdk] at hcan
          cases hwk : wr l im h g
          · have hst := hstop (by rw [hcan, hwk]; rfl)
            simp [hg, hwn, hle, heq, hgt, hAk, hAn, hwk, hlt, -pv_aidx]
            repeat refine And.intro (by omega) ?_
            refine ⟨fun hL => ?_, fun hL => ?_⟩
            · refine call (c_tick_Next h.timer) (by simp) (by simp) ?_
              simp [hL, hst, hrs, hwn, hgt, opnS, timerS, hn, hkn2, Bool.or_assoc, Bool.or_comm, -pv_aidx]
            · simp [hL, hst, hrs, hwn, hgt, opnS, timerS, hn, hkn2, Bool.or_comm, -pv_aidx]
          · simp [hg, hwn, hle, heq, hgt, hAk, hAn, hwk, hlt, Step.cells, -pv_aidx]
            repeat refine And.intro (by omega) ?_
            refine call (c_image_Occupied l im hi (secOf h g)) (by simp [Lay.cells, Img.cells, hlt, Step.cells, secOf_lt]) (by simp) ?_
            cases hoc : occupied l im (secOf h g)
            · have hgo3 := hgoon (by rw [hcan, hwk, hoc]; rfl)
              simp [hg, hwn, hle, heq, hgt, hAk, hAn, hwk, hlt, hw, -pv_aidx]
              repeat refine And.intro (by omega) ?_
              have hgo4 := hgo3
              have hwg : IntKind.i64.wrap ((g : Int) + 1) = ((g + 1 : Nat) : Int) := by rw [wrap_i] <;> omega
              have hlt0 := hlt
              clear hgo3 hwk hAk hAk1 hcan hstop hgoon hle hgt heq hw hdk hkn hkn2 hgo hoc hlt
              refine RTwp_loop rfl (fun vs => ∃ (k : Nat) (a b c d e f p q r s t z : AV), g ≤ k ∧ k ≤ h.n ∧ vs = [a, b, c, d, e, f, p, q, r, s, t, z] ∧ z = I k ∧ goX l im h g = goX l im h k) (fun vs => match vs with | [_, _, _, _, _, _, _, _, _, _, _, .int _ j] => h.n + 1 - j.toNat | _ => 0) ⟨g + 1, _, _, _, _, _, _, _, _, _, _, _, _, by omega, by omega, rfl, by simp [hg, hwg], hgo4⟩ ?_
              rintro vs - ⟨k, a, b, c, d, e, f, p, q, r, s, t, _, hk1, hk2, rfl, rfl, hgo⟩
              simp only [List.cons_append, List.nil_append]

              by_cases hlt : k < h.path.steps.length
              · have hAk := aidx0 (wr l im h) (i := k) (z := (k : Int)) rfl (by omega)
                have hAk1 := fun (hk : ¬ k = h.path.steps.length - 1) => aidx0 (wr l im h) (i := k + 1) (z := (k : Int) + 1) rfl (by omega)
                have hw : IntKind.i64.wrap ((k : Int) + 1) = (k : Int) + 1 := by rw [wrap_i] <;> omega
                have hle : ((k : Int) ≤ (h.path.steps.length : Int) - 1) = True := by simp only [eq_iff_iff, iff_true]; omega
                have hgt : ((h.path.steps.length : Int) - 1 < (k : Int)) = False := by simp only [eq_iff_iff, iff_false]; omega
                have hkn2 : ¬ k = h.path.steps.length := by omega
                have hcan : canGo l im h k = (wr l im h k && ((decide (k = h.path.steps.length - 1) || wr l im h (k + 1)) && !occupied l im (secOf h k))) := by
                  have e : decide (k + 1 = h.path.steps.length) = decide (k = h.path.steps.length - 1) := decide_eq_decide.2 (by omega)
                  unfold canGo
                  rw [hn, e]; simp [hlt]
                have hstop : canGo l im h k = false → goX l im h g = k := fun hc => by rw [hgo]; exact goX_stop hc
                have hgoon : canGo l im h k = true → goX l im h g = goX l im h (k + 1) := fun hc => by rw [hgo]; exact goX_go hc
                by_cases hkn : k = h.path.steps.length - 1
                · have heq : ((k : Int) = (h.path.steps.length : Int) - 1) = True := by simp only [eq_iff_iff, iff_true]; omega
                  have hdk : decide (k = h.path.steps.length - 1) = true := decide_eq_true hkn
                  rw [hdk] at hcan
                  cases hwk : wr l im h k
                  · have hst := hstop (by rw [hcan, hwk]; rfl)
                    simp [hg, hwn, hle, heq, hgt, hAk, hAn, hwk, hlt, -pv_aidx]
                    repeat refine And.intro (by omega) ?_
                    refine ⟨fun hL => ?_, fun hL => ?_⟩
                    · refine call (c_tick_Next h.timer) (by simp) (by simp) ?_
                      simp [hL, hst, hrs, hwn, hgt, opnS, timerS, hn, hkn2, Bool.or_assoc, Bool.or_comm, -pv_aidx]
                    · simp [hL, hst, hrs, hwn, hgt, opnS, timerS, hn, hkn2, Bool.or_comm, -pv_aidx]
                  · simp [hg, hwn, hle, heq, hgt, hAk, hAn, hwk, hlt, Step.cells, -pv_aidx]
                    repeat refine And.intro (by omega) ?_
                    refine call (c_image_Occupied l im hi (secOf h k)) (by simp [Lay.cells, Img.cells, hlt, Step.cells, secOf_lt]) (by simp) ?_
                    cases hoc : occupied l im (secOf h k)
                    · have hgo3 := hgoon (by rw [hcan, hwk, hoc]; rfl)
                      simp [hg, hwn, hle, heq, hgt, hAk, hAn, hwk, hlt, hw, -pv_aidx]
                      repeat refine And.intro (by omega) ?_
                      refine ⟨⟨k + 1, by omega, by omega, ?_⟩, by omega⟩
                      simp [hgo3]
                    · have hst := hstop (by rw [hcan, hwk, hoc]; rfl)
                      simp [hg, hwn, hle, heq, hgt, hAk, hAn, hwk, hlt, -pv_aidx]
                      repeat refine And.intro (by omega) ?_
                      refine ⟨fun hL => ?_, fun hL => ?_⟩
                      · refine call (c_tick_Next h.timer) (by simp) (by simp) ?_
                        simp [hL, hst, hrs, hwn, hgt, opnS, timerS, hn, hkn2, Bool.or_assoc, Bool.or_comm, -pv_aidx]
                      · simp [hL, hst, hrs, hwn, hgt, opnS, timerS, hn, hkn2, Bool.or_comm, -pv_aidx]
                · have heq : ((k : Int) = (h.path.steps.length : Int) - 1) = False := by simp only [eq_iff_iff, iff_false]; omega
                  have hdk : decide (k = h.path.steps.length - 1) = false := decide_eq_false hkn
                  rw [hdk, Bool.false_or] at hcan
                  cases hwk : wr l im h k
                  · have hst := hstop (by rw [hcan, hwk]; rfl)
                    simp [hg, hwn, hle, heq, hgt, hAk, hAk1 hkn, hAn, hwk, hlt, hw, -pv_aidx]
                    repeat refine And.intro (by omega) ?_
                    refine ⟨fun hL => ?_, fun hL => ?_⟩
                    · refine call (c_tick_Next h.timer) (by simp) (by simp) ?_
                      simp [hL, hst, hrs, hwn, hgt, opnS, timerS, hn, hkn2, Bool.or_assoc, Bool.or_comm, -pv_aidx]
                    · simp [hL, hst, hrs, hwn, hgt, opnS, timerS, hn, hkn2, Bool.or_comm, -pv_aidx]
                  · cases hwk2 : wr l im h (k + 1)
                    · have hst := hstop (by rw [hcan, hwk, hwk2]; rfl)
                      simp [hg, hwn, hle, heq, hgt, hAk, hAk1 hkn, hAn, hwk, hwk2, hlt, hw, -pv_aidx]
                      repeat refine And.intro (by omega) ?_
                      refine ⟨fun hL => ?_, fun hL => ?_⟩
                      · refine call (c_tick_Next h.timer) (by simp) (by simp) ?_
                        simp [hL, hst, hrs, hwn, hgt, opnS, timerS, hn, hkn2, Bool.or_assoc, Bool.or_comm, -pv_aidx]
                      · simp [hL, hst, hrs, hwn, hgt, opnS, timerS, hn, hkn2, Bool.or_comm, -pv_aidx]
                    · simp [hg, hwn, hle, heq, hgt, hAk, hAk1 hkn, hAn, hwk, hwk2, hlt, hw, Step.cells, -pv_aidx]
                      repeat refine And.intro (by omega) ?_
                      refine call (c_image_Occupied l im hi (secOf h k)) (by simp [Lay.cells, Img.cells, hlt, Step.cells, secOf_lt]) (by simp) ?_
                      cases hoc : occupied l im (secOf h k)
                      · have hgo3 := hgoon (by rw [hcan, hwk, hwk2, hoc]; rfl)
                        simp [hg, hwn, hle, heq, hgt, hAk, hAk1 hkn, hAn, hwk, hwk2, hlt, hw, -pv_aidx]
                        repeat refine And.intro (by omega) ?_
                        refine ⟨⟨k + 1, by omega, by omega, ?_⟩, by omega⟩
                        simp [hgo3]
                      · have hst := hstop (by rw [hcan, hwk, hwk2, hoc]; rfl)
                        simp [hg, hwn, hle, heq, hgt, hAk, hAk1 hkn, hAn, hwk, hwk2, hlt, hw, -pv_aidx]
                        repeat refine And.intro (by omega) ?_
                        refine ⟨fun hL => ?_, fun hL => ?_⟩
                        · refine call (c_tick_Next h.timer) (by simp) (by simp) ?_
                          simp [hL, hst, hrs, hwn, hgt, opnS, timerS, hn, hkn2, Bool.or_assoc, Bool.or_comm, -pv_aidx]
                        · simp [hL, hst, hrs, hwn, hgt, opnS, timerS, hn, hkn2, Bool.or_comm, -pv_aidx]
              · have hkn3 : k = h.path.steps.length := by omega
                have hle : ((k : Int) ≤ (h.path.steps.length : Int) - 1) = False := by simp only [eq_iff_iff, iff_false]; omega
                have hgt : ((h.path.steps.length : Int) - 1 < (k : Int)) = True := by simp only [eq_iff_iff, iff_true]; omega
                have heq : ((k : Int) = (h.path.steps.length : Int) - 1) = False := by simp only [eq_iff_iff, iff_false]; omega
                have hkn2 : (k = h.path.steps.length) = True := eq_true hkn3
                have hw : IntKind.i64.wrap ((k : Int) + 1) = (k : Int) + 1 := by rw [wrap_i] <;> omega
                have hst : goX l im h g = k := by
                  rw [hgo]; refine goX_stop ?_
                  unfold canGo; rw [hn]; simp [hlt]
                simp [hg, hwn, hle, heq, hgt, hAn, hw, -pv_aidx]
                repeat refine And.intro (by omega) ?_
                refine ⟨fun hL => ?_, fun hL => ?_⟩
                · refine call (c_tick_Next h.timer) (by simp) (by simp) ?_
                  simp [hL, hst, hrs, hwn, hgt, opnS, timerS, hn, hkn2, Bool.or_assoc, Bool.or_comm, -pv_aidx]
                · simp [hL, hst, hrs, hwn, hgt, opnS, timerS, hn, hkn2, Bool.or_comm, -pv_aidx]
            · have hst := hstop (by rw [hcan, hwk, hoc]; rfl)
              simp [hg, hwn, hle, heq, hgt, hAk, hAn, hwk, hlt, -pv_aidx]
              repeat refine And.intro (by omega) ?_
              refine ⟨fun hL => ?_, fun hL => ?_⟩
              · refine call (c_tick_Next h.timer) (by simp) (by simp) ?_
                simp [hL, hst, hrs, hwn, hgt, opnS, timerS, hn, hkn2, Bool.or_assoc, Bool.or_comm, -pv_aidx]
              · simp [hL, hst, hrs, hwn, hgt, opnS, timerS, hn, hkn2, Bool.or_comm, -pv_aidx]
        · have heq : ((g : Int) = (h.path.steps.length : Int) - 1) = False := by simp only [eq_iff_iff, iff_false]; omega
          have hdk : decide (g = h.path.steps.length - 1) = false := decide_eq_false hkn
          rw [hdk, Bool.false_or] at hcan
          cases hwk : wr l im h g
          · have hst := hstop (by rw [hcan, hwk]; rfl)
            simp [hg, hwn, hle, heq, hgt, hAk, hAk1 hkn, hAn, hwk, hlt, hw, -pv_aidx]
            repeat refine And.intro (by omega) ?_
            refine ⟨fun hL => ?_, fun hL => ?_⟩
            · refine call (c_tick_Next h.timer) (by simp) (by simp) ?_
              simp [hL, hst, hrs, hwn, hgt, opnS, timerS, hn, hkn2, Bool.or_assoc, Bool.or_comm, -pv_aidx]
            · simp [hL, hst, hrs, hwn, hgt, opnS, timerS, hn, hkn2, Bool.or_comm, -pv_aidx]
          · cases hwk2 : wr l im h (g + 1)
            · have hst := hstop (by rw [hcan, hwk, hwk2]; rfl)
              simp [hg, hwn, hle, heq, hgt, hAk, hAk1 hkn, hAn, hwk, hwk2, hlt, hw, -pv_aidx]
              repeat refine And.intro (by omega) ?_
              refine ⟨fun hL => ?_, fun hL => ?_⟩
              · refine call (c_tick_Next h.timer) (by simp) (by simp) ?_
                simp [hL, hst, hrs, hwn, hgt, opnS, timerS, hn, hkn2, Bool.or_assoc, Bool.or_comm, -pv_aidx]
              · simp [hL, hst, hrs, hwn, hgt, opnS, timerS, hn, hkn2, Bool.or_comm, -pv_aidx]
            · simp [hg, hwn, hle, heq, hgt, hAk, hAk1 hkn, hAn, hwk, hwk2, hlt, hw, Step.cells, -pv_aidx]
              repeat refine And.intro (by omega) ?_
              refine call (c_image_Occupied l im hi (secOf h g)) (by simp [Lay.cells, Img.cells, hlt, Step.cells, secOf_lt]) (by simp) ?_
              cases hoc : occupied l im (secOf h g)
              · have hgo3 := hgoon (by rw [hcan, hwk, hwk2, hoc]; rfl)
                simp [hg, hwn, hle, heq, hgt, hAk, hAk1 hkn, hAn, hwk, hwk2, hlt, hw, -pv_aidx]
                repeat refine And.intro (by omega) ?_
                have hgo4 := hgo3
                have hwg : IntKind.i64.wrap ((g : Int) + 1) = ((g + 1 : Nat) : Int) := by rw [wrap_i] <;> omega
                have hlt0 := hlt
                clear hgo3 hwk hAk hAk1 hcan hstop hgoon hle hgt heq hw hdk hkn hkn2 hgo hoc hlt
                refine RTwp_loop rfl (fun vs => ∃ (k : Nat) (a b c d e f p q r s t z : AV), g ≤ k ∧ k ≤ h.n ∧ vs = [a, b, c, d, e, f, p, q, r, s, t, z] ∧ z = I k ∧ goX l im h g = goX l im h k) (fun vs => match vs with | [_, _, _, _, _, _, _, _, _, _, _, .int _ j] => h.n + 1 - j.toNat | _ => 0) ⟨g + 1, _, _, _, _, _, _, _, _, _, _, _, _, by omega, by omega, rfl, by simp [hg, hwg], hgo4⟩ ?_
                rintro vs - ⟨k, a, b, c, d, e, f, p, q, r, s, t, _, hk1, hk2, rfl, rfl, hgo⟩
                simp only [List.cons_append, List.nil_append]

                by_cases hlt : k < h.path.steps.length
                · have hAk := aidx0 (wr l im h) (i := k) (z := (k : Int)) rfl (by omega)
                  have hAk1 := fun (hk : ¬ k = h.path.steps.length - 1) => aidx0 (wr l im h) (i := k + 1) (z := (k : Int) + 1) rfl (by omega)
                  have hw : IntKind.i64.wrap ((k : Int) + 1) = (k : Int) + 1 := by rw [wrap_i] <;> omega
                  have hle : ((k : Int) ≤ (h.path.steps.length : Int) - 1) = True := by simp only [eq_iff_iff, iff_true]; omega
                  have hgt : ((h.path.steps.length : Int) - 1 < (k : Int)) = False := by simp only [eq_iff_iff, iff_false]; omega
                  have hkn2 : ¬ k = h.path.steps.length := by omega
                  have hcan : canGo l im h k = (wr l im h k && ((decide (k = h.path.steps.length - 1) || wr l im h (k + 1)) && !occupied l im (secOf h k))) := by
                    have e : decide (k + 1 = h.path.steps.length) = decide (k = h.path.steps.length - 1) := decide_eq_decide.2 (by omega)
                    unfold canGo
                    rw [hn, e]; simp [hlt]
                  have hstop : canGo l im h k = false → goX l im h g = k := fun hc => by rw [hgo]; exact goX_stop hc
                  have hgoon : canGo l im h k = true → goX l im h g = goX l im h (k + 1) := fun hc => by rw [hgo]; exact goX_go hc
                  by_cases hkn : k = h.path.steps.length - 1
                  · have heq : ((k : Int) = (h.path.steps.length : Int) - 1) = True := by simp only [eq_iff_iff, iff_true]; omega
                    have hdk : decide (k = h.path.steps.length - 1) = true := decide_eq_true hkn
                    rw [hdk] at hcan
                    cases hwk : wr l im h k
                    · have hst := hstop (by rw [hcan, hwk]; rfl)
                      simp [hg, hwn, hle, heq, hgt, hAk, hAn, hwk, hlt, -pv_aidx]
                      repeat refine And.intro (by omega) ?_
                      refine ⟨fun hL => ?_, fun hL => ?_⟩
                      · refine call (c_tick_Next h.timer) (by simp) (by simp) ?_
                        simp [hL, hst, hrs, hwn, hgt, opnS, timerS, hn, hkn2, Bool.or_assoc, Bool.or_comm, -pv_aidx]
                      · simp [hL, hst, hrs, hwn, hgt, opnS, timerS, hn, hkn2, Bool.or_comm, -pv_aidx]
                    · simp [hg, hwn, hle, heq, hgt, hAk, hAn, hwk, hlt, Step.cells, -pv_aidx]
                      repeat refine And.intro (by omega) ?_
                      refine call (c_image_Occupied l im hi (secOf h k)) (by simp [Lay.cells, Img.cells, hlt, Step.cells, secOf_lt]) (by simp) ?_
                      cases hoc : occupied l im (secOf h k)
                      · have hgo3 := hgoon (by rw [hcan, hwk, hoc]; rfl)
                        simp [hg, hwn, hle, heq, hgt, hAk, hAn, hwk, hlt, hw, -pv_aidx]
                        repeat refine And.intro (by omega) ?_
                        refine ⟨⟨k + 1, by omega, by omega, ?_⟩, by omega⟩
                        simp [hgo3]
                      · have hst := hstop (by rw [hcan, hwk, hoc]; rfl)
                        simp [hg, hwn, hle, heq, hgt, hAk, hAn, hwk, hlt, -pv_aidx]
                        repeat refine And.intro (by omega) ?_
                        refine ⟨fun hL => ?_, fun hL => ?_⟩
                        · refine call (c_tick_Next h.timer) (by simp) (by simp) ?_
                          simp [hL, hst, hrs, hwn, hgt, opnS, timerS, hn, hkn2, Bool.or_assoc, Bool.or_comm, -pv_aidx]
                        · simp [hL, hst, hrs, hwn, hgt, opnS, timerS, hn, hkn2, Bool.or_comm, -pv_aidx]
                  · have heq : ((k : Int) = (h.path.steps.length : Int) - 1) = False := by simp only [eq_iff_iff, iff_false]; omega
                    have hdk : decide (k = h.path.steps.length - 1) = false := decide_eq_false hkn
                    rw [hdk, Bool.false_or] at hcan
                    cases hwk : wr l im h k
                    · have hst := hstop (by rw [hcan, hwk]; rfl)
                      simp [hg, hwn, hle, heq, hgt, hAk, hAk1 hkn, hAn, hwk, hlt, hw, -pv_aidx]
                      repeat refine And.intro (by omega) ?_
                      refine ⟨fun hL => ?_, fun hL => ?_⟩
                      · refine call (c_tick_Next h.timer) (by simp) (by simp) ?_
                        simp [hL, hst, hrs, hwn, hgt, opnS, timerS, hn, hkn2, Bool.or_assoc, Bool.or_comm, -pv_aidx]
                      · simp [hL, hst, hrs, hwn, hgt, opnS, timerS, hn, hkn2, Bool.or_comm, -pv_aidx]
                    · cases hwk2 : wr l im h (k + 1)
                      · have hst := hstop (by rw [hcan, hwk, hwk2]; rfl)
                        simp [hg, hwn, hle, heq, hgt, hAk, hAk1 hkn, hAn, hwk, hwk2, hlt, hw, -pv_aidx]
                        repeat refine And.intro (by omega) ?_
                        refine ⟨fun hL => ?_, fun hL => ?_⟩
                        · refine call (c_tick_Next h.timer) (by simp) (by simp) ?_
                          simp [hL, hst, hrs, hwn, hgt, opnS, timerS, hn, hkn2, Bool.or_assoc, Bool.or_comm, -pv_aidx]
                        · simp [hL, hst, hrs, hwn, hgt, opnS, timerS, hn, hkn2, Bool.or_comm, -pv_aidx]
                      · simp [hg, hwn, hle, heq, hgt, hAk, hAk1 hkn, hAn, hwk, hwk2, hlt, hw, Step.cells, -pv_aidx]
                        repeat refine And.intro (by omega) ?_
                        refine call (c_image_Occupied l im hi (secOf h k)) (by simp [Lay.cells, Img.cells, hlt, Step.cells, secOf_lt]) (by simp) ?_
                        cases hoc : occupied l im (secOf h k)
                        · have hgo3 := hgoon (by rw [hcan, hwk, hwk2, hoc]; rfl)
                          simp [hg, hwn, hle, heq, hgt, hAk, hAk1 hkn, hAn, hwk, hwk2, hlt, hw, -pv_aidx]
                          repeat refine And.intro (by omega) ?_
                          refine ⟨⟨k + 1, by omega, by omega, ?_⟩, by omega⟩
                          simp [hgo3]
                        · have hst := hstop (by rw [hcan, hwk, hwk2, hoc]; rfl)
                          simp [hg, hwn, hle, heq, hgt, hAk, hAk1 hkn, hAn, hwk, hwk2, hlt, hw, -pv_aidx]
                          repeat refine And.intro (by omega) ?_
                          refine ⟨fun hL => ?_, fun hL => ?_⟩
                          · refine call (c_tick_Next h.timer) (by simp) (by simp) ?_
                            simp [hL, hst, hrs, hwn, hgt, opnS, timerS, hn, hkn2, Bool.or_assoc, Bool.or_comm, -pv_aidx]
                          · simp [hL, hst, hrs, hwn, hgt, opnS, timerS, hn, hkn2, Bool.or_comm, -pv_aidx]
                · have hkn3 : k = h.path.steps.length := by omega
                  have hle : ((k : Int) ≤ (h.path.steps.length : Int) - 1) = False := by simp only [eq_iff_iff, iff_false]; omega
                  have hgt : ((h.path.steps.length : Int) - 1 < (k : Int)) = True := by simp only [eq_iff_iff, iff_true]; omega
                  have heq : ((k : Int) = (h.path.steps.length : Int) - 1) = False := by simp only [eq_iff_iff, iff_false]; omega
                  have hkn2 : (k = h.path.steps.length) = True := eq_true hkn3
                  have hw : IntKind.i64.wrap ((k : Int) + 1) = (k : Int) + 1 := by rw [wrap_i] <;> omega
                  have hst : goX l im h g = k := by
                    rw [hgo]; refine goX_stop ?_
                    unfold canGo; rw [hn]; simp [hlt]
                  simp [hg, hwn, hle, heq, hgt, hAn, hw, -pv_aidx]
                  repeat refine And.intro (by omega) ?_
                  refine ⟨fun hL => ?_, fun hL => ?_⟩
                  · refine call (c_tick_Next h.timer) (by simp) (by simp) ?_
                    simp [hL, hst, hrs, hwn, hgt, opnS, timerS, hn, hkn2, Bool.or_assoc, Bool.or_comm, -pv_aidx]
                  · simp [hL, hst, hrs, hwn, hgt, opnS, timerS, hn, hkn2, Bool.or_comm, -pv_aidx]
              · have hst := hstop (by rw [hcan, hwk, hwk2, hoc]; rfl)
                simp [hg, hwn, hle, heq, hgt, hAk, hAk1 hkn, hAn, hwk, hwk2, hlt, hw, -pv_aidx]
                repeat refine And.intro (by omega) ?_
                refine ⟨fun hL => ?_, fun hL => ?_⟩
                · refine call (c_tick_Next h.timer) (by simp) (by simp) ?_
                  simp [hL, hst, hrs, hwn, hgt, opnS, timerS, hn, hkn2, Bool.or_assoc, Bool.or_comm, -pv_aidx]
                · simp [hL, hst, hrs, hwn, hgt, opnS, timerS, hn, hkn2, Bool.or_comm, -pv_aidx]
      · have hkn3 : g = h.path.steps.length := by omega
        have hle : ((g : Int) ≤ (h.path.steps.length : Int) - 1) = False := by simp only [eq_iff_iff, iff_false]; omega
        have hgt : ((h.path.steps.length : Int) - 1 < (g : Int)) = True := by simp only [eq_iff_iff, iff_true]; omega
        have heq : ((g : Int) = (h.path.steps.length : Int) - 1) = False := by simp only [eq_iff_iff, iff_false]; omega
        have hkn2 : (g = h.path.steps.length) = True := eq_true hkn3
        have hw : IntKind.i64.wrap ((g : Int) + 1) = (g : Int) + 1 := by rw [wrap_i] <;> omega
        have hst : goX l im h g = g := by
          rw [hgo]; refine goX_stop ?_
          unfold canGo; rw [hn]; simp [hlt]
        simp [hg, hwn, hle, heq, hgt, hAn, hw, -pv_aidx]
        repeat refine And.intro (by omega) ?_
        refine ⟨fun hL => ?_, fun hL => ?_⟩
        · refine call (c_tick_Next h.timer) (by simp) (by simp) ?_
          simp [hL, hst, hrs, hwn, hgt, opnS, timerS, hn, hkn2, Bool.or_assoc, Bool.or_comm, -pv_aidx]
        · simp [hL, hst, hrs, hwn, hgt, opnS, timerS, hn, hkn2, Bool.or_comm, -pv_aidx]
end Go.Lb.LK

namespace Go.Lb.LK
open Go Go.Lb Go.Proofs Go.RowKit

theorem ranyhit {q : Nat → Bool} {n i : Nat} (h : i < n) (hb : q i = true) : (List.range n).any q = true := List.any_eq_true.2 ⟨i, List.mem_range.2 h, hb⟩
theorem ranynone {q : Nat → Bool} {n : Nat} (h : ∀ i, i < n → q i = false) : (List.range n).any q = false := by
  refine List.any_eq_false.2 fun x hx => ?_
  rw [h x (List.mem_range.1 hx)]; simp
/-- Of a section that a route still holds, by its place. -/
def soAt (q : Int → Bool) (h : Hd) (k : Nat) : Bool := match h.path.steps[k]? with
  | some t => decide (h.gone ≤ k) && q t.s
  | none => false
def soN (q : Int → Bool) (h : Hd) : Bool := (List.range h.path.steps.length).any (soAt q h)
theorem soAt_lt {q : Int → Bool} {h : Hd} {k : Nat} (hk : k < h.path.steps.length) : soAt q h k = (decide (h.gone ≤ k) && q h.path.steps[k].s) := by
  simp [soAt, List.getElem?_eq_getElem hk]
def inN (l : Lay) (im : Img) (h : Hd) : Bool := soN (occupied l im) h
def toldN (l : Lay) (im : Img) (h : Hd) : Bool := soN (told l im) h
theorem c_back_In (l : Lay) (im : Img) (hi : im.ok) (h : Hd) (hl : h.len) : C f_back_In [l.av, im.av, h.av] (.bool (inN l im h)) := by
  have hn := hl.1
  refine ctr (l.cells ++ im.cells ++ h.cells) run_back_In rfl (lih l im h) rfl ?_ rfl
  unfold rt_back_In
  simp [Lay.cells, Img.cells, Hd.cells]
  refine RTwp_loop rfl (fun vs => ∃ i : Nat, i ≤ h.path.steps.length ∧ vs = [I i] ∧ ∀ j, j < i → soAt (occupied l im) h j = false) (fun vs => match vs with | [.int _ j] => h.path.steps.length - j.toNat | _ => 0) ⟨0, by omega, by simp, fun j hj => by omega⟩ ?_
  rintro vs - ⟨i, hii, rfl, hq⟩
  simp
  refine ⟨fun hlt => ?_, fun hge => ?_⟩
  · have hw := wrap_succ (i := i) (by omega)
    have hse := soAt_lt (q := occupied l im) hlt
    have hgood : soAt (occupied l im) h i = false → ∀ j, j < i + 1 → soAt (occupied l im) h j = false := fun hk j hj => by
      by_cases hji : j = i
      · subst hji; exact hk
      · exact hq j (by omega)
    simp [hlt, Step.cells, hw]
    by_cases hg : h.gone ≤ i
    · have hg2 : ¬ (i : Int) < h.gone := by omega
      simp [hg, hg2]
      refine call (c_image_Occupied l im hi h.path.steps[i].s) (by simp [Lay.cells, Img.cells, hlt, Step.cells]) (by simp) ?_
      cases ho : occupied l im h.path.steps[i].s
      · simp
        exact ⟨⟨i + 1, by omega, by omega, hgood (by rw [hse, ho]; simp)⟩, by omega⟩
      · have : inN l im h = true := ranyhit hlt (by rw [hse, ho]; simp [hg])
        simp [this]
    · have hg2 : (i : Int) < h.gone := by omega
      simp [hg, hg2]
      exact ⟨⟨i + 1, by omega, by omega, hgood (by rw [hse]; simp [hg])⟩, by omega⟩
  · have : inN l im h = false := ranynone fun j hj => hq j (by omega)
    simp [this]
theorem c_back_told (l : Lay) (im : Img) (hi : im.ok) (h : Hd) (hl : h.len) : C f_back_told [l.av, im.av, h.av] (.bool (toldN l im h)) := by
  have hn := hl.1
  refine ctr (l.cells ++ im.cells ++ h.cells) run_back_told rfl (lih l im h) rfl ?_ rfl
  unfold rt_back_told
  simp [Lay.cells, Img.cells, Hd.cells]
  refine RTwp_loop rfl (fun vs => ∃ i : Nat, i ≤ h.path.steps.length ∧ vs = [I i] ∧ ∀ j, j < i → soAt (told l im) h j = false) (fun vs => match vs with | [.int _ j] => h.path.steps.length - j.toNat | _ => 0) ⟨0, by omega, by simp, fun j hj => by omega⟩ ?_
  rintro vs - ⟨i, hii, rfl, hq⟩
  simp
  refine ⟨fun hlt => ?_, fun hge => ?_⟩
  · have hw := wrap_succ (i := i) (by omega)
    have hse := soAt_lt (q := told l im) hlt
    have hgood : soAt (told l im) h i = false → ∀ j, j < i + 1 → soAt (told l im) h j = false := fun hk j hj => by
      by_cases hji : j = i
      · subst hji; exact hk
      · exact hq j (by omega)
    simp [hlt, Step.cells, hw]
    by_cases hg : h.gone ≤ i
    · have hg2 : ¬ (i : Int) < h.gone := by omega
      simp [hg, hg2]
      refine call (c_image_Told l im hi h.path.steps[i].s) (by simp [Lay.cells, Img.cells, hlt, Step.cells]) (by simp) ?_
      cases ho : told l im h.path.steps[i].s
      · simp
        exact ⟨⟨i + 1, by omega, by omega, hgood (by rw [hse, ho]; simp)⟩, by omega⟩
      · have : toldN l im h = true := ranyhit hlt (by rw [hse, ho]; simp [hg])
        simp [this]
    · have hg2 : (i : Int) < h.gone := by omega
      simp [hg, hg2]
      exact ⟨⟨i + 1, by omega, by omega, hgood (by rw [hse]; simp [hg])⟩, by omega⟩
  · have : toldN l im h = false := ranynone fun j hj => hq j (by omega)
    simp [this]
theorem c_r22In (l : Lay) (im : Img) (hi : im.ok) (h : Hd) (hl : h.len) : C f_lockbarref22_In [l.av, im.av, h.av] (.bool (inN l im h)) := by
  have hn := hl.1
  refine ctr (l.cells ++ im.cells ++ h.cells) run_lockbarref22_In rfl (lih l im h) rfl ?_ rfl
  unfold rt_lockbarref22_In
  simp [Lay.cells, Img.cells, Hd.cells]
  refine RTwp_loop rfl (fun vs => ∃ i : Nat, i ≤ h.path.steps.length ∧ vs = [I i] ∧ ∀ j, j < i → soAt (occupied l im) h j = false) (fun vs => match vs with | [.int _ j] => h.path.steps.length - j.toNat | _ => 0) ⟨0, by omega, by simp, fun j hj => by omega⟩ ?_
  rintro vs - ⟨i, hii, rfl, hq⟩
  simp
  refine ⟨fun hlt => ?_, fun hge => ?_⟩
  · have hw := wrap_succ (i := i) (by omega)
    have hse := soAt_lt (q := occupied l im) hlt
    have hgood : soAt (occupied l im) h i = false → ∀ j, j < i + 1 → soAt (occupied l im) h j = false := fun hk j hj => by
      by_cases hji : j = i
      · subst hji; exact hk
      · exact hq j (by omega)
    simp [hlt, Step.cells, hw]
    refine callIf (avs := [l.av, im.av, I h.path.steps[i].s]) (.bool (occupied l im h.path.steps[i].s)) rfl (fun _ => ⟨by simp [Lay.cells, Img.cells, hlt, Step.cells], c_r15Occupied l im hi h.path.steps[i].s⟩) (fun _ => rfl) ?_
    by_cases hg : h.gone ≤ i
    · cases ho : occupied l im h.path.steps[i].s
      · simp [hg, hw]
        exact ⟨⟨i + 1, by omega, by omega, hgood (by rw [hse, ho]; simp)⟩, by omega⟩
      · have : inN l im h = true := ranyhit hlt (by rw [hse, ho]; simp [hg])
        simp [hg, this]
    · simp [hg, hw]
      exact ⟨⟨i + 1, by omega, by omega, hgood (by rw [hse]; simp [hg])⟩, by omega⟩
  · have : inN l im h = false := ranynone fun j hj => hq j (by omega)
    simp [this]
theorem c_r22told (l : Lay) (im : Img) (hi : im.ok) (h : Hd) (hl : h.len) : C f_lockbarref22_told [l.av, im.av, h.av] (.bool (toldN l im h)) := by
  have hn := hl.1
  refine ctr (l.cells ++ im.cells ++ h.cells) run_lockbarref22_told rfl (lih l im h) rfl ?_ rfl
  unfold rt_lockbarref22_told
  simp [Lay.cells, Img.cells, Hd.cells]
  refine RTwp_loop rfl (fun vs => ∃ i : Nat, i ≤ h.path.steps.length ∧ vs = [I i] ∧ ∀ j, j < i → soAt (told l im) h j = false) (fun vs => match vs with | [.int _ j] => h.path.steps.length - j.toNat | _ => 0) ⟨0, by omega, by simp, fun j hj => by omega⟩ ?_
  rintro vs - ⟨i, hii, rfl, hq⟩
  simp
  refine ⟨fun hlt => ?_, fun hge => ?_⟩
  · have hw := wrap_succ (i := i) (by omega)
    have hse := soAt_lt (q := told l im) hlt
    have hgood : soAt (told l im) h i = false → ∀ j, j < i + 1 → soAt (told l im) h j = false := fun hk j hj => by
      by_cases hji : j = i
      · subst hji; exact hk
      · exact hq j (by omega)
    simp [hlt, Step.cells, hw]
    refine callIf (avs := [l.av, im.av, I h.path.steps[i].s]) (.bool (told l im h.path.steps[i].s)) rfl (fun _ => ⟨by simp [Lay.cells, Img.cells, hlt, Step.cells], c_r15Told l im hi h.path.steps[i].s⟩) (fun _ => rfl) ?_
    by_cases hg : h.gone ≤ i
    · cases ho : told l im h.path.steps[i].s
      · simp [hg, hw]
        exact ⟨⟨i + 1, by omega, by omega, hgood (by rw [hse, ho]; simp)⟩, by omega⟩
      · have : toldN l im h = true := ranyhit hlt (by rw [hse, ho]; simp [hg])
        simp [hg, this]
    · simp [hg, hw]
      exact ⟨⟨i + 1, by omega, by omega, hgood (by rw [hse]; simp [hg])⟩, by omega⟩
  · have : toldN l im h = false := ranynone fun j hj => hq j (by omega)
    simp [this]
end Go.Lb.LK

namespace Go.Lb.LK
open Go Go.Lb Go.Proofs Go.RowKit

theorem c_port_Ports (k : Int) (h0 : 0 ≤ k) (h1 : k ≤ 255) : C f_port_Ports [U k] (I (portsK k)) := by
  refine ctr [U k] run_port_Ports rfl rfl rfl ?_ rfl
  unfold rt_port_Ports
  refine call (c_port_of k h0 h1) (by simp) (by simp) ?_
  rcases kind_cases h0 h1 with rfl | rfl | rfl | rfl | h
  · simp [kindCells, portsK]
  · simp [kindCells, portsK]
  · simp [kindCells, portsK]
  · simp [kindCells, portsK]
  · simp [kindCells, portsK, show k ≠ 1 by omega, show k ≠ 2 by omega, show k ≠ 3 by omega]
theorem c_join_Has (l : Lay) (hl : l.ok) (p : Port) : C f_join_Has [l.av, p.av] (.bool (hasP l p)) := by
  refine ctr (l.cells ++ p.cells) run_join_Has rfl (by simp [pureAll_append]) rfl ?_ rfl
  unfold rt_join_Has
  simp [Lay.cells, Port.cells]
  by_cases hc : 0 ≤ p.s ∧ p.s < l.secs.length
  · obtain ⟨n, hn, hlt, he⟩ := secAt_in hc.1 hc.2
    have hls : hasP l p = (decide (0 ≤ p.p) && decide (p.p < portsK l.secs[n].kind)) := by simp [hasP, he]
    have hkd := hl _ (List.getElem_mem hlt)
    rw [hls]
    simp [hn, hlt, Sec.cells]
    refine callIf (avs := [U l.secs[n].kind]) (I (portsK l.secs[n].kind)) rfl (fun _ => ⟨by simp [hlt, Sec.cells], c_port_Ports _ hkd.1 hkd.2⟩) (fun _ => rfl) ?_
    by_cases h0 : 0 ≤ p.p <;> simp [h0, hlt]
  · have hls : hasP l p = false := by simp [hasP, secAt_out hc]
    rw [hls]
    have hc2 : 0 ≤ p.s → ¬ p.s < l.secs.length := fun h1 h2 => hc ⟨h1, h2⟩
    by_cases h0 : 0 ≤ p.s
    · have h1 := hc2 h0
      simp [h0, h1]
      refine callIf (avs := []) (I 0) rfl (fun hh => ?_) (fun _ => rfl) ?_
      · simp [h0, h1] at hh
      · simp [h0, h1]
    · simp [h0]
      refine callIf (avs := []) (I 0) rfl (fun hh => ?_) (fun _ => rfl) ?_
      · simp [h0] at hh
      · simp [h0]
theorem c_join_Beyond (l : Lay) (hl : l.ok) (p : Port) : C f_join_Beyond [l.av, p.av] (beyondP l p).av := by
  refine ctr (l.cells ++ p.cells) run_join_Beyond rfl (by simp [pureAll_append]) (by simp [AV.pure]) ?_ rfl
  unfold rt_join_Beyond
  simp [Lay.cells, Port.cells]
  refine call (c_join_Has l hl p) (by simp [Lay.cells, Port.cells]) (fun _ => rfl) ?_
  cases hh : hasP l p
  · simp [beyondP_not hh, noP, Port.cells]
  · obtain ⟨n, m, h1, h2, h3, hlt, h4⟩ := beyondP_has hh
    have hm : m = 0 ∨ m = 1 ∨ m = 2 ∨ m = 3 := by omega
    rcases hm with rfl | rfl | rfl | rfl <;> simp [h1, h2, h4, hlt, Sec.cells, Sec.join, Port.cells]
/-- What lies in rear of a signal. -/
def rearP (l : Lay) (x : Int) : Port := if 0 ≤ x then (match l.sigs[x.toNat]? with
  | some p => beyondP l p
  | none => noP) else noP
theorem rearP_in {l : Lay} {x : Int} {n : Nat} (hx : x = n) (hn : n < l.sigs.length) : rearP l x = beyondP l l.sigs[n] := by
  subst hx
  simp [rearP, List.getElem?_eq_getElem hn]
theorem rearP_out {l : Lay} {x : Int} (hx : ¬ (0 ≤ x ∧ x < l.sigs.length)) : rearP l x = noP := by
  unfold rearP
  split
  · rw [List.getElem?_eq_none (by omega)]
  · rfl
theorem c_beyond_Rear (l : Lay) (hl : l.ok) (x : Int) : C f_beyond_Rear [l.av, I x] (rearP l x).av := by
  refine ctr (l.cells ++ [I x]) run_beyond_Rear rfl (by simp [pureAll_append, AV.pureAll, AV.pure]) (by simp [AV.pure]) ?_ rfl
  unfold rt_beyond_Rear
  simp [Lay.cells]
  by_cases hc : 0 ≤ x ∧ x < l.sigs.length
  · obtain ⟨n, hn⟩ : ∃ n : Nat, x = n := ⟨x.toNat, by omega⟩
    have hlt : n < l.sigs.length := by omega
    have h1 : ¬ ((n : Int) < 0) := by omega
    have h2 : ¬ (l.sigs.length ≤ n) := by omega
    rw [rearP_in hn hlt]
    simp [hn, hlt, h1, h2, Port.cells]
    refine call (c_join_Beyond l hl l.sigs[n]) (by simp [Lay.cells, hlt, Port.cells]) (by simp) ?_
    simp [Port.cells]
  · rw [rearP_out hc]
    simp [noP, Port.cells]
    exact fun a b => absurd ⟨a, b⟩ hc
theorem c_r10_none : C f_lockbarref10_none [] noP.av := by
  refine ctr [] run_lockbarref10_none rfl rfl rfl ?_ rfl
  unfold rt_lockbarref10_none
  simp [noP, Port.cells]
theorem c_r10_Rear (l : Lay) (x : Int) : C f_lockbarref10_Rear [l.av, I x] (rearP l x).av := by
  refine ctr (l.cells ++ [I x]) run_lockbarref10_Rear rfl (by simp [pureAll_append, AV.pureAll, AV.pure]) (by simp [AV.pure]) ?_ rfl
  unfold rt_lockbarref10_Rear
  simp [Lay.cells]
  by_cases hc : 0 ≤ x ∧ x < l.sigs.length
  · obtain ⟨n, hn⟩ : ∃ n : Nat, x = n := ⟨x.toNat, by omega⟩
    have hlt : n < l.sigs.length := by omega
    have h1 : ¬ ((n : Int) < 0) := by omega
    have h2 : ¬ (l.sigs.length ≤ n) := by omega
    rw [rearP_in hn hlt]
    simp [hn, hlt, h1, h2, Port.cells]
    refine call (c_r07_Beyond l l.sigs[n]) (by simp [Lay.cells, hlt, Port.cells]) (by simp) ?_
    simp [Port.cells]
  · rw [rearP_out hc]
    have hb : x < 0 ∨ (l.sigs.length : Int) ≤ x := by omega
    simp [hb]
    refine And.intro ?_ (fun a b => absurd ⟨a, b⟩ hc)
    refine call c_r10_none rfl (by simp) ?_
    simp [noP, Port.cells]
def rearN (l : Lay) (im : Img) (x : Int) : Bool := decide (0 ≤ (rearP l x).s) && occupied l im (rearP l x).s
theorem c_back_Rear (l : Lay) (hl : l.ok) (im : Img) (hi : im.ok) (x : Int) : C f_back_Rear [l.av, im.av, I x] (.bool (rearN l im x)) := by
  refine ctr (l.cells ++ im.cells ++ [I x]) run_back_Rear rfl (by simp [pureAll_append, AV.pureAll, AV.pure]) rfl ?_ rfl
  unfold rt_back_Rear
  simp [Lay.cells, Img.cells]
  refine call (c_beyond_Rear l hl x) (by simp [Lay.cells]) (by simp) ?_
  simp [Port.cells]
  refine callIf (avs := [l.av, im.av, I (rearP l x).s]) (.bool (occupied l im (rearP l x).s)) rfl (fun _ => ⟨by simp [Lay.cells, Img.cells, Port.cells], c_image_Occupied l im hi _⟩) (fun _ => rfl) ?_
  by_cases h : 0 ≤ (rearP l x).s <;> simp [rearN, h, Port.cells]
theorem c_r22Rear (l : Lay) (im : Img) (hi : im.ok) (x : Int) : C f_lockbarref22_Rear [l.av, im.av, I x] (.bool (rearN l im x)) := by
  refine ctr (l.cells ++ im.cells ++ [I x]) run_lockbarref22_Rear rfl (by simp [pureAll_append, AV.pureAll, AV.pure]) rfl ?_ rfl
  unfold rt_lockbarref22_Rear
  simp [Lay.cells, Img.cells]
  refine call (c_r10_Rear l x) (by simp [Lay.cells]) (by simp) ?_
  simp [Port.cells]
  refine callIf (avs := [l.av, im.av, I (rearP l x).s]) (.bool (occupied l im (rearP l x).s)) rfl (fun _ => ⟨by simp [Lay.cells, Img.cells, Port.cells], c_r15Occupied l im hi _⟩) (fun _ => rfl) ?_
  by_cases h : 0 ≤ (rearP l x).s <;> simp [rearN, h, Port.cells]
end Go.Lb.LK

namespace Go.Lb.LK
open Go Go.Lb Go.Proofs Go.RowKit

end Go.Lb.LK

namespace Go.Lb.LK
open Go Go.Lb Go.Proofs Go.RowKit

end Go.Lb.LK

namespace Go.Lb.LK
open Go Go.Lb Go.Proofs Go.RowKit

def downT (n : Int) : Int := IntKind.i64.wrap (max n 1 - 1)
theorem c_tick_Down (n : Int) : C f_tick_Down [I n] (I (downT n)) := by
  refine ctr [I n] run_tick_Down rfl rfl rfl ?_ rfl
  unfold rt_tick_Down
  simp [downT]
theorem c_r03Down (n : Int) : C f_lockbarref03_Down [I n] (I (downT n)) := by
  refine ctr [I n] run_lockbarref03_Down rfl rfl rfl ?_ rfl
  unfold rt_lockbarref03_Down
  simp [downT]
  refine ⟨fun hn => ?_, fun hn => ?_⟩
  · rw [Int.max_eq_right (by omega)]; rfl
  · rw [Int.max_eq_left (by omega)]
def tickB (l : Lay) (im : Img) (h : Hd) : Hd × Bool :=
  if h.stage = 4 ∧ stale l im = false then
    if toldN l im h = true then (runS l im { h with stage := 3, timer := 0 }, false)
    else if inN l im h = true then (h, false)
    else ({ h with timer := downT h.timer }, decide (downT h.timer = 0))
  else (h, false)
abbrev hdB (x : Hd × Bool) : AV := .tup [x.1.av, .bool x.2]
theorem c_back_Tick (l : Lay) (im : Img) (hi : im.ok) (h : Hd) (hl : h.len) : C f_back_Tick [l.av, im.av, h.av] (hdB (tickB l im h)) := by
  refine ctr (l.cells ++ im.cells ++ h.cells) run_back_Tick rfl (lih l im h) (by simp [AV.pure, AV.pureAll]) ?_ rfl
  unfold rt_back_Tick
  simp [Lay.cells, Img.cells, Hd.cells]
  refine call (c_held_Own h hl) (by simp [Hd.cells]) (by simp) ?_
  simp [Hd.cells]
  refine callIf (avs := [l.av, im.av]) (.bool (stale l im)) rfl (fun _ => ⟨by simp [Lay.cells, Img.cells], c_image_Stale l im⟩) (by simp) ?_
  by_cases h4 : h.stage = 4
  · cases hst : stale l im
    · simp [h4, tickB, hst, Hd.cells]
      refine call (c_back_told l im hi h hl) (by simp [Lay.cells, Img.cells, Hd.cells, h4]) (by simp) ?_
      cases htd : toldN l im h
      · simp
        refine call (c_back_In l im hi h hl) (by simp [Lay.cells, Img.cells, Hd.cells, h4]) (by simp) ?_
        cases hin : inN l im h
        · simp
          refine call (c_tick_Down h.timer) (by simp [Hd.cells]) (by simp) ?_
          simp [Hd.cells, h4]
          rfl
        · simp [Hd.cells, h4]
      · simp
        refine call (c_pass_Run l im hi { h with stage := 3, timer := 0 } hl (by simp)) (by simp [Lay.cells, Img.cells, Hd.cells]) (by simp) ?_
        simp [Hd.cells]
    · simp [h4, tickB, hst, Hd.cells]
  · simp [h4, tickB, Hd.cells]
theorem c_r22Tick (l : Lay) (im : Img) (hi : im.ok) (h : Hd) (hl : h.len) : C f_lockbarref22_Tick [l.av, im.av, h.av] (hdB (tickB l im h)) := by
  refine ctr (l.cells ++ im.cells ++ h.cells) run_lockbarref22_Tick rfl (lih l im h) (by simp [AV.pure, AV.pureAll]) ?_ rfl
  unfold rt_lockbarref22_Tick
  simp [Lay.cells, Img.cells, Hd.cells]
  refine call (c_r17Own h hl) (by simp [Hd.cells]) (by simp) ?_
  simp [Hd.cells]
  refine callIf (avs := [l.av, im.av]) (.bool (stale l im)) rfl (fun _ => ⟨by simp [Lay.cells, Img.cells], c_r15Stale l im⟩) (by simp) ?_
  by_cases h4 : h.stage = 4
  · cases hst : stale l im
    · simp [h4, tickB, hst, Hd.cells]
      refine call (c_r22told l im hi h hl) (by simp [Lay.cells, Img.cells, Hd.cells, h4]) (by simp) ?_
      cases htd : toldN l im h
      · simp
        refine call (c_r22In l im hi h hl) (by simp [Lay.cells, Img.cells, Hd.cells, h4]) (by simp) ?_
        cases hin : inN l im h
        · simp
          refine call (c_r03Down h.timer) (by simp [Hd.cells]) (by simp) ?_
          simp [Hd.cells, h4]
          rfl
        · simp [Hd.cells, h4]
      · simp
        refine call (c_r21Run l im hi { h with stage := 3, timer := 0 } hl (by simp)) (by simp [Lay.cells, Img.cells, Hd.cells]) (by simp) ?_
        simp [Hd.cells]
    · simp [h4, tickB, hst, Hd.cells]
  · simp [h4, tickB, Hd.cells]
end Go.Lb.LK

namespace Go.Lb.LK
open Go Go.Lb Go.Proofs Go.RowKit

theorem lih2 (l : Lay) (im : Img) (h : Hd) : AV.pureAll (h.cells ++ l.cells ++ im.cells) = true := by simp [pureAll_append]
def comes2 (l : Lay) (im : Img) (h : Hd) : Int := if (h.shown && rearN l im h.path.sig) = true then 2 else 1
def comes3 (l : Lay) (im : Img) (h : Hd) : Int := if inN l im h = true then 0 else 2
theorem c_comes1 (h : Hd) : C f_back_comes_1 [h.av] (I 1) := by
  refine ctr h.cells run_back_comes_1 rfl (by simp) rfl ?_ rfl
  unfold rt_back_comes_1
  simp [Hd.cells]
theorem c_comes2 (l : Lay) (hl : l.ok) (im : Img) (hi : im.ok) (h : Hd) : C f_back_comes_2 [h.av, .ref l.cells 0, .ref im.cells 0] (I (comes2 l im h)) := by
  refine ctr (h.cells ++ l.cells ++ im.cells) run_back_comes_2 rfl (lih2 l im h) rfl ?_ rfl
  unfold rt_back_comes_2
  simp [Lay.cells, Img.cells, Hd.cells]
  refine callIf (avs := [l.av, im.av, I h.path.sig]) (.bool (rearN l im h.path.sig)) rfl (fun _ => ⟨by simp [Lay.cells, Img.cells], c_back_Rear l hl im hi _⟩) (by simp) ?_
  simp [comes2]
theorem c_comes3 (l : Lay) (im : Img) (hi : im.ok) (h : Hd) (hh : h.len) : C f_back_comes_3 [h.av, .ref l.cells 0, .ref im.cells 0] (I (comes3 l im h)) := by
  refine ctr (h.cells ++ l.cells ++ im.cells) run_back_comes_3 rfl (lih2 l im h) rfl ?_ rfl
  unfold rt_back_comes_3
  simp [Lay.cells, Img.cells, Hd.cells]
  refine call (c_back_In l im hi h hh) (by simp [Lay.cells, Img.cells, Hd.cells]) (by simp) ?_
  simp [comes3]
def idAt (hs : List Hd) (j : Int) : Int := (hs[j.toNat]?.map (·.id)).getD 0
/-- Where the signal's route stands among the first ones: the one of the greatest number. -/
def atU (hs : List Hd) (x : Int) : Nat → Int
  | 0 => -1
  | i + 1 => match hs[i]? with
    | some h => if h.path.sig = x ∧ (atU hs x i < 0 ∨ idAt hs (atU hs x i) < h.id) then i else atU hs x i
    | none => atU hs x i
theorem atU_rng (hs : List Hd) (x : Int) : ∀ i, atU hs x i = -1 ∨ ∃ m : Nat, atU hs x i = m ∧ m < i ∧ m < hs.length
  | 0 => .inl rfl
  | i + 1 => by
    simp only [atU]
    split
    · rename_i h hh
      split
      · exact .inr ⟨i, rfl, by omega, (List.getElem?_eq_some_iff.1 hh).1⟩
      · rcases atU_rng hs x i with h1 | ⟨m, h1, h2, h3⟩
        · exact .inl h1
        · exact .inr ⟨m, h1, by omega, h3⟩
    · rcases atU_rng hs x i with h1 | ⟨m, h1, h2, h3⟩
      · exact .inl h1
      · exact .inr ⟨m, h1, by omega, h3⟩
theorem atU_step {hs : List Hd} {x : Int} {i : Nat} (hi : i < hs.length) : atU hs x (i + 1) = if hs[i].path.sig = x ∧ (atU hs x i < 0 ∨ idAt hs (atU hs x i) < hs[i].id) then (i : Int) else atU hs x i := by
  simp [atU, List.getElem?_eq_getElem hi]
theorem atU_sig {hs : List Hd} {x : Int} : ∀ {i m : Nat}, atU hs x i = m → ∀ h, hs[m]? = some h → h.path.sig = x
  | 0, m, h0, _, _ => by simp [atU] at h0
  | i + 1, m, h0, h, hh => by
    simp only [atU] at h0
    split at h0
    · rename_i g hg
      split at h0
      · rename_i hc
        have : i = m := by omega
        subst this
        rw [hg] at hh; cases hh
        exact hc.1
      · exact atU_sig h0 h hh
    · exact atU_sig h0 h hh
theorem idAt_at {hs : List Hd} {m : Nat} (h : m < hs.length) : idAt hs (m : Int) = hs[m].id := by simp [idAt, h]
theorem c_r22find (k : Kern) (hl : k.len) (x : Int) : C f_lockbarref22_find [k.av, I x] (I (atU k.held x k.held.length)) := by
  have h1 := hl.1
  refine ctr (k.cells ++ [I x]) run_lockbarref22_find rfl (by simp [pureAll_append, AV.pureAll, AV.pure]) rfl ?_ rfl
  unfold rt_lockbarref22_find
  simp [Kern.cells]
  refine RTwp_loop rfl (fun vs => ∃ i : Nat, i ≤ k.held.length ∧ vs = [I (atU k.held x i), I i]) (fun vs => match vs with | [_, .int _ j] => k.held.length - j.toNat | _ => 0) ⟨0, by omega, by simp [atU]⟩ ?_
  rintro vs - ⟨i, hi, rfl⟩
  have hw := wrap_succ (i := i) (by omega)
  simp
  refine ⟨fun hlt => ?_, fun hge => ?_⟩
  · have hst := atU_step (x := x) hlt
    rcases atU_rng k.held x i with ha | ⟨m, ha, hm, hml⟩
    · rw [ha] at hst ⊢
      simp [hlt, Hd.cells, hw]
      by_cases hc : k.held[i].path.sig = x
      · exact .inr ⟨hc, ⟨i + 1, by omega, by rw [hst, if_pos ⟨hc, .inl (by omega)⟩], rfl⟩, by omega⟩
      · exact .inl ⟨hc, ⟨i + 1, by omega, by rw [hst, if_neg (fun h => hc h.1)], rfl⟩, by omega⟩
    · rw [ha] at hst ⊢
      rw [idAt_at hml] at hst
      simp [hlt, hml, Hd.cells, hw]
      by_cases hc : k.held[i].path.sig = x ∧ k.held[m].id < k.held[i].id
      · exact .inr ⟨⟨hc.1, .inr hc.2⟩, ⟨i + 1, by omega, by rw [hst, if_pos ⟨hc.1, .inr hc.2⟩], rfl⟩, by omega⟩
      · exact .inl ⟨fun h => by
          have := fun h2 => hc ⟨h, h2⟩
          omega, ⟨i + 1, by omega, by rw [hst, if_neg (fun h => hc ⟨h.1, by have := h.2; omega⟩)], rfl⟩, by omega⟩
  · have : i = k.held.length := by omega
    subst this
    simp
end Go.Lb.LK
