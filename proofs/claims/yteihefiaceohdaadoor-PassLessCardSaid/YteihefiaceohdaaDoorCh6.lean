/- The document's Right of a held route. -/
/- A train's tick, as the document has it. -/
/- A route's tick, both. -/
/- A train's tick, as the program has it. -/
/- A route's tick, as the program has it. -/
/- What functions come to, printed by a program, checked by the kernel. -/
import Derived.Test.YteihefiaceohdaaDoorCh5
import Derived.Test.YteihefiaceohdaaDoorCh1
set_option linter.unusedSimpArgs false
set_option linter.unusedVariables false
namespace Go.Lb.LK
open Go Go.Lb Go.Proofs Go.RowKit

theorem was_cell (h : Hd) (k : Nat) (hk : k < 12) : (h.cells[k * 1 + 8]?).getD .undef = .bool (h.was k) := by
  rw [Nat.mul_one, ← List.getD_eq_getElem?_getD]; exact was_get h hk _
theorem not_nodup_of {l : List Int} {i j : Nat} (hij : i < j) (hj : j < l.length) (he : l[i] = l[j]) : ¬ l.Nodup := by
  intro hn
  have := List.pairwise_iff_getElem.1 hn i j (by omega) hj hij
  exact this he
theorem nodup_step {l : List Int} {k : Nat} (hk : k < l.length) (hn : (l.take k).Nodup) (hi : ∀ i, (h : i < k) → l[i] ≠ l[k]) : (l.take (k + 1)).Nodup := by
  rw [List.take_add_one, List.getElem?_eq_getElem hk]
  simp only [Option.toList_some]
  rw [List.nodup_append]
  refine ⟨hn, by simp, ?_⟩
  intro a ha b hb
  simp at hb; subst hb
  obtain ⟨i, hi2, rfl⟩ := List.mem_iff_getElem.1 ha
  rw [List.length_take] at hi2
  rw [List.getElem_take]
  exact hi i (by omega)
theorem c_r17Right (h : Hd) (hl : h.len) (hs : 0 ≤ h.stage ∧ h.stage ≤ 255) : C f_lockbarref17_Right [h.av] (.bool (rightS h)) := by
  obtain ⟨l1, l2, l3⟩ := hl
  refine ctr h.cells run_lockbarref17_Right rfl (by simp) rfl ?_ rfl
  unfold rt_lockbarref17_Right
  simp [Hd.cells]
  refine callIf (avs := [needs h.needs, needs h.needs]) (.bool (clashN h.needs h.needs)) rfl (fun _ => ⟨by simp, c_r17clash _ _ (by omega) (by omega)⟩) (by simp) ?_
  by_cases g1 : h.g1 ∧ h.g2
  · have g1' := g1.1
    have g2' := g1.2
    obtain ⟨⟨a1, a2, a3, a4, a5, a6, a7⟩, d1, d2, d3, d4⟩ := g1
    have b1 : ¬ h.id < 1 := by omega
    have b2 : ¬ 1073741824 < h.id := by omega
    have b2' : ¬ 1073741824 < h.timer := by omega
    have b3 : ¬ h.timer < 0 := by omega
    have b4 : ¬ ((h.path.steps.length : Int) < 1) := by omega
    have b5 : ¬ (12 < (h.path.steps.length : Int)) := by omega
    have b6 : ¬ (2 < (h.over.length : Int)) := by omega
    have e1 : ¬ h.stage < 1 := by omega
    have e2 : ¬ 5 ≤ h.stage := by omega
    have e3 : ¬ h.gone < 0 := by omega
    have e4 : ¬ (h.path.steps.length : Int) < h.gone := by omega
    simp [b1, b2, b2', b3, b4, b5, b6, e1, e2, e3, e4]
    refine ⟨fun hc => by simp [rightS, hc], fun hc => ⟨fun a _ => by simp [Step.cells], by omega, fun a _ => by simp [Step.cells], by omega, ?_⟩⟩
    have hsecs : h.secs = (h.path.steps ++ h.over).map (·.s) := rfl
    have hlen : (h.path.steps ++ h.over).length = h.path.steps.length + h.over.length := by simp
    generalize hall : h.path.steps ++ h.over = all at hsecs hlen
    have hmap : List.map Step.av h.path.steps ++ List.map Step.av h.over = all.map Step.av := by rw [← hall, List.map_append]
    refine RTwp_loop rfl (fun vs => ∃ k : Nat, k ≤ all.length ∧ vs = [I k] ∧ ((all.map (·.s)).take k).Nodup) (fun vs => match vs with | [.int _ j] => all.length - j.toNat | _ => 0) ⟨0, by simp, by simp, by simp⟩ ?_
    rintro vs - ⟨k, hk, rfl, hnd⟩
    simp [hmap, ← hlen]
    refine ⟨fun hlt => ?_, fun hge => ?_⟩
    · have hltm : k < (all.map (·.s)).length := by simpa using hlt
      refine RTwp_loop rfl (fun vs => ∃ j : Nat, j ≤ k ∧ vs = [I j] ∧ ∀ i, i < j → ∀ x, all[i]? = some x → ¬ x.s = all[k].s) (fun vs => match vs with | [.int _ j] => k - j.toNat | _ => 0) ⟨0, by simp, by simp, by simp⟩ ?_
      rintro vs - ⟨j, hj, rfl, hne⟩
      simp [hmap]
      refine ⟨fun hjk => ?_, fun hjk => ?_⟩
      · have hja : j < all.length := by omega
        have hwr := wrap_succ (i := j) (by omega)
        simp [hlt, hja, Step.cells, hwr]
        refine ⟨by omega, by omega, ?_⟩
        by_cases he : all[j].s = all[k].s
        · right
          refine ⟨he, ?_⟩
          have : ¬ h.secs.Nodup := by
            rw [hsecs]
            exact not_nodup_of (i := j) (j := k) (by omega) (by simpa using hlt) (by simpa using he)
          simp [rightS, this]
        · left
          refine ⟨he, ⟨j + 1, by omega, by omega, fun i hi x hx => ?_⟩, by omega⟩
          by_cases hij : i = j
          · subst hij
            rw [List.getElem?_eq_getElem hja] at hx
            cases hx; exact he
          · exact hne i (by omega) x hx
      · have hwr := wrap_succ (i := k) (by omega)
        have hjk2 : j = k := by omega
        subst hjk2
        simp [hwr]
        refine ⟨⟨j + 1, by omega, by omega, ?_⟩, by omega⟩
        have := nodup_step hltm hnd (fun i hi he => hne i hi all[i] (List.getElem?_eq_getElem (by omega)) (by simpa using he))
        simpa using this
    · have hta : (all.map (·.s)).take k = all.map (·.s) := List.take_of_length_le (by simp; omega)
      rw [hta] at hnd
      have hno : h.secs.Nodup := by rw [hsecs]; exact hnd
      refine RTwp_loop rfl (fun vs => ∃ k : Nat, h.path.steps.length ≤ k ∧ k ≤ 12 ∧ vs = [I k] ∧ ∀ m, h.path.steps.length ≤ m → m < k → h.was m = false) (fun vs => match vs with | [.int _ j] => 12 - j.toNat | _ => 0) ⟨h.path.steps.length, by simp, by omega, by simp, fun m h1 h2 => by omega⟩ ?_
      rintro vs - ⟨m, hm1, hm2, rfl, hwm⟩
      simp
      refine ⟨fun hlt => ?_, fun hge => ?_⟩
      · have hlt2 : m < 12 := by omega
        have hwr := wrap_succ (i := m) (by omega)
        have hc2 := was_cell h m hlt2
        simp only [Hd.cells] at hc2
        simp at hc2
        simp [hc2, hwr]
        refine ⟨by omega, by omega, ?_⟩
        cases hw : h.was m
        · left
          refine ⟨rfl, ⟨m + 1, by omega, by omega, by omega, fun i h1 h2 => ?_⟩, by omega⟩
          by_cases him : i = m
          · subst him; exact hw
          · exact hwm i h1 (by omega)
        · right
          refine ⟨rfl, ?_⟩
          have : h.wasOk = false := by
            unfold Hd.wasOk
            rw [List.all_eq_false]
            refine ⟨m, by simpa using hlt2, ?_⟩
            simp [hw]; omega
          simp [rightS, this]
      · have hwo : h.wasOk = true := by
          unfold Hd.wasOk
          rw [List.all_eq_true]
          intro i hi
          simp only [List.mem_range] at hi
          by_cases hin : i < h.path.steps.length
          · simp [hin]
          · rw [hwm i (by omega) (by omega)]; simp
        have hr : rightS h = h.needs.all (needOk h.path.steps.length) := by simp [rightS, g1', g2', hc, hwo, hno]
        rw [hr]
        refine RTwp_loop rfl (fun vs => ∃ i : Nat, i ≤ h.needs.length ∧ vs = [I i] ∧ NoneIn (fun x => !needOk h.path.steps.length x) (h.needs.take i)) (fun vs => match vs with | [.int _ j] => h.needs.length - j.toNat | _ => 0) ⟨0, by simp, by simp, rfl⟩ ?_
        rintro vs - ⟨i, hi, rfl, hq⟩
        simp
        refine ⟨fun hlt => ?_, fun hge => ?_⟩
        · have hwr := wrap_succ (i := i) (by omega)
          simp [hlt, Need.cells, hwr]
          cases hok : needOk h.path.steps.length h.needs[i]
          · right
            refine ⟨?_, h.needs[i], List.getElem_mem hlt, hok⟩
            simp only [needOk, decide_eq_false_iff_not] at hok
            omega
          · left
            have hok2 := hok
            simp only [needOk, decide_eq_true_eq] at hok2
            exact ⟨by omega, ⟨i + 1, by omega, by omega, any_step hlt hq (by simp [hok])⟩, by omega⟩
        · have : h.needs.take i = h.needs := List.take_of_length_le (by omega)
          rw [this] at hq
          unfold NoneIn at hq
          simp at hq
          exact fun x hx => hq x hx
  · have hr : rightS h = false := by
      simp only [rightS]
      by_cases hg : h.g1
      · have : ¬ h.g2 := fun h2 => g1 ⟨hg, h2⟩
        simp [this]
      · simp [hg]
    rw [hr]
    simp
    intro q1 q2 q3 q4 q5 q6 q7 q8 q9 q10 q11 q12
    exfalso
    apply g1
    unfold Hd.g1 Hd.g2
    omega
end Go.Lb.LK

namespace Go.Lb.LK
open Go Go.Lb Go.Proofs Go.RowKit

theorem right_facts {h : Hd} (hr : rightS h = true) : h.g1 ∧ h.g2 ∧ clashN h.needs h.needs = false ∧ h.wasOk = true ∧ h.secs.Nodup ∧ h.needs.all (needOk h.path.steps.length) = true := by
  simp only [rightS, Bool.and_eq_true, decide_eq_true_eq, Bool.not_eq_true'] at hr
  exact ⟨hr.1, hr.2.1, hr.2.2.1, hr.2.2.2.1, hr.2.2.2.2.1, hr.2.2.2.2.2⟩
theorem secOf_lt {h : Hd} {k : Nat} (hk : k < h.path.steps.length) : secOf h k = h.path.steps[k].s := by
  simp [secOf, hk]
theorem runS_asleep {l : Lay} {im : Img} {h : Hd} (ha : asleepS l im h = true) : runS l im h = h := by simp [runS, ha]
theorem runS_awake {l : Lay} {im : Img} {h : Hd} (ha : asleepS l im h = false) : runS l im h = { h with was := wr l im h, gone := goX l im h h.gone.toNat, timer := timerS l im h, opn := opnS l im h } := by simp [runS, ha]

set_option maxHeartbeats 2000000 in
theorem c_r21Run (l : Lay) (im : Img) (hi : im.ok) (h : Hd) (hl : h.len) (hs : 0 ≤ h.stage ∧ h.stage ≤ 255) : C f_lockbarref21_Run [l.av, im.av, h.av] (runS l im h).av := by
  refine ctr (l.cells ++ im.cells ++ h.cells) run_lockbarref21_Run rfl (lih l im h) (by simp [AV.pure]) ?_ rfl
  unfold rt_lockbarref21_Run
  simp [Lay.cells, Img.cells, Hd.cells]
  refine call (c_r17Own h hl) (by simp [Hd.cells]) (by simp) ?_
  simp [Hd.av, Hd.cells]
  refine call (c_r17Right h hl hs) (by simp [Hd.cells]) (by simp) ?_
  simp
  refine callIf (avs := [l.av, im.av]) (.bool (stale l im)) rfl (fun _ => ⟨by simp [Lay.cells, Img.cells], c_r15Stale l im⟩) (by simp) ?_
  simp
  cases ha : asleepS l im h
  · rw [runS_awake ha]
    simp only [asleepS, Bool.or_eq_false_iff, Bool.not_eq_false'] at ha
    obtain ⟨⟨a1, a2, a3, a4, a5, a6, a7⟩, ⟨d1, d2, d3, d4⟩, _⟩ := right_facts ha.1
    simp [ha.1, ha.2]

    obtain ⟨g, hg⟩ : ∃ g : Nat, h.gone = g := ⟨h.gone.toNat, by omega⟩
    refine RTwp_loop rfl (fun vs => ∃ k : Nat, g ≤ k ∧ k ≤ h.n ∧ vs = I k :: wcells (wrM l im h k)) (fun vs => match vs with | .int _ j :: _ => h.n - j.toNat | _ => 0) ⟨g, by omega, by unfold Hd.n; omega, by simp [wrM_zero (l := l) (im := im) (h := h) (m := g) (by omega), hg, wcells]⟩ ?_
    rintro vs - ⟨k, hk1, hk2, rfl⟩
    have hn : h.n = h.path.steps.length := rfl
    simp [wcells]
    refine ⟨fun hlt => ?_, fun hge => ?_⟩
    · simp [hlt, Step.cells]
      refine call (c_r15Told l im hi (secOf h k)) (by simp [Lay.cells, Img.cells, hlt, Step.cells, secOf_lt]) (by simp) ?_
      simp [hlt, Step.cells]
      have hw := wrap_succ (i := k) (by omega)
      have hat := wr_at (l := l) (im := im) (h := h) (k := k) (by omega) (by omega)
      have hprev : ¬ k = 0 → IntKind.i64.wrap ((k : Int) - 1) = ((k - 1 : Nat) : Int) := fun hk0 => by rw [wrap_i] <;> omega
      have hpw : ¬ k = 0 → wrM l im h k (k - 1) = wr l im h (k - 1) := fun hk0 => by unfold wrM; rw [if_pos (by omega)]
      have hcell : ¬ k = 0 → _ := fun hk0 => wtail_get (wrM l im h k) [AV.bool h.opn, I h.timer, AV.bool h.shown] (i := k - 1) (by omega)
      rw [hw]
      refine ⟨fun h1 h2 => by rw [hprev h1]; omega, fun h1 h2 => by rw [hprev h1]; omega, ?_⟩
      cases ht : told l im (secOf h k)
      · left
        rw [ht] at hat
        refine ⟨fun hh => (by cases hh), ⟨k + 1, by omega, by omega, rfl, ?_⟩, by omega⟩
        rw [wrM_same (by simpa using hat)]
        simp
      · by_cases hk0 : k = 0
        · right
          refine ⟨by simp [hk0], by omega, ⟨k + 1, by omega, by omega, rfl, ?_⟩, by omega⟩
          have : wr l im h k = true := by rw [hat, ht]; simp [hk0]
          simp only [wrM_on this]
          subst hk0
          simp
        · rw [hprev hk0]
          simp only [Int.toNat_natCast, hcell hk0, hpw hk0, if_neg hk0]
          cases hp : wr l im h (k - 1)
          · left
            refine ⟨fun _ => rfl, ⟨k + 1, by omega, by omega, rfl, ?_⟩, by omega⟩
            rw [wrM_same (by rw [hat, hp]; simp [hk0])]
            simp
          · right
            refine ⟨rfl, by omega, ⟨k + 1, by omega, by omega, rfl, ?_⟩, by omega⟩
            have : wr l im h k = true := by rw [hat, ht, hp]; simp
            simp only [wrM_on this]
            have hd : ∀ a b : Nat, b = 8 + a → decide (b = 8 + k) = decide (a = k) := fun a b e => decide_eq_decide.2 (by omega)
            rw [hd 1 9 rfl, hd 2 10 rfl, hd 3 11 rfl, hd 4 12 rfl, hd 5 13 rfl, hd 6 14 rfl, hd 7 15 rfl, hd 8 16 rfl, hd 9 17 rfl, hd 10 18 rfl, hd 11 19 rfl]
            simp [eq_comm]
    · have hkn : k = h.n := by omega
      subst hkn
      rw [wrM_all (Nat.le_refl _)]
      refine RTwp_loop rfl (fun vs => ∃ k : Nat, g ≤ k ∧ k ≤ h.n ∧ vs = [I k] ∧ goX l im h h.gone.toNat = goX l im h k) (fun vs => match vs with | .int _ j :: _ => h.n + 1 - j.toNat | _ => 0) ⟨g, by omega, by omega, by simp [hg], by rw [hg]; rfl⟩ ?_
      rintro vs - ⟨k, hk1, hk2, rfl, hgo⟩
      by_cases hlt : k < h.path.steps.length
      · have hk12 : k < 12 := by omega
        have hwn : IntKind.i64.wrap ((h.path.steps.length : Int) - 1) = ((h.path.steps.length - 1 : Nat) : Int) := by rw [wrap_i] <;> omega
        have hw := wrap_succ (i := k) (by omega)
        have hAk := fun a0 a1 a2 a3 a4 a5 a6 a7 t => aidx8 (wr l im h) a0 a1 a2 a3 a4 a5 a6 a7 t (i := k) (z := (k : Int)) rfl (by omega)
        have hAk1 := fun (hk : ¬ k = h.path.steps.length - 1) a0 a1 a2 a3 a4 a5 a6 a7 t => aidx8 (wr l im h) a0 a1 a2 a3 a4 a5 a6 a7 t (i := k + 1) (z := (k : Int) + 1) rfl (by omega)
        have hAn := fun a0 a1 a2 a3 a4 a5 a6 a7 t => aidx8 (wr l im h) a0 a1 a2 a3 a4 a5 a6 a7 t (i := h.path.steps.length - 1) (z := ((h.path.steps.length - 1 : Nat) : Int)) rfl (by omega)
        rw [show wr l im h (h.path.steps.length - 1) = lastW l im h from rfl] at hAn
        simp [hlt, hAk, -pv_aidx, Step.cells]
        repeat refine ⟨by omega, ?_⟩
        refine callIf (avs := [l.av, im.av, I (secOf h k)]) (.bool (occupied l im (secOf h k))) rfl (fun _ => ⟨by simp [Lay.cells, Img.cells, hlt, Step.cells, secOf_lt], c_r15Occupied l im hi _⟩) (by simp) ?_
        have hkn2 : ¬ k = h.path.steps.length := by omega
        have hcan : canGo l im h k = (wr l im h k && ((decide (k = h.path.steps.length - 1) || wr l im h (k + 1)) && !occupied l im (secOf h k))) := by
          have e : decide (k + 1 = h.path.steps.length) = decide (k = h.path.steps.length - 1) := decide_eq_decide.2 (by omega)
          unfold canGo
          rw [hn, e]; simp [hlt]
        have hstop : canGo l im h k = false → goX l im h h.gone.toNat = k := fun hc => by rw [hgo]; exact goX_stop hc
        have hgoon : canGo l im h k = true → goX l im h h.gone.toNat = goX l im h (k + 1) := fun hc => by rw [hgo]; exact goX_go hc
        have hbnd : ((h.path.steps.length - 1 : Nat) : Int) < 12 ∧ h.path.steps.length - 1 + 8 < 23 := by omega
        have hdz2 : ((k : Int) = (h.path.steps.length : Int)) = False := by simp only [eq_iff_iff, iff_false]; omega
        by_cases hgo2 : canGo l im h k = true
        · have hgo3 := hgo2
          rw [hcan] at hgo2
          simp at hgo2
          by_cases hkn : k = h.path.steps.length - 1
          · have hdz : ((k : Int) = ((h.path.steps.length - 1 : Nat) : Int)) = True := by simp only [eq_iff_iff, iff_true]; omega
            simp [hlt, hAk, hAn, hwn, hw, hgo2.1, hgo2.2.2, hdz, hdz2, -pv_aidx]
            exact ⟨⟨k + 1, by omega, by omega, by omega, hgoon hgo3⟩, by omega⟩
          · have hdz : ((k : Int) = ((h.path.steps.length - 1 : Nat) : Int)) = False := by simp only [eq_iff_iff, iff_false]; omega
            have hk1 : wr l im h (k + 1) = true := by
              rcases hgo2.2.1 with h1 | h1
              · exact absurd h1 hkn
              · exact h1
            simp [hlt, hAk, hAk1 hkn, hAn, hwn, hw, hgo2.1, hgo2.2.2, hk1, hdz, hdz2, -pv_aidx]
            repeat refine ⟨by omega, ?_⟩
            exact ⟨⟨k + 1, by omega, by omega, by omega, hgoon hgo3⟩, by omega⟩
        · have hst := hstop (by simpa using hgo2)
          rw [hcan] at hgo2
          simp at hgo2
          by_cases hkn : k = h.path.steps.length - 1
          · have hdz : ((k : Int) = ((h.path.steps.length - 1 : Nat) : Int)) = True := by simp only [eq_iff_iff, iff_true]; omega
            cases hwk : wr l im h k
            · simp [hlt, hAk, hAn, hwn, hw, hdz, hdz2, hwk, -pv_aidx]
              repeat refine ⟨by omega, ?_⟩
              refine ⟨fun hL => ?_, fun hL => ?_⟩
              · refine call (c_r03Next h.timer) (by simp) (by simp) ?_
                simp [hAn, hL, hst, hwn, hdz2, opnS, timerS, hn, hkn2, -pv_aidx]
                and_intros <;> intros <;> omega
              · simp [hAn, hL, hst, hwn, hdz2, opnS, timerS, hn, hkn2, -pv_aidx]
                and_intros <;> intros <;> omega
            · have hoc : occupied l im (secOf h k) = true := hgo2 hwk (.inl hkn)
              simp [hlt, hAk, hAn, hwn, hw, hdz, hdz2, hwk, hoc, -pv_aidx]
              repeat refine ⟨by omega, ?_⟩
              refine ⟨fun hL => ?_, fun hL => ?_⟩
              · refine call (c_r03Next h.timer) (by simp) (by simp) ?_
                simp [hAn, hL, hst, hwn, hdz2, opnS, timerS, hn, hkn2, -pv_aidx]
                and_intros <;> intros <;> omega
              · simp [hAn, hL, hst, hwn, hdz2, opnS, timerS, hn, hkn2, -pv_aidx]
                and_intros <;> intros <;> omega
          · have hdz : ((k : Int) = ((h.path.steps.length - 1 : Nat) : Int)) = False := by simp only [eq_iff_iff, iff_false]; omega
            cases hwk : wr l im h k
            · simp [hlt, hAk, hAn, hwn, hw, hdz, hdz2, hwk, -pv_aidx]
              repeat refine ⟨by omega, ?_⟩
              refine ⟨fun hL => ?_, fun hL => ?_⟩
              · refine call (c_r03Next h.timer) (by simp) (by simp) ?_
                simp [hAn, hL, hst, hwn, hdz2, opnS, timerS, hn, hkn2, -pv_aidx]
                and_intros <;> intros <;> omega
              · simp [hAn, hL, hst, hwn, hdz2, opnS, timerS, hn, hkn2, -pv_aidx]
                and_intros <;> intros <;> omega
            · cases hoc : occupied l im (secOf h k)
              · have hk1 : wr l im h (k + 1) = false := by
                  cases hk1 : wr l im h (k + 1)
                  · rfl
                  · rw [hgo2 hwk (.inr hk1)] at hoc; cases hoc
                simp [hlt, hAk, hAk1 hkn, hAn, hwn, hw, hdz, hdz2, hwk, hoc, hk1, -pv_aidx]
                repeat refine ⟨by omega, ?_⟩
                refine ⟨fun hL => ?_, fun hL => ?_⟩
                · refine call (c_r03Next h.timer) (by simp) (by simp) ?_
                  simp [hAn, hL, hst, hwn, hdz2, opnS, timerS, hn, hkn2, -pv_aidx]
                  and_intros <;> intros <;> omega
                · simp [hAn, hL, hst, hwn, hdz2, opnS, timerS, hn, hkn2, -pv_aidx]
                  and_intros <;> intros <;> omega
              · simp [hlt, hAk, hAk1 hkn, hAn, hwn, hw, hdz, hdz2, hwk, hoc, -pv_aidx]
                repeat refine ⟨by omega, ?_⟩
                refine ⟨fun hL => ?_, fun hL => ?_⟩
                · refine call (c_r03Next h.timer) (by simp) (by simp) ?_
                  simp [hAn, hL, hst, hwn, hdz2, opnS, timerS, hn, hkn2, -pv_aidx]
                  and_intros <;> intros <;> omega
                · simp [hAn, hL, hst, hwn, hdz2, opnS, timerS, hn, hkn2, -pv_aidx]
                  and_intros <;> intros <;> omega
      · have hkn : k = h.path.steps.length := by omega
        have hwn : IntKind.i64.wrap ((h.path.steps.length : Int) - 1) = ((h.path.steps.length - 1 : Nat) : Int) := by rw [wrap_i] <;> omega
        have hAn := fun a0 a1 a2 a3 a4 a5 a6 a7 t => aidx8 (wr l im h) a0 a1 a2 a3 a4 a5 a6 a7 t (i := h.path.steps.length - 1) (z := ((h.path.steps.length - 1 : Nat) : Int)) rfl (by omega)
        rw [show wr l im h (h.path.steps.length - 1) = lastW l im h from rfl] at hAn
        have hst : goX l im h h.gone.toNat = k := by
          rw [hgo]; refine goX_stop ?_
          unfold canGo; rw [hn]; simp [hlt]
        have hdz2 : ((k : Int) = (h.path.steps.length : Int)) = True := by simp only [eq_iff_iff, iff_true]; omega
        simp [hlt, hwn, hAn, -pv_aidx]
        refine callIf (avs := []) (.bool false) rfl (fun hh => ?_) (by simp) ?_
        · simp [hlt] at hh
        simp [hlt, hwn, hAn, -pv_aidx]
        repeat refine ⟨by omega, ?_⟩
        refine ⟨fun hL => ?_, fun hL => ?_⟩
        · refine call (c_r03Next h.timer) (by simp) (by simp) ?_
          simp [hAn, hL, hst, hwn, hdz2, opnS, timerS, hn, hkn, -pv_aidx]
        · simp [hAn, hL, hst, hwn, hdz2, opnS, timerS, hn, hkn, -pv_aidx]
  · rw [runS_asleep ha]
    have : rightS h = false ∨ stale l im = true := by simpa [asleepS] using ha
    rcases this with this | this <;> simp [this, Hd.cells]
end Go.Lb.LK

namespace Go.Lb.LK
open Go Go.Lb Go.Proofs Go.RowKit

theorem asleep_false {l : Lay} {im : Img} {h : Hd} (ha : asleepS l im h = false) : rightS h = true ∧ stale l im = false := by
  simpa only [asleepS, Bool.or_eq_false_iff, Bool.not_eq_false'] using ha
theorem asleep_true {l : Lay} {im : Img} {h : Hd} (ha : asleepS l im h = true) : rightS h = false ∨ stale l im = true := by
  simpa [asleepS] using ha
theorem secOf_zero {h : Hd} (hn : 1 ≤ h.path.steps.length) : ∃ s r, h.path.steps = s :: r ∧ secOf h 0 = s.s := by
  cases hs : h.path.steps with
  | nil => rw [hs] at hn; simp at hn
  | cons s r => exact ⟨s, r, rfl, by simp [secOf, hs]⟩
theorem c_r21Tick (l : Lay) (im : Img) (hi : im.ok) (h : Hd) (hl : h.len) (hs : 0 ≤ h.stage ∧ h.stage ≤ 255) : C f_lockbarref21_Tick [l.av, im.av, h.av] (tickS l im h).av := by
  refine ctr (l.cells ++ im.cells ++ h.cells) run_lockbarref21_Tick rfl (lih l im h) (by simp [AV.pure]) ?_ rfl
  unfold rt_lockbarref21_Tick
  simp [Lay.cells, Img.cells, Hd.cells]
  refine call (c_r17Own h hl) (by simp [Hd.cells]) (by simp) ?_
  simp [Hd.av, Hd.cells]
  refine call (c_r17Right h hl hs) (by simp [Hd.cells]) (by simp) ?_
  simp
  refine callIf (avs := [l.av, im.av]) (.bool (stale l im)) rfl (fun _ => ⟨by simp [Lay.cells, Img.cells], c_r15Stale l im⟩) (by simp) ?_
  cases ha : asleepS l im h
  · obtain ⟨a1, a2⟩ := asleep_false ha
    obtain ⟨⟨_, _, _, _, hn, _, _⟩, _⟩ := right_facts a1
    simp [a1, a2, tickS, ha]
    by_cases h1 : h.stage = 1
    · simp [h1]
      refine call (c_r21Stands l im hi h hl) (by simp [Lay.cells, Img.cells, Hd.cells, h1]) (by simp) ?_
      cases standsS l im h <;> simp [h1, Hd.cells]
    · by_cases h2 : h.stage = 2
      · obtain ⟨s, r, e1, e2⟩ := secOf_zero hn
        simp [h2, e1, Step.cells]
        refine call (c_r15Told l im hi (secOf h 0)) (by simp [Lay.cells, Img.cells, e2, Step.cells]) (by simp) ?_
        cases htd : told l im (secOf h 0)
        · simp [h2, Hd.cells, e1, Step.cells]
        · simp
          refine call (c_r21Run l im hi { h with stage := 3, timer := 0 } hl (by simp)) (by simp [Lay.cells, Img.cells, Hd.cells, e1]) (by simp) ?_
          simp [Hd.cells, e1]
      · by_cases h3 : h.stage = 3
        · simp [h3]
          refine call (c_r21Run l im hi h hl hs) (by simp [Lay.cells, Img.cells, Hd.cells, h3]) (by simp) ?_
          simp [Hd.cells]
        · simp [h1, h2, h3, Hd.cells]
  · rcases asleep_true ha with a1 | a1 <;> simp [a1, tickS, ha, Hd.cells]
end Go.Lb.LK

namespace Go.Lb.LK
open Go Go.Lb Go.Proofs Go.RowKit

set_option maxHeartbeats 4000000 in
theorem c_pass_Run (l : Lay) (im : Img) (hi : im.ok) (h : Hd) (hl : h.len) (hs : 0 ≤ h.stage ∧ h.stage ≤ 255) : C f_pass_Run [l.av, im.av, h.av] (runS l im h).av := by
  refine ctr (l.cells ++ im.cells ++ h.cells) run_pass_Run rfl (lih l im h) (by simp [AV.pure]) ?_ rfl
  unfold rt_pass_Run
  simp [Lay.cells, Img.cells, Hd.cells]
  refine call (c_held_Own h hl) (by simp [Hd.cells]) (by simp) ?_
  simp [Hd.av, Hd.cells]
  have hll := hl.1
  have hwn : IntKind.i64.wrap ((h.path.steps.length : Int) - 1) = (h.path.steps.length : Int) - 1 := by rw [wrap_i] <;> omega
  refine call (c_pass_asleep l im h hl hs) (by simp [Lay.cells, Img.cells, Hd.cells]) (by simp) ?_
  simp
  refine ⟨fun ha => by rw [runS_asleep ha]; simp, fun ha => ?_⟩
  rw [runS_awake ha]
  simp only [asleepS, Bool.or_eq_false_iff, Bool.not_eq_false'] at ha
  obtain ⟨⟨a1, a2, a3, a4, a5, a6, a7⟩, ⟨d1, d2, d3, d4⟩, _⟩ := right_facts ha.1
  obtain ⟨g, hg⟩ : ∃ g : Nat, h.gone = g := ⟨h.gone.toNat, by omega⟩
  refine RTwp_loop rfl (fun vs => ∃ k : Nat, g ≤ k ∧ k ≤ h.n ∧ vs = I k :: wcells (wrM l im h k)) (fun vs => match vs with | .int _ j :: _ => h.n - j.toNat | _ => 0) ⟨g, by omega, by unfold Hd.n; omega, by simp [wrM_zero (l := l) (im := im) (h := h) (m := g) (by omega), hg, wcells]⟩ ?_
  rintro vs - ⟨k, hk1, hk2, rfl⟩
  have hn : h.n = h.path.steps.length := rfl
  simp only [wcells, List.cons_append, List.nil_append]
  refine RTwp_chk.2 ⟨fun _ => by simp, RTwp_nil.2 (RTwp_chk.2 ⟨fun _ => by simp, RTwp_nil.2 (RTwp_condE.2 ⟨decide ((k : Int) < h.path.steps.length), by simp, fun hlt => ?_, fun hge => ?_⟩)⟩)⟩
  · have hlt : k < h.path.steps.length := by simpa using hlt
    have hAk := aidx0 (wrM l im h k) (i := k) (z := (k : Int)) rfl (by omega)
    have hAk1 := fun hk0 : ¬ k = 0 => aidx0 (wrM l im h k) (i := k - 1) (z := (k : Int) - 1) (by omega) (by omega)
    have hwk1 : ¬ k = 0 → IntKind.i64.wrap ((k : Int) - 1) = (k : Int) - 1 := fun _ => by rw [wrap_i] <;> omega
    have hw := wrap_succ (i := k) (by omega)
    have hat := wr_at (l := l) (im := im) (h := h) (k := k) (by omega) (by omega)
    have hkk : wrM l im h k k = h.was k := by simp [wrM]
    have hpw : ¬ k = 0 → wrM l im h k (k - 1) = wr l im h (k - 1) := fun hk0 => by unfold wrM; rw [if_pos (by omega)]
    simp [hlt, Step.cells, hAk, hkk, -pv_aidx]
    cases hwas : h.was k
    · simp
      repeat refine ⟨by omega, ?_⟩
      refine call (c_image_Told l im hi (secOf h k)) (by simp [Lay.cells, Img.cells, hlt, Step.cells, secOf_lt]) (by simp) ?_
      by_cases hk0 : k = 0
      · have hkt : (k = 0) = True := eq_true hk0
        have hat2 : wr l im h k = told l im (secOf h k) := by rw [hat, hwas]; simp [hk0]
        simp [hkt, hw, -pv_aidx]
        refine ⟨by omega, ⟨k + 1, by omega, by omega, by omega, ?_⟩, by omega⟩
        simp only [wrM_succ, hat2, and_self]
      · have hat2 : wr l im h k = (told l im (secOf h k) && wr l im h (k - 1)) := by rw [hat, hwas]; simp [hk0]
        simp [hk0, hwk1 hk0, hAk1 hk0, hpw hk0, hw, -pv_aidx]
        repeat refine ⟨by intros; omega, ?_⟩
        refine ⟨⟨k + 1, by omega, by omega, by omega, ?_⟩, by omega⟩
        simp only [wrM_succ, hat2, and_self]
    · have hat2 : wr l im h k = true := by rw [hat, hwas]; rfl
      simp [hw, -pv_aidx]
      repeat refine ⟨by intros; omega, ?_⟩
      refine ⟨⟨k + 1, by omega, by omega, by omega, ?_⟩, by omega⟩
      simp only [wrM_on hat2]
      simp [eq_comm]
  · have hge : h.path.steps.length ≤ k := by simpa using hge
    have hkn : k = h.n := by omega
    subst hkn
    rw [wrM_all (Nat.le_refl _)]
    have hwn : IntKind.i64.wrap ((h.path.steps.length : Int) - 1) = (h.path.steps.length : Int) - 1 := by rw [wrap_i] <;> omega
    refine RTwp_chk.2 ⟨fun _ => by simp [AV.kinds], RTwp_nil.2 (RTwp_bind.2 (RTwp_nil.2 ?_))⟩
    rw [envOf_set]
    case h => rfl
    refine RTwp_condE.2 ⟨_, rfl, fun hb => ?_, fun hb => ?_⟩
    · clear hb
      have hrs : h.gone.toNat = g := by omega
      simp only [hrs]
      have hAn := aidx0 (wr l im h) (i := h.path.steps.length - 1) (z := (h.path.steps.length : Int) - 1) (by omega) (by omega)
      rw [show wr l im h (h.path.steps.length - 1) = lastW l im h from rfl] at hAn
      have hgo : goX l im h g = goX l im h g := rfl
      by_cases hlt : g < h.path.steps.length
      · have hAk := aidx0 (wr l im h) (i := g) (z := (g : Int)) rfl (by omega)
        have hAk1 := fun (hk : ¬ g = h.path.steps.length - 1) => aidx0 (wr l im h) (i := g + 1) (z := (g : Int) + 1) rfl (by omega)
        have hw : IntKind.i64.wrap ((g : Int) + 1) = (g : Int) + 1 := by rw [wrap_i] <;> omega
        have hle : ((g : Int) ≤ (h.path.steps.length : Int) - 1) = True := by simp only [eq_iff_iff, iff_true]; omega
        have hgt : ((h.path.steps.length : Int) - 1 < (g : Int)) = False := by simp only [eq_iff_iff, iff_false]; omega
        have hkn2 : ¬ g = h.path.steps.length := by omega
        have hcan : canGo l im h g = (wr l im h g && ((decide (g = h.path.steps.length - 1) || wr l im h (g + 1)) && !occupied l im (secOf h g))) := by
          have e : decide (g + 1 = h.path.steps.length) = decide (g = h.path.steps.length - 1) := decide_eq_decide.2 (by omega)
          unfold canGo
          rw [hn, e]; simp [hlt]
        have hstop : canGo l im h g = false → goX l im h g = g := fun hc => by rw [hgo]; exact goX_stop hc
        have hgoon : canGo l im h g = true → goX l im h g = goX l im h (g + 1) := fun hc => by rw [hgo]; exact goX_go hc
        by_cases hkn : g = h.path.steps.length - 1
        · have heq : ((g : Int) = (h.path.steps.length : Int) - 1) = True := by simp only [eq_iff_iff, iff_true]; omega
          have hdk : decide (g = h.path.steps.length - 1) = true := decide_eq_true hkn
          rw [hdk] at hcan
          cases hwk : wr l im h g
          · have hst := hstop (by rw [hcan, hwk]; rfl)
            simp [hg, hwn, hle, heq, hgt, hAk, hAn, hwk, hlt, -pv_aidx]
            repeat refine And.intro (by omega) ?_
            refine ⟨fun hL => ?_, fun hL => ?_⟩
            · refine call (c_tick_Next h.timer) (by simp) (by simp) ?_
              simp [hL, hst, hrs, hwn, hgt, opnS, timerS, hn, hkn2, Bool.or_assoc, Bool.or_comm, -pv_aidx]
            · simp [hL, hst, hrs, hwn, hgt, opnS, timerS, hn, hkn2, Bool.or_comm, -pv_aidx]
          · simp [hg, hwn, hle, heq, hgt, hAk, hAn, hwk, hlt, Step.cells, -pv_aidx]
            repeat refine And.intro (by omega) ?_
            refine call (c_image_Occupied l im hi (secOf h g)) (by simp [Lay.cells, Img.cells, hlt, Step.cells, secOf_lt]) (by simp) ?_
            cases hoc : occupied l im (secOf h g)
            · have hgo3 := hgoon (by rw [hcan, hwk, hoc]; rfl)
              simp [hg, hwn, hle, heq, hgt, hAk, hAn, hwk, hlt, hw, -pv_aidx]
              repeat refine And.intro (by omega) ?_
              have hgo4 := hgo3
              have hwg : IntKind.i64.wrap ((g : Int) + 1) = ((g + 1 : Nat) : Int) := by rw [wrap_i] <;> omega
              have hlt0 := hlt
              clear hgo3 hwk hAk hAk1 hcan hstop hgoon hle hgt heq hw hdk hkn hkn2 hgo hoc hlt
              refine RTwp_loop rfl (fun vs => ∃ (k : Nat) (a b c d e f p q r s t z : AV), g ≤ k ∧ k ≤ h.n ∧ vs = [a, b, c, d, e, f, p, q, r, s, t, z] ∧ z = I k ∧ goX l im h g = goX l im h k) (fun vs => match vs with | [_, _, _, _, _, _, _, _, _, _, _, .int _ j] => h.n + 1 - j.toNat | _ => 0) ⟨g + 1, _, _, _, _, _, _, _, _, _, _, _, _, by omega, by omega, rfl, by simp [hg, hwg], hgo4⟩ ?_
              rintro vs - ⟨k, a, b, c, d, e, f, p, q, r, s, t, _, hk1, hk2, rfl, rfl, hgo⟩
              simp only [List.cons_append, List.nil_append]

              by_cases hlt : k < h.path.steps.length
              · have hAk := aidx0 (wr l im h) (i := k) (z := (k : Int)) rfl (by omega)
                have hAk1 := fun (hk : ¬ k = h.path.steps.length - 1) => aidx0 (wr l im h) (i := k + 1) (z := (k : Int) + 1) rfl (by omega)
                have hw : IntKind.i64.wrap ((k : Int) + 1) = (k : Int) + 1 := by rw [wrap_i] <;> omega
                have hle : ((k : Int) ≤ (h.path.steps.length : Int) - 1) = True := by simp only [eq_iff_iff, iff_true]; omega
                have hgt : ((h.path.steps.length : Int) - 1 < (k : Int)) = False := by simp only [eq_iff_iff, iff_false]; omega
                have hkn2 : ¬ k = h.path.steps.length := by omega
                have hcan : canGo l im h k = (wr l im h k && ((decide (k = h.path.steps.length - 1) || wr l im h (k + 1)) && !occupied l im (secOf h k))) := by
                  have e : decide (k + 1 = h.path.steps.length) = decide (k = h.path.steps.length - 1) := decide_eq_decide.2 (by omega)
                  unfold canGo
                  rw [hn, e]; simp [hlt]
                have hstop : canGo l im h k = false → goX l im h g = k := fun hc => by rw [hgo]; exact goX_stop hc
                have hgoon : canGo l im h k = true → goX l im h g = goX l im h (k + 1) := fun hc => by rw [hgo]; exact goX_go hc
                by_cases hkn : k = h.path.steps.length - 1
                · have heq : ((k : Int) = (h.path.steps.length : Int) - 1) = True := by simp only [eq_iff_iff, iff_true]; omega
                  have hdk : decide (k = h.path.steps.length - 1) = true := decide_eq_true hkn
                  rw [hdk] at hcan
                  cases hwk : wr l im h k
                  · have hst := hstop (by rw [hcan, hwk]; rfl)
                    simp [hg, hwn, hle, heq, hgt, hAk, hAn, hwk, hlt, -pv_aidx]
                    repeat refine And.intro (by omega) ?_
                    refine ⟨fun hL => ?_, fun hL => ?_⟩
                    · refine call (c_tick_Next h.timer) (by simp) (by simp) ?_
                      simp [hL, hst, hrs, hwn, hgt, opnS, timerS, hn, hkn2, Bool.or_assoc, Bool.or_comm, -pv_aidx]
                    · simp [hL, hst, hrs, hwn, hgt, opnS, timerS, hn, hkn2, Bool.or_comm, -pv_aidx]
                  · simp [hg, hwn, hle, heq, hgt, hAk, hAn, hwk, hlt, Step.cells, -pv_aidx]
                    repeat refine And.intro (by omega) ?_
                    refine call (c_image_Occupied l im hi (secOf h k)) (by simp [Lay.cells, Img.cells, hlt, Step.cells, secOf_lt]) (by simp) ?_
                    cases hoc : occupied l im (secOf h k)
                    · have hgo3 := hgoon (by rw [hcan, hwk, hoc]; rfl)
                      simp [hg, hwn, hle, heq, hgt, hAk, hAn, hwk, hlt, hw, -pv_aidx]
                      repeat refine And.intro (by omega) ?_
                      refine ⟨⟨k + 1, by omega, by omega, ?_⟩, by omega⟩
                      simp [hgo3]
                    · have hst := hstop (by rw [hcan, hwk, hoc]; rfl)
                      simp [hg, hwn, hle, heq, hgt, hAk, hAn, hwk, hlt, -pv_aidx]
                      repeat refine And.intro (by omega) ?_
                      refine ⟨fun hL => ?_, fun hL => ?_⟩
                      · refine call (c_tick_Next h.timer) (by simp) (by simp) ?_
                        simp [hL, hst, hrs, hwn, hgt, opnS, timerS, hn, hkn2, Bool.or_assoc, Bool.or_comm, -pv_aidx]
                      · simp [hL, hst, hrs, hwn, hgt, opnS, timerS, hn, hkn2, Bool.or_comm, -pv_aidx]
                · have heq : ((k : Int) = (h.path.steps.length : Int) - 1) = False := by simp only [eq_iff_iff, iff_false]; omega
                  have hdk : decide (k = h.path.steps.length - 1) = false := decide_eq_false hkn
                  rw [hdk, Bool.false_or] at hcan
                  cases hwk : wr l im h k
                  · have hst := hstop (by rw [hcan, hwk]; rfl)
                    simp [hg, hwn, hle, heq, hgt, hAk, hAk1 hkn, hAn, hwk, hlt, hw, -pv_aidx]
                    repeat refine And.intro (by omega) ?_
                    refine ⟨fun hL => ?_, fun hL => ?_⟩
                    · refine call (c_tick_Next h.timer) (by simp) (by simp) ?_
                      simp [hL, hst, hrs, hwn, hgt, opnS, timerS, hn, hkn2, Bool.or_assoc, Bool.or_comm, -pv_aidx]
                    · simp [hL, hst, hrs, hwn, hgt, opnS, timerS, hn, hkn2, Bool.or_comm, -pv_aidx]
                  · cases hwk2 : wr l im h (k + 1)
                    · have hst := hstop (by rw [hcan, hwk, hwk2]; rfl)
                      simp [hg, hwn, hle, heq, hgt, hAk, hAk1 hkn, hAn, hwk, hwk2, hlt, hw, -pv_aidx]
                      repeat refine And.intro (by omega) ?_
                      refine ⟨fun hL => ?_, fun hL => ?_⟩
                      · refine call (c_tick_Next h.timer) (by simp) (by simp) ?_
                        simp [hL, hst, hrs, hwn, hgt, opnS, timerS, hn, hkn2, Bool.or_assoc, Bool.or_comm, -pv_aidx]
                      · simp [hL, hst, hrs, hwn, hgt, opnS, timerS, hn, hkn2, Bool.or_comm, -pv_aidx]
                    · simp [hg, hwn, hle, heq, hgt, hAk, hAk1 hkn, hAn, hwk, hwk2, hlt, hw, Step.cells, -pv_aidx]
                      repeat refine And.intro (by omega) ?_
                      refine call (c_image_Occupied l im hi (secOf h k)) (by simp [Lay.cells, Img.cells, hlt, Step.cells, secOf_lt]) (by simp) ?_
                      cases hoc : occupied l im (secOf h k)
                      · have hgo3 := hgoon (by rw [hcan, hwk, hwk2, hoc]; rfl)
                        simp [hg, hwn, hle, heq, hgt, hAk, hAk1 hkn, hAn, hwk, hwk2, hlt, hw, -pv_aidx]
                        repeat refine And.intro (by omega) ?_
                        refine ⟨⟨k + 1, by omega, by omega, ?_⟩, by omega⟩
                        simp [hgo3]
                      · have hst := hstop (by rw [hcan, hwk, hwk2, hoc]; rfl)
                        simp [hg, hwn, hle, heq, hgt, hAk, hAk1 hkn, hAn, hwk, hwk2, hlt, hw, -pv_aidx]
                        repeat refine And.intro (by omega) ?_
                        refine ⟨fun hL => ?_, fun hL => ?_⟩
                        · refine call (c_tick_Next h.timer) (by simp) (by simp) ?_
                          simp [hL, hst, hrs, hwn, hgt, opnS, timerS, hn, hkn2, Bool.or_assoc, Bool.or_comm, -pv_aidx]
                        · simp [hL, hst, hrs, hwn, hgt, opnS, timerS, hn, hkn2, Bool.or_comm, -pv_aidx]
              · have hkn3 : k = h.path.steps.length := by omega
                have hle : ((k : Int) ≤ (h.path.steps.length : Int) - 1) = False := by simp only [eq_iff_iff, iff_false]; omega
                have hgt : ((h.path.steps.length : Int) - 1 < (k : Int)) = True := by simp only [eq_iff_iff, iff_true]; omega
                have heq : ((k : Int) = (h.path.steps.length : Int) - 1) = False := by simp only [eq_iff_iff, iff_false]; omega
                have hkn2 : (k = h.path.steps.length) = True := eq_true hkn3
                have hw : IntKind.i64.wrap ((k : Int) + 1) = (k : Int) + 1 := by rw [wrap_i] <;> omega
                have hst : goX l im h g = k := by
                  rw [hgo]; refine goX_stop ?_
                  unfold canGo; rw [hn]; simp [hlt]
                simp [hg, hwn, hle, heq, hgt, hAn, hw, -pv_aidx]
                repeat refine And.intro (by omega) ?_
                refine ⟨fun hL => ?_, fun hL => ?_⟩
                · refine call (c_tick_Next h.timer) (by simp) (by simp) ?_
                  simp [hL, hst, hrs, hwn, hgt, opnS, timerS, hn, hkn2, Bool.or_assoc, Bool.or_comm, -pv_aidx]
                · simp [hL, hst, hrs, hwn, hgt, opnS, timerS, hn, hkn2, Bool.or_comm, -pv_aidx]
            · have hst := hstop (by rw [hcan, hwk, hoc]; rfl)
              simp [hg, hwn, hle, heq, hgt, hAk, hAn, hwk, hlt, -pv_aidx]
              repeat refine And.intro (by omega) ?_
              refine ⟨fun hL => ?_, fun hL => ?_⟩
              · refine call (c_tick_Next h.timer) (by simp) (by simp) ?_
                simp [hL, hst, hrs, hwn, hgt, opnS, timerS, hn, hkn2, Bool.or_assoc, Bool.or_comm, -pv_aidx]
              · simp [hL, hst, hrs, hwn, hgt, opnS, timerS, hn, hkn2, Bool.or_comm, -pv_aidx]
        · have heq : ((g : Int) = (h.path.steps.length : Int) - 1) = False := by simp only [eq_iff_iff, iff_false]; omega
          have hdk : decide (g = h.path.steps.length - 1) = false := decide_eq_false hkn
          rw [hdk, Bool.false_or] at hcan
          cases hwk : wr l im h g
          · have hst := hstop (by rw [hcan, hwk]; rfl)
            simp [hg, hwn, hle, heq, hgt, hAk, hAk1 hkn, hAn, hwk, hlt, hw, -pv_aidx]
            repeat refine And.intro (by omega) ?_
            refine ⟨fun hL => ?_, fun hL => ?_⟩
            · refine call (c_tick_Next h.timer) (by simp) (by simp) ?_
              simp [hL, hst, hrs, hwn, hgt, opnS, timerS, hn, hkn2, Bool.or_assoc, Bool.or_comm, -pv_aidx]
            · simp [hL, hst, hrs, hwn, hgt, opnS, timerS, hn, hkn2, Bool.or_comm, -pv_aidx]
          · cases hwk2 : wr l im h (g + 1)
            · have hst := hstop (by rw [hcan, hwk, hwk2]; rfl)
              simp [hg, hwn, hle, heq, hgt, hAk, hAk1 hkn, hAn, hwk, hwk2, hlt, hw, -pv_aidx]
              repeat refine And.intro (by omega) ?_
              refine ⟨fun hL => ?_, fun hL => ?_⟩
              · refine call (c_tick_Next h.timer) (by simp) (by simp) ?_
                simp [hL, hst, hrs, hwn, hgt, opnS, timerS, hn, hkn2, Bool.or_assoc, Bool.or_comm, -pv_aidx]
              · simp [hL, hst, hrs, hwn, hgt, opnS, timerS, hn, hkn2, Bool.or_comm, -pv_aidx]
            · simp [hg, hwn, hle, heq, hgt, hAk, hAk1 hkn, hAn, hwk, hwk2, hlt, hw, Step.cells, -pv_aidx]
              repeat refine And.intro (by omega) ?_
              refine call (c_image_Occupied l im hi (secOf h g)) (by simp [Lay.cells, Img.cells, hlt, Step.cells, secOf_lt]) (by simp) ?_
              cases hoc : occupied l im (secOf h g)
              · have hgo3 := hgoon (by rw [hcan, hwk, hwk2, hoc]; rfl)
                simp [hg, hwn, hle, heq, hgt, hAk, hAk1 hkn, hAn, hwk, hwk2, hlt, hw, -pv_aidx]
                repeat refine And.intro (by omega) ?_
                have hgo4 := hgo3
                have hwg : IntKind.i64.wrap ((g : Int) + 1) = ((g + 1 : Nat) : Int) := by rw [wrap_i] <;> omega
                have hlt0 := hlt
                clear hgo3 hwk hAk hAk1 hcan hstop hgoon hle hgt heq hw hdk hkn hkn2 hgo hoc hlt
                refine RTwp_loop rfl (fun vs => ∃ (k : Nat) (a b c d e f p q r s t z : AV), g ≤ k ∧ k ≤ h.n ∧ vs = [a, b, c, d, e, f, p, q, r, s, t, z] ∧ z = I k ∧ goX l im h g = goX l im h k) (fun vs => match vs with | [_, _, _, _, _, _, _, _, _, _, _, .int _ j] => h.n + 1 - j.toNat | _ => 0) ⟨g + 1, _, _, _, _, _, _, _, _, _, _, _, _, by omega, by omega, rfl, by simp [hg, hwg], hgo4⟩ ?_
                rintro vs - ⟨k, a, b, c, d, e, f, p, q, r, s, t, _, hk1, hk2, rfl, rfl, hgo⟩
                simp only [List.cons_append, List.nil_append]

                by_cases hlt : k < h.path.steps.length
                · have hAk := aidx0 (wr l im h) (i := k) (z := (k : Int)) rfl (by omega)
                  have hAk1 := fun (hk : ¬ k = h.path.steps.length - 1) => aidx0 (wr l im h) (i := k + 1) (z := (k : Int) + 1) rfl (by omega)
                  have hw : IntKind.i64.wrap ((k : Int) + 1) = (k : Int) + 1 := by rw [wrap_i] <;> omega
                  have hle : ((k : Int) ≤ (h.path.steps.length : Int) - 1) = True := by simp only [eq_iff_iff, iff_true]; omega
                  have hgt : ((h.path.steps.length : Int) - 1 < (k : Int)) = False := by simp only [eq_iff_iff, iff_false]; omega
                  have hkn2 : ¬ k = h.path.steps.length := by omega
                  have hcan : canGo l im h k = (wr l im h k && ((decide (k = h.path.steps.length - 1) || wr l im h (k + 1)) && !occupied l im (secOf h k))) := by
                    have e : decide (k + 1 = h.path.steps.length) = decide (k = h.path.steps.length - 1) := decide_eq_decide.2 (by omega)
                    unfold canGo
                    rw [hn, e]; simp [hlt]
                  have hstop : canGo l im h k = false → goX l im h g = k := fun hc => by rw [hgo]; exact goX_stop hc
                  have hgoon : canGo l im h k = true → goX l im h g = goX l im h (k + 1) := fun hc => by rw [hgo]; exact goX_go hc
                  by_cases hkn : k = h.path.steps.length - 1
                  · have heq : ((k : Int) = (h.path.steps.length : Int) - 1) = True := by simp only [eq_iff_iff, iff_true]; omega
                    have hdk : decide (k = h.path.steps.length - 1) = true := decide_eq_true hkn
                    rw [hdk] at hcan
                    cases hwk : wr l im h k
                    · have hst := hstop (by rw [hcan, hwk]; rfl)
                      simp [hg, hwn, hle, heq, hgt, hAk, hAn, hwk, hlt, -pv_aidx]
                      repeat refine And.intro (by omega) ?_
                      refine ⟨fun hL => ?_, fun hL => ?_⟩
                      · refine call (c_tick_Next h.timer) (by simp) (by simp) ?_
                        simp [hL, hst, hrs, hwn, hgt, opnS, timerS, hn, hkn2, Bool.or_assoc, Bool.or_comm, -pv_aidx]
                      · simp [hL, hst, hrs, hwn, hgt, opnS, timerS, hn, hkn2, Bool.or_comm, -pv_aidx]
                    · simp [hg, hwn, hle, heq, hgt, hAk, hAn, hwk, hlt, Step.cells, -pv_aidx]
                      repeat refine And.intro (by omega) ?_
                      refine call (c_image_Occupied l im hi (secOf h k)) (by simp [Lay.cells, Img.cells, hlt, Step.cells, secOf_lt]) (by simp) ?_
                      cases hoc : occupied l im (secOf h k)
                      · have hgo3 := hgoon (by rw [hcan, hwk, hoc]; rfl)
                        simp [hg, hwn, hle, heq, hgt, hAk, hAn, hwk, hlt, hw, -pv_aidx]
                        repeat refine And.intro (by omega) ?_
                        refine ⟨⟨k + 1, by omega, by omega, ?_⟩, by omega⟩
                        simp [hgo3]
                      · have hst := hstop (by rw [hcan, hwk, hoc]; rfl)
                        simp [hg, hwn, hle, heq, hgt, hAk, hAn, hwk, hlt, -pv_aidx]
                        repeat refine And.intro (by omega) ?_
                        refine ⟨fun hL => ?_, fun hL => ?_⟩
                        · refine call (c_tick_Next h.timer) (by simp) (by simp) ?_
                          simp [hL, hst, hrs, hwn, hgt, opnS, timerS, hn, hkn2, Bool.or_assoc, Bool.or_comm, -pv_aidx]
                        · simp [hL, hst, hrs, hwn, hgt, opnS, timerS, hn, hkn2, Bool.or_comm, -pv_aidx]
                  · have heq : ((k : Int) = (h.path.steps.length : Int) - 1) = False := by simp only [eq_iff_iff, iff_false]; omega
                    have hdk : decide (k = h.path.steps.length - 1) = false := decide_eq_false hkn
                    rw [hdk, Bool.false_or] at hcan
                    cases hwk : wr l im h k
                    · have hst := hstop (by rw [hcan, hwk]; rfl)
                      simp [hg, hwn, hle, heq, hgt, hAk, hAk1 hkn, hAn, hwk, hlt, hw, -pv_aidx]
                      repeat refine And.intro (by omega) ?_
                      refine ⟨fun hL => ?_, fun hL => ?_⟩
                      · refine call (c_tick_Next h.timer) (by simp) (by simp) ?_
                        simp [hL, hst, hrs, hwn, hgt, opnS, timerS, hn, hkn2, Bool.or_assoc, Bool.or_comm, -pv_aidx]
                      · simp [hL, hst, hrs, hwn, hgt, opnS, timerS, hn, hkn2, Bool.or_comm, -pv_aidx]
                    · cases hwk2 : wr l im h (k + 1)
                      · have hst := hstop (by rw [hcan, hwk, hwk2]; rfl)
                        simp [hg, hwn, hle, heq, hgt, hAk, hAk1 hkn, hAn, hwk, hwk2, hlt, hw, -pv_aidx]
                        repeat refine And.intro (by omega) ?_
                        refine ⟨fun hL => ?_, fun hL => ?_⟩
                        · refine call (c_tick_Next h.timer) (by simp) (by simp) ?_
                          simp [hL, hst, hrs, hwn, hgt, opnS, timerS, hn, hkn2, Bool.or_assoc, Bool.or_comm, -pv_aidx]
                        · simp [hL, hst, hrs, hwn, hgt, opnS, timerS, hn, hkn2, Bool.or_comm, -pv_aidx]
                      · simp [hg, hwn, hle, heq, hgt, hAk, hAk1 hkn, hAn, hwk, hwk2, hlt, hw, Step.cells, -pv_aidx]
                        repeat refine And.intro (by omega) ?_
                        refine call (c_image_Occupied l im hi (secOf h k)) (by simp [Lay.cells, Img.cells, hlt, Step.cells, secOf_lt]) (by simp) ?_
                        cases hoc : occupied l im (secOf h k)
                        · have hgo3 := hgoon (by rw [hcan, hwk, hwk2, hoc]; rfl)
                          simp [hg, hwn, hle, heq, hgt, hAk, hAk1 hkn, hAn, hwk, hwk2, hlt, hw, -pv_aidx]
                          repeat refine And.intro (by omega) ?_
                          refine ⟨⟨k + 1, by omega, by omega, ?_⟩, by omega⟩
                          simp [hgo3]
                        · have hst := hstop (by rw [hcan, hwk, hwk2, hoc]; rfl)
                          simp [hg, hwn, hle, heq, hgt, hAk, hAk1 hkn, hAn, hwk, hwk2, hlt, hw, -pv_aidx]
                          repeat refine And.intro (by omega) ?_
                          refine ⟨fun hL => ?_, fun hL => ?_⟩
                          · refine call (c_tick_Next h.timer) (by simp) (by simp) ?_
                            simp [hL, hst, hrs, hwn, hgt, opnS, timerS, hn, hkn2, Bool.or_assoc, Bool.or_comm, -pv_aidx]
                          · simp [hL, hst, hrs, hwn, hgt, opnS, timerS, hn, hkn2, Bool.or_comm, -pv_aidx]
                · have hkn3 : k = h.path.steps.length := by omega
                  have hle : ((k : Int) ≤ (h.path.steps.length : Int) - 1) = False := by simp only [eq_iff_iff, iff_false]; omega
                  have hgt : ((h.path.steps.length : Int) - 1 < (k : Int)) = True := by simp only [eq_iff_iff, iff_true]; omega
                  have heq : ((k : Int) = (h.path.steps.length : Int) - 1) = False := by simp only [eq_iff_iff, iff_false]; omega
                  have hkn2 : (k = h.path.steps.length) = True := eq_true hkn3
                  have hw : IntKind.i64.wrap ((k : Int) + 1) = (k : Int) + 1 := by rw [wrap_i] <;> omega
                  have hst : goX l im h g = k := by
                    rw [hgo]; refine goX_stop ?_
                    unfold canGo; rw [hn]; simp [hlt]
                  simp [hg, hwn, hle, heq, hgt, hAn, hw, -pv_aidx]
                  repeat refine And.intro (by omega) ?_
                  refine ⟨fun hL => ?_, fun hL => ?_⟩
                  · refine call (c_tick_Next h.timer) (by simp) (by simp) ?_
                    simp [hL, hst, hrs, hwn, hgt, opnS, timerS, hn, hkn2, Bool.or_assoc, Bool.or_comm, -pv_aidx]
                  · simp [hL, hst, hrs, hwn, hgt, opnS, timerS, hn, hkn2, Bool.or_comm, -pv_aidx]
              · have hst := hstop (by rw [hcan, hwk, hwk2, hoc]; rfl)
                simp [hg, hwn, hle, heq, hgt, hAk, hAk1 hkn, hAn, hwk, hwk2, hlt, hw, -pv_aidx]
                repeat refine And.intro (by omega) ?_
                refine ⟨fun hL => ?_, fun hL => ?_⟩
                · refine call (c_tick_Next h.timer) (by simp) (by simp) ?_
                  simp [hL, hst, hrs, hwn, hgt, opnS, timerS, hn, hkn2, Bool.or_assoc, Bool.or_comm, -pv_aidx]
                · simp [hL, hst, hrs, hwn, hgt, opnS, timerS, hn, hkn2, Bool.or_comm, -pv_aidx]
      · have hkn3 : g = h.path.steps.length := by omega
        have hle : ((g : Int) ≤ (h.path.steps.length : Int) - 1) = False := by simp only [eq_iff_iff, iff_false]; omega
        have hgt : ((h.path.steps.length : Int) - 1 < (g : Int)) = True := by simp only [eq_iff_iff, iff_true]; omega
        have heq : ((g : Int) = (h.path.steps.length : Int) - 1) = False := by simp only [eq_iff_iff, iff_false]; omega
        have hkn2 : (g = h.path.steps.length) = True := eq_true hkn3
        have hw : IntKind.i64.wrap ((g : Int) + 1) = (g : Int) + 1 := by rw [wrap_i] <;> omega
        have hst : goX l im h g = g := by
          rw [hgo]; refine goX_stop ?_
          unfold canGo; rw [hn]; simp [hlt]
        simp [hg, hwn, hle, heq, hgt, hAn, hw, -pv_aidx]
        repeat refine And.intro (by omega) ?_
        refine ⟨fun hL => ?_, fun hL => ?_⟩
        · refine call (c_tick_Next h.timer) (by simp) (by simp) ?_
          simp [hL, hst, hrs, hwn, hgt, opnS, timerS, hn, hkn2, Bool.or_assoc, Bool.or_comm, -pv_aidx]
        · simp [hL, hst, hrs, hwn, hgt, opnS, timerS, hn, hkn2, Bool.or_comm, -pv_aidx]
    · simp [AV.eqs, AV.eq1] at hb
      obtain ⟨e0, e1, e2, e3, e4, e5, e6, e7, e8, e9, e10, e11⟩ := hb
      simp only [← e0, ← e1, ← e2, ← e3, ← e4, ← e5, ← e6, ← e7, ← e8, ← e9, ← e10, ← e11]
      have hrs : h.gone.toNat = g := by omega
      simp only [hrs]
      have hAn := aidx0 (wr l im h) (i := h.path.steps.length - 1) (z := (h.path.steps.length : Int) - 1) (by omega) (by omega)
      rw [show wr l im h (h.path.steps.length - 1) = lastW l im h from rfl] at hAn
      have hgo : goX l im h g = goX l im h g := rfl
      by_cases hlt : g < h.path.steps.length
      · have hAk := aidx0 (wr l im h) (i := g) (z := (g : Int)) rfl (by omega)
        have hAk1 := fun (hk : ¬ g = h.path.steps.length - 1) => aidx0 (wr l im h) (i := g + 1) (z := (g : Int) + 1) rfl (by omega)
        have hw : IntKind.i64.wrap ((g : Int) + 1) = (g : Int) + 1 := by rw [wrap_i] <;> omega
        have hle : ((g : Int) ≤ (h.path.steps.length : Int) - 1) = True := by simp only [eq_iff_iff, iff_true]; omega
        have hgt : ((h.path.steps.length : Int) - 1 < (g : Int)) = False := by simp only [eq_iff_iff, iff_false]; omega
        have hkn2 : ¬ g = h.path.steps.length := by omega
        have hcan : canGo l im h g = (wr l im h g && ((decide (g = h.path.steps.length - 1) || wr l im h (g + 1)) && !occupied l im (secOf h g))) := by
          have e : decide (g + 1 = h.path.steps.length) = decide (g = h.path.steps.length - 1) := decide_eq_decide.2 (by omega)
          unfold canGo
          rw [hn, e]; simp [hlt]
        have hstop : canGo l im h g = false → goX l im h g = g := fun hc => by rw [hgo]; exact goX_stop hc
        have hgoon : canGo l im h g = true → goX l im h g = goX l im h (g + 1) := fun hc => by rw [hgo]; exact goX_go hc
        by_cases hkn : g = h.path.steps.length - 1
        · have heq : ((g : Int) = (h.path.steps.length : Int) - 1) = True := by simp only [eq_iff_iff, iff_true]; omega
          have hdk : decide (g = h.path.steps.length - 1) = true := decide_eq_true hkn
          rw [hdk] at hcan
          cases hwk : wr l im h g
          · have hst := hstop (by rw [hcan, hwk]; rfl)
            simp [hg, hwn, hle, heq, hgt, hAk, hAn, hwk, hlt, -pv_aidx]
            repeat refine And.intro (by omega) ?_
            refine ⟨fun hL => ?_, fun hL => ?_⟩
            · refine call (c_tick_Next h.timer) (by simp) (by simp) ?_
              simp [hL, hst, hrs, hwn, hgt, opnS, timerS, hn, hkn2, Bool.or_assoc, Bool.or_comm, -pv_aidx]
            · simp [hL, hst, hrs, hwn, hgt, opnS, timerS, hn, hkn2, Bool.or_comm, -pv_aidx]
          · simp [hg, hwn, hle, heq, hgt, hAk, hAn, hwk, hlt, Step.cells, -pv_aidx]
            repeat refine And.intro (by omega) ?_
            refine call (c_image_Occupied l im hi (secOf h g)) (by simp [Lay.cells, Img.cells, hlt, Step.cells, secOf_lt]) (by simp) ?_
            cases hoc : occupied l im (secOf h g)
            · have hgo3 := hgoon (by rw [hcan, hwk, hoc]; rfl)
              simp [hg, hwn, hle, heq, hgt, hAk, hAn, hwk, hlt, hw, -pv_aidx]
              repeat refine And.intro (by omega) ?_
              have hgo4 := hgo3
              have hwg : IntKind.i64.wrap ((g : Int) + 1) = ((g + 1 : Nat) : Int) := by rw [wrap_i] <;> omega
              have hlt0 := hlt
              clear hgo3 hwk hAk hAk1 hcan hstop hgoon hle hgt heq hw hdk hkn hkn2 hgo hoc hlt
              refine RTwp_loop rfl (fun vs => ∃ (k : Nat) (a b c d e f p q r s t z : AV), g ≤ k ∧ k ≤ h.n ∧ vs = [a, b, c, d, e, f, p, q, r, s, t, z] ∧ z = I k ∧ goX l im h g = goX l im h k) (fun vs => match vs with | [_, _, _, _, _, _, _, _, _, _, _, .int _ j] => h.n + 1 - j.toNat | _ => 0) ⟨g + 1, _, _, _, _, _, _, _, _, _, _, _, _, by omega, by omega, rfl, by simp [hg, hwg], hgo4⟩ ?_
              rintro vs - ⟨k, a, b, c, d, e, f, p, q, r, s, t, _, hk1, hk2, rfl, rfl, hgo⟩
              simp only [List.cons_append, List.nil_append]

              by_cases hlt : k < h.path.steps.length
              · have hAk := aidx0 (wr l im h) (i := k) (z := (k : Int)) rfl (by omega)
                have hAk1 := fun (hk : ¬ k = h.path.steps.length - 1) => aidx0 (wr l im h) (i := k + 1) (z := (k : Int) + 1) rfl (by omega)
                have hw : IntKind.i64.wrap ((k : Int) + 1) = (k : Int) + 1 := by rw [wrap_i] <;> omega
                have hle : ((k : Int) ≤ (h.path.steps.length : Int) - 1) = True := by simp only [eq_iff_iff, iff_true]; omega
                have hgt : ((h.path.steps.length : Int) - 1 < (k : Int)) = False := by simp only [eq_iff_iff, iff_false]; omega
                have hkn2 : ¬ k = h.path.steps.length := by omega
                have hcan : canGo l im h k = (wr l im h k && ((decide (k = h.path.steps.length - 1) || wr l im h (k + 1)) && !occupied l im (secOf h k))) := by
                  have e : decide (k + 1 = h.path.steps.length) = decide (k = h.path.steps.length - 1) := decide_eq_decide.2 (by omega)
                  unfold canGo
                  rw [hn, e]; simp [hlt]
                have hstop : canGo l im h k = false → goX l im h g = k := fun hc => by rw [hgo]; exact goX_stop hc
                have hgoon : canGo l im h k = true → goX l im h g = goX l im h (k + 1) := fun hc => by rw [hgo]; exact goX_go hc
                by_cases hkn : k = h.path.steps.length - 1
                · have heq : ((k : Int) = (h.path.steps.length : Int) - 1) = True := by simp only [eq_iff_iff, iff_true]; omega
                  have hdk : decide (k = h.path.steps.length - 1) = true := decide_eq_true hkn
                  rw [hdk] at hcan
                  cases hwk : wr l im h k
                  · have hst := hstop (by rw [hcan, hwk]; rfl)
                    simp [hg, hwn, hle, heq, hgt, hAk, hAn, hwk, hlt, -pv_aidx]
                    repeat refine And.intro (by omega) ?_
                    refine ⟨fun hL => ?_, fun hL => ?_⟩
                    · refine call (c_tick_Next h.timer) (by simp) (by simp) ?_
                      simp [hL, hst, hrs, hwn, hgt, opnS, timerS, hn, hkn2, Bool.or_assoc, Bool.or_comm, -pv_aidx]
                    · simp [hL, hst, hrs, hwn, hgt, opnS, timerS, hn, hkn2, Bool.or_comm, -pv_aidx]
                  · simp [hg, hwn, hle, heq, hgt, hAk, hAn, hwk, hlt, Step.cells, -pv_aidx]
                    repeat refine And.intro (by omega) ?_
                    refine call (c_image_Occupied l im hi (secOf h k)) (by simp [Lay.cells, Img.cells, hlt, Step.cells, secOf_lt]) (by simp) ?_
                    cases hoc : occupied l im (secOf h k)
                    · have hgo3 := hgoon (by rw [hcan, hwk, hoc]; rfl)
                      simp [hg, hwn, hle, heq, hgt, hAk, hAn, hwk, hlt, hw, -pv_aidx]
                      repeat refine And.intro (by omega) ?_
                      refine ⟨⟨k + 1, by omega, by omega, ?_⟩, by omega⟩
                      simp [hgo3]
                    · have hst := hstop (by rw [hcan, hwk, hoc]; rfl)
                      simp [hg, hwn, hle, heq, hgt, hAk, hAn, hwk, hlt, -pv_aidx]
                      repeat refine And.intro (by omega) ?_
                      refine ⟨fun hL => ?_, fun hL => ?_⟩
                      · refine call (c_tick_Next h.timer) (by simp) (by simp) ?_
                        simp [hL, hst, hrs, hwn, hgt, opnS, timerS, hn, hkn2, Bool.or_assoc, Bool.or_comm, -pv_aidx]
                      · simp [hL, hst, hrs, hwn, hgt, opnS, timerS, hn, hkn2, Bool.or_comm, -pv_aidx]
                · have heq : ((k : Int) = (h.path.steps.length : Int) - 1) = False := by simp only [eq_iff_iff, iff_false]; omega
                  have hdk : decide (k = h.path.steps.length - 1) = false := decide_eq_false hkn
                  rw [hdk, Bool.false_or] at hcan
                  cases hwk : wr l im h k
                  · have hst := hstop (by rw [hcan, hwk]; rfl)
                    simp [hg, hwn, hle, heq, hgt, hAk, hAk1 hkn, hAn, hwk, hlt, hw, -pv_aidx]
                    repeat refine And.intro (by omega) ?_
                    refine ⟨fun hL => ?_, fun hL => ?_⟩
                    · refine call (c_tick_Next h.timer) (by simp) (by simp) ?_
                      simp [hL, hst, hrs, hwn, hgt, opnS, timerS, hn, hkn2, Bool.or_assoc, Bool.or_comm, -pv_aidx]
                    · simp [hL, hst, hrs, hwn, hgt, opnS, timerS, hn, hkn2, Bool.or_comm, -pv_aidx]
                  · cases hwk2 : wr l im h (k + 1)
                    · have hst := hstop (by rw [hcan, hwk, hwk2]; rfl)
                      simp [hg, hwn, hle, heq, hgt, hAk, hAk1 hkn, hAn, hwk, hwk2, hlt, hw, -pv_aidx]
                      repeat refine And.intro (by omega) ?_
                      refine ⟨fun hL => ?_, fun hL => ?_⟩
                      · refine call (c_tick_Next h.timer) (by simp) (by simp) ?_
                        simp [hL, hst, hrs, hwn, hgt, opnS, timerS, hn, hkn2, Bool.or_assoc, Bool.or_comm, -pv_aidx]
                      · simp [hL, hst, hrs, hwn, hgt, opnS, timerS, hn, hkn2, Bool.or_comm, -pv_aidx]
                    · simp [hg, hwn, hle, heq, hgt, hAk, hAk1 hkn, hAn, hwk, hwk2, hlt, hw, Step.cells, -pv_aidx]
                      repeat refine And.intro (by omega) ?_
                      refine call (c_image_Occupied l im hi (secOf h k)) (by simp [Lay.cells, Img.cells, hlt, Step.cells, secOf_lt]) (by simp) ?_
                      cases hoc : occupied l im (secOf h k)
                      · have hgo3 := hgoon (by rw [hcan, hwk, hwk2, hoc]; rfl)
                        simp [hg, hwn, hle, heq, hgt, hAk, hAk1 hkn, hAn, hwk, hwk2, hlt, hw, -pv_aidx]
                        repeat refine And.intro (by omega) ?_
                        refine ⟨⟨k + 1, by omega, by omega, ?_⟩, by omega⟩
                        simp [hgo3]
                      · have hst := hstop (by rw [hcan, hwk, hwk2, hoc]; rfl)
                        simp [hg, hwn, hle, heq, hgt, hAk, hAk1 hkn, hAn, hwk, hwk2, hlt, hw, -pv_aidx]
                        repeat refine And.intro (by omega) ?_
                        refine ⟨fun hL => ?_, fun hL => ?_⟩
                        · refine call (c_tick_Next h.timer) (by simp) (by simp) ?_
                          simp [hL, hst, hrs, hwn, hgt, opnS, timerS, hn, hkn2, Bool.or_assoc, Bool.or_comm, -pv_aidx]
                        · simp [hL, hst, hrs, hwn, hgt, opnS, timerS, hn, hkn2, Bool.or_comm, -pv_aidx]
              · have hkn3 : k = h.path.steps.length := by omega
                have hle : ((k : Int) ≤ (h.path.steps.length : Int) - 1) = False := by simp only [eq_iff_iff, iff_false]; omega
                have hgt : ((h.path.steps.length : Int) - 1 < (k : Int)) = True := by simp only [eq_iff_iff, iff_true]; omega
                have heq : ((k : Int) = (h.path.steps.length : Int) - 1) = False := by simp only [eq_iff_iff, iff_false]; omega
                have hkn2 : (k = h.path.steps.length) = True := eq_true hkn3
                have hw : IntKind.i64.wrap ((k : Int) + 1) = (k : Int) + 1 := by rw [wrap_i] <;> omega
                have hst : goX l im h g = k := by
                  rw [hgo]; refine goX_stop ?_
                  unfold canGo; rw [hn]; simp [hlt]
                simp [hg, hwn, hle, heq, hgt, hAn, hw, -pv_aidx]
                repeat refine And.intro (by omega) ?_
                refine ⟨fun hL => ?_, fun hL => ?_⟩
                · refine call (c_tick_Next h.timer) (by simp) (by simp) ?_
                  simp [hL, hst, hrs, hwn, hgt, opnS, timerS, hn, hkn2, Bool.or_assoc, Bool.or_comm, -pv_aidx]
                · simp [hL, hst, hrs, hwn, hgt, opnS, timerS, hn, hkn2, Bool.or_comm, -pv_aidx]
            · have hst := hstop (by rw [hcan, hwk, hoc]; rfl)
              simp [hg, hwn, hle, heq, hgt, hAk, hAn, hwk, hlt, -pv_aidx]
              repeat refine And.intro (by omega) ?_
              refine ⟨fun hL => ?_, fun hL => ?_⟩
              · refine call (c_tick_Next h.timer) (by simp) (by simp) ?_
                simp [hL, hst, hrs, hwn, hgt, opnS, timerS, hn, hkn2, Bool.or_assoc, Bool.or_comm, -pv_aidx]
              · simp [hL, hst, hrs, hwn, hgt, opnS, timerS, hn, hkn2, Bool.or_comm, -pv_aidx]
        · have heq : ((g : Int) = (h.path.steps.length : Int) - 1) = False := by simp only [eq_iff_iff, iff_false]; omega
          have hdk : decide (g = h.path.steps.length - 1) = false := decide_eq_false hkn
          rw [hdk, Bool.false_or] at hcan
          cases hwk : wr l im h g
          · have hst := hstop (by rw [hcan, hwk]; rfl)
            simp [hg, hwn, hle, heq, hgt, hAk, hAk1 hkn, hAn, hwk, hlt, hw, -pv_aidx]
            repeat refine And.intro (by omega) ?_
            refine ⟨fun hL => ?_, fun hL => ?_⟩
            · refine call (c_tick_Next h.timer) (by simp) (by simp) ?_
              simp [hL, hst, hrs, hwn, hgt, opnS, timerS, hn, hkn2, Bool.or_assoc, Bool.or_comm, -pv_aidx]
            · simp [hL, hst, hrs, hwn, hgt, opnS, timerS, hn, hkn2, Bool.or_comm, -pv_aidx]
          · cases hwk2 : wr l im h (g + 1)
            · have hst := hstop (by rw [hcan, hwk, hwk2]; rfl)
              simp [hg, hwn, hle, heq, hgt, hAk, hAk1 hkn, hAn, hwk, hwk2, hlt, hw, -pv_aidx]
              repeat refine And.intro (by omega) ?_
              refine ⟨fun hL => ?_, fun hL => ?_⟩
              · refine call (c_tick_Next h.timer) (by simp) (by simp) ?_
                simp [hL, hst, hrs, hwn, hgt, opnS, timerS, hn, hkn2, Bool.or_assoc, Bool.or_comm, -pv_aidx]
              · simp [hL, hst, hrs, hwn, hgt, opnS, timerS, hn, hkn2, Bool.or_comm, -pv_aidx]
            · simp [hg, hwn, hle, heq, hgt, hAk, hAk1 hkn, hAn, hwk, hwk2, hlt, hw, Step.cells, -pv_aidx]
              repeat refine And.intro (by omega) ?_
              refine call (c_image_Occupied l im hi (secOf h g)) (by simp [Lay.cells, Img.cells, hlt, Step.cells, secOf_lt]) (by simp) ?_
              cases hoc : occupied l im (secOf h g)
              · have hgo3 := hgoon (by rw [hcan, hwk, hwk2, hoc]; rfl)
                simp [hg, hwn, hle, heq, hgt, hAk, hAk1 hkn, hAn, hwk, hwk2, hlt, hw, -pv_aidx]
                repeat refine And.intro (by omega) ?_
                have hgo4 := hgo3
                have hwg : IntKind.i64.wrap ((g : Int) + 1) = ((g + 1 : Nat) : Int) := by rw [wrap_i] <;> omega
                have hlt0 := hlt
                clear hgo3 hwk hAk hAk1 hcan hstop hgoon hle hgt heq hw hdk hkn hkn2 hgo hoc hlt
                refine RTwp_loop rfl (fun vs => ∃ (k : Nat) (a b c d e f p q r s t z : AV), g ≤ k ∧ k ≤ h.n ∧ vs = [a, b, c, d, e, f, p, q, r, s, t, z] ∧ z = I k ∧ goX l im h g = goX l im h k) (fun vs => match vs with | [_, _, _, _, _, _, _, _, _, _, _, .int _ j] => h.n + 1 - j.toNat | _ => 0) ⟨g + 1, _, _, _, _, _, _, _, _, _, _, _, _, by omega, by omega, rfl, by simp [hg, hwg], hgo4⟩ ?_
                rintro vs - ⟨k, a, b, c, d, e, f, p, q, r, s, t, _, hk1, hk2, rfl, rfl, hgo⟩
                simp only [List.cons_append, List.nil_append]

                by_cases hlt : k < h.path.steps.length
                · have hAk := aidx0 (wr l im h) (i := k) (z := (k : Int)) rfl (by omega)
                  have hAk1 := fun (hk : ¬ k = h.path.steps.length - 1) => aidx0 (wr l im h) (i := k + 1) (z := (k : Int) + 1) rfl (by omega)
                  have hw : IntKind.i64.wrap ((k : Int) + 1) = (k : Int) + 1 := by rw [wrap_i] <;> omega
                  have hle : ((k : Int) ≤ (h.path.steps.length : Int) - 1) = True := by simp only [eq_iff_iff, iff_true]; omega
                  have hgt : ((h.path.steps.length : Int) - 1 < (k : Int)) = False := by simp only [eq_iff_iff, iff_false]; omega
                  have hkn2 : ¬ k = h.path.steps.length := by omega
                  have hcan : canGo l im h k = (wr l im h k && ((decide (k = h.path.steps.length - 1) || wr l im h (k + 1)) && !occupied l im (secOf h k))) := by
                    have e : decide (k + 1 = h.path.steps.length) = decide (k = h.path.steps.length - 1) := decide_eq_decide.2 (by omega)
                    unfold canGo
                    rw [hn, e]; simp [hlt]
                  have hstop : canGo l im h k = false → goX l im h g = k := fun hc => by rw [hgo]; exact goX_stop hc
                  have hgoon : canGo l im h k = true → goX l im h g = goX l im h (k + 1) := fun hc => by rw [hgo]; exact goX_go hc
                  by_cases hkn : k = h.path.steps.length - 1
                  · have heq : ((k : Int) = (h.path.steps.length : Int) - 1) = True := by simp only [eq_iff_iff, iff_true]; omega
                    have hdk : decide (k = h.path.steps.length - 1) = true := decide_eq_true hkn
                    rw [hdk] at hcan
                    cases hwk : wr l im h k
                    · have hst := hstop (by rw [hcan, hwk]; rfl)
                      simp [hg, hwn, hle, heq, hgt, hAk, hAn, hwk, hlt, -pv_aidx]
                      repeat refine And.intro (by omega) ?_
                      refine ⟨fun hL => ?_, fun hL => ?_⟩
                      · refine call (c_tick_Next h.timer) (by simp) (by simp) ?_
                        simp [hL, hst, hrs, hwn, hgt, opnS, timerS, hn, hkn2, Bool.or_assoc, Bool.or_comm, -pv_aidx]
                      · simp [hL, hst, hrs, hwn, hgt, opnS, timerS, hn, hkn2, Bool.or_comm, -pv_aidx]
                    · simp [hg, hwn, hle, heq, hgt, hAk, hAn, hwk, hlt, Step.cells, -pv_aidx]
                      repeat refine And.intro (by omega) ?_
                      refine call (c_image_Occupied l im hi (secOf h k)) (by simp [Lay.cells, Img.cells, hlt, Step.cells, secOf_lt]) (by simp) ?_
                      cases hoc : occupied l im (secOf h k)
                      · have hgo3 := hgoon (by rw [hcan, hwk, hoc]; rfl)
                        simp [hg, hwn, hle, heq, hgt, hAk, hAn, hwk, hlt, hw, -pv_aidx]
                        repeat refine And.intro (by omega) ?_
                        refine ⟨⟨k + 1, by omega, by omega, ?_⟩, by omega⟩
                        simp [hgo3]
                      · have hst := hstop (by rw [hcan, hwk, hoc]; rfl)
                        simp [hg, hwn, hle, heq, hgt, hAk, hAn, hwk, hlt, -pv_aidx]
                        repeat refine And.intro (by omega) ?_
                        refine ⟨fun hL => ?_, fun hL => ?_⟩
                        · refine call (c_tick_Next h.timer) (by simp) (by simp) ?_
                          simp [hL, hst, hrs, hwn, hgt, opnS, timerS, hn, hkn2, Bool.or_assoc, Bool.or_comm, -pv_aidx]
                        · simp [hL, hst, hrs, hwn, hgt, opnS, timerS, hn, hkn2, Bool.or_comm, -pv_aidx]
                  · have heq : ((k : Int) = (h.path.steps.length : Int) - 1) = False := by simp only [eq_iff_iff, iff_false]; omega
                    have hdk : decide (k = h.path.steps.length - 1) = false := decide_eq_false hkn
                    rw [hdk, Bool.false_or] at hcan
                    cases hwk : wr l im h k
                    · have hst := hstop (by rw [hcan, hwk]; rfl)
                      simp [hg, hwn, hle, heq, hgt, hAk, hAk1 hkn, hAn, hwk, hlt, hw, -pv_aidx]
                      repeat refine And.intro (by omega) ?_
                      refine ⟨fun hL => ?_, fun hL => ?_⟩
                      · refine call (c_tick_Next h.timer) (by simp) (by simp) ?_
                        simp [hL, hst, hrs, hwn, hgt, opnS, timerS, hn, hkn2, Bool.or_assoc, Bool.or_comm, -pv_aidx]
                      · simp [hL, hst, hrs, hwn, hgt, opnS, timerS, hn, hkn2, Bool.or_comm, -pv_aidx]
                    · cases hwk2 : wr l im h (k + 1)
                      · have hst := hstop (by rw [hcan, hwk, hwk2]; rfl)
                        simp [hg, hwn, hle, heq, hgt, hAk, hAk1 hkn, hAn, hwk, hwk2, hlt, hw, -pv_aidx]
                        repeat refine And.intro (by omega) ?_
                        refine ⟨fun hL => ?_, fun hL => ?_⟩
                        · refine call (c_tick_Next h.timer) (by simp) (by simp) ?_
                          simp [hL, hst, hrs, hwn, hgt, opnS, timerS, hn, hkn2, Bool.or_assoc, Bool.or_comm, -pv_aidx]
                        · simp [hL, hst, hrs, hwn, hgt, opnS, timerS, hn, hkn2, Bool.or_comm, -pv_aidx]
                      · simp [hg, hwn, hle, heq, hgt, hAk, hAk1 hkn, hAn, hwk, hwk2, hlt, hw, Step.cells, -pv_aidx]
                        repeat refine And.intro (by omega) ?_
                        refine call (c_image_Occupied l im hi (secOf h k)) (by simp [Lay.cells, Img.cells, hlt, Step.cells, secOf_lt]) (by simp) ?_
                        cases hoc : occupied l im (secOf h k)
                        · have hgo3 := hgoon (by rw [hcan, hwk, hwk2, hoc]; rfl)
                          simp [hg, hwn, hle, heq, hgt, hAk, hAk1 hkn, hAn, hwk, hwk2, hlt, hw, -pv_aidx]
                          repeat refine And.intro (by omega) ?_
                          refine ⟨⟨k + 1, by omega, by omega, ?_⟩, by omega⟩
                          simp [hgo3]
                        · have hst := hstop (by rw [hcan, hwk, hwk2, hoc]; rfl)
                          simp [hg, hwn, hle, heq, hgt, hAk, hAk1 hkn, hAn, hwk, hwk2, hlt, hw, -pv_aidx]
                          repeat refine And.intro (by omega) ?_
                          refine ⟨fun hL => ?_, fun hL => ?_⟩
                          · refine call (c_tick_Next h.timer) (by simp) (by simp) ?_
                            simp [hL, hst, hrs, hwn, hgt, opnS, timerS, hn, hkn2, Bool.or_assoc, Bool.or_comm, -pv_aidx]
                          · simp [hL, hst, hrs, hwn, hgt, opnS, timerS, hn, hkn2, Bool.or_comm, -pv_aidx]
                · have hkn3 : k = h.path.steps.length := by omega
                  have hle : ((k : Int) ≤ (h.path.steps.length : Int) - 1) = False := by simp only [eq_iff_iff, iff_false]; omega
                  have hgt : ((h.path.steps.length : Int) - 1 < (k : Int)) = True := by simp only [eq_iff_iff, iff_true]; omega
                  have heq : ((k : Int) = (h.path.steps.length : Int) - 1) = False := by simp only [eq_iff_iff, iff_false]; omega
                  have hkn2 : (k = h.path.steps.length) = True := eq_true hkn3
                  have hw : IntKind.i64.wrap ((k : Int) + 1) = (k : Int) + 1 := by rw [wrap_i] <;> omega
                  have hst : goX l im h g = k := by
                    rw [hgo]; refine goX_stop ?_
                    unfold canGo; rw [hn]; simp [hlt]
                  simp [hg, hwn, hle, heq, hgt, hAn, hw, -pv_aidx]
                  repeat refine And.intro (by omega) ?_
                  refine ⟨fun hL => ?_, fun hL => ?_⟩
                  · refine call (c_tick_Next h.timer) (by simp) (by simp) ?_
                    simp [hL, hst, hrs, hwn, hgt, opnS, timerS, hn, hkn2, Bool.or_assoc, Bool.or_comm, -pv_aidx]
                  · simp [hL, hst, hrs, hwn, hgt, opnS, timerS, hn, hkn2, Bool.or_comm, -pv_aidx]
              · have hst := hstop (by rw [hcan, hwk, hwk2, hoc]; rfl)
                simp [hg, hwn, hle, heq, hgt, hAk, hAk1 hkn, hAn, hwk, hwk2, hlt, hw, -pv_aidx]
                repeat refine And.intro (by omega) ?_
                refine ⟨fun hL => ?_, fun hL => ?_⟩
                · refine call (c_tick_Next h.timer) (by simp) (by simp) ?_
                  simp [hL, hst, hrs, hwn, hgt, opnS, timerS, hn, hkn2, Bool.or_assoc, Bool.or_comm, -pv_aidx]
                · simp [hL, hst, hrs, hwn, hgt, opnS, timerS, hn, hkn2, Bool.or_comm, -pv_aidx]
      · have hkn3 : g = h.path.steps.length := by omega
        have hle : ((g : Int) ≤ (h.path.steps.length : Int) - 1) = False := by simp only [eq_iff_iff, iff_false]; omega
        have hgt : ((h.path.steps.length : Int) - 1 < (g : Int)) = True := by simp only [eq_iff_iff, iff_true]; omega
        have heq : ((g : Int) = (h.path.steps.length : Int) - 1) = False := by simp only [eq_iff_iff, iff_false]; omega
        have hkn2 : (g = h.path.steps.length) = True := eq_true hkn3
        have hw : IntKind.i64.wrap ((g : Int) + 1) = (g : Int) + 1 := by rw [wrap_i] <;> omega
        have hst : goX l im h g = g := by
          rw [hgo]; refine goX_stop ?_
          unfold canGo; rw [hn]; simp [hlt]
        simp [hg, hwn, hle, heq, hgt, hAn, hw, -pv_aidx]
        repeat refine And.intro (by omega) ?_
        refine ⟨fun hL => ?_, fun hL => ?_⟩
        · refine call (c_tick_Next h.timer) (by simp) (by simp) ?_
          simp [hL, hst, hrs, hwn, hgt, opnS, timerS, hn, hkn2, Bool.or_assoc, Bool.or_comm, -pv_aidx]
        · simp [hL, hst, hrs, hwn, hgt, opnS, timerS, hn, hkn2, Bool.or_comm, -pv_aidx]
end Go.Lb.LK

namespace Go.Lb.LK
open Go Go.Lb Go.Proofs Go.RowKit

theorem c_pass_Tick (l : Lay) (im : Img) (hi : im.ok) (h : Hd) (hl : h.len) (hs : 0 ≤ h.stage ∧ h.stage ≤ 255) : C f_pass_Tick [l.av, im.av, h.av] (tickS l im h).av := by
  refine ctr (l.cells ++ im.cells ++ h.cells) run_pass_Tick rfl (lih l im h) (by simp [AV.pure]) ?_ rfl
  unfold rt_pass_Tick
  simp [Lay.cells, Img.cells, Hd.cells]
  refine call (c_pass_asleep l im h hl hs) (by simp [Lay.cells, Img.cells, Hd.cells]) (by simp) ?_
  cases ha : asleepS l im h
  · obtain ⟨a1, a2⟩ := asleep_false ha
    obtain ⟨⟨_, _, _, _, hn, _, _⟩, _⟩ := right_facts a1
    simp [tickS, ha]
    refine callIf (avs := [l.av, im.av, h.av]) (.bool (standsS l im h)) rfl (fun _ => ⟨by simp [Lay.cells, Img.cells, Hd.cells], c_pass_Stands l im hi h hl⟩) (by simp) ?_
    obtain ⟨s, r, e1, e2⟩ := secOf_zero hn
    by_cases h1 : h.stage = 1
    · simp [h1]
      cases hst : standsS l im h
      · simp
        refine callIf (avs := [l.av, im.av, I (secOf h 0)]) (.bool (told l im (secOf h 0))) rfl (fun hh => by simp [h1] at hh) (by simp) ?_
        simp [h1]
        refine call (c_held_Own h hl) (by simp [Hd.cells, h1]) (by simp) ?_
        simp [Hd.cells, h1]
      · simp
        refine call (c_held_Own { h with stage := 2 } hl) (by simp [Hd.cells]) (by simp) ?_
        simp [Hd.cells]
    · by_cases h2 : h.stage = 2
      · simp [h2, e1, Step.cells]
        refine callIf (avs := [l.av, im.av, I (secOf h 0)]) (.bool (told l im (secOf h 0))) rfl (fun _ => ⟨by simp [Lay.cells, Img.cells, e2, Step.cells], c_image_Told l im hi _⟩) (by simp) ?_
        cases htd : told l im (secOf h 0)
        · simp [h2]
          refine call (c_held_Own h hl) (by simp [Hd.cells, h2, e1]) (by simp) ?_
          simp [Hd.cells, h2, e1]
        · simp
          refine call (c_pass_Run l im hi { h with stage := 3, timer := 0 } hl (by simp)) (by simp [Lay.cells, Img.cells, Hd.cells, e1]) (by simp) ?_
          simp [Hd.cells]
      · simp [h1, h2]
        refine callIf (avs := [l.av, im.av, I (secOf h 0)]) (.bool (told l im (secOf h 0))) rfl (fun hh => by simp [h2] at hh) (by simp) ?_
        by_cases h3 : h.stage = 3
        · simp [h3]
          refine call (c_pass_Run l im hi h hl hs) (by simp [Lay.cells, Img.cells, Hd.cells, h3]) (by simp) ?_
          simp [Hd.cells]
        · simp [h2, h3]
          refine call (c_held_Own h hl) (by simp [Hd.cells]) (by simp) ?_
          simp [Hd.cells]
  · simp [tickS, ha]
    refine call (c_held_Own h hl) (by simp [Hd.cells]) (by simp) ?_
    simp [Hd.cells]
end Go.Lb.LK

namespace Go.Lb.LK
open Go Go.Lb Go.Proofs
@[simp] noncomputable def qkpasstells_0 : SE := .agg [.inp 0, .inp 1, .inp 2, .inp 3, .inp 4, .inp 5, .inp 6, .inp 7, .inp 8, .inp 9, .inp 10]
@[simp] noncomputable def qkpasstells_1 : SE := .agg [.inp 11, .inp 12, .inp 13, .inp 14, .inp 15, .inp 16, .inp 17, .inp 18, .inp 19, .inp 20, .inp 21, .inp 22, .inp 23, .inp 24, .inp 25, .inp 26, .inp 27, .inp 28, .inp 29, .inp 30, .inp 31, .inp 32, .inp 33, .inp 34, .inp 35, .inp 36, .inp 37, .inp 38, .inp 39]
@[simp] noncomputable def qkpasstells_2 : SE := .agg [.inp 40, .inp 41, .inp 42, .inp 43, .inp 44, .inp 45, .inp 46, .inp 47, .inp 48, .inp 49, .inp 50, .inp 51, .inp 52, .inp 53, .inp 54, .inp 55, .inp 56, .inp 57, .inp 58, .inp 59, .inp 60, .inp 61, .inp 62]
@[simp] noncomputable def qkpasstells_3 : SE := .app (.eqb false) [.inp 65, .inp 66]
@[simp] noncomputable def qkpasstells_4 : SE := .app .pick [qkpasstells_3, .inp 69, .bool false]
@[simp] noncomputable def qkpasstells_5 : SE := .app .pick [qkpasstells_4, .inp 72, .bool false]
noncomputable def rt_lockbarlaw21_PassTells : RT :=
.seg [.chk [] (.isAgg 11) [qkpasstells_0]] <|
.seg [.chk [] (.isAgg 29) [qkpasstells_1]] <|
.seg [.chk [] (.isAgg 23) [qkpasstells_2]] <|
.seg [.call 63 [] 8 [qkpasstells_0] false] <|
.seg [.call 64 [(.inp 63, false)] 9 [qkpasstells_2] false] <|
.seg [.chk [] .pick [.inp 63, .bool true, .inp 64]] <|
.cond (.app .pick [.inp 63, .bool true, .inp 64])
 (.seg [.call 65 [] 10 [] false] <|
.ret (.inp 65))
 (.seg [.call 65 [] 11 [qkpasstells_0, qkpasstells_1, qkpasstells_2] false,
.call 66 [] 12 [qkpasstells_0, qkpasstells_1, qkpasstells_2] false,
.chk [] (.eqb false) [.inp 65, .inp 66],
.call 67 [(qkpasstells_3, true)] 14 [qkpasstells_0, qkpasstells_1, qkpasstells_2] false,
.call 68 [(qkpasstells_3, true)] 15 [qkpasstells_0, qkpasstells_1, qkpasstells_2] false,
.call 69 [(qkpasstells_3, true)] 13 [.inp 67, .inp 68] false,
.chk [] .pick [qkpasstells_3, .inp 69, .bool false],
.call 70 [(qkpasstells_4, true)] 16 [qkpasstells_0, qkpasstells_1, qkpasstells_2] false,
.call 71 [(qkpasstells_4, true)] 17 [qkpasstells_0, qkpasstells_1, qkpasstells_2] false,
.call 72 [(qkpasstells_4, true)] 13 [.inp 70, .inp 71] false,
.chk [] .pick [qkpasstells_4, .inp 72, .bool false],
.call 73 [(qkpasstells_5, true)] 10 [] false,
.chk [] .pick [qkpasstells_5, .inp 73, .bool false]] <|
.seg [.bind 74 (.app .pick [qkpasstells_5, .inp 73, .bool false])] <|
.ret (.inp 74))
theorem run_lockbarlaw21_PassTells : runF E 3 [.agg [.inp 0, .inp 1, .inp 2, .inp 3, .inp 4, .inp 5, .inp 6, .inp 7, .inp 8, .inp 9, .inp 10], .agg [.inp 11, .inp 12, .inp 13, .inp 14, .inp 15, .inp 16, .inp 17, .inp 18, .inp 19, .inp 20, .inp 21, .inp 22, .inp 23, .inp 24, .inp 25, .inp 26, .inp 27, .inp 28, .inp 29, .inp 30, .inp 31, .inp 32, .inp 33, .inp 34, .inp 35, .inp 36, .inp 37, .inp 38, .inp 39], .agg [.inp 40, .inp 41, .inp 42, .inp 43, .inp 44, .inp 45, .inp 46, .inp 47, .inp 48, .inp 49, .inp 50, .inp 51, .inp 52, .inp 53, .inp 54, .inp 55, .inp 56, .inp 57, .inp 58, .inp 59, .inp 60, .inp 61, .inp 62]] 63 = rt_lockbarlaw21_PassTells := by kernel_rfl

end Go.Lb.LK
