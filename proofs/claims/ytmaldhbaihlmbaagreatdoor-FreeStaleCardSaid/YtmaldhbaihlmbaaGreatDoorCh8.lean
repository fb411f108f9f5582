/- The document's Right of a held route. -/
/- Whether a kernel may be. -/
/- Whether a kernel may be, as the program has it. -/
/- A kernel: what is free, which needs can be met. -/
/- Ways through sections; overlaps. -/
/- What steps want, what paths need. -/
/- Whether a path can be had, as the document has it. -/
/- Whether a path can be had, as the program has it. -/
/- The document's ways and overlaps. -/
/- What the document says that steps want, that paths need. -/
/- What the document says that paths need. -/
/- Whether a path can be had, as the document has it: the walk. -/
/- A kernel of nothing; a layout of two sections; paths that are too great. -/
/- A kernel: in memory of its own, the same, which may be. -/
/- Kernels that are the same; a kernel in memory of its own. -/
import Derived.Test.YtmaldhbaihlmbaaGreatDoorCh7
set_option linter.unusedSimpArgs false
set_option linter.unusedVariables false
namespace Go.Lb.LK
open Go Go.Lb Go.Proofs Go.RowKit

theorem right_facts {h : Hd} (hr : rightS h = true) : h.g1 ∧ h.g2 ∧ clashN h.needs h.needs = false ∧ h.wasOk = true ∧ h.secs.Nodup ∧ h.needs.all (needOk h.path.steps.length) = true := by
  simp only [rightS, Bool.and_eq_true, decide_eq_true_eq, Bool.not_eq_true'] at hr
  exact ⟨hr.1, hr.2.1, hr.2.2.1, hr.2.2.2.1, hr.2.2.2.2.1, hr.2.2.2.2.2⟩
theorem was_cell (h : Hd) (k : Nat) (hk : k < 12) : (h.cells[k * 1 + 8]?).getD .undef = .bool (h.was k) := by
  rw [Nat.mul_one, ← List.getD_eq_getElem?_getD]; exact was_get h hk _
theorem not_nodup_of {l : List Int} {i j : Nat} (hij : i < j) (hj : j < l.length) (he : l[i] = l[j]) : ¬ l.Nodup := by
  intro hn
  have := List.pairwise_iff_getElem.1 hn i j (by omega) hj hij
  exact this he
theorem nodup_step {l : List Int} {k : Nat} (hk : k < l.length) (hn : (l.take k).Nodup) (hi : ∀ i, (h : i < k) → l[i] ≠ l[k]) : (l.take (k + 1)).Nodup := by
  rw [List.take_add_one, List.getElem?_eq_getElem hk]
  simp only [Option.toList_some]
  rw [List.nodup_append]
  refine ⟨hn, by simp, ?_⟩
  intro a ha b hb
  simp at hb; subst hb
  obtain ⟨i, hi2, rfl⟩ := List.mem_iff_getElem.1 ha
  rw [List.length_take] at hi2
  rw [List.getElem_take]
  exact hi i (by omega)
theorem c_r17Right (h : Hd) (hl : h.len) (hs : 0 ≤ h.stage ∧ h.stage ≤ 255) : C f_lockbarref17_Right [h.av] (.bool (rightS h)) := by
  obtain ⟨l1, l2, l3⟩ := hl
  refine ctr h.cells run_lockbarref17_Right rfl (by simp) rfl ?_ rfl
  unfold rt_lockbarref17_Right
  simp [Hd.cells]
  refine callIf (avs := [needs h.needs, needs h.needs]) (.bool (clashN h.needs h.needs)) rfl (fun _ => ⟨by simp, c_r17clash _ _ (by omega) (by omega)⟩) (by simp) ?_
  by_cases g1 : h.g1 ∧ h.g2
  · have g1' := g1.1
    have g2' := g1.2
    obtain ⟨⟨a1, a2, a3, a4, a5, a6, a7⟩, d1, d2, d3, d4⟩ := g1
    have b1 : ¬ h.id < 1 := by omega
    have b2 : ¬ 1073741824 < h.id := by omega
    have b2' : ¬ 1073741824 < h.timer := by omega
    have b3 : ¬ h.timer < 0 := by omega
    have b4 : ¬ ((h.path.steps.length : Int) < 1) := by omega
    have b5 : ¬ (12 < (h.path.steps.length : Int)) := by omega
    have b6 : ¬ (2 < (h.over.length : Int)) := by omega
    have e1 : ¬ h.stage < 1 := by omega
    have e2 : ¬ 5 ≤ h.stage := by omega
    have e3 : ¬ h.gone < 0 := by omega
    have e4 : ¬ (h.path.steps.length : Int) < h.gone := by omega
    simp [b1, b2, b2', b3, b4, b5, b6, e1, e2, e3, e4]
    refine ⟨fun hc => by simp [rightS, hc], fun hc => ⟨fun a _ => by simp [Step.cells], by omega, fun a _ => by simp [Step.cells], by omega, ?_⟩⟩
    have hsecs : h.secs = (h.path.steps ++ h.over).map (·.s) := rfl
    have hlen : (h.path.steps ++ h.over).length = h.path.steps.length + h.over.length := by simp
    generalize hall : h.path.steps ++ h.over = all at hsecs hlen
    have hmap : List.map Step.av h.path.steps ++ List.map Step.av h.over = all.map Step.av := by rw [← hall, List.map_append]
    refine RTwp_loop rfl (fun vs => ∃ k : Nat, k ≤ all.length ∧ vs = [I k] ∧ ((all.map (·.s)).take k).Nodup) (fun vs => match vs with | [.int _ j] => all.length - j.toNat | _ => 0) ⟨0, by simp, by simp, by simp⟩ ?_
    rintro vs - ⟨k, hk, rfl, hnd⟩
    simp [hmap, ← hlen]
    refine ⟨fun hlt => ?_, fun hge => ?_⟩
    · have hltm : k < (all.map (·.s)).length := by simpa using hlt
      refine RTwp_loop rfl (fun vs => ∃ j : Nat, j ≤ k ∧ vs = [I j] ∧ ∀ i, i < j → ∀ x, all[i]? = some x → ¬ x.s = all[k].s) (fun vs => match vs with | [.int _ j] => k - j.toNat | _ => 0) ⟨0, by simp, by simp, by simp⟩ ?_
      rintro vs - ⟨j, hj, rfl, hne⟩
      simp [hmap]
      refine ⟨fun hjk => ?_, fun hjk => ?_⟩
      · have hja : j < all.length := by omega
        have hwr := wrap_succ (i := j) (by omega)
        simp [hlt, hja, Step.cells, hwr]
        refine ⟨by omega, by omega, ?_⟩
        by_cases he : all[j].s = all[k].s
        · right
          refine ⟨he, ?_⟩
          have : ¬ h.secs.Nodup := by
            rw [hsecs]
            exact not_nodup_of (i := j) (j := k) (by omega) (by simpa using hlt) (by simpa using he)
          simp [rightS, this]
        · left
          refine ⟨he, ⟨j + 1, by omega, by omega, fun i hi x hx => ?_⟩, by omega⟩
          by_cases hij : i = j
          · subst hij
            rw [List.getElem?_eq_getElem hja] at hx
            cases hx; exact he
          · exact hne i (by omega) x hx
      · have hwr := wrap_succ (i := k) (by omega)
        have hjk2 : j = k := by omega
        subst hjk2
        simp [hwr]
        refine ⟨⟨j + 1, by omega, by omega, ?_⟩, by omega⟩
        have := nodup_step hltm hnd (fun i hi he => hne i hi all[i] (List.getElem?_eq_getElem (by omega)) (by simpa using he))
        simpa using this
    · have hta : (all.map (·.s)).take k = all.map (·.s) := List.take_of_length_le (by simp; omega)
      rw [hta] at hnd
      have hno : h.secs.Nodup := by rw [hsecs]; exact hnd
      refine RTwp_loop rfl (fun vs => ∃ k : Nat, h.path.steps.length ≤ k ∧ k ≤ 12 ∧ vs = [I k] ∧ ∀ m, h.path.steps.length ≤ m → m < k → h.was m = false) (fun vs => match vs with | [.int _ j] => 12 - j.toNat | _ => 0) ⟨h.path.steps.length, by simp, by omega, by simp, fun m h1 h2 => by omega⟩ ?_
      rintro vs - ⟨m, hm1, hm2, rfl, hwm⟩
      simp
      refine ⟨fun hlt => ?_, fun hge => ?_⟩
      · have hlt2 : m < 12 := by omega
        have hwr := wrap_succ (i := m) (by omega)
        have hc2 := was_cell h m hlt2
        simp only [Hd.cells] at hc2
        simp at hc2
        simp [hc2, hwr]
        refine ⟨by omega, by omega, ?_⟩
        cases hw : h.was m
        · left
          refine ⟨rfl, ⟨m + 1, by omega, by omega, by omega, fun i h1 h2 => ?_⟩, by omega⟩
          by_cases him : i = m
          · subst him; exact hw
          · exact hwm i h1 (by omega)
        · right
          refine ⟨rfl, ?_⟩
          have : h.wasOk = false := by
            unfold Hd.wasOk
            rw [List.all_eq_false]
            refine ⟨m, by simpa using hlt2, ?_⟩
            simp [hw]; omega
          simp [rightS, this]
      · have hwo : h.wasOk = true := by
          unfold Hd.wasOk
          rw [List.all_eq_true]
          intro i hi
          simp only [List.mem_range] at hi
          by_cases hin : i < h.path.steps.length
          · simp [hin]
          · rw [hwm i (by omega) (by omega)]; simp
        have hr : rightS h = h.needs.all (needOk h.path.steps.length) := by simp [rightS, g1', g2', hc, hwo, hno]
        rw [hr]
        refine RTwp_loop rfl (fun vs => ∃ i : Nat, i ≤ h.needs.length ∧ vs = [I i] ∧ NoneIn (fun x => !needOk h.path.steps.length x) (h.needs.take i)) (fun vs => match vs with | [.int _ j] => h.needs.length - j.toNat | _ => 0) ⟨0, by simp, by simp, rfl⟩ ?_
        rintro vs - ⟨i, hi, rfl, hq⟩
        simp
        refine ⟨fun hlt => ?_, fun hge => ?_⟩
        · have hwr := wrap_succ (i := i) (by omega)
          simp [hlt, Need.cells, hwr]
          cases hok : needOk h.path.steps.length h.needs[i]
          · right
            refine ⟨?_, h.needs[i], List.getElem_mem hlt, hok⟩
            simp only [needOk, decide_eq_false_iff_not] at hok
            omega
          · left
            have hok2 := hok
            simp only [needOk, decide_eq_true_eq] at hok2
            exact ⟨by omega, ⟨i + 1, by omega, by omega, any_step hlt hq (by simp [hok])⟩, by omega⟩
        · have : h.needs.take i = h.needs := List.take_of_length_le (by omega)
          rw [this] at hq
          unfold NoneIn at hq
          simp at hq
          exact fun x hx => hq x hx
  · have hr : rightS h = false := by
      simp only [rightS]
      by_cases hg : h.g1
      · have : ¬ h.g2 := fun h2 => g1 ⟨hg, h2⟩
        simp [this]
      · simp [hg]
    rw [hr]
    simp
    intro q1 q2 q3 q4 q5 q6 q7 q8 q9 q10 q11 q12
    exfalso
    apply g1
    unfold Hd.g1 Hd.g2
    omega
end Go.Lb.LK

namespace Go.Lb.LK
open Go Go.Lb Go.Proofs Go.RowKit

def lastId (k : Kern) (i : Nat) : Int := if i = 0 then 0 else (k.held[i - 1]?.map (·.id)).getD 0
def okAt (k : Kern) (i : Nat) : Bool := match k.held[i]? with
  | some h => rightS h && (decide (h.id < k.next) && (decide (lastId k i < h.id) && (k.held.take i).all (apartS h)))
  | none => true
def machAll (k : Kern) : Bool := (List.range 24).all fun i => machOk (k.mach i)
def rightK (k : Kern) : Bool := decide (k.held.length ≤ 6 ∧ 1 ≤ k.next ∧ k.next ≤ 1073741824) && ((List.range k.held.length).all (okAt k) && machAll k)
theorem okAt_lt {k : Kern} {i : Nat} (h : i < k.held.length) : okAt k i = (rightS k.held[i] && (decide (k.held[i].id < k.next) && (decide (lastId k i < k.held[i].id) && (k.held.take i).all (apartS k.held[i])))) := by
  simp only [okAt, List.getElem?_eq_getElem h]
theorem rightK_bad {k : Kern} {i : Nat} (h : i < k.held.length) (hb : okAt k i = false) : rightK k = false := by
  have : (List.range k.held.length).all (okAt k) = false := by
    rw [List.all_eq_false]
    exact ⟨i, List.mem_range.2 h, by rw [hb]; simp⟩
  simp [rightK, this]
theorem lastId_succ {k : Kern} {i : Nat} (h : i < k.held.length) : lastId k (i + 1) = k.held[i].id := by
  simp [lastId, List.getElem?_eq_getElem h]
theorem aidxM (k : Kern) {i : Nat} {z : Int} (hz : z = i) (h : i < 24) : pv (.aidx 24 3 0 3 true) [.agg (mcells k.want k.run k.fail), I z] = (k.mach i).av := by
  subst hz
  match i, h with
  | 0, _ => rfl
  | 1, _ => rfl
  | 2, _ => rfl
  | 3, _ => rfl
  | 4, _ => rfl
  | 5, _ => rfl
  | 6, _ => rfl
  | 7, _ => rfl
  | 8, _ => rfl
  | 9, _ => rfl
  | 10, _ => rfl
  | 11, _ => rfl
  | 12, _ => rfl
  | 13, _ => rfl
  | 14, _ => rfl
  | 15, _ => rfl
  | 16, _ => rfl
  | 17, _ => rfl
  | 18, _ => rfl
  | 19, _ => rfl
  | 20, _ => rfl
  | 21, _ => rfl
  | 22, _ => rfl
  | 23, _ => rfl
  | n + 24, h => exact absurd h (by omega)
theorem aidxK (k : Kern) {i : Nat} {z : Int} (hz : z = i) (h : i < 24) : pv (.aidx 24 3 2 3 true) [.agg k.cells, I z] = (k.mach i).av := by
  subst hz
  match i, h with
  | 0, _ => rfl
  | 1, _ => rfl
  | 2, _ => rfl
  | 3, _ => rfl
  | 4, _ => rfl
  | 5, _ => rfl
  | 6, _ => rfl
  | 7, _ => rfl
  | 8, _ => rfl
  | 9, _ => rfl
  | 10, _ => rfl
  | 11, _ => rfl
  | 12, _ => rfl
  | 13, _ => rfl
  | 14, _ => rfl
  | 15, _ => rfl
  | 16, _ => rfl
  | 17, _ => rfl
  | 18, _ => rfl
  | 19, _ => rfl
  | 20, _ => rfl
  | 21, _ => rfl
  | 22, _ => rfl
  | 23, _ => rfl
  | n + 24, h => exact absurd h (by omega)
theorem range_hit {q : Nat → Bool} {n i : Nat} (h : i < n) (hb : q i = false) : (List.range n).all q = false := by
  rw [List.all_eq_false]
  exact ⟨i, List.mem_range.2 h, by rw [hb]; simp⟩
theorem range_all {q : Nat → Bool} {n : Nat} (h : ∀ i, i < n → q i = true) : (List.range n).all q = true := by
  rw [List.all_eq_true]
  exact fun i hi => h i (List.mem_range.1 hi)
set_option maxHeartbeats 2000000 in
theorem c_r18Right (k : Kern) (hl : k.len) (hk : k.ok) : C f_lockbarref18_Right [k.av] (.bool (rightK k)) := by
  have h1 := hl.1
  refine ctr k.cells run_lockbarref18_Right rfl (by simp) rfl ?_ rfl
  unfold rt_lockbarref18_Right
  simp [Kern.cells, -pv_aidx]
  refine ⟨fun hb => ?_, fun a1 a2 a3 => ?_⟩
  · have hg : ¬ (k.held.length ≤ 6 ∧ 1 ≤ k.next ∧ k.next ≤ 1073741824) := by omega
    simp only [rightK]; rw [decide_eq_false hg]; rfl
  · have hg : k.held.length ≤ 6 ∧ 1 ≤ k.next ∧ k.next ≤ 1073741824 := by omega
    refine RTwp_loop rfl (fun vs => ∃ i : Nat, i ≤ k.held.length ∧ vs = [I i] ∧ ∀ j, j < i → okAt k j = true) (fun vs => match vs with | [.int _ j] => k.held.length - j.toNat | _ => 0) ⟨0, by omega, by simp, fun j hj => by omega⟩ ?_
    rintro vs - ⟨i, hi, rfl, hq⟩
    simp [-pv_aidx]
    refine ⟨fun hlt => ?_, fun hge => ?_⟩
    · have hw := wrap_succ (i := i) (by omega)
      have hok := okAt_lt hlt
      simp [hlt, Hd.cells, -pv_aidx]
      refine call (c_r17Right k.held[i] (k.at hl hlt) (hk _ (List.getElem_mem hlt))) (by simp [hlt, Hd.cells]) (by simp) ?_
      by_cases hi0 : 0 < i
      · have hw0 : IntKind.i64.wrap ((i : Int) - 1) = (i : Int) - 1 := by rw [wrap_i] <;> omega
        have hlast : lastId k i = k.held[i - 1].id := by
          simp [lastId, show ¬ i = 0 by omega, List.getElem?_eq_getElem (show i - 1 < k.held.length by omega)]
        have hi1 : ((i : Int) - 1).toNat = i - 1 := by omega
        simp [hlt, hi0, hw0, hi1, Hd.cells, show i - 1 < k.held.length by omega, -pv_aidx]
        refine And.intro (by intros; omega) ?_
        refine ⟨fun hb => ?_, fun hr hn hli => ?_⟩
        · refine rightK_bad hlt ?_
          rw [hok, hlast]
          rcases hb with (hb | hb) | hb
          · simp [hb]
          · simp [show ¬ k.held[i].id < k.next by omega]
          · simp [show ¬ k.held[i - 1].id < k.held[i].id by omega]
        · rw [← hlast] at hli
          refine RTwp_loop rfl (fun vs => ∃ j : Nat, j ≤ i ∧ vs = [I j] ∧ NoneIn (fun o => !apartS k.held[i] o) (k.held.take j)) (fun vs => match vs with | [.int _ j] => i - j.toNat | _ => 0) ⟨0, by omega, by simp, rfl⟩ ?_
          rintro vs - ⟨j, hj, rfl, hp⟩
          simp [-pv_aidx]
          refine ⟨fun hlt2 => ?_, fun hge2 => ?_⟩
          · have hj2 : j < k.held.length := by omega
            have hwj := wrap_succ (i := j) (by omega)
            simp [hlt, hj2, Hd.cells, -pv_aidx]
            refine call (c_r17Apart k.held[i] k.held[j] (k.at hl hlt) (k.at hl hj2)) (by simp [hlt, hj2, Hd.cells]) (by simp) ?_
            cases ha : apartS k.held[i] k.held[j]
            · have hb : rightK k = false := by
                refine rightK_bad hlt ?_
                rw [hok]
                have : (k.held.take i).all (apartS k.held[i]) = false := by
                  rw [List.all_eq_false]
                  exact ⟨k.held[j], List.mem_take_iff_getElem.2 ⟨j, by omega, rfl⟩, by rw [ha]; simp⟩
                rw [this]; simp
              simp [hb, -pv_aidx]
            · simp [hwj, -pv_aidx]
              exact ⟨⟨j + 1, by omega, by omega, any_step hj2 hp (by simp [ha])⟩, by omega⟩
          · have hji : j = i := by omega
            subst hji
            have hall : (k.held.take j).all (apartS k.held[j]) = true := by
              rw [List.all_eq_true]
              intro x hx
              have := List.any_eq_false.1 hp x hx
              simpa using this
            have hokj : okAt k j = true := by rw [hok, hr, hall, decide_eq_true hn, decide_eq_true hli]; rfl
            simp [hlt, hw, Hd.cells, -pv_aidx]
            refine ⟨⟨j + 1, by omega, by omega, fun m hm => ?_⟩, by omega⟩
            by_cases hmj : m = j
            · subst hmj; exact hokj
            · exact hq m (by omega)
      · have hi0' : i = 0 := by omega
        have hlast : lastId k i = 0 := by simp [lastId, hi0']
        simp [hlt, hi0, Hd.cells, -pv_aidx]
        refine ⟨fun hb => ?_, fun hr hn => ?_⟩
        · refine rightK_bad hlt ?_
          rw [hok]
          rcases hb with hb | hb
          · simp [hb]
          · simp [show ¬ k.held[i].id < k.next by omega]
        · have hli : lastId k i < k.held[i].id := by
            rw [hlast]
            obtain ⟨⟨q1, _⟩, _⟩ := right_facts hr
            omega
          refine RTwp_loop rfl (fun vs => ∃ j : Nat, j ≤ i ∧ vs = [I j] ∧ NoneIn (fun o => !apartS k.held[i] o) (k.held.take j)) (fun vs => match vs with | [.int _ j] => i - j.toNat | _ => 0) ⟨0, by omega, by simp, rfl⟩ ?_
          rintro vs - ⟨j, hj, rfl, hp⟩
          simp [-pv_aidx]
          refine ⟨fun hlt2 => ?_, fun hge2 => ?_⟩
          · have hj2 : j < k.held.length := by omega
            have hwj := wrap_succ (i := j) (by omega)
            simp [hlt, hj2, Hd.cells, -pv_aidx]
            refine call (c_r17Apart k.held[i] k.held[j] (k.at hl hlt) (k.at hl hj2)) (by simp [hlt, hj2, Hd.cells]) (by simp) ?_
            cases ha : apartS k.held[i] k.held[j]
            · have hb : rightK k = false := by
                refine rightK_bad hlt ?_
                rw [hok]
                have : (k.held.take i).all (apartS k.held[i]) = false := by
                  rw [List.all_eq_false]
                  exact ⟨k.held[j], List.mem_take_iff_getElem.2 ⟨j, by omega, rfl⟩, by rw [ha]; simp⟩
                rw [this]; simp
              simp [hb, -pv_aidx]
            · simp [hwj, -pv_aidx]
              exact ⟨⟨j + 1, by omega, by omega, any_step hj2 hp (by simp [ha])⟩, by omega⟩
          · have hji : j = i := by omega
            subst hji
            have hall : (k.held.take j).all (apartS k.held[j]) = true := by
              rw [List.all_eq_true]
              intro x hx
              have := List.any_eq_false.1 hp x hx
              simpa using this
            have hokj : okAt k j = true := by rw [hok, hr, hall, decide_eq_true hn, decide_eq_true hli]; rfl
            simp [hlt, hw, Hd.cells, -pv_aidx]
            refine ⟨⟨j + 1, by omega, by omega, fun m hm => ?_⟩, by omega⟩
            by_cases hmj : m = j
            · subst hmj; exact hokj
            · exact hq m (by omega)
    · have hA : (List.range k.held.length).all (okAt k) = true := range_all fun j hj => hq j (by omega)
      refine RTwp_loop rfl (fun vs => ∃ m : Nat, m ≤ 24 ∧ vs = [I m] ∧ ∀ j, j < m → machOk (k.mach j) = true) (fun vs => match vs with | [.int _ j] => 24 - j.toNat | _ => 0) ⟨0, by omega, by simp, fun j hj => by omega⟩ ?_
      rintro vs - ⟨m, hm, rfl, hqm⟩
      simp [-pv_aidx]
      refine ⟨fun hlt => ?_, fun hge => ?_⟩
      · have hm24 : m < 24 := by omega
        have hw := wrap_succ (i := m) (by omega)
        have hMM := aidxK k (i := m) (z := (m : Int)) rfl hm24
        simp only [Kern.cells] at hMM
        skip
        repeat refine And.intro (by omega) ?_
        refine call (c_r16Right (k.mach m)) (by simp [hMM, Mach.cells, -pv_aidx]) (by simp) ?_
        cases hmo : machOk (k.mach m)
        · have : rightK k = false := by
            have : machAll k = false := range_hit hm24 hmo
            simp [rightK, this]
          simp [this, -pv_aidx]
        · simp [hw, -pv_aidx]
          refine ⟨⟨m + 1, by omega, by omega, fun j hj => ?_⟩, by omega⟩
          by_cases hjm : j = m
          · subst hjm; exact hmo
          · exact hqm j (by omega)
      · have hmall : machAll k = true := range_all fun j hj => hqm j (by omega)
        have : rightK k = true := by simp only [rightK, hA, hmall]; rw [decide_eq_true hg]; rfl
        simp [this, -pv_aidx]
end Go.Lb.LK

namespace Go.Lb.LK
open Go Go.Lb Go.Proofs Go.RowKit

set_option maxHeartbeats 2000000 in
theorem c_free_Right (k : Kern) (hl : k.len) (hk : k.ok) : C f_free_Right [k.av] (.bool (rightK k)) := by
  have h1 := hl.1
  refine ctr k.cells run_free_Right rfl (by simp) rfl ?_ rfl
  unfold rt_free_Right
  simp [Kern.cells, -pv_aidx]
  refine ⟨fun hb => ?_, fun a1 a2 a3 => ?_⟩
  · have hg : ¬ (k.held.length ≤ 6 ∧ 1 ≤ k.next ∧ k.next ≤ 1073741824) := by omega
    simp only [rightK]; rw [decide_eq_false hg]; rfl
  · have hg : k.held.length ≤ 6 ∧ 1 ≤ k.next ∧ k.next ≤ 1073741824 := by omega
    refine RTwp_loop rfl (fun vs => ∃ i : Nat, i ≤ k.held.length ∧ vs = [I (lastId k i), I i] ∧ ∀ j, j < i → okAt k j = true) (fun vs => match vs with | [_, .int _ j] => k.held.length - j.toNat | _ => 0) ⟨0, by omega, by simp [lastId], fun j hj => by omega⟩ ?_
    rintro vs - ⟨i, hi, rfl, hq⟩
    simp [-pv_aidx]
    refine ⟨fun hlt => ?_, fun hge => ?_⟩
    · have hw := wrap_succ (i := i) (by omega)
      have hok := okAt_lt hlt
      have hsucc := lastId_succ hlt
      simp [hlt, Hd.cells, -pv_aidx]
      refine call (c_held_Right k.held[i] (k.at hl hlt) (hk _ (List.getElem_mem hlt))) (by simp [hlt, Hd.cells]) (by simp) ?_
      simp [hlt, Hd.cells, -pv_aidx]
      refine And.intro (fun _ _ _ => by omega) ?_
      refine ⟨fun hb => ?_, fun hr hli hn => ?_⟩
      · refine rightK_bad hlt ?_
        rw [hok]
        rcases hb with (hb | hb) | hb
        · simp [hb]
        · simp [show ¬ lastId k i < k.held[i].id by omega]
        · simp [show ¬ k.held[i].id < k.next by omega]
      · refine RTwp_loop rfl (fun vs => ∃ j : Nat, j ≤ i ∧ vs = [I j] ∧ NoneIn (fun o => !apartS k.held[i] o) (k.held.take j)) (fun vs => match vs with | [.int _ j] => i - j.toNat | _ => 0) ⟨0, by omega, by simp, rfl⟩ ?_
        rintro vs - ⟨j, hj, rfl, hp⟩
        simp [-pv_aidx]
        refine ⟨fun hlt2 => ?_, fun hge2 => ?_⟩
        · have hj2 : j < k.held.length := by omega
          have hwj := wrap_succ (i := j) (by omega)
          simp [hlt, hj2, hlt2, Hd.cells, -pv_aidx]
          refine call (c_held_Apart k.held[i] k.held[j] (k.at hl hlt) (k.at hl hj2)) (by simp [hlt, hj2, hlt2, Hd.cells]) (by simp) ?_
          cases ha : apartS k.held[i] k.held[j]
          · have hb : rightK k = false := by
              refine rightK_bad hlt ?_
              rw [hok]
              have : (k.held.take i).all (apartS k.held[i]) = false := by
                rw [List.all_eq_false]
                exact ⟨k.held[j], List.mem_take_iff_getElem.2 ⟨j, by omega, rfl⟩, by rw [ha]; simp⟩
              rw [this]; simp
            simp [hb, -pv_aidx]
          · simp [hwj, -pv_aidx]
            exact ⟨⟨j + 1, by omega, by omega, any_step hj2 hp (by simp [ha])⟩, by omega⟩
        · have hji : j = i := by omega
          subst hji
          have hall : (k.held.take j).all (apartS k.held[j]) = true := by
            rw [List.all_eq_true]
            intro x hx
            have := List.any_eq_false.1 hp x hx
            simpa using this
          have hokj : okAt k j = true := by rw [hok, hr, hall, decide_eq_true hn, decide_eq_true hli]; rfl
          simp [hlt, hw, Hd.cells, -pv_aidx]
          refine ⟨⟨j + 1, by omega, ⟨hsucc.symm, by omega⟩, fun m hm => ?_⟩, by omega⟩
          by_cases hmj : m = j
          · subst hmj; exact hokj
          · exact hq m (by omega)
    · have hA : (List.range k.held.length).all (okAt k) = true := range_all fun j hj => hq j (by omega)
      refine RTwp_loop rfl (fun vs => ∃ m : Nat, m ≤ 24 ∧ vs = [I m] ∧ ∀ j, j < m → machOk (k.mach j) = true) (fun vs => match vs with | [.int _ j] => 24 - j.toNat | _ => 0) ⟨0, by omega, by simp, fun j hj => by omega⟩ ?_
      rintro vs - ⟨m, hm, rfl, hqm⟩
      simp [-pv_aidx]
      refine ⟨fun hlt => ?_, fun hge => ?_⟩
      · have hm24 : m < 24 := by omega
        have hw := wrap_succ (i := m) (by omega)
        have hMM := aidxM k (i := m) (z := (m : Int)) rfl hm24
        simp only [mcells] at hMM
        simp [hMM, Mach.cells, -pv_aidx]
        repeat refine And.intro (by omega) ?_
        refine call (c_point_Right (k.mach m)) (by simp [hMM, Mach.cells, -pv_aidx]) (by simp) ?_
        cases hmo : machOk (k.mach m)
        · have : rightK k = false := by
            have : machAll k = false := range_hit hm24 hmo
            simp [rightK, this]
          simp [this, -pv_aidx]
        · simp [hw, -pv_aidx]
          refine ⟨⟨m + 1, by omega, by omega, fun j hj => ?_⟩, by omega⟩
          by_cases hjm : j = m
          · subst hjm; exact hmo
          · exact hqm j (by omega)
      · have hmall : machAll k = true := range_all fun j hj => hqm j (by omega)
        have : rightK k = true := by simp only [rightK, hA, hmall]; rw [decide_eq_true hg]; rfl
        simp [this, -pv_aidx]
end Go.Lb.LK

namespace Go.Lb.LK
open Go Go.Lb Go.Proofs Go.RowKit

theorem liks (l : Lay) (im : Img) (k : Kern) (xs : List AV) (h : AV.pureAll xs = true) : AV.pureAll (l.cells ++ im.cells ++ k.cells ++ xs) = true := by simp [pureAll_append, h]
def freeN (l : Lay) (im : Img) (k : Kern) (s : Int) : Bool := (holderN k s).isNone && !occupied l im s
theorem c_free_Free (l : Lay) (im : Img) (hi : im.ok) (k : Kern) (hl : k.len) (s : Int) : C f_free_Free [l.av, im.av, k.av, I s] (.bool (freeN l im k s)) := by
  refine ctr (l.cells ++ im.cells ++ k.cells ++ [I s]) run_free_Free rfl (liks l im k _ rfl) rfl ?_ rfl
  unfold rt_free_Free
  simp [Lay.cells, Img.cells, Kern.cells]
  refine call (c_free_Holder k hl s) (by simp [Kern.cells]) (by simp [optP]) ?_
  simp [optP]
  refine callIf (avs := [l.av, im.av, I s]) (.bool (occupied l im s)) rfl (fun _ => ⟨by simp [Lay.cells, Img.cells], c_image_Occupied l im hi s⟩) (by simp) ?_
  cases h : holderN k s <;> simp [freeN, h]
theorem c_r18Free (l : Lay) (im : Img) (hi : im.ok) (k : Kern) (hl : k.len) (s : Int) : C f_lockbarref18_Free [l.av, im.av, k.av, I s] (.bool (freeN l im k s)) := by
  refine ctr (l.cells ++ im.cells ++ k.cells ++ [I s]) run_lockbarref18_Free rfl (liks l im k _ rfl) rfl ?_ rfl
  unfold rt_lockbarref18_Free
  simp [Lay.cells, Img.cells, Kern.cells]
  refine call (c_r18Holder k hl s) (by simp [Kern.cells]) (by simp [optP]) ?_
  simp [optP]
  refine callIf (avs := [l.av, im.av, I s]) (.bool (occupied l im s)) rfl (fun _ => ⟨by simp [Lay.cells, Img.cells], c_r15Occupied l im hi s⟩) (by simp) ?_
  cases h : holderN k s <;> simp [freeN, h]
def meetsN (l : Lay) (im : Img) (k : Kern) (n : Need) : Bool :=
  decide (0 ≤ n.p ∧ n.p < 24) && (match wantedN k n.p with
    | some pos => decide (pos = n.pos) && (decide (atP l im n.p = n.pos) || !lockedN k n.p)
    | none => decide (atP l im n.p = n.pos) || (!k.fail n.p.toNat && freeN l im k n.p))
theorem aidxF (k : Kern) {i : Nat} {z : Int} (hz : z = i) (h : i < 24) : pv (.aidx 24 3 4 1 false) [.agg k.cells, I z] = .bool (k.fail i) := by
  subst hz
  have := mach_fail k.want k.run k.fail h .undef
  have e : k.cells.getD (i * 3 + 4) .undef = .bool (k.fail i) := by
    rw [← this]; rfl
  simp only [pv_aidx, Int.toNat_natCast, AV.cut]
  rw [e]
theorem c_free_Meets (l : Lay) (im : Img) (hi : im.ok) (k : Kern) (hl : k.len) (n : Need) : C f_free_Meets [l.av, im.av, k.av, n.av] (.bool (meetsN l im k n)) := by
  refine ctr (l.cells ++ im.cells ++ k.cells ++ n.cells) run_free_Meets rfl (liks l im k _ (by simp)) rfl ?_ rfl
  unfold rt_free_Meets
  simp [Lay.cells, Img.cells, Kern.cells, Need.cells, -pv_aidx]
  refine ⟨fun hb => by unfold meetsN; rw [decide_eq_false (by omega)]; rfl, fun h0 h24 => ?_⟩
  have hA := aidxF k (i := n.p.toNat) (z := n.p) (by omega) (by omega)
  simp only [Kern.cells] at hA
  refine call (c_image_At l im hi n.p) (by simp [Lay.cells, Img.cells]) (by simp) ?_
  simp [-pv_aidx]
  refine call (c_free_Wanted k hl n.p) (by simp [Kern.cells]) (by simp [optP]) ?_
  cases hm : wantedN k n.p with
  | some pos =>
    simp [optP, -pv_aidx]
    by_cases hp : pos = n.pos
    · simp [hp]
      refine callIf (avs := [k.av, I n.p]) (.bool (lockedN k n.p)) rfl (fun _ => ⟨by simp [Kern.cells], c_free_Locked k hl n.p⟩) (by simp) ?_
      by_cases ha : atP l im n.p = n.pos <;> simp [meetsN, h0, h24, hm, hp, ha]
    · simp [hp, meetsN, h0, h24, hm]
  | none =>
    simp [optP, hA, -pv_aidx]
    repeat refine And.intro (by intros; omega) ?_
    refine callIf (avs := [l.av, im.av, k.av, I n.p]) (.bool (freeN l im k n.p)) rfl (fun _ => ⟨by simp [Lay.cells, Img.cells, Kern.cells], c_free_Free l im hi k hl n.p⟩) (by simp) ?_
    simp [hA, -pv_aidx]
    repeat refine And.intro (by intros; omega) ?_
    by_cases ha : atP l im n.p = n.pos <;> cases hf : k.fail n.p.toNat <;> simp [meetsN, h0, h24, hm, ha, hf]
theorem c_r18Meets (l : Lay) (im : Img) (hi : im.ok) (k : Kern) (hl : k.len) (n : Need) : C f_lockbarref18_Meets [l.av, im.av, k.av, n.av] (.bool (meetsN l im k n)) := by
  refine ctr (l.cells ++ im.cells ++ k.cells ++ n.cells) run_lockbarref18_Meets rfl (liks l im k _ (by simp)) rfl ?_ rfl
  unfold rt_lockbarref18_Meets
  simp [Lay.cells, Img.cells, Kern.cells, Need.cells, -pv_aidx]
  refine ⟨fun hb => by unfold meetsN; rw [decide_eq_false (by omega)]; rfl, fun h0 h24 => ?_⟩
  have hA := aidxF k (i := n.p.toNat) (z := n.p) (by omega) (by omega)
  simp only [Kern.cells] at hA
  refine call (c_r15At l im hi n.p) (by simp [Lay.cells, Img.cells]) (by simp) ?_
  simp [-pv_aidx]
  refine call (c_r18Wanted k hl n.p) (by simp [Kern.cells]) (by simp [optP]) ?_
  cases hm : wantedN k n.p with
  | some pos =>
    simp [optP, -pv_aidx]
    refine callIf (avs := [k.av, I n.p]) (.bool (lockedN k n.p)) rfl (fun _ => ⟨by simp [Kern.cells], c_r18Locked k hl n.p⟩) (by simp) ?_
    by_cases hp : pos = n.pos <;> by_cases ha : atP l im n.p = n.pos <;> cases hk : lockedN k n.p <;> simp [meetsN, h0, h24, hm, hp, ha, hk]
  | none =>
    simp [optP, hA, -pv_aidx]
    repeat refine And.intro (by intros; omega) ?_
    refine callIf (avs := [l.av, im.av, k.av, I n.p]) (.bool (freeN l im k n.p)) rfl (fun _ => ⟨by simp [Lay.cells, Img.cells, Kern.cells], c_r18Free l im hi k hl n.p⟩) (by simp) ?_
    simp [hA, -pv_aidx]
    repeat refine And.intro (by intros; omega) ?_
    by_cases ha : atP l im n.p = n.pos <;> cases hf : k.fail n.p.toNat <;> simp [meetsN, h0, h24, hm, ha, hf]
end Go.Lb.LK

namespace Go.Lb.LK
open Go Go.Lb Go.Proofs Go.RowKit

def kindCells (k : Int) : List AV :=
  if k = 1 then [I 2, I 0, I 1, I 0, I 0, I 1, .bool false] else if k = 2 then [I 3, I 0, I 1, I 0, I 2, I 2, .bool true]
  else if k = 3 then [I 4, I 0, I 1, I 2, I 3, I 2, .bool false] else [I 0, I 0, I 0, I 0, I 0, I 0, .bool false]
theorem kind_cases {k : Int} (h0 : 0 ≤ k) (h1 : k ≤ 255) : k = 0 ∨ k = 1 ∨ k = 2 ∨ k = 3 ∨ 4 ≤ k := by omega

theorem c_port_of (k : Int) (h0 : 0 ≤ k) (h1 : k ≤ 255) : C f_port_of [U k] (.agg (kindCells k)) := by
  refine ctr [U k] run_port_of rfl rfl ?_ ?_ rfl
  · unfold kindCells; repeat' split
    all_goals rfl
  · unfold rt_port_of
    have hw : IntKind.i64.wrap k = k := by rw [wrap_i] <;> omega
    rcases kind_cases h0 h1 with rfl | rfl | rfl | rfl | h
    · simp [kindCells, hw]
    · simp [kindCells, hw]
    · simp [kindCells, hw]
    · simp [kindCells, hw]
    · have : ¬ k < 4 := by omega
      simp [hw, this, kindCells, show k ≠ 1 by omega, show k ≠ 2 by omega, show k ≠ 3 by omega]

/-- The way from one port to another one. -/
def way (k i o : Int) : Int × Bool :=
  if (k = 1 ∨ k = 2 ∨ k = 3) ∧ (i = 0 ∧ o = 1 ∨ i = 1 ∧ o = 0) then (0, true)
  else if k = 2 ∧ (i = 0 ∧ o = 2 ∨ i = 2 ∧ o = 0) then (1, true)
  else if k = 3 ∧ (i = 2 ∧ o = 3 ∨ i = 3 ∧ o = 2) then (1, true) else (0, false)
theorem w1 : IntKind.i64.wrap 1 = 1 := by decide
theorem w2 : IntKind.i64.wrap 2 = 2 := by decide
abbrev ib (x : Int × Bool) : AV := .tup [I x.1, .bool x.2]

theorem c_port_Way (k i o : Int) (h0 : 0 ≤ k) (h1 : k ≤ 255) : C f_port_Way [U k, I i, I o] (ib (way k i o)) := by
  refine ctr [U k, I i, I o] run_port_Way rfl rfl rfl ?_ rfl
  unfold rt_port_Way
  simp
  refine RTwp_call0 (c_port_of k h0 h1) (by simp) ?_
  rcases kind_cases h0 h1 with rfl | rfl | rfl | rfl | h
  · simp [kindCells]
    refine RTwp_loop rfl (fun vs => vs = [I 0]) (fun _ => 0) rfl ?_
    rintro vs - rfl
    simp [way]
  · simp [kindCells]
    refine RTwp_loop rfl (fun vs => vs = [I 0] ∨ vs = [I 1] ∧ way 1 i o = (0, false)) (fun vs => match vs with | [.int _ j] => 3 - j.toNat | _ => 0) (.inl rfl) ?_
    rintro vs - (rfl | ⟨rfl, hw⟩)
    · by_cases c1 : i = 0 ∧ o = 1 ∨ i = 1 ∧ o = 0 <;> simp [way, c1, w1] <;> omega
    · simp [hw]
  · simp [kindCells]
    refine RTwp_loop rfl (fun vs => vs = [I 0] ∨ vs = [I 1] ∧ ¬ (i = 0 ∧ o = 1 ∨ i = 1 ∧ o = 0) ∨ vs = [I 2] ∧ way 2 i o = (0, false)) (fun vs => match vs with | [.int _ j] => 3 - j.toNat | _ => 0) (.inl rfl) ?_
    rintro vs - (rfl | ⟨rfl, hw⟩ | ⟨rfl, hw⟩)
    · by_cases c1 : i = 0 ∧ o = 1 ∨ i = 1 ∧ o = 0 <;> simp [way, c1, w1] <;> omega
    · by_cases c1 : i = 0 ∧ o = 2 ∨ i = 2 ∧ o = 0 <;> simp [way, c1, hw, w2] <;> omega
    · simp [hw]
  · simp [kindCells]
    refine RTwp_loop rfl (fun vs => vs = [I 0] ∨ vs = [I 1] ∧ ¬ (i = 0 ∧ o = 1 ∨ i = 1 ∧ o = 0) ∨ vs = [I 2] ∧ way 3 i o = (0, false)) (fun vs => match vs with | [.int _ j] => 3 - j.toNat | _ => 0) (.inl rfl) ?_
    rintro vs - (rfl | ⟨rfl, hw⟩ | ⟨rfl, hw⟩)
    · by_cases c1 : i = 0 ∧ o = 1 ∨ i = 1 ∧ o = 0 <;> simp [way, c1, w1] <;> omega
    · by_cases c1 : i = 2 ∧ o = 3 ∨ i = 3 ∧ o = 2 <;> simp [way, c1, hw, w2] <;> omega
    · simp [hw]
  · simp [kindCells, show k ≠ 1 by omega, show k ≠ 2 by omega, show k ≠ 3 by omega]
    refine RTwp_loop rfl (fun vs => vs = [I 0]) (fun _ => 0) rfl ?_
    rintro vs - rfl
    simp [way, show k ≠ 1 by omega, show k ≠ 2 by omega, show k ≠ 3 by omega]

theorem c_port_Pos (k i o : Int) (h0 : 0 ≤ k) (h1 : k ≤ 255) : C f_port_Pos [U k, I i, I o] (ib (if (way k i o).2 = true ∧ k ≠ 2 then (-1, true) else way k i o)) := by
  refine ctr [U k, I i, I o] run_port_Pos rfl rfl rfl ?_ rfl
  unfold rt_port_Pos
  refine RTwp_call0 (c_port_Way k i o h0 h1) (by simp) ?_
  simp
  refine RTwp_call (.agg (kindCells k)) (c_port_of k h0 h1).1 (fun _ => ⟨c_port_of k h0 h1, by simp⟩) ?_
  generalize way k i o = w
  obtain ⟨a, b⟩ := w
  rcases kind_cases h0 h1 with rfl | rfl | rfl | rfl | h <;> cases b
  any_goals simp [kindCells]
  · simp [kindCells, show k ≠ 1 by omega, show k ≠ 2 by omega, show k ≠ 3 by omega]

/-! ### A layout's places -/
def secAt (l : Lay) (s : Int) : Option Sec := if 0 ≤ s then l.secs[s.toNat]? else none
theorem secAt_in {l : Lay} {s : Int} (h0 : 0 ≤ s) (h1 : s < l.secs.length) : ∃ n : Nat, s = n ∧ ∃ h : n < l.secs.length, secAt l s = some (l.secs[n]) := by
  refine ⟨s.toNat, by omega, by omega, ?_⟩
  unfold secAt
  rw [if_pos h0, List.getElem?_eq_getElem]
theorem secAt_out {l : Lay} {s : Int} (h : ¬ (0 ≤ s ∧ s < l.secs.length)) : secAt l s = none := by
  unfold secAt
  split
  · exact List.getElem?_eq_none (by omega)
  · rfl
theorem secAt_some {l : Lay} {s : Int} {x : Sec} (h : secAt l s = some x) : 0 ≤ s ∧ s < l.secs.length ∧ x ∈ l.secs := by
  by_cases hc : 0 ≤ s ∧ s < l.secs.length
  · obtain ⟨n, hn, hl, h2⟩ := secAt_in hc.1 hc.2
    rw [h2] at h
    simp only [Option.some.injEq] at h; subst h
    exact ⟨hc.1, hc.2, List.getElem_mem hl⟩
  · rw [secAt_out hc] at h; cases h
/-- The way of a step. -/
def lstep (l : Lay) (s : Step) : Int × Bool := match secAt l s.s with
  | some x => way x.kind s.i s.o
  | none => (0, false)

theorem c_layout_Step (l : Lay) (hl : l.ok) (s : Step) : C f_layout_Step [l.av, s.av] (ib (lstep l s)) := by
  refine ctr (l.cells ++ s.cells) run_layout_Step rfl (by simp [pureAll_append]) rfl ?_ rfl
  unfold rt_layout_Step
  simp [Lay.cells, Step.cells]
  by_cases hc : 0 ≤ s.s ∧ s.s < l.secs.length
  · obtain ⟨n, hn, hlt, he⟩ := secAt_in hc.1 hc.2
    have hk := hl _ (List.getElem_mem hlt)
    simp [hn, hlt, Sec.cells]
    refine ⟨fun h => absurd h (by omega), ?_⟩
    refine call (c_port_Way _ s.i s.o hk.1 hk.2) (by simp [hlt, Sec.cells]) (by simp) ?_
    simp [lstep, he]
  · have h2 : 0 ≤ s.s → ¬ s.s < l.secs.length := by omega
    simp [lstep, secAt_out hc]
    exact fun a b => absurd ⟨a, b⟩ hc

/-! ### Overlaps -/
def exitAt (l : Lay) (x : Int) : Option Exi := if 0 ≤ x then l.exits[x.toNat]? else none
theorem exitAt_in {l : Lay} {s : Int} (h0 : 0 ≤ s) (h1 : s < l.exits.length) : ∃ n : Nat, s = n ∧ ∃ h : n < l.exits.length, exitAt l s = some (l.exits[n]) := by
  refine ⟨s.toNat, by omega, by omega, ?_⟩
  unfold exitAt
  rw [if_pos h0, List.getElem?_eq_getElem]
theorem exitAt_out {l : Lay} {s : Int} (h : ¬ (0 ≤ s ∧ s < l.exits.length)) : exitAt l s = none := by
  unfold exitAt
  split
  · exact List.getElem?_eq_none (by omega)
  · rfl
/-- An exit's overlap. -/
def over (l : Lay) (x : Int) : List Step := match exitAt l x with
  | some e => e.over
  | none => []
/-- Overlaps are no longer than the machine bears. -/
def Lay.ovOk (l : Lay) : Prop := ∀ e ∈ l.exits, e.over.length ≤ 4294967296
theorem over_len {l : Lay} (h : l.ovOk) (x : Int) : (over l x).length ≤ 4294967296 := by
  unfold over
  split
  · rename_i e he
    by_cases hc : 0 ≤ x ∧ x < l.exits.length
    · obtain ⟨n, hn, hlt, h2⟩ := exitAt_in hc.1 hc.2
      rw [h2] at he
      simp only [Option.some.injEq] at he; subst he
      exact h _ (List.getElem_mem hlt)
    · rw [exitAt_out hc] at he; cases he
  · simp

theorem c_beyond_Over (l : Lay) (ho : l.ovOk) (x : Int) : C f_beyond_Over [l.av, I x] (steps (over l x)) := by
  refine ctr (l.cells ++ [I x]) run_beyond_Over rfl (by simp [pureAll_append, AV.pureAll, AV.pure]) (by simp [AV.pure]) ?_ rfl
  unfold rt_beyond_Over
  simp [Lay.cells]
  by_cases hc : 0 ≤ x ∧ x < l.exits.length
  · obtain ⟨n, hn, hlt, he⟩ := exitAt_in hc.1 hc.2
    have hk := ho _ (List.getElem_mem hlt)
    subst hn
    simp [hlt, Exi.cells]
    refine ⟨fun h => by omega, ?_⟩
    refine call (c_slices_Clone_Step _ hk) (by simp [hlt, Exi.cells]) (by simp) ?_
    simp [over, he]
  · simp [over, exitAt_out hc]
    exact fun a b => absurd ⟨a, b⟩ hc
end Go.Lb.LK

namespace Go.Lb.LK
open Go Go.Lb Go.Proofs Go.RowKit

/-- A step's point. -/
def point (l : Lay) (s : Step) : Int × Int × Bool := match secAt l s.s with
  | some x => if (way x.kind s.i s.o).2 = true ∧ x.kind = 2 then (s.s, (way 2 s.i s.o).1, true) else (0, 0, false)
  | none => (0, 0, false)
abbrev iib (x : Int × Int × Bool) : AV := .tup [I x.1, I x.2.1, .bool x.2.2]

theorem c_beyond_Point (l : Lay) (hl : l.ok) (s : Step) : C f_beyond_Point [l.av, s.av] (iib (point l s)) := by
  refine ctr (l.cells ++ s.cells) run_beyond_Point rfl (by simp [pureAll_append]) rfl ?_ rfl
  unfold rt_beyond_Point
  simp [Lay.cells, Step.cells]
  refine call (c_layout_Step l hl s) (by simp [Lay.cells, Step.cells]) (by simp) ?_
  by_cases hc : 0 ≤ s.s ∧ s.s < l.secs.length
  · obtain ⟨n, hn, hlt, he⟩ := secAt_in hc.1 hc.2
    have hls : lstep l s = way l.secs[n].kind s.i s.o := by simp [lstep, he]
    have hpt : point l s = if (way l.secs[n].kind s.i s.o).2 = true ∧ l.secs[n].kind = 2 then (s.s, (way 2 s.i s.o).1, true) else (0, 0, false) := by simp [point, he]
    rw [hls, hpt]
    clear hls hpt
    cases hw : (way l.secs[n].kind s.i s.o).2
    · simp [hn, hlt, Sec.cells, hw]
    · by_cases hk : l.secs[n].kind = 2
      · rw [hk] at hw ⊢
        simp [hn, hlt, Sec.cells, hw, hk]
        refine call (c_port_Pos 2 s.i s.o (by omega) (by omega)) (by simp) (by simp) ?_
        simp
      · simp [hn, hlt, Sec.cells, hw, hk]
  · simp [point, lstep, secAt_out hc]

def flankOn (l : Lay) (s : Step) (f : Flank) : Bool := (lstep l s).2 && decide (f.s = s.s) && decide (f.way = (lstep l s).1)
/-- What a step wants. -/
def wants (l : Lay) (s : Step) (k : Int) : List Need :=
  (if (point l s).2.2 = true then [⟨(point l s).1, (point l s).2.1, k⟩] else []) ++ (l.flanks.filter (flankOn l s)).map fun f => ⟨f.point, f.pos, k⟩

theorem c_beyond_Wants (l : Lay) (hl : l.ok) (hf : l.flanks.length ≤ 2147483648) (s : Step) (k : Int) : C f_beyond_Wants [l.av, s.av, I k] (needs (wants l s k)) := by
  refine ctr (l.cells ++ s.cells ++ [I k]) run_beyond_Wants rfl (by simp [pureAll_append, AV.pureAll, AV.pure]) (by simp [AV.pure]) ?_ rfl
  unfold rt_beyond_Wants
  simp [Lay.cells, Step.cells]
  refine call (c_beyond_Point l hl s) (by simp [Lay.cells, Step.cells]) (by simp) ?_
  simp
  have hlen : ∀ i, ((l.flanks.take i).filter (flankOn l s)).length ≤ 2147483648 := fun i => by
    have := List.length_filter_le (flankOn l s) (l.flanks.take i)
    have : (l.flanks.take i).length ≤ l.flanks.length := by simp; omega
    omega
  refine ⟨fun hp => ?_, fun hp => ?_⟩
  all_goals
    refine call (c_layout_Step l hl s) (by simp [Lay.cells, Step.cells]) (by simp) ?_
    simp
    refine RTwp_loop rfl (fun vs => ∃ i : Nat, i ≤ l.flanks.length ∧ vs = [I i, needs ((if (point l s).2.2 = true then [⟨(point l s).1, (point l s).2.1, k⟩] else []) ++ ((l.flanks.take i).filter (flankOn l s)).map (fun f => ⟨f.point, f.pos, k⟩))]) (fun vs => match vs with | .int _ j :: _ => l.flanks.length - j.toNat | _ => 0) ⟨0, by simp, by simp [hp, Need.cells]⟩ ?_
    rintro vs - ⟨i, hi, rfl⟩
    have hli := hlen i
    simp
    refine ⟨fun hlt => ?_, fun hge => ?_⟩
    · have hw := wrap_succ (i := i) (by omega)
      have ht := filter_take (flankOn l s) l.flanks hlt
      cases hon : flankOn l s l.flanks[i]
      · have h3 : ¬ ((lstep l s).2 = true ∧ l.flanks[i].s = s.s ∧ l.flanks[i].way = (lstep l s).1) := by
          intro ⟨h1, h2, h3⟩
          simp [flankOn, h1, h2, h3] at hon
        simp [hlt, Flank.cells, hp]
        refine .inl ⟨fun h1 h2 h4 => h3 ⟨h1, h2, h4⟩, ⟨i + 1, by omega, hw, ?_⟩, by rw [hw]; omega⟩
        rw [ht, hon]; simp
      · have h3 : (lstep l s).2 = true ∧ l.flanks[i].s = s.s ∧ l.flanks[i].way = (lstep l s).1 := by
          simp only [flankOn, Bool.and_eq_true, decide_eq_true_eq] at hon
          exact ⟨hon.1.1, hon.1.2, hon.2⟩
        simp [hlt, Flank.cells, hp]
        refine .inr ⟨⟨⟨h3.1, h3.2.1⟩, h3.2.2⟩, by omega, ⟨i + 1, by omega, hw, ?_⟩, by rw [hw]; omega⟩
        rw [ht, hon]; simp [Need.cells]
    · have : l.flanks.take i = l.flanks := List.take_of_length_le hge
      simp [this, wants, hp, Need.cells]

/-- The steps that a path needs for, and their numbers. -/
def numbered (l : Lay) (p : Path) : List (Int × Step) := p.steps.mapIdx (fun k s => ((k : Int), s)) ++ (over l p.exit).map fun s => ((p.steps.length : Int), s)
/-- What a path needs. -/
def needOf (l : Lay) (p : Path) : List Need := (numbered l p).flatMap fun x => wants l x.2 x.1

theorem wants_len (l : Lay) (s : Step) (k : Int) : (wants l s k).length ≤ l.flanks.length + 1 := by
  unfold wants
  rw [List.length_append, List.length_map]
  have := List.length_filter_le (flankOn l s) l.flanks
  split <;> simp <;> omega
theorem mapIdx_take {α β : Type} (f : Nat → α → β) (l : List α) (i : Nat) : (l.take i).mapIdx f = (l.mapIdx f).take i := by
  apply List.ext_getElem?
  intro j
  by_cases h : j < i
  · simp [List.getElem?_take, h]
  · simp [List.getElem?_take, h]
theorem flat_len {α β : Type} (f : α → List β) (m : Nat) (h : ∀ x, (f x).length ≤ m) : ∀ l : List α, (l.flatMap f).length ≤ l.length * m
  | [] => by simp
  | x :: l => by
    have := flat_len f m h l
    have := h x
    simp only [List.flatMap_cons, List.length_append, List.length_cons, Nat.add_mul]
    omega

theorem c_need_Of (l : Lay) (hl : l.ok) (ho : l.ovOk) (hf : l.flanks.length ≤ 1000) (p : Path) (hp : p.steps.length ≤ 1000) (hov : (over l p.exit).length ≤ 1000) : C f_need_Of [l.av, p.av] (needs (needOf l p)) := by
  refine ctr (l.cells ++ p.cells) run_need_Of rfl (by simp [pureAll_append, AV.pureAll, AV.pure]) (by simp [AV.pure]) ?_ rfl
  unfold rt_need_Of
  simp [Lay.cells, Path.cells]
  have hw1 : ∀ s k, (wants l s k).length ≤ 1001 := fun s k => by have := wants_len l s k; omega
  have hnl : (numbered l p).length = p.steps.length + (over l p.exit).length := by simp [numbered]
  have hN : ∀ m : Nat, (((numbered l p).take m).flatMap fun x => wants l x.2 x.1).length ≤ 2002000 := fun m => by
    have h1 := flat_len (fun x : Int × Step => wants l x.2 x.1) 1001 (fun x => hw1 x.2 x.1) ((numbered l p).take m)
    have h2 : ((numbered l p).take m).length ≤ 2000 := by rw [List.length_take]; omega
    omega
  have hA : ∀ (i : Nat) (h : i < p.steps.length), (numbered l p)[i]'(by rw [hnl]; omega) = ((i : Int), p.steps[i]) := fun i h => by
    simp [numbered, List.getElem_append_left, h]
  have hB : ∀ (i : Nat) (h : i < (over l p.exit).length), (numbered l p)[p.steps.length + i]'(by rw [hnl]; omega) = ((p.steps.length : Int), (over l p.exit)[i]) := fun i h => by
    simp [numbered, List.getElem_append_right]
  refine RTwp_loop rfl (fun vs => ∃ i : Nat, i ≤ p.steps.length ∧ vs = [I i, needs (((numbered l p).take i).flatMap fun x => wants l x.2 x.1)]) (fun vs => match vs with | .int _ j :: _ => p.steps.length - j.toNat | _ => 0) ⟨0, by simp, by simp⟩ ?_
  rintro vs - ⟨i, hi, rfl⟩
  have hNi := hN i
  simp
  refine ⟨fun hlt => ?_, fun hge => ?_⟩
  · have hw := wrap_succ (i := i) (by omega)
    simp [hlt, Step.cells]
    have hx := flatMap_take (fun x : Int × Step => wants l x.2 x.1) (numbered l p) (i := i) (by rw [hnl]; omega)
    rw [hA i hlt] at hx
    have hy := hw1 p.steps[i] i
    refine call (c_beyond_Wants l hl (by omega) p.steps[i] i) (by simp [hlt, Step.cells, Lay.cells]) (by simp) ?_
    simp [-List.length_flatMap]
    refine ⟨fun x _ => by simp [Need.cells], by omega, ⟨i + 1, by omega, hw, ?_⟩, by rw [hw]; omega⟩
    rw [hx]; simp
  · have hi' : i = p.steps.length := by omega
    subst hi'
    refine call (c_beyond_Over l ho p.exit) (by simp [Lay.cells]) (by simp) ?_
    simp
    refine RTwp_loop rfl (fun vs => ∃ i : Nat, i ≤ (over l p.exit).length ∧ vs = [I i, needs (((numbered l p).take (p.steps.length + i)).flatMap fun x => wants l x.2 x.1)]) (fun vs => match vs with | .int _ j :: _ => (over l p.exit).length - j.toNat | _ => 0) ⟨0, by simp, by simp⟩ ?_
    rintro vs - ⟨i, hi, rfl⟩
    have hNi := hN (p.steps.length + i)
    simp
    refine ⟨fun hlt => ?_, fun hge => ?_⟩
    · have hw := wrap_succ (i := i) (by omega)
      simp [hlt, Step.cells]
      have hx := flatMap_take (fun x : Int × Step => wants l x.2 x.1) (numbered l p) (i := p.steps.length + i) (by rw [hnl]; omega)
      rw [hB i hlt] at hx
      have hy := hw1 (over l p.exit)[i] p.steps.length
      refine call (c_beyond_Wants l hl (by omega) (over l p.exit)[i] p.steps.length) (by simp [hlt, Step.cells, Lay.cells]) (by simp) ?_
      simp [-List.length_flatMap]
      refine ⟨fun x _ => by simp [Need.cells], by omega, ⟨i + 1, by omega, hw, ?_⟩, by rw [hw]; omega⟩
      rw [show p.steps.length + (i + 1) = p.steps.length + i + 1 from rfl, hx]; simp
    · have : (numbered l p).take (p.steps.length + i) = numbered l p := List.take_of_length_le (by rw [hnl]; omega)
      simp [this, needOf]
end Go.Lb.LK

namespace Go.Lb.LK
open Go Go.Lb Go.Proofs Go.RowKit

def sigTaken (p : Path) (h : Hd) : Bool := decide (h.path.sig = p.sig) && !decide (h.stage = 3)
def canN (l : Lay) (im : Img) (k : Kern) (p : Path) : Int :=
  if (k.held.any (sigTaken p) || ((p.steps ++ over l p.exit).any (fun s => !freeN l im k s.s) || (needOf l p).any (fun n => !meetsN l im k n))) = true then 190
  else if 6 ≤ k.held.length then 191 else 0
structure CanOk (l : Lay) (k : Kern) (p : Path) : Prop where
  kl : k.len
  lo : l.ok
  ov : l.ovOk
  fl : l.flanks.length ≤ 1000
  pl : p.steps.length ≤ 1000
  ol : (over l p.exit).length ≤ 1000
theorem needOf_len {l : Lay} {k : Kern} {p : Path} (h : CanOk l k p) : (needOf l p).length ≤ 2002000 := by
  have hw1 : ∀ s k, (wants l s k).length ≤ 1001 := fun s k => by have := wants_len l s k; have := h.fl; omega
  have h1 := flat_len (fun x : Int × Step => wants l x.2 x.1) 1001 (fun x => hw1 x.2 x.1) (numbered l p)
  have h2 : (numbered l p).length ≤ 2000 := by have := h.pl; have := h.ol; simp [numbered]; omega
  unfold needOf
  omega
end Go.Lb.LK

namespace Go.Lb.LK
open Go Go.Lb Go.Proofs Go.RowKit

theorem likp (l : Lay) (im : Img) (k : Kern) (p : Path) : AV.pureAll (l.cells ++ im.cells ++ k.cells ++ p.cells) = true := by simp [pureAll_append]
theorem can_sig {l : Lay} {im : Img} {k : Kern} {p : Path} (h : k.held.any (sigTaken p) = true) : canN l im k p = 190 := by simp [canN, h]
theorem can_step {l : Lay} {im : Img} {k : Kern} {p : Path} {s : Step} (hs : s ∈ p.steps ++ over l p.exit) (h : freeN l im k s.s = false) : canN l im k p = 190 := by
  have : ((p.steps ++ over l p.exit).any fun s => !freeN l im k s.s) = true := List.any_eq_true.2 ⟨s, hs, by simp [h]⟩
  simp only [canN, this, Bool.true_or, Bool.or_true, if_true]
theorem can_need {l : Lay} {im : Img} {k : Kern} {p : Path} {n : Need} (hs : n ∈ needOf l p) (h : meetsN l im k n = false) : canN l im k p = 190 := by
  have : ((needOf l p).any fun n => !meetsN l im k n) = true := List.any_eq_true.2 ⟨n, hs, by simp [h]⟩
  simp only [canN, this, Bool.or_true, if_true]
theorem can_fine {l : Lay} {im : Img} {k : Kern} {p : Path} (h1 : NoneIn (sigTaken p) k.held) (h2 : NoneIn (fun s : Step => !freeN l im k s.s) p.steps) (h3 : NoneIn (fun s : Step => !freeN l im k s.s) (over l p.exit)) (h4 : NoneIn (fun n => !meetsN l im k n) (needOf l p)) : canN l im k p = if 6 ≤ k.held.length then 191 else 0 := by
  unfold NoneIn at *
  simp only [canN, List.any_append, h1, h2, h3, h4, Bool.or_false, Bool.false_eq_true, if_false]
set_option maxHeartbeats 4000000 in
theorem c_free_Can (l : Lay) (im : Img) (hi : im.ok) (k : Kern) (p : Path) (hc : CanOk l k p) : C f_free_Can [l.av, im.av, k.av, p.av] (I (canN l im k p)) := by
  have hk1 := hc.kl.1
  have hp1 := hc.pl
  have ho1 := hc.ol
  have hn1 := needOf_len hc
  refine ctr (l.cells ++ im.cells ++ k.cells ++ p.cells) run_free_Can rfl (likp l im k p) rfl ?_ rfl
  unfold rt_free_Can
  simp [Lay.cells, Img.cells, Kern.cells, Path.cells]
  refine RTwp_loop rfl (fun vs => ∃ i : Nat, i ≤ k.held.length ∧ vs = [I i] ∧ NoneIn (sigTaken p) (k.held.take i)) (fun vs => match vs with | [.int _ j] => k.held.length - j.toNat | _ => 0) ⟨0, by omega, by simp, rfl⟩ ?_
  rintro vs - ⟨i, hii, rfl, hq1⟩
  simp
  refine ⟨fun hlt => ?_, fun hge => ?_⟩
  · have hw := wrap_succ (i := i) (by omega)
    cases hs : sigTaken p k.held[i]
    · have hs2 : k.held[i].path.sig = p.sig → k.held[i].stage = 3 := by
        intro h; simpa [sigTaken, h] using hs
      simp [hlt, Hd.cells, hw]
      left
      exact ⟨hs2, ⟨i + 1, by omega, by omega, any_step hlt hq1 hs⟩, by omega⟩
    · have hs2 : k.held[i].path.sig = p.sig ∧ ¬ k.held[i].stage = 3 := by simpa [sigTaken] using hs
      simp [hlt, Hd.cells, hw, hs2.1, hs2.2, can_sig (l := l) (im := im) (any_hit hlt hs)]
  · have ht : k.held.take i = k.held := List.take_of_length_le (by omega)
    rw [ht] at hq1
    refine RTwp_loop rfl (fun vs => ∃ i : Nat, i ≤ p.steps.length ∧ vs = [I i] ∧ NoneIn (fun s : Step => !freeN l im k s.s) (p.steps.take i)) (fun vs => match vs with | [.int _ j] => p.steps.length - j.toNat | _ => 0) ⟨0, by omega, by simp, rfl⟩ ?_
    rintro vs - ⟨j, hj, rfl, hq2⟩
    simp
    refine ⟨fun hlt2 => ?_, fun hge2 => ?_⟩
    · have hw := wrap_succ (i := j) (by omega)
      simp [hlt2, Step.cells]
      refine call (c_free_Free l im hi k hc.kl p.steps[j].s) (by simp [Lay.cells, Img.cells, Kern.cells, hlt2, Step.cells]) (by simp) ?_
      cases hf : freeN l im k p.steps[j].s
      · simp
        refine callIf (avs := []) (steps (over l p.exit)) (by simp [AV.pure]) (fun hh => ?_) (by simp) ?_
        · simp at hh
        · simp [can_step (List.mem_append_left (over l p.exit) (List.getElem_mem hlt2)) hf]
      · simp [hw]
        exact ⟨⟨j + 1, by omega, by omega, any_step hlt2 hq2 (by simp [hf])⟩, by omega⟩
    · have ht2 : p.steps.take j = p.steps := List.take_of_length_le (by omega)
      rw [ht2] at hq2
      refine call (c_beyond_Over l hc.ov p.exit) (by simp [Lay.cells]) (by simp) ?_
      simp
      refine RTwp_loop rfl (fun vs => ∃ i : Nat, i ≤ (over l p.exit).length ∧ vs = [I i] ∧ NoneIn (fun s : Step => !freeN l im k s.s) ((over l p.exit).take i)) (fun vs => match vs with | [.int _ j] => (over l p.exit).length - j.toNat | _ => 0) ⟨0, by omega, by simp, rfl⟩ ?_
      rintro vs - ⟨m, hm, rfl, hq3⟩
      simp
      refine ⟨fun hlt3 => ?_, fun hge3 => ?_⟩
      · have hw := wrap_succ (i := m) (by omega)
        simp [hlt3, Step.cells]
        refine call (c_free_Free l im hi k hc.kl (over l p.exit)[m].s) (by simp [Lay.cells, Img.cells, Kern.cells, hlt3, Step.cells]) (by simp) ?_
        cases hf : freeN l im k (over l p.exit)[m].s
        · simp [can_step (List.mem_append_right p.steps (List.getElem_mem hlt3)) hf]
        · simp [hw]
          exact ⟨⟨m + 1, by omega, by omega, any_step hlt3 hq3 (by simp [hf])⟩, by omega⟩
      · have ht3 : (over l p.exit).take m = over l p.exit := List.take_of_length_le (by omega)
        rw [ht3] at hq3
        refine call (c_need_Of l hc.lo hc.ov hc.fl p hc.pl hc.ol) (by simp [Lay.cells, Path.cells]) (by simp) ?_
        simp
        refine RTwp_loop rfl (fun vs => ∃ i : Nat, i ≤ (needOf l p).length ∧ vs = [I i] ∧ NoneIn (fun n => !meetsN l im k n) ((needOf l p).take i)) (fun vs => match vs with | [.int _ j] => (needOf l p).length - j.toNat | _ => 0) ⟨0, by omega, by simp, rfl⟩ ?_
        rintro vs - ⟨q, hqq, rfl, hq4⟩
        simp
        refine ⟨fun hlt4 => ?_, fun hge4 => ?_⟩
        · have hw := wrap_succ (i := q) (by omega)
          simp [hlt4, Need.cells]
          refine call (c_free_Meets l im hi k hc.kl (needOf l p)[q]) (by simp [Lay.cells, Img.cells, Kern.cells, hlt4, Need.cells]) (by simp) ?_
          cases hf : meetsN l im k (needOf l p)[q]
          · simp [can_need (List.getElem_mem hlt4) hf]
          · simp [hw]
            exact ⟨⟨q + 1, by omega, by omega, any_step hlt4 hq4 (by simp [hf])⟩, by omega⟩
        · have ht4 : (needOf l p).take q = needOf l p := List.take_of_length_le (by omega)
          rw [ht4] at hq4
          rw [can_fine hq1 hq2 hq3 hq4]
          by_cases h6 : 6 ≤ k.held.length
          · have h6' : (6 : Int) ≤ k.held.length := by omega
            simp [h6, h6']
          · have h6' : ¬ (6 : Int) ≤ k.held.length := by omega
            simp [h6, h6']
end Go.Lb.LK

namespace Go.Lb.LK
open Go Go.Lb Go.Proofs Go.RowKit

def ways (k : Int) : Int := if k = 1 then 1 else if k = 2 then 2 else if k = 3 then 2 else 0
theorem c_r05_Ways (k : Int) : C f_lockbarref05_Ways [U k] (I (ways k)) := by
  refine ctr [U k] run_lockbarref05_Ways rfl rfl rfl ?_ rfl
  unfold rt_lockbarref05_Ways
  by_cases h1 : k = 1
  · simp [h1, ways]
  · by_cases h2 : k = 2
    · simp [h2, ways]
    · by_cases h3 : k = 3
      · simp [h3, ways]
      · simp [h1, h2, h3, ways]
def ends (k w : Int) : Int × Int × Bool := if w < 0 ∨ w ≥ ways k then (0, 0, false) else if w = 0 then (0, 1, true) else if k = 2 then (0, 2, true) else (2, 3, true)
theorem c_r05_Ends (k w : Int) : C f_lockbarref05_Ends [U k, I w] (iib (ends k w)) := by
  refine ctr [U k, I w] run_lockbarref05_Ends rfl rfl rfl ?_ rfl
  unfold rt_lockbarref05_Ends
  simp
  refine callIf (I (ways k)) rfl (fun _ => ⟨by simp, c_r05_Ways k⟩) (by simp) ?_
  by_cases h0 : w < 0
  · simp [h0, ends]
  · by_cases h1 : ways k ≤ w
    · simp [h0, h1, ends]
    · by_cases h2 : w = 0
      · subst h2; simp [h1, ends]
      · by_cases h3 : k = 2
        · subst h3; simp [h0, h1, h2, ends]
        · simp [h0, h1, h2, h3, ends]
theorem ways_le (k : Int) : 0 ≤ ways k ∧ ways k ≤ 2 := by unfold ways; split <;> (try split) <;> (try split) <;> omega

theorem c_r05_Way (k i o : Int) : C f_lockbarref05_Way [U k, I i, I o] (ib (way k i o)) := by
  refine ctr [U k, I i, I o] run_lockbarref05_Way rfl rfl rfl ?_ rfl
  unfold rt_lockbarref05_Way
  have hw := ways_le k
  refine RTwp_loop rfl (fun vs => ∃ j : Nat, (j : Int) ≤ 2 ∧ vs = [I j] ∧ (1 ≤ j → 1 ≤ ways k → ¬ (i = 0 ∧ o = 1 ∨ i = 1 ∧ o = 0)) ∧ (2 ≤ j → k = 2 → ¬ (i = 0 ∧ o = 2 ∨ i = 2 ∧ o = 0)) ∧ (2 ≤ j → k = 3 → ¬ (i = 2 ∧ o = 3 ∨ i = 3 ∧ o = 2)) ∧ (j : Int) ≤ ways k)
    (fun vs => match vs with | [.int _ j] => 3 - j.toNat | _ => 0) ⟨0, by simp, by simp, by omega, by omega, by omega, by simp; omega⟩ ?_
  rintro vs - ⟨j, hj, rfl, a1, a2, a3, a4⟩
  simp
  refine call (c_r05_Ways k) (by simp) (by simp) ?_
  simp
  refine ⟨fun hlt => ?_, fun hge => ?_⟩
  · refine call (c_r05_Ends k j) (by simp) (by simp) ?_
    simp
    have hk : k = 1 ∨ k = 2 ∨ k = 3 := by
      unfold ways at hlt
      split at hlt
      · exact .inl ‹_›
      · split at hlt
        · exact .inr (.inl ‹_›)
        · split at hlt
          · exact .inr (.inr ‹_›)
          · omega
    have hj2 : j = 0 ∨ j = 1 := by omega
    rcases hj2 with rfl | rfl
    · have he : ends k ((0 : Nat) : Int) = (0, 1, true) := by
        unfold ends
        rw [if_neg (by simp; omega)]; rfl
      rw [he]
      simp only [Int.natCast_zero, Int.zero_add, w1]
      by_cases c1 : i = 0 ∧ o = 1 ∨ i = 1 ∧ o = 0
      · have hwy : way k i o = (0, true) := by unfold way; rw [if_pos ⟨by omega, c1⟩]
        rw [hwy]
        exact ⟨fun _ => ⟨rfl, rfl⟩, fun h1 h2 => absurd c1 (by omega)⟩
      · refine ⟨fun h => absurd h (by omega), fun h1 h2 => ⟨⟨1, by omega, rfl, fun _ _ => by omega, fun h => by omega, fun h => by omega, by simp; omega⟩, by decide⟩⟩
    · have hk2 : k = 2 ∨ k = 3 := by
        rcases hk with rfl | h
        · simp [ways] at hlt
        · exact h
      have n1 := a1 (by omega) (by omega)
      have wj : IntKind.i64.wrap (((1 : Nat) : Int) + 1) = 2 := by decide
      rw [wj]
      rcases hk2 with rfl | rfl
      · have he : ends 2 ((1 : Nat) : Int) = (0, 2, true) := rfl
        rw [he]
        by_cases c1 : i = 0 ∧ o = 2 ∨ i = 2 ∧ o = 0
        · have hwy : way 2 i o = (1, true) := by unfold way; rw [if_neg (fun h => n1 h.2), if_pos ⟨rfl, c1⟩]
          rw [hwy]
          exact ⟨fun _ => ⟨rfl, rfl⟩, fun h1 h2 => absurd c1 (by dsimp only at h1 h2; omega)⟩
        · refine ⟨fun h => absurd h (by dsimp only; omega), fun h1 h2 => ⟨⟨2, by omega, rfl, fun _ _ => by omega, fun _ _ => by omega, fun _ h => by omega, by decide⟩, by decide⟩⟩
      · have he : ends 3 ((1 : Nat) : Int) = (2, 3, true) := rfl
        rw [he]
        by_cases c1 : i = 2 ∧ o = 3 ∨ i = 3 ∧ o = 2
        · have hwy : way 3 i o = (1, true) := by unfold way; rw [if_neg (fun h => n1 h.2), if_neg (fun h => by omega), if_pos ⟨rfl, c1⟩]
          rw [hwy]
          exact ⟨fun _ => ⟨rfl, rfl⟩, fun h1 h2 => absurd c1 (by dsimp only at h1 h2; omega)⟩
        · refine ⟨fun h => absurd h (by dsimp only; omega), fun h1 h2 => ⟨⟨2, by omega, rfl, fun _ _ => by omega, fun _ h => by omega, fun _ _ => by omega, by decide⟩, by decide⟩⟩
  · have hwy : way k i o = (0, false) := by
      have hjw : (j : Int) = ways k := by omega
      unfold way
      rw [if_neg, if_neg, if_neg]
      · rintro ⟨rfl, h⟩
        have : (j : Int) = 2 := hjw
        exact a3 (by omega) rfl h
      · rintro ⟨rfl, h⟩
        have : (j : Int) = 2 := hjw
        exact a2 (by omega) rfl h
      · rintro ⟨hk, h⟩
        have h1 : 1 ≤ ways k := by rcases hk with rfl | rfl | rfl <;> decide
        exact a1 (by omega) h1 h
    rw [hwy]
    exact ⟨rfl, rfl⟩

theorem c_r06_Step (l : Lay) (s : Step) : C f_lockbarref06_Step [l.av, s.av] (ib (lstep l s)) := by
  refine ctr (l.cells ++ s.cells) run_lockbarref06_Step rfl (by simp [pureAll_append]) rfl ?_ rfl
  unfold rt_lockbarref06_Step
  simp [Lay.cells, Step.cells]
  by_cases hc : 0 ≤ s.s ∧ s.s < l.secs.length
  · obtain ⟨n, hn, hlt, he⟩ := secAt_in hc.1 hc.2
    have hls : lstep l s = way l.secs[n].kind s.i s.o := by simp [lstep, he]
    rw [hls]
    simp [hn, hlt, Sec.cells]
    refine ⟨fun h => by omega, ?_⟩
    refine call (c_r05_Way l.secs[n].kind s.i s.o) (by simp [hlt, Sec.cells]) (by simp) ?_
    simp
  · simp [lstep, secAt_out hc]
    exact fun a b => absurd ⟨a, b⟩ hc

theorem c_r05_Pos (k i o : Int) : C f_lockbarref05_Pos [U k, I i, I o] (ib (if (way k i o).2 = true ∧ k ≠ 2 then (-1, true) else way k i o)) := by
  refine ctr [U k, I i, I o] run_lockbarref05_Pos rfl rfl rfl ?_ rfl
  unfold rt_lockbarref05_Pos
  refine call (c_r05_Way k i o) (by simp) (by simp) ?_
  generalize way k i o = w
  obtain ⟨a, b⟩ := w
  cases b <;> by_cases h : k = 2 <;> simp [h]
theorem c_r10_there (l : Lay) (s : Step) : C f_lockbarref10_there [l.av, s.av] (.bool (lstep l s).2) := by
  refine ctr (l.cells ++ s.cells) run_lockbarref10_there rfl (by simp [pureAll_append]) rfl ?_ rfl
  unfold rt_lockbarref10_there
  simp [Lay.cells, Step.cells]
  refine call (c_r06_Step l s) (by simp [Lay.cells, Step.cells]) (by simp) ?_
  simp
theorem c_r10_Over (l : Lay) (ho : l.ovOk) (x : Int) : C f_lockbarref10_Over [l.av, I x] (steps (over l x)) := by
  refine ctr (l.cells ++ [I x]) run_lockbarref10_Over rfl (by simp [pureAll_append, AV.pureAll, AV.pure]) (by simp [AV.pure]) ?_ rfl
  unfold rt_lockbarref10_Over
  simp [Lay.cells]
  by_cases hc : 0 ≤ x ∧ x < l.exits.length
  · obtain ⟨n, hn, hlt, he⟩ := exitAt_in hc.1 hc.2
    have hk := ho _ (List.getElem_mem hlt)
    subst hn
    simp [hlt, Exi.cells, over, he]
    refine ⟨fun h => by omega, fun x _ => by simp [Step.cells], by omega⟩
  · simp [over, exitAt_out hc]
    exact fun a b => absurd ⟨a, b⟩ hc
theorem c_r10_Point (l : Lay) (s : Step) : C f_lockbarref10_Point [l.av, s.av] (iib (point l s)) := by
  refine ctr (l.cells ++ s.cells) run_lockbarref10_Point rfl (by simp [pureAll_append]) rfl ?_ rfl
  unfold rt_lockbarref10_Point
  simp [Lay.cells, Step.cells]
  refine call (c_r10_there l s) (by simp [Lay.cells, Step.cells]) (by simp) ?_
  by_cases hc : 0 ≤ s.s ∧ s.s < l.secs.length
  · obtain ⟨n, hn, hlt, he⟩ := secAt_in hc.1 hc.2
    have hls : lstep l s = way l.secs[n].kind s.i s.o := by simp [lstep, he]
    have hpt : point l s = if (way l.secs[n].kind s.i s.o).2 = true ∧ l.secs[n].kind = 2 then (s.s, (way 2 s.i s.o).1, true) else (0, 0, false) := by simp [point, he]
    rw [hls, hpt]
    clear hls hpt
    cases hw : (way l.secs[n].kind s.i s.o).2
    · simp [hn, hlt, Sec.cells, hw]
    · by_cases hk : l.secs[n].kind = 2
      · rw [hk] at hw ⊢
        simp [hn, hlt, Sec.cells, hw, hk]
        refine call (c_r05_Pos 2 s.i s.o) (by simp) (by simp) ?_
        simp
      · simp [hn, hlt, Sec.cells, hw, hk]
  · simp [point, lstep, secAt_out hc]
end Go.Lb.LK

namespace Go.Lb.LK
open Go Go.Lb Go.Proofs Go.RowKit

def fneed (k : Int) (f : Flank) : Need := ⟨f.point, f.pos, k⟩
theorem wants_eq (l : Lay) (s : Step) (k : Int) : wants l s k = (if (point l s).2.2 = true then [⟨(point l s).1, (point l s).2.1, k⟩] else []) ++ (l.flanks.filter (flankOn l s)).map (fneed k) := rfl
theorem c_r10_Wants (l : Lay) (hf : l.flanks.length ≤ 2147483648) (s : Step) (k : Int) : C f_lockbarref10_Wants [l.av, s.av, I k] (needs (wants l s k)) := by
  refine ctr (l.cells ++ s.cells ++ [I k]) run_lockbarref10_Wants rfl (by simp [pureAll_append, AV.pureAll, AV.pure]) (by simp [AV.pure]) ?_ rfl
  unfold rt_lockbarref10_Wants
  simp [Lay.cells, Step.cells]
  refine call (c_r10_Point l s) (by simp [Lay.cells, Step.cells]) (by simp) ?_
  have hlen : ∀ i, ((l.flanks.take i).filter (flankOn l s)).length ≤ 2147483648 := fun i => by
    have := List.length_filter_le (flankOn l s) (l.flanks.take i)
    have : (l.flanks.take i).length ≤ l.flanks.length := by simp; omega
    omega
  rw [wants_eq]
  generalize hpt : point l s = pt
  obtain ⟨a, b, c⟩ := pt
  cases c
  · simp
    refine call (c_r06_Step l s) (by simp [Lay.cells, Step.cells]) (by simp) ?_
    simp
    refine RTwp_loop rfl (fun vs => ∃ i : Nat, i ≤ l.flanks.length ∧ vs = [needs (([] : List Need) ++ ((l.flanks.take i).filter (flankOn l s)).map (fneed k)), I i]) (fun vs => match vs with | [_, .int _ j] => l.flanks.length - j.toNat | _ => 0) ⟨0, by omega, by simp [Need.cells]⟩ ?_
    rintro vs - ⟨i, hi, rfl⟩
    have hli := hlen i
    simp
    by_cases hlt : i < l.flanks.length
    · have hw := wrap_succ (i := i) (by omega)
      have ht := filter_take (flankOn l s) l.flanks hlt
      cases hst : (lstep l s).2
      · have hnone : l.flanks.filter (flankOn l s) = [] := by
          rw [List.filter_eq_nil_iff]; intro f _; simp [flankOn, hst]
        have hnone2 : (l.flanks.take i).filter (flankOn l s) = [] := by
          rw [List.filter_eq_nil_iff]; intro f _; simp [flankOn, hst]
        simp [hlt, hst, hnone, hnone2, Need.cells]
      · simp [hlt, hst, Flank.cells, hw]
        cases hon : flankOn l s l.flanks[i]
        · have h3 : l.flanks[i].s = s.s → ¬ l.flanks[i].way = (lstep l s).1 := by
            intro h2 h3
            simp [flankOn, hst, h2, h3] at hon
          left
          refine ⟨h3, ⟨i + 1, by omega, ?_, by omega⟩, by omega⟩
          rw [ht, hon]; simp
        · have h3 : l.flanks[i].s = s.s ∧ l.flanks[i].way = (lstep l s).1 := by
            simp only [flankOn, Bool.and_eq_true, decide_eq_true_eq] at hon
            exact ⟨hon.1.2, hon.2⟩
          right
          refine ⟨h3, by omega, ⟨i + 1, by omega, ?_, by omega⟩, by omega⟩
          rw [ht, hon]; simp [fneed, Need.cells]
    · have hta : l.flanks.take i = l.flanks := List.take_of_length_le (by omega)
      simp [hlt, hta, Need.cells]
  · simp
    refine call (c_r06_Step l s) (by simp [Lay.cells, Step.cells]) (by simp) ?_
    simp
    refine RTwp_loop rfl (fun vs => ∃ i : Nat, i ≤ l.flanks.length ∧ vs = [needs ([(⟨a, b, k⟩ : Need)] ++ ((l.flanks.take i).filter (flankOn l s)).map (fneed k)), I i]) (fun vs => match vs with | [_, .int _ j] => l.flanks.length - j.toNat | _ => 0) ⟨0, by omega, by simp [Need.cells]⟩ ?_
    rintro vs - ⟨i, hi, rfl⟩
    have hli := hlen i
    simp
    by_cases hlt : i < l.flanks.length
    · have hw := wrap_succ (i := i) (by omega)
      have ht := filter_take (flankOn l s) l.flanks hlt
      cases hst : (lstep l s).2
      · have hnone : l.flanks.filter (flankOn l s) = [] := by
          rw [List.filter_eq_nil_iff]; intro f _; simp [flankOn, hst]
        have hnone2 : (l.flanks.take i).filter (flankOn l s) = [] := by
          rw [List.filter_eq_nil_iff]; intro f _; simp [flankOn, hst]
        simp [hlt, hst, hnone, hnone2, Need.cells]
      · simp [hlt, hst, Flank.cells, hw]
        cases hon : flankOn l s l.flanks[i]
        · have h3 : l.flanks[i].s = s.s → ¬ l.flanks[i].way = (lstep l s).1 := by
            intro h2 h3
            simp [flankOn, hst, h2, h3] at hon
          left
          refine ⟨h3, ⟨i + 1, by omega, ?_, by omega⟩, by omega⟩
          rw [ht, hon]; simp
        · have h3 : l.flanks[i].s = s.s ∧ l.flanks[i].way = (lstep l s).1 := by
            simp only [flankOn, Bool.and_eq_true, decide_eq_true_eq] at hon
            exact ⟨hon.1.2, hon.2⟩
          right
          refine ⟨h3, by omega, ⟨i + 1, by omega, ?_, by omega⟩, by omega⟩
          rw [ht, hon]; simp [fneed, Need.cells]
    · have hta : l.flanks.take i = l.flanks := List.take_of_length_le (by omega)
      simp [hlt, hta, Need.cells]
end Go.Lb.LK

namespace Go.Lb.LK
open Go Go.Lb Go.Proofs Go.RowKit

theorem c_r13_Of (l : Lay) (ho : l.ovOk) (hf : l.flanks.length ≤ 1000) (p : Path) (hp : p.steps.length ≤ 1000) (hov : (over l p.exit).length ≤ 1000) : C f_lockbarref13_Of [l.av, p.av] (needs (needOf l p)) := by
  refine ctr (l.cells ++ p.cells) run_lockbarref13_Of rfl (by simp [pureAll_append, AV.pureAll, AV.pure]) (by simp [AV.pure]) ?_ rfl
  unfold rt_lockbarref13_Of
  simp [Lay.cells, Path.cells]
  have hw1 : ∀ s k, (wants l s k).length ≤ 1001 := fun s k => by have := wants_len l s k; omega
  have hnl : (numbered l p).length = p.steps.length + (over l p.exit).length := by simp [numbered]
  have hN : ∀ m : Nat, (((numbered l p).take m).flatMap fun x => wants l x.2 x.1).length ≤ 2002000 := fun m => by
    have h1 := flat_len (fun x : Int × Step => wants l x.2 x.1) 1001 (fun x => hw1 x.2 x.1) ((numbered l p).take m)
    have h2 : ((numbered l p).take m).length ≤ 2000 := by rw [List.length_take]; omega
    omega
  have hA : ∀ (i : Nat) (h : i < p.steps.length), (numbered l p)[i]'(by rw [hnl]; omega) = ((i : Int), p.steps[i]) := fun i h => by
    simp [numbered, List.getElem_append_left, h]
  have hB : ∀ (i : Nat) (h : i < (over l p.exit).length), (numbered l p)[p.steps.length + i]'(by rw [hnl]; omega) = ((p.steps.length : Int), (over l p.exit)[i]) := fun i h => by
    simp [numbered, List.getElem_append_right]
  refine RTwp_loop rfl (fun vs => ∃ i : Nat, i ≤ p.steps.length ∧ vs = [needs (((numbered l p).take i).flatMap fun x => wants l x.2 x.1), I i]) (fun vs => match vs with | [_, .int _ j] => p.steps.length - j.toNat | _ => 0) ⟨0, by simp, by simp⟩ ?_
  rintro vs - ⟨i, hi, rfl⟩
  have hNi := hN i
  simp
  refine ⟨fun hlt => ?_, fun hge => ?_⟩
  · have hw := wrap_succ (i := i) (by omega)
    simp [hlt, Step.cells]
    have hx := flatMap_take (fun x : Int × Step => wants l x.2 x.1) (numbered l p) (i := i) (by rw [hnl]; omega)
    rw [hA i hlt] at hx
    have hy := hw1 p.steps[i] i
    refine call (c_r10_Wants l (by omega) p.steps[i] i) (by simp [hlt, Step.cells, Lay.cells]) (by simp) ?_
    simp [-List.length_flatMap]
    refine ⟨fun x _ => by simp [Need.cells], by omega, ⟨i + 1, by omega, ?_, hw⟩, by rw [hw]; omega⟩
    rw [hx]; simp
  · have hi' : i = p.steps.length := by omega
    subst hi'
    refine call (c_r10_Over l ho p.exit) (by simp [Lay.cells]) (by simp) ?_
    simp
    refine RTwp_loop rfl (fun vs => ∃ i : Nat, i ≤ (over l p.exit).length ∧ vs = [needs (((numbered l p).take (p.steps.length + i)).flatMap fun x => wants l x.2 x.1), I i]) (fun vs => match vs with | [_, .int _ j] => (over l p.exit).length - j.toNat | _ => 0) ⟨0, by simp, by simp⟩ ?_
    rintro vs - ⟨i, hi, rfl⟩
    have hNi := hN (p.steps.length + i)
    simp
    refine ⟨fun hlt => ?_, fun hge => ?_⟩
    · have hw := wrap_succ (i := i) (by omega)
      simp [hlt, Step.cells]
      have hx := flatMap_take (fun x : Int × Step => wants l x.2 x.1) (numbered l p) (i := p.steps.length + i) (by rw [hnl]; omega)
      rw [hB i hlt] at hx
      have hy := hw1 (over l p.exit)[i] p.steps.length
      refine call (c_r10_Wants l (by omega) (over l p.exit)[i] p.steps.length) (by simp [hlt, Step.cells, Lay.cells]) (by simp) ?_
      simp [-List.length_flatMap]
      refine ⟨fun x _ => by simp [Need.cells], by omega, ⟨i + 1, by omega, ?_, hw⟩, by rw [hw]; omega⟩
      rw [show p.steps.length + (i + 1) = p.steps.length + i + 1 from rfl, hx]; simp
    · have : (numbered l p).take (p.steps.length + i) = numbered l p := List.take_of_length_le (by rw [hnl]; omega)
      simp [this, needOf]
end Go.Lb.LK

namespace Go.Lb.LK
open Go Go.Lb Go.Proofs Go.RowKit

set_option maxHeartbeats 2000000 in
theorem c_r18Can (l : Lay) (im : Img) (hi : im.ok) (k : Kern) (p : Path) (hc : CanOk l k p) : C f_lockbarref18_Can [l.av, im.av, k.av, p.av] (I (canN l im k p)) := by
  have hk1 := hc.kl.1
  have hp1 := hc.pl
  have ho1 := hc.ol
  have hn1 := needOf_len hc
  refine ctr (l.cells ++ im.cells ++ k.cells ++ p.cells) run_lockbarref18_Can rfl (likp l im k p) rfl ?_ rfl
  unfold rt_lockbarref18_Can
  simp [Lay.cells, Img.cells, Kern.cells, Path.cells]
  refine RTwp_loop rfl (fun vs => ∃ i : Nat, i ≤ k.held.length ∧ vs = [I i] ∧ NoneIn (sigTaken p) (k.held.take i)) (fun vs => match vs with | [.int _ j] => k.held.length - j.toNat | _ => 0) ⟨0, by omega, by simp, rfl⟩ ?_
  rintro vs - ⟨i, hii, rfl, hq1⟩
  simp
  refine ⟨fun hlt => ?_, fun hge => ?_⟩
  · have hw := wrap_succ (i := i) (by omega)
    cases hs : sigTaken p k.held[i]
    · have hs2 : k.held[i].path.sig = p.sig → k.held[i].stage = 3 := by
        intro h; simpa [sigTaken, h] using hs
      simp [hlt, Hd.cells, hw]
      left
      exact ⟨hs2, ⟨i + 1, by omega, by omega, any_step hlt hq1 hs⟩, by omega⟩
    · have hs2 : k.held[i].path.sig = p.sig ∧ ¬ k.held[i].stage = 3 := by simpa [sigTaken] using hs
      simp [hlt, Hd.cells, hw, hs2.1, hs2.2, can_sig (l := l) (im := im) (any_hit hlt hs)]
  · have ht : k.held.take i = k.held := List.take_of_length_le (by omega)
    rw [ht] at hq1
    have hst : ∀ x : Step, x.cells.length = 3 ∧ AV.ones x.cells = true := fun x => by simp [Step.cells]
    refine ⟨fun x _ => hst x, by omega, ?_⟩
    refine call (c_r10_Over l hc.ov p.exit) (by simp [Lay.cells]) (by simp) ?_
    simp
    refine ⟨fun x _ => hst x, by omega, ?_⟩
    generalize hall : p.steps ++ over l p.exit = all
    have hmap : List.map Step.av p.steps ++ List.map Step.av (over l p.exit) = all.map Step.av := by rw [← hall, List.map_append]
    have hlen : all.length = p.steps.length + (over l p.exit).length := by rw [← hall]; simp
    refine RTwp_loop rfl (fun vs => ∃ i : Nat, i ≤ all.length ∧ vs = [I i] ∧ NoneIn (fun s : Step => !freeN l im k s.s) (all.take i)) (fun vs => match vs with | [.int _ j] => all.length - j.toNat | _ => 0) ⟨0, by omega, by simp, rfl⟩ ?_
    rintro vs - ⟨j, hj, rfl, hq2⟩
    simp [hmap, ← hlen]
    refine ⟨fun hlt2 => ?_, fun hge2 => ?_⟩
    · have hw := wrap_succ (i := j) (by omega)
      simp [hmap, hlt2, Step.cells]
      repeat refine And.intro (by omega) ?_
      refine call (c_r18Free l im hi k hc.kl all[j].s) (by simp [Lay.cells, Img.cells, Kern.cells, hmap, hlt2, Step.cells]) (by simp) ?_
      cases hf : freeN l im k all[j].s
      · have : canN l im k p = 190 := can_step (s := all[j]) (by rw [hall]; exact List.getElem_mem hlt2) hf
        simp [this]
      · simp [hw]
        exact ⟨⟨j + 1, by omega, by omega, any_step hlt2 hq2 (by simp [hf])⟩, by omega⟩
    · have ht2 : all.take j = all := List.take_of_length_le (by omega)
      rw [ht2] at hq2
      have hq23 : NoneIn (fun s : Step => !freeN l im k s.s) p.steps ∧ NoneIn (fun s : Step => !freeN l im k s.s) (over l p.exit) := by
        unfold NoneIn at hq2 ⊢
        rw [← hall, List.any_append, Bool.or_eq_false_iff] at hq2
        exact hq2
      refine call (c_r13_Of l hc.ov hc.fl p hc.pl hc.ol) (by simp [Lay.cells, Path.cells]) (by simp) ?_
      simp
      refine RTwp_loop rfl (fun vs => ∃ i : Nat, i ≤ (needOf l p).length ∧ vs = [I i] ∧ NoneIn (fun n => !meetsN l im k n) ((needOf l p).take i)) (fun vs => match vs with | [.int _ j] => (needOf l p).length - j.toNat | _ => 0) ⟨0, by omega, by simp, rfl⟩ ?_
      rintro vs - ⟨q, hqq, rfl, hq4⟩
      simp
      refine ⟨fun hlt4 => ?_, fun hge4 => ?_⟩
      · have hw := wrap_succ (i := q) (by omega)
        simp [hlt4, Need.cells]
        refine call (c_r18Meets l im hi k hc.kl (needOf l p)[q]) (by simp [Lay.cells, Img.cells, Kern.cells, hlt4, Need.cells]) (by simp) ?_
        cases hf : meetsN l im k (needOf l p)[q]
        · simp [can_need (List.getElem_mem hlt4) hf]
        · simp [hw]
          exact ⟨⟨q + 1, by omega, by omega, any_step hlt4 hq4 (by simp [hf])⟩, by omega⟩
      · have ht4 : (needOf l p).take q = needOf l p := List.take_of_length_le (by omega)
        rw [ht4] at hq4
        rw [can_fine hq1 hq23.1 hq23.2 hq4]
        by_cases h6 : 6 ≤ k.held.length
        · have h6' : (6 : Int) ≤ k.held.length := by omega
          simp [h6, h6']
        · have h6' : ¬ (6 : Int) ≤ k.held.length := by omega
          simp [h6, h6']
end Go.Lb.LK

namespace Go.Lb.LK
open Go Go.Lb Go.Proofs Go.RowKit

theorem pv_cellset3 (b len n j : Nat) (k : IntKind) (u v : AV) : pv (.cellset b len 3 0 1 j) [.int k (n : Nat), u, .agg [v]] = if j = b + n * 3 then v else u := by
  simp only [pv, AV.cells, Int.toNat_natCast, Nat.add_zero]
  by_cases h : j = b + n * 3
  · subst h; simp
  · have : ¬ (b + n * 3 ≤ j ∧ j < b + n * 3 + 1) := by omega
    simp [this, h]
theorem pok_cellset3 (b len n j : Nat) (k : IntKind) (i : Int) (u v : AV) : pok (.cellset b len 3 0 n j) [.int k i, u, v] = (0 ≤ i ∧ i < len ∧ v.cells.length = n ∧ AV.ones v.cells = true ∧ j < b + len * 3 ∧ 0 + n ≤ 3) := rfl
def restK : Kern := ⟨1, [], fun _ => -1, fun _ => 0, fun _ => false⟩
set_option maxHeartbeats 2000000 in
theorem c_rest : C f_lockbarlaw18_rest [] restK.av := by
  refine ctr [] run_lockbarlaw18_rest rfl rfl (by simp [AV.pure]) ?_ rfl
  unfold rt_lockbarlaw18_rest
  refine RTwp_loop rfl (fun vs => ∃ m : Nat, m ≤ 24 ∧ vs = I m :: mcells (fun i => if i < m then -1 else 0) (fun _ => 0) (fun _ => false)) (fun vs => match vs with | .int _ j :: _ => 24 - j.toNat | _ => 0) ⟨0, by omega, by simp [mcells]⟩ ?_
  rintro vs - ⟨m, hm, rfl⟩
  simp [mcells]
  refine ⟨fun hlt => ?_, fun hge => ?_⟩
  · have hw := wrap_succ (i := m) (by omega)
    simp [hw, pv_cellset3]
    refine ⟨by omega, ⟨m + 1, by omega, by omega, ?_⟩, by omega⟩
    and_intros <;> first | rfl | omega | (split <;> split <;> first | rfl | omega) | (split <;> first | rfl | omega)
  · have : m = 24 := by omega
    subst this
    simp [restK, Kern.cells]
def noneP : Port := ⟨-1, 0⟩
def lay18 : Lay := ⟨[⟨1, noneP, ⟨1, 0⟩, noneP, noneP, 0, 0⟩, ⟨1, ⟨0, 1⟩, noneP, noneP, noneP, 0, 0⟩], [⟨0, 0⟩], [⟨⟨0, 1⟩, [⟨1, 0, 1⟩]⟩], [], 1, 1, 9, 1, 1, 1, 1⟩
def im18 : Img := takeI lay18 imNew 0 0 0 0
theorem im18_ok : im18.ok := ⟨⟨by decide, by decide⟩, ⟨by decide, by decide⟩, ⟨by decide, by decide⟩, ⟨by decide, by decide⟩⟩
theorem c_two18 : C f_lockbarlaw18_two [] (.tup [lay18.av, im18.av]) := by
  refine ctr [] run_lockbarlaw18_two rfl rfl (by simp [AV.pure, AV.pureAll]) ?_ rfl
  unfold rt_lockbarlaw18_two
  simp
  refine call c_r15New rfl (by simp) ?_
  simp
  refine call (r := im18.av) (c_r15Take lay18 imNew 0 0 0 0 (by omega) (by omega) (by omega) (by omega) (by omega) (by omega) (by omega) (by omega)) (by simp [Lay.cells, lay18, noneP, Sec.cells, Port.cells, Exi.cells, Step.cells]) (fun _ => rfl) ?_
  simp [Img.cells, Lay.cells, lay18, noneP, Sec.cells, Port.cells, Exi.cells, Step.cells]
theorem c_r12Great (p : Path) : C f_lockbarref12_Great [.sl [p.av]] (.bool (decide (30 < p.steps.length))) := by
  refine ctr [.sl [p.av]] run_lockbarref12_Great rfl (by simp [AV.pureAll, AV.pure]) rfl ?_ rfl
  unfold rt_lockbarref12_Great
  have e : decide (30 < (p.steps.length : Int)) = decide (30 < p.steps.length) := decide_eq_decide.2 (by omega)
  refine RTwp_loop rfl (fun vs => vs = [I 0] ∨ vs = [I 1] ∧ ¬ 30 < p.steps.length) (fun vs => match vs with | [.int _ j] => 2 - j.toNat | _ => 0) (.inl rfl) ?_
  rintro vs - (rfl | ⟨rfl, hn⟩)
  · by_cases h : 30 < p.steps.length
    · have h' : (30 : Int) < p.steps.length := by omega
      simp [Path.cells, h, h']
    · have h' : ¬ (30 : Int) < p.steps.length := by omega
      simp [Path.cells, h, h', show IntKind.i64.wrap 1 = 1 from by decide]
  · simp [hn]
end Go.Lb.LK

namespace Go.Lb.LK
open Go Go.Lb Go.Proofs Go.RowKit

theorem c_slices_Equal_Step (a b : List Step) (ha : a.length ≤ 4294967296) : C f_slices_Equal_Step [steps a, steps b] (.bool (decide (a = b))) := by
  refine ctr [steps a, steps b] run_slices_Equal_Step rfl (by simp [AV.pureAll, AV.pure]) rfl ?_ rfl
  unfold rt_slices_Equal_Step
  simp
  by_cases hl : a.length = b.length
  · simp [hl]
    refine RTwp_loop rfl (fun vs => ∃ i : Nat, i ≤ a.length ∧ vs = [I i] ∧ a.take i = b.take i) (fun vs => match vs with | [.int _ j] => a.length - j.toNat | _ => 0) ⟨0, by simp, by simp, by simp⟩ ?_
    rintro vs - ⟨i, hi, rfl, hq⟩
    simp
    refine ⟨fun hlt => ?_, fun hge => ?_⟩
    · have hlt2 : i < b.length := by omega
      have hw := wrap_succ (i := i) (by omega)
      have he := step_eqs a[i] b[i]
      simp [hlt, hlt2, Step.cells] at he ⊢
      by_cases hab : a[i] = b[i]
      · simp [hab] at he ⊢
        rw [hw]
        refine ⟨⟨i + 1, by omega, rfl, ?_⟩, by omega⟩
        rw [List.take_add_one, List.take_add_one, List.getElem?_eq_getElem hlt, List.getElem?_eq_getElem hlt2, hq, hab]
      · right
        refine ⟨fun h1 h2 h3 => hab (step_ext h1 h2 h3), ?_⟩
        rintro rfl
        exact hab rfl
    · have h1 : a.take i = a := List.take_of_length_le (by omega)
      have h2 : b.take i = b := List.take_of_length_le (by omega)
      rw [h1, h2] at hq
      simp [hq]
  · have hne : a ≠ b := fun h => hl (by rw [h])
    have hl2 : ¬ (a.length : Int) = b.length := by omega
    simp [hne]
    exact fun h => absurd h hl2
theorem c_slices_Equal_Need (a b : List Need) (ha : a.length ≤ 4294967296) : C f_slices_Equal_Need [needs a, needs b] (.bool (decide (a = b))) := by
  refine ctr [needs a, needs b] run_slices_Equal_Need rfl (by simp [AV.pureAll, AV.pure]) rfl ?_ rfl
  unfold rt_slices_Equal_Need
  simp
  by_cases hl : a.length = b.length
  · simp [hl]
    refine RTwp_loop rfl (fun vs => ∃ i : Nat, i ≤ a.length ∧ vs = [I i] ∧ a.take i = b.take i) (fun vs => match vs with | [.int _ j] => a.length - j.toNat | _ => 0) ⟨0, by simp, by simp, by simp⟩ ?_
    rintro vs - ⟨i, hi, rfl, hq⟩
    simp
    refine ⟨fun hlt => ?_, fun hge => ?_⟩
    · have hlt2 : i < b.length := by omega
      have hw := wrap_succ (i := i) (by omega)
      have he := need_eqs a[i] b[i]
      simp [hlt, hlt2, Need.cells] at he ⊢
      by_cases hab : a[i] = b[i]
      · simp [hab] at he ⊢
        rw [hw]
        refine ⟨⟨i + 1, by omega, rfl, ?_⟩, by omega⟩
        rw [List.take_add_one, List.take_add_one, List.getElem?_eq_getElem hlt, List.getElem?_eq_getElem hlt2, hq, hab]
      · right
        refine ⟨fun h1 h2 h3 => hab (need_ext h1 h2 h3), ?_⟩
        rintro rfl
        exact hab rfl
    · have h1 : a.take i = a := List.take_of_length_le (by omega)
      have h2 : b.take i = b := List.take_of_length_le (by omega)
      rw [h1, h2] at hq
      simp [hq]
  · have hne : a ≠ b := fun h => hl (by rw [h])
    have hl2 : ¬ (a.length : Int) = b.length := by omega
    simp [hne]
    exact fun h => absurd h hl2
theorem c_route_Same (a b : Path) (ha : a.steps.length ≤ 4294967296) : C f_route_Same [a.av, b.av] (.bool (pathSame a b)) := by
  refine ctr (a.cells ++ b.cells) run_route_Same rfl (by simp [pureAll_append]) rfl ?_ rfl
  unfold rt_route_Same
  simp [Path.cells]
  refine callIf (avs := [steps a.steps, steps b.steps]) (.bool (decide (a.steps = b.steps))) rfl (fun _ => ⟨by simp, c_slices_Equal_Step _ _ ha⟩) (by simp) ?_
  by_cases h1 : a.sig = b.sig <;> by_cases h2 : a.exit = b.exit <;> simp [pathSame, h1, h2]
theorem c_held_Same (a b : Hd) (ha : a.len) : C f_held_Same [a.av, b.av] (.bool (sameS a b)) := by
  obtain ⟨l1, l2, l3⟩ := ha
  refine ctr (a.cells ++ b.cells) run_held_Same rfl (by simp [pureAll_append]) rfl ?_ rfl
  unfold rt_held_Same
  simp [Hd.cells]
  refine callIf (avs := [a.path.av, b.path.av]) (.bool (pathSame a.path b.path)) rfl (fun _ => ⟨by simp [Path.cells], c_route_Same _ _ (by omega)⟩) (by simp) ?_
  simp
  refine callIf (avs := [steps a.over, steps b.over]) (.bool (decide (a.over = b.over))) rfl (fun _ => ⟨by simp, c_slices_Equal_Step _ _ (by omega)⟩) (by simp) ?_
  simp
  refine callIf (avs := [needs a.needs, needs b.needs]) (.bool (decide (a.needs = b.needs))) rfl (fun _ => ⟨by simp, c_slices_Equal_Need _ _ (by omega)⟩) (by simp) ?_
  simp [sameS, wasSame, Bool.and_assoc]
  simp only [bdec]
  ac_rfl
end Go.Lb.LK

namespace Go.Lb.LK
open Go Go.Lb Go.Proofs Go.RowKit

def machSame (a b : Kern) : Bool := AV.eqs (mcells a.want a.run a.fail) (mcells b.want b.run b.fail)
def allSame (a b : List Hd) : Bool := (List.zipWith sameS a b).all id
def sameK (a b : Kern) : Bool := decide (a.held.length = b.held.length) && (allSame a.held b.held && (decide (a.next = b.next) && machSame a b))
theorem eqs_refl : ∀ (l : List AV), AV.pureAll l = true → (∀ x ∈ l, AV.eq1 x x = true) → AV.eqs l l = true
  | [], _, _ => rfl
  | x :: l, h, h1 => by
    simp only [AV.pureAll, Bool.and_eq_true] at h
    simp only [AV.eqs, h1 x (by simp), eqs_refl l h.2 fun y hy => h1 y (by simp [hy]), Bool.and_self]
theorem machSame_refl (a : Kern) : machSame a a = true := by
  unfold machSame mcells
  simp [AV.eqs, AV.eq1]
theorem allSame_refl : ∀ l : List Hd, allSame l l = true
  | [] => rfl
  | x :: l => by simp [allSame, sameS_refl]
theorem sameK_refl (a : Kern) : sameK a a = true := by simp [sameK, machSame_refl, allSame_refl]
theorem kk (a b : Kern) : AV.pureAll (a.cells ++ b.cells) = true := by simp [pureAll_append]
theorem zip_at {a b : List Hd} {i : Nat} (h1 : i < a.length) (h2 : i < b.length) : (List.zipWith sameS a b)[i]'(by simp; omega) = sameS a[i] b[i] := by simp
theorem machSame_def (a b : Kern) : AV.eqs (mcells a.want a.run a.fail) (mcells b.want b.run b.fail) = machSame a b := rfl

set_option maxHeartbeats 1000000 in
theorem c_r18Same (a b : Kern) (ha : a.len) : C f_lockbarref18_Same [a.av, b.av] (.bool (sameK a b)) := by
  have h1 := ha.1
  have hm := machSame_def a b
  simp only [mcells] at hm
  refine ctr (a.cells ++ b.cells) run_lockbarref18_Same rfl (kk a b) rfl ?_ rfl
  unfold rt_lockbarref18_Same
  simp [Kern.cells, -AV.eqs]
  by_cases hl : a.held.length = b.held.length
  · simp [hl, -AV.eqs]
    refine RTwp_loop rfl (fun vs => ∃ i : Nat, i ≤ a.held.length ∧ vs = [I i] ∧ NoneIn (fun x => !x) ((List.zipWith sameS a.held b.held).take i)) (fun vs => match vs with | [.int _ j] => a.held.length - j.toNat | _ => 0) ⟨0, by simp, by simp, rfl⟩ ?_
    rintro vs - ⟨i, hi, rfl, hq⟩
    simp [-AV.eqs]
    refine ⟨fun hlt => ?_, fun hge => ?_⟩
    · have hlt2 : i < b.held.length := by omega
      have hw := wrap_succ (i := i) (by omega)
      have hz := zip_at hlt hlt2
      simp [hlt, hlt2, Hd.cells, -AV.eqs]
      refine call (c_r17Same a.held[i] b.held[i] (a.at ha hlt)) (by simp [hlt, hlt2, Hd.cells]) (by simp) ?_
      cases hs : sameS a.held[i] b.held[i]
      · have : allSame a.held b.held = false := by
          unfold allSame
          rw [List.all_eq_false]
          exact ⟨(List.zipWith sameS a.held b.held)[i]'(by simp; omega), List.getElem_mem _, by rw [hz, hs]; simp⟩
        simp [sameK, this, -AV.eqs]
      · simp [hw, -AV.eqs]
        exact ⟨⟨i + 1, by omega, by omega, any_step (i := i) (l := List.zipWith sameS a.held b.held) (by simp; omega) hq (by rw [hz, hs]; rfl)⟩, by omega⟩
    · have ht : (List.zipWith sameS a.held b.held).take i = List.zipWith sameS a.held b.held := List.take_of_length_le (by simp; omega)
      rw [ht] at hq
      have hall : allSame a.held b.held = true := by
        unfold allSame
        unfold NoneIn at hq
        rw [List.all_eq_true]
        intro x hx
        have := List.any_eq_false.1 hq x hx
        simpa using this
      simp [hm, sameK, hl, hall, -AV.eqs]
  · have hl2 : ¬ (a.held.length : Int) = b.held.length := by omega
    simp [hl, sameK, -AV.eqs]
    exact fun h => absurd h hl2
set_option maxRecDepth 100000 in
set_option maxHeartbeats 1000000 in
theorem c_free_Same (a b : Kern) (ha : a.len) : C f_free_Same [a.av, b.av] (.bool (sameK a b)) := by
  have h1 := ha.1
  have hm := machSame_def a b
  simp only [mcells] at hm
  refine ctr (a.cells ++ b.cells) run_free_Same rfl (kk a b) rfl ?_ rfl
  unfold rt_free_Same
  simp [Kern.cells, hm, -AV.eqs]
  refine ⟨fun hn hma => ⟨fun hl => ?_, fun hl => ?_⟩, fun hno => ?_⟩
  · have hl2 : ¬ a.held.length = b.held.length := by omega
    simp [sameK, hl2]
  · have hl : a.held.length = b.held.length := by omega
    refine RTwp_loop rfl (fun vs => ∃ i : Nat, i ≤ a.held.length ∧ vs = [I i] ∧ NoneIn (fun x => !x) ((List.zipWith sameS a.held b.held).take i)) (fun vs => match vs with | [.int _ j] => a.held.length - j.toNat | _ => 0) ⟨0, by simp, by simp, rfl⟩ ?_
    rintro vs - ⟨i, hi, rfl, hq⟩
    simp [-AV.eqs]
    refine ⟨fun hlt => ?_, fun hge => ?_⟩
    · have hlt2 : i < b.held.length := by omega
      have hw := wrap_succ (i := i) (by omega)
      have hz := zip_at hlt hlt2
      simp [hlt, hlt2, Hd.cells, -AV.eqs]
      refine call (c_held_Same a.held[i] b.held[i] (a.at ha hlt)) (by simp [hlt, hlt2, Hd.cells]) (by simp) ?_
      cases hs : sameS a.held[i] b.held[i]
      · have : allSame a.held b.held = false := by
          unfold allSame
          rw [List.all_eq_false]
          exact ⟨(List.zipWith sameS a.held b.held)[i]'(by simp; omega), List.getElem_mem _, by rw [hz, hs]; simp⟩
        simp [sameK, this, -AV.eqs]
      · simp [hw, -AV.eqs]
        exact ⟨⟨i + 1, by omega, by omega, any_step (i := i) (l := List.zipWith sameS a.held b.held) (by simp; omega) hq (by rw [hz, hs]; rfl)⟩, by omega⟩
    · have ht : (List.zipWith sameS a.held b.held).take i = List.zipWith sameS a.held b.held := List.take_of_length_le (by simp; omega)
      rw [ht] at hq
      have hall : allSame a.held b.held = true := by
        unfold allSame
        unfold NoneIn at hq
        rw [List.all_eq_true]
        intro x hx
        have := List.any_eq_false.1 hq x hx
        simpa using this
      simp [hm, hn, hma, sameK, hl, hall, -AV.eqs]
  · by_cases h : a.next = b.next
    · simp [sameK, hno h]
    · simp [sameK, h]
end Go.Lb.LK
