/- The document's Right of a held route. -/
import Derived.Test.YtmaldhbaihlmbaaGreatDoorCh4
set_option linter.unusedSimpArgs false
set_option linter.unusedVariables false
namespace Go.Lb.LK
open Go Go.Lb Go.Proofs Go.RowKit
theorem zdc {h : Hd} (hr : za0 h = true) : h.g1 ∧ h.g2 ∧ zct h.needs h.needs = false ∧ h.wasOk = true ∧ h.secs.Nodup ∧ h.needs.all (zdf h.path.steps.length) = true := by
 simp only [za0, Bool.and_eq_true, decide_eq_true_eq, Bool.not_eq_true'] at hr
 exact ⟨hr.1, hr.2.1, hr.2.2.1, hr.2.2.2.1, hr.2.2.2.2.1, hr.2.2.2.2.2⟩
theorem zn2 (h : Hd) (k : Nat) (hk : k < 12) : (h.cells[k * 1 + 8]?).getD .undef = .bool (h.was k) := by
 rw [Nat.mul_one, ← List.getD_eq_getElem?_getD]; exact zo0 h hk _
theorem zjn {l : List Int} {i j : Nat} (hij : i < j) (hj : j < l.length) (he : l[i] = l[j]) : ¬ l.Nodup := by
 intro hn
 have := List.pairwise_iff_getElem.1 hn i j (by omega) hj hij
 exact this he
theorem zlA {l : List Int} {k : Nat} (hk : k < l.length) (hn : (l.take k).Nodup) (hi : ∀ i, (h : i < k) → l[i] ≠ l[k]) : (l.take (k + 1)).Nodup := by
 rw [List.take_add_one, List.getElem?_eq_getElem hk]
 simp only [Option.toList_some]
 rw [List.nodup_append]
 refine ⟨hn, by simp, ?_⟩
 intro a ha b hb
 simp at hb; subst hb
 obtain ⟨i, hi2, rfl⟩ := List.mem_iff_getElem.1 ha
 rw [List.length_take] at hi2
 rw [List.getElem_take]
 exact hi i (by omega)
theorem zkc (h : Hd) (hl : h.wide) (hs : 0 ≤ h.stage ∧ h.stage ≤ 255) : C f_lockbarref17_Right [h.av] (.bool (za0 h)) := by
 obtain ⟨l1, l2, l3⟩ := hl
 refine ctr h.cells run_lockbarref17_Right rfl (by simp) rfl ?_ rfl
 unfold rt_lockbarref17_Right
 simp [Hd.cells]
 refine zai (avs := [needs h.needs, needs h.needs]) (.bool (zct h.needs h.needs)) rfl (fun _ => ⟨by simp, zhf _ _ (by omega) (by omega)⟩) (by simp) ?_
 by_cases g1 : h.g1 ∧ h.g2
 ·have g1' := g1.1
  have g2' := g1.2
  obtain ⟨⟨a1, a2, a3, a4, a5, a6, a7⟩, d1, d2, d3, d4⟩ := g1
  have b1 : ¬ h.id < 1 := by omega
  have b2 : ¬ 1073741824 < h.id := by omega
  have b2' : ¬ 1073741824 < h.timer := by omega
  have b3 : ¬ h.timer < 0 := by omega
  have b4 : ¬ ((h.path.steps.length : Int) < 1) := by omega
  have b5 : ¬ (12 < (h.path.steps.length : Int)) := by omega
  have b6 : ¬ (2 < (h.over.length : Int)) := by omega
  have e1 : ¬ h.stage < 1 := by omega
  have e2 : ¬ 5 ≤ h.stage := by omega
  have e3 : ¬ h.gone < 0 := by omega
  have e4 : ¬ (h.path.steps.length : Int) < h.gone := by omega
  simp [b1, b2, b2', b3, b4, b5, b6, e1, e2, e3, e4]
  refine ⟨fun hc => by simp [za0, hc], fun hc => ⟨fun a _ => by simp [Step.cells], by omega, fun a _ => by simp [Step.cells], by omega, ?_⟩⟩
  have hsecs : h.secs = (h.path.steps ++ h.over).map (·.s) := rfl
  have hlen : (h.path.steps ++ h.over).length = h.path.steps.length + h.over.length := by simp
  generalize hall : h.path.steps ++ h.over = all at hsecs hlen
  have hmap : List.map Step.av h.path.steps ++ List.map Step.av h.over = all.map Step.av := by rw [← hall, List.map_append]
  refine zaa rfl (fun vs => ∃ k : Nat, k ≤ all.length ∧ vs = [I k] ∧ ((all.map (·.s)).take k).Nodup) (fun vs => match vs with | [.int _ j] => all.length - j.toNat | _ => 0) ⟨0, by simp, by simp, by simp⟩ ?_
  rintro vs - ⟨k, hk, rfl, hnd⟩
  simp [hmap, ← hlen]
  refine ⟨fun hlt => ?_, fun hge => ?_⟩
  ·have hltm : k < (all.map (·.s)).length := by simpa using hlt
   refine zaa rfl (fun vs => ∃ j : Nat, j ≤ k ∧ vs = [I j] ∧ ∀ i, i < j → ∀ x, all[i]? = some x → ¬ x.s = all[k].s) (fun vs => match vs with | [.int _ j] => k - j.toNat | _ => 0) ⟨0, by simp, by simp, by simp⟩ ?_
   rintro vs - ⟨j, hj, rfl, hne⟩
   simp [hmap]
   refine ⟨fun hjk => ?_, fun hjk => ?_⟩
   ·have hja : j < all.length := by omega
    have hwr := zab (i := j) (by omega)
    simp [hlt, hja, Step.cells, hwr]
    refine ⟨by omega, by omega, ?_⟩
    by_cases he : all[j].s = all[k].s
    ·right
     refine ⟨he, ?_⟩
     have : ¬ h.secs.Nodup := by
      rw [hsecs]
      exact zjn (i := j) (j := k) (by omega) (by simpa using hlt) (by simpa using he)
     simp [za0, this]
    ·left
     refine ⟨he, ⟨j + 1, by omega, by omega, fun i hi x hx => ?_⟩, by omega⟩
     by_cases hij : i = j
     ·subst hij
      rw [List.getElem?_eq_getElem hja] at hx
      cases hx; exact he
     ·exact hne i (by omega) x hx
   ·have hwr := zab (i := k) (by omega)
    have hjk2 : j = k := by omega
    subst hjk2
    simp [hwr]
    refine ⟨⟨j + 1, by omega, by omega, ?_⟩, by omega⟩
    have := zlA hltm hnd (fun i hi he => hne i hi all[i] (List.getElem?_eq_getElem (by omega)) (by simpa using he))
    simpa using this
  ·have hta : (all.map (·.s)).take k = all.map (·.s) := List.take_of_length_le (by simp; omega)
   rw [hta] at hnd
   have hno : h.secs.Nodup := by rw [hsecs]; exact hnd
   refine zaa rfl (fun vs => ∃ k : Nat, h.path.steps.length ≤ k ∧ k ≤ 12 ∧ vs = [I k] ∧ ∀ m, h.path.steps.length ≤ m → m < k → h.was m = false) (fun vs => match vs with | [.int _ j] => 12 - j.toNat | _ => 0) ⟨h.path.steps.length, by simp, by omega, by simp, fun m h1 h2 => by omega⟩ ?_
   rintro vs - ⟨m, hm1, hm2, rfl, hwm⟩
   simp
   refine ⟨fun hlt => ?_, fun hge => ?_⟩
   ·have hlt2 : m < 12 := by omega
    have hwr := zab (i := m) (by omega)
    have hc2 := zn2 h m hlt2
    simp only [Hd.cells] at hc2
    simp at hc2
    simp [hc2, hwr]
    refine ⟨by omega, by omega, ?_⟩
    cases hw : h.was m
    ·left
     refine ⟨rfl, ⟨m + 1, by omega, by omega, by omega, fun i h1 h2 => ?_⟩, by omega⟩
     by_cases him : i = m
     ·subst him; exact hw
     ·exact hwm i h1 (by omega)
    ·right
     refine ⟨rfl, ?_⟩
     have : h.wasOk = false := by
      unfold Hd.wasOk
      rw [List.all_eq_false]
      refine ⟨m, by simpa using hlt2, ?_⟩
      simp [hw]; omega
     simp [za0, this]
   ·have hwo : h.wasOk = true := by
     unfold Hd.wasOk
     rw [List.all_eq_true]
     intro i hi
     simp only [List.mem_range] at hi
     by_cases hin : i < h.path.steps.length
     ·simp [hin]
     ·rw [hwm i (by omega) (by omega)]; simp
    have hr : za0 h = h.needs.all (zdf h.path.steps.length) := by simp [za0, g1', g2', hc, hwo, hno]
    rw [hr]
    refine zaa rfl (fun vs => ∃ i : Nat, i ≤ h.needs.length ∧ vs = [I i] ∧ zaj (fun x => !zdf h.path.steps.length x) (h.needs.take i)) (fun vs => match vs with | [.int _ j] => h.needs.length - j.toNat | _ => 0) ⟨0, by simp, by simp, rfl⟩ ?_
    rintro vs - ⟨i, hi, rfl, hq⟩
    simp
    refine ⟨fun hlt => ?_, fun hge => ?_⟩
    ·have hwr := zab (i := i) (by omega)
     simp [hlt, Need.cells, hwr]
     cases hok : zdf h.path.steps.length h.needs[i]
     ·right
      refine ⟨?_, h.needs[i], List.getElem_mem hlt, hok⟩
      simp only [zdf, decide_eq_false_iff_not] at hok
      omega
     ·left
      have hok2 := hok
      simp only [zdf, decide_eq_true_eq] at hok2
      exact ⟨by omega, ⟨i + 1, by omega, by omega, zah hlt hq (by simp [hok])⟩, by omega⟩
    ·have : h.needs.take i = h.needs := List.take_of_length_le (by omega)
     rw [this] at hq
     unfold zaj at hq
     simp at hq
     exact fun x hx => hq x hx
 ·have hr : za0 h = false := by
   simp only [za0]
   by_cases hg : h.g1
   ·have : ¬ h.g2 := fun h2 => g1 ⟨hg, h2⟩
    simp [this]
   ·simp [hg]
  rw [hr]
  simp
  intro q1 q2 q3 q4 q5 q6 q7 q8 q9 q10 q11 q12
  exfalso
  apply g1
  unfold Hd.g1 Hd.g2
  omega
theorem zb0 {h : Hd} (hl : h.wide) (hr : za0 h = true) : h.len := by
 obtain ⟨⟨a1, a2, a3, a4, a5, a6, a7⟩, _⟩ := zdc hr
 exact ⟨by omega, by omega, hl.2.2⟩
end Go.Lb.LK
namespace Go.Lb.LK
open Go Go.Lb Go.Proofs Go.RowKit
def zcY (k : Kern) (i : Nat) : Int := if i = 0 then 0 else (k.held[i - 1]?.map (·.id)).getD 0
def okAt (k : Kern) (i : Nat) : Bool := match k.held[i]? with
 | some h => za0 h && (decide (h.id < k.next) && (decide (zcY k i < h.id) && (k.held.take i).all (za8 h)))
 | none => true
def zgz (k : Kern) : Bool := (List.range 24).all fun i => zd8 (k.mach i)
def zay (k : Kern) : Bool := decide (k.held.length ≤ 6 ∧ 1 ≤ k.next ∧ k.next ≤ 1073741824) && ((List.range k.held.length).all (okAt k) && zgz k)
theorem zfm {k : Kern} {i : Nat} (h : i < k.held.length) : okAt k i = (za0 k.held[i] && (decide (k.held[i].id < k.next) && (decide (zcY k i < k.held[i].id) && (k.held.take i).all (za8 k.held[i])))) := by
 simp only [okAt, List.getElem?_eq_getElem h]
theorem zcr {k : Kern} {i : Nat} (h : i < k.held.length) (hb : okAt k i = false) : zay k = false := by
 have : (List.range k.held.length).all (okAt k) = false := by
  rw [List.all_eq_false]
  exact ⟨i, List.mem_range.2 h, by rw [hb]; simp⟩
 simp [zay, this]
theorem zkk {k : Kern} {i : Nat} (h : i < k.held.length) : zcY k (i + 1) = k.held[i].id := by
 simp [zcY, List.getElem?_eq_getElem h]
theorem aidxM (k : Kern) {i : Nat} {z : Int} (hz : z = i) (h : i < 24) : pv (.aidx 24 3 0 3 true) [.agg (zcZ k.want k.run k.fail), I z] = (k.mach i).av := by
 subst hz
 match i, h with
 | 0, _ => rfl
 | 1, _ => rfl
 | 2, _ => rfl
 | 3, _ => rfl
 | 4, _ => rfl
 | 5, _ => rfl
 | 6, _ => rfl
 | 7, _ => rfl
 | 8, _ => rfl
 | 9, _ => rfl
 | 10, _ => rfl
 | 11, _ => rfl
 | 12, _ => rfl
 | 13, _ => rfl
 | 14, _ => rfl
 | 15, _ => rfl
 | 16, _ => rfl
 | 17, _ => rfl
 | 18, _ => rfl
 | 19, _ => rfl
 | 20, _ => rfl
 | 21, _ => rfl
 | 22, _ => rfl
 | 23, _ => rfl
 | n + 24, h => exact absurd h (by omega)
theorem aidxK (k : Kern) {i : Nat} {z : Int} (hz : z = i) (h : i < 24) : pv (.aidx 24 3 2 3 true) [.agg k.cells, I z] = (k.mach i).av := by
 subst hz
 match i, h with
 | 0, _ => rfl
 | 1, _ => rfl
 | 2, _ => rfl
 | 3, _ => rfl
 | 4, _ => rfl
 | 5, _ => rfl
 | 6, _ => rfl
 | 7, _ => rfl
 | 8, _ => rfl
 | 9, _ => rfl
 | 10, _ => rfl
 | 11, _ => rfl
 | 12, _ => rfl
 | 13, _ => rfl
 | 14, _ => rfl
 | 15, _ => rfl
 | 16, _ => rfl
 | 17, _ => rfl
 | 18, _ => rfl
 | 19, _ => rfl
 | 20, _ => rfl
 | 21, _ => rfl
 | 22, _ => rfl
 | 23, _ => rfl
 | n + 24, h => exact absurd h (by omega)
theorem zbc {q : Nat → Bool} {n i : Nat} (h : i < n) (hb : q i = false) : (List.range n).all q = false := by
 rw [List.all_eq_false]
 exact ⟨i, List.mem_range.2 h, by rw [hb]; simp⟩
theorem zaU {q : Nat → Bool} {n : Nat} (h : ∀ i, i < n → q i = true) : (List.range n).all q = true := by
 rw [List.all_eq_true]
 exact fun i hi => h i (List.mem_range.1 hi)
set_option maxHeartbeats 2000000 in
theorem zee (k : Kern) (hl : k.wide) (hk : k.ok) : C f_lockbarref18_Right [k.av] (.bool (zay k)) := by
 have h1 := hl.1
 refine ctr k.cells run_lockbarref18_Right rfl (by simp) rfl ?_ rfl
 unfold rt_lockbarref18_Right
 simp [Kern.cells, -zad]
 refine ⟨fun hb => ?_, fun a1 a2 a3 => ?_⟩
 ·have hg : ¬ (k.held.length ≤ 6 ∧ 1 ≤ k.next ∧ k.next ≤ 1073741824) := by omega
  simp only [zay]; rw [decide_eq_false hg]; rfl
 ·have hg : k.held.length ≤ 6 ∧ 1 ≤ k.next ∧ k.next ≤ 1073741824 := by omega
  refine zaa rfl (fun vs => ∃ i : Nat, i ≤ k.held.length ∧ vs = [I i] ∧ ∀ j, j < i → okAt k j = true) (fun vs => match vs with | [.int _ j] => k.held.length - j.toNat | _ => 0) ⟨0, by omega, by simp, fun j hj => by omega⟩ ?_
  rintro vs - ⟨i, hi, rfl, hq⟩
  simp [-zad]
  refine ⟨fun hlt => ?_, fun hge => ?_⟩
  ·have hw := zab (i := i) (by omega)
   have hok := zfm hlt
   simp [hlt, Hd.cells, -zad]
   refine call (zkc k.held[i] (k.atW hl hlt) (hk _ (List.getElem_mem hlt))) (by simp [hlt, Hd.cells]) (by simp) ?_
   by_cases hi0 : 0 < i
   ·have hw0 : IntKind.i64.wrap ((i : Int) - 1) = (i : Int) - 1 := by rw [zeb] <;> omega
    have hlast : zcY k i = k.held[i - 1].id := by
     simp [zcY, show ¬ i = 0 by omega, List.getElem?_eq_getElem (show i - 1 < k.held.length by omega)]
    have hi1 : ((i : Int) - 1).toNat = i - 1 := by omega
    simp [hlt, hi0, hw0, hi1, Hd.cells, show i - 1 < k.held.length by omega, -zad]
    refine And.intro (by intros; omega) ?_
    refine ⟨fun hb => ?_, fun hr hn hli => ?_⟩
    ·refine zcr hlt ?_
     rw [hok, hlast]
     rcases hb with (hb | hb) | hb
     ·simp [hb]
     ·simp [show ¬ k.held[i].id < k.next by omega]
     ·simp [show ¬ k.held[i - 1].id < k.held[i].id by omega]
    ·rw [← hlast] at hli
     refine zaa rfl (fun vs => ∃ j : Nat, j ≤ i ∧ vs = [I j] ∧ zaj (fun o => !za8 k.held[i] o) (k.held.take j)) (fun vs => match vs with | [.int _ j] => i - j.toNat | _ => 0) ⟨0, by omega, by simp, rfl⟩ ?_
     rintro vs - ⟨j, hj, rfl, hp⟩
     simp [-zad]
     refine ⟨fun hlt2 => ?_, fun hge2 => ?_⟩
     ·have hj2 : j < k.held.length := by omega
      have hrj : za0 k.held[j] = true := by
       have := hq j (by omega)
       rw [zfm hj2] at this
       simp only [Bool.and_eq_true] at this
       exact this.1
      have hwj := zab (i := j) (by omega)
      simp [hlt, hj2, Hd.cells, -zad]
      refine call (ze3 k.held[i] k.held[j] (zb0 (k.atW hl hlt) hr) (zb0 (k.atW hl hj2) hrj)) (by simp [hlt, hj2, Hd.cells]) (by simp) ?_
      cases ha : za8 k.held[i] k.held[j]
      ·have hb : zay k = false := by
        refine zcr hlt ?_
        rw [hok]
        have : (k.held.take i).all (za8 k.held[i]) = false := by
         rw [List.all_eq_false]
         exact ⟨k.held[j], List.mem_take_iff_getElem.2 ⟨j, by omega, rfl⟩, by rw [ha]; simp⟩
        rw [this]; simp
       simp [hb, -zad]
      ·simp [hwj, -zad]
       exact ⟨⟨j + 1, by omega, by omega, zah hj2 hp (by simp [ha])⟩, by omega⟩
     ·have hji : j = i := by omega
      subst hji
      have hall : (k.held.take j).all (za8 k.held[j]) = true := by
       rw [List.all_eq_true]
       intro x hx
       have := List.any_eq_false.1 hp x hx
       simpa using this
      have hokj : okAt k j = true := by rw [hok, hr, hall, decide_eq_true hn, decide_eq_true hli]; rfl
      simp [hlt, hw, Hd.cells, -zad]
      refine ⟨⟨j + 1, by omega, by omega, fun m hm => ?_⟩, by omega⟩
      by_cases hmj : m = j
      ·subst hmj; exact hokj
      ·exact hq m (by omega)
   ·have hi0' : i = 0 := by omega
    have hlast : zcY k i = 0 := by simp [zcY, hi0']
    simp [hlt, hi0, Hd.cells, -zad]
    refine ⟨fun hb => ?_, fun hr hn => ?_⟩
    ·refine zcr hlt ?_
     rw [hok]
     rcases hb with hb | hb
     ·simp [hb]
     ·simp [show ¬ k.held[i].id < k.next by omega]
    ·have hli : zcY k i < k.held[i].id := by
      rw [hlast]
      obtain ⟨⟨q1, _⟩, _⟩ := zdc hr
      omega
     refine zaa rfl (fun vs => ∃ j : Nat, j ≤ i ∧ vs = [I j] ∧ zaj (fun o => !za8 k.held[i] o) (k.held.take j)) (fun vs => match vs with | [.int _ j] => i - j.toNat | _ => 0) ⟨0, by omega, by simp, rfl⟩ ?_
     rintro vs - ⟨j, hj, rfl, hp⟩
     simp [-zad]
     refine ⟨fun hlt2 => ?_, fun hge2 => ?_⟩
     ·have hj2 : j < k.held.length := by omega
      have hrj : za0 k.held[j] = true := by
       have := hq j (by omega)
       rw [zfm hj2] at this
       simp only [Bool.and_eq_true] at this
       exact this.1
      have hwj := zab (i := j) (by omega)
      simp [hlt, hj2, Hd.cells, -zad]
      refine call (ze3 k.held[i] k.held[j] (zb0 (k.atW hl hlt) hr) (zb0 (k.atW hl hj2) hrj)) (by simp [hlt, hj2, Hd.cells]) (by simp) ?_
      cases ha : za8 k.held[i] k.held[j]
      ·have hb : zay k = false := by
        refine zcr hlt ?_
        rw [hok]
        have : (k.held.take i).all (za8 k.held[i]) = false := by
         rw [List.all_eq_false]
         exact ⟨k.held[j], List.mem_take_iff_getElem.2 ⟨j, by omega, rfl⟩, by rw [ha]; simp⟩
        rw [this]; simp
       simp [hb, -zad]
      ·simp [hwj, -zad]
       exact ⟨⟨j + 1, by omega, by omega, zah hj2 hp (by simp [ha])⟩, by omega⟩
     ·have hji : j = i := by omega
      subst hji
      have hall : (k.held.take j).all (za8 k.held[j]) = true := by
       rw [List.all_eq_true]
       intro x hx
       have := List.any_eq_false.1 hp x hx
       simpa using this
      have hokj : okAt k j = true := by rw [hok, hr, hall, decide_eq_true hn, decide_eq_true hli]; rfl
      simp [hlt, hw, Hd.cells, -zad]
      refine ⟨⟨j + 1, by omega, by omega, fun m hm => ?_⟩, by omega⟩
      by_cases hmj : m = j
      ·subst hmj; exact hokj
      ·exact hq m (by omega)
  ·have hA : (List.range k.held.length).all (okAt k) = true := zaU fun j hj => hq j (by omega)
   refine zaa rfl (fun vs => ∃ m : Nat, m ≤ 24 ∧ vs = [I m] ∧ ∀ j, j < m → zd8 (k.mach j) = true) (fun vs => match vs with | [.int _ j] => 24 - j.toNat | _ => 0) ⟨0, by omega, by simp, fun j hj => by omega⟩ ?_
   rintro vs - ⟨m, hm, rfl, hqm⟩
   simp [-zad]
   refine ⟨fun hlt => ?_, fun hge => ?_⟩
   ·have hm24 : m < 24 := by omega
    have hw := zab (i := m) (by omega)
    have hMM := aidxK k (i := m) (z := (m : Int)) rfl hm24
    simp only [Kern.cells] at hMM
    skip
    repeat refine And.intro (by omega) ?_
    refine call (zll (k.mach m)) (by simp [hMM, Mach.cells, -zad]) (by simp) ?_
    cases hmo : zd8 (k.mach m)
    ·have : zay k = false := by
      have : zgz k = false := zbc hm24 hmo
      simp [zay, this]
     simp [this, -zad]
    ·simp [hw, -zad]
     refine ⟨⟨m + 1, by omega, by omega, fun j hj => ?_⟩, by omega⟩
     by_cases hjm : j = m
     ·subst hjm; exact hmo
     ·exact hqm j (by omega)
   ·have hmall : zgz k = true := zaU fun j hj => hqm j (by omega)
    have : zay k = true := by simp only [zay, hA, hmall]; rw [decide_eq_true hg]; rfl
    simp [this, -zad]
theorem zda {k : Kern} (hl : k.wide) (hr : zay k = true) : k.len := by
 simp only [zay, Bool.and_eq_true, decide_eq_true_eq] at hr
 refine ⟨by omega, fun h hh => ?_⟩
 obtain ⟨i, hi, rfl⟩ := List.mem_iff_getElem.1 hh
 have h1 := List.all_eq_true.1 hr.2.1 i (List.mem_range.2 hi)
 rw [zfm hi] at h1
 simp only [Bool.and_eq_true] at h1
 exact zb0 (k.atW hl hi) h1.1
end Go.Lb.LK
namespace Go.Lb.LK
open Go Go.Lb Go.Proofs Go.RowKit
set_option maxHeartbeats 2000000 in
theorem zdo (k : Kern) (hl : k.len) (hk : k.ok) : C f_free_Right [k.av] (.bool (zay k)) := by
 have h1 := hl.1
 refine ctr k.cells run_free_Right rfl (by simp) rfl ?_ rfl
 unfold rt_free_Right
 simp [Kern.cells, -zad]
 refine ⟨fun hb => ?_, fun a1 a2 a3 => ?_⟩
 ·have hg : ¬ (k.held.length ≤ 6 ∧ 1 ≤ k.next ∧ k.next ≤ 1073741824) := by omega
  simp only [zay]; rw [decide_eq_false hg]; rfl
 ·have hg : k.held.length ≤ 6 ∧ 1 ≤ k.next ∧ k.next ≤ 1073741824 := by omega
  refine zaa rfl (fun vs => ∃ i : Nat, i ≤ k.held.length ∧ vs = [I (zcY k i), I i] ∧ ∀ j, j < i → okAt k j = true) (fun vs => match vs with | [_, .int _ j] => k.held.length - j.toNat | _ => 0) ⟨0, by omega, by simp [zcY], fun j hj => by omega⟩ ?_
  rintro vs - ⟨i, hi, rfl, hq⟩
  simp [-zad]
  refine ⟨fun hlt => ?_, fun hge => ?_⟩
  ·have hw := zab (i := i) (by omega)
   have hok := zfm hlt
   have hsucc := zkk hlt
   simp [hlt, Hd.cells, -zad]
   refine call (ziP k.held[i] (k.at hl hlt) (hk _ (List.getElem_mem hlt))) (by simp [hlt, Hd.cells]) (by simp) ?_
   simp [hlt, Hd.cells, -zad]
   refine And.intro (fun _ _ _ => by omega) ?_
   refine ⟨fun hb => ?_, fun hr hli hn => ?_⟩
   ·refine zcr hlt ?_
    rw [hok]
    rcases hb with (hb | hb) | hb
    ·simp [hb]
    ·simp [show ¬ zcY k i < k.held[i].id by omega]
    ·simp [show ¬ k.held[i].id < k.next by omega]
   ·refine zaa rfl (fun vs => ∃ j : Nat, j ≤ i ∧ vs = [I j] ∧ zaj (fun o => !za8 k.held[i] o) (k.held.take j)) (fun vs => match vs with | [.int _ j] => i - j.toNat | _ => 0) ⟨0, by omega, by simp, rfl⟩ ?_
    rintro vs - ⟨j, hj, rfl, hp⟩
    simp [-zad]
    refine ⟨fun hlt2 => ?_, fun hge2 => ?_⟩
    ·have hj2 : j < k.held.length := by omega
     have hwj := zab (i := j) (by omega)
     simp [hlt, hj2, hlt2, Hd.cells, -zad]
     refine call (ziO k.held[i] k.held[j] (k.at hl hlt) (k.at hl hj2)) (by simp [hlt, hj2, hlt2, Hd.cells]) (by simp) ?_
     cases ha : za8 k.held[i] k.held[j]
     ·have hb : zay k = false := by
       refine zcr hlt ?_
       rw [hok]
       have : (k.held.take i).all (za8 k.held[i]) = false := by
        rw [List.all_eq_false]
        exact ⟨k.held[j], List.mem_take_iff_getElem.2 ⟨j, by omega, rfl⟩, by rw [ha]; simp⟩
       rw [this]; simp
      simp [hb, -zad]
     ·simp [hwj, -zad]
      exact ⟨⟨j + 1, by omega, by omega, zah hj2 hp (by simp [ha])⟩, by omega⟩
    ·have hji : j = i := by omega
     subst hji
     have hall : (k.held.take j).all (za8 k.held[j]) = true := by
      rw [List.all_eq_true]
      intro x hx
      have := List.any_eq_false.1 hp x hx
      simpa using this
     have hokj : okAt k j = true := by rw [hok, hr, hall, decide_eq_true hn, decide_eq_true hli]; rfl
     simp [hlt, hw, Hd.cells, -zad]
     refine ⟨⟨j + 1, by omega, ⟨hsucc.symm, by omega⟩, fun m hm => ?_⟩, by omega⟩
     by_cases hmj : m = j
     ·subst hmj; exact hokj
     ·exact hq m (by omega)
  ·have hA : (List.range k.held.length).all (okAt k) = true := zaU fun j hj => hq j (by omega)
   refine zaa rfl (fun vs => ∃ m : Nat, m ≤ 24 ∧ vs = [I m] ∧ ∀ j, j < m → zd8 (k.mach j) = true) (fun vs => match vs with | [.int _ j] => 24 - j.toNat | _ => 0) ⟨0, by omega, by simp, fun j hj => by omega⟩ ?_
   rintro vs - ⟨m, hm, rfl, hqm⟩
   simp [-zad]
   refine ⟨fun hlt => ?_, fun hge => ?_⟩
   ·have hm24 : m < 24 := by omega
    have hw := zab (i := m) (by omega)
    have hMM := aidxM k (i := m) (z := (m : Int)) rfl hm24
    simp only [zcZ] at hMM
    simp [hMM, Mach.cells, -zad]
    repeat refine And.intro (by omega) ?_
    refine call (zhR (k.mach m)) (by simp [hMM, Mach.cells, -zad]) (by simp) ?_
    cases hmo : zd8 (k.mach m)
    ·have : zay k = false := by
      have : zgz k = false := zbc hm24 hmo
      simp [zay, this]
     simp [this, -zad]
    ·simp [hw, -zad]
     refine ⟨⟨m + 1, by omega, by omega, fun j hj => ?_⟩, by omega⟩
     by_cases hjm : j = m
     ·subst hjm; exact hmo
     ·exact hqm j (by omega)
   ·have hmall : zgz k = true := zaU fun j hj => hqm j (by omega)
    have : zay k = true := by simp only [zay, hA, hmall]; rw [decide_eq_true hg]; rfl
    simp [this, -zad]
end Go.Lb.LK
namespace Go.Lb.LK
open Go Go.Lb Go.Proofs Go.RowKit
theorem liks (l : Lay) (im : Img) (k : Kern) (xs : List AV) (h : AV.pureAll xs = true) : AV.pureAll (l.cells ++ im.cells ++ k.cells ++ xs) = true := by simp [zac, h]
def zcN (l : Lay) (im : Img) (k : Kern) (s : Int) : Bool := (zbR k s).isNone && !zbf l im s
theorem zbP (l : Lay) (im : Img) (hi : im.ok) (k : Kern) (hl : k.len) (s : Int) : C f_free_Free [l.av, im.av, k.av, I s] (.bool (zcN l im k s)) := by
 refine ctr (l.cells ++ im.cells ++ k.cells ++ [I s]) run_free_Free rfl (liks l im k _ rfl) rfl ?_ rfl
 unfold rt_free_Free
 simp [Lay.cells, Img.cells, Kern.cells]
 refine call (zcg k hl s) (by simp [Kern.cells]) (by simp [optP]) ?_
 simp [optP]
 refine zai (avs := [l.av, im.av, I s]) (.bool (zbf l im s)) rfl (fun _ => ⟨by simp [Lay.cells, Img.cells], zfP l im hi s⟩) (by simp) ?_
 cases h : zbR k s <;> simp [zcN, h]
def za5 (l : Lay) (im : Img) (k : Kern) (n : Need) : Bool :=
 decide (0 ≤ n.p ∧ n.p < 24) && (match zcc k n.p with
  | some pos => decide (pos = n.pos) && (decide (atP l im n.p = n.pos) || !zb8 k n.p)
  | none => decide (atP l im n.p = n.pos) || (!k.fail n.p.toNat && zcN l im k n.p))
theorem zps (k : Kern) {i : Nat} {z : Int} (hz : z = i) (h : i < 24) : pv (.aidx 24 3 4 1 false) [.agg k.cells, I z] = .bool (k.fail i) := by
 subst hz
 have := zmH k.want k.run k.fail h .undef
 have e : k.cells.getD (i * 3 + 4) .undef = .bool (k.fail i) := by
  rw [← this]; rfl
 simp only [zad, Int.toNat_natCast, AV.cut]
 rw [e]
theorem zcF (l : Lay) (im : Img) (hi : im.ok) (k : Kern) (hl : k.len) (n : Need) : C f_free_Meets [l.av, im.av, k.av, n.av] (.bool (za5 l im k n)) := by
 refine ctr (l.cells ++ im.cells ++ k.cells ++ n.cells) run_free_Meets rfl (liks l im k _ (by simp)) rfl ?_ rfl
 unfold rt_free_Meets
 simp [Lay.cells, Img.cells, Kern.cells, Need.cells, -zad]
 refine ⟨fun hb => by unfold za5; rw [decide_eq_false (by omega)]; rfl, fun h0 h24 => ?_⟩
 have hA := zps k (i := n.p.toNat) (z := n.p) (by omega) (by omega)
 simp only [Kern.cells] at hA
 refine call (zle l im hi n.p) (by simp [Lay.cells, Img.cells]) (by simp) ?_
 simp [-zad]
 refine call (zch k hl n.p) (by simp [Kern.cells]) (by simp [optP]) ?_
 cases hm : zcc k n.p with
 | some pos =>
  simp [optP, -zad]
  by_cases hp : pos = n.pos
  ·simp [hp]
   refine zai (avs := [k.av, I n.p]) (.bool (zb8 k n.p)) rfl (fun _ => ⟨by simp [Kern.cells], zbE k hl n.p⟩) (by simp) ?_
   by_cases ha : atP l im n.p = n.pos <;> simp [za5, h0, h24, hm, hp, ha]
  ·simp [hp, za5, h0, h24, hm]
 | none =>
  simp [optP, hA, -zad]
  repeat refine And.intro (by intros; omega) ?_
  refine zai (avs := [l.av, im.av, k.av, I n.p]) (.bool (zcN l im k n.p)) rfl (fun _ => ⟨by simp [Lay.cells, Img.cells, Kern.cells], zbP l im hi k hl n.p⟩) (by simp) ?_
  simp [hA, -zad]
  repeat refine And.intro (by intros; omega) ?_
  by_cases ha : atP l im n.p = n.pos <;> cases hf : k.fail n.p.toNat <;> simp [za5, h0, h24, hm, ha, hf]
end Go.Lb.LK
namespace Go.Lb.LK
open Go Go.Lb Go.Proofs Go.RowKit
def zaN (k : Int) : List AV :=
 if k = 1 then [I 2, I 0, I 1, I 0, I 0, I 1, .bool false] else if k = 2 then [I 3, I 0, I 1, I 0, I 2, I 2, .bool true]
 else if k = 3 then [I 4, I 0, I 1, I 2, I 3, I 2, .bool false] else [I 0, I 0, I 0, I 0, I 0, I 0, .bool false]
theorem zfh {k : Int} (h0 : 0 ≤ k) (h1 : k ≤ 255) : k = 0 ∨ k = 1 ∨ k = 2 ∨ k = 3 ∨ 4 ≤ k := by omega
theorem zge (k : Int) (h0 : 0 ≤ k) (h1 : k ≤ 255) : C f_port_of [U k] (.agg (zaN k)) := by
 refine ctr [U k] run_port_of rfl rfl ?_ ?_ rfl
 ·unfold zaN; repeat' split
  all_goals rfl
 ·unfold rt_port_of
  have hw : IntKind.i64.wrap k = k := by rw [zeb] <;> omega
  rcases zfh h0 h1 with rfl | rfl | rfl | rfl | h
  ·simp [zaN, hw]
  ·simp [zaN, hw]
  ·simp [zaN, hw]
  ·simp [zaN, hw]
  ·have : ¬ k < 4 := by omega
   simp [hw, this, zaN, show k ≠ 1 by omega, show k ≠ 2 by omega, show k ≠ 3 by omega]
def way (k i o : Int) : Int × Bool :=
 if (k = 1 ∨ k = 2 ∨ k = 3) ∧ (i = 0 ∧ o = 1 ∨ i = 1 ∧ o = 0) then (0, true)
 else if k = 2 ∧ (i = 0 ∧ o = 2 ∨ i = 2 ∧ o = 0) then (1, true)
 else if k = 3 ∧ (i = 2 ∧ o = 3 ∨ i = 3 ∧ o = 2) then (1, true) else (0, false)
theorem w1 : IntKind.i64.wrap 1 = 1 := by decide
theorem w2 : IntKind.i64.wrap 2 = 2 := by decide
abbrev ib (x : Int × Bool) : AV := .tup [I x.1, .bool x.2]
theorem zha (k i o : Int) (h0 : 0 ≤ k) (h1 : k ≤ 255) : C f_port_Way [U k, I i, I o] (ib (way k i o)) := by
 refine ctr [U k, I i, I o] run_port_Way rfl rfl rfl ?_ rfl
 unfold rt_port_Way
 simp
 refine zdP (zge k h0 h1) (by simp) ?_
 rcases zfh h0 h1 with rfl | rfl | rfl | rfl | h
 ·simp [zaN]
  refine zaa rfl (fun vs => vs = [I 0]) (fun _ => 0) rfl ?_
  rintro vs - rfl
  simp [way]
 ·simp [zaN]
  refine zaa rfl (fun vs => vs = [I 0] ∨ vs = [I 1] ∧ way 1 i o = (0, false)) (fun vs => match vs with | [.int _ j] => 3 - j.toNat | _ => 0) (.inl rfl) ?_
  rintro vs - (rfl | ⟨rfl, hw⟩)
  ·by_cases c1 : i = 0 ∧ o = 1 ∨ i = 1 ∧ o = 0 <;> simp [way, c1, w1] <;> omega
  ·simp [hw]
 ·simp [zaN]
  refine zaa rfl (fun vs => vs = [I 0] ∨ vs = [I 1] ∧ ¬ (i = 0 ∧ o = 1 ∨ i = 1 ∧ o = 0) ∨ vs = [I 2] ∧ way 2 i o = (0, false)) (fun vs => match vs with | [.int _ j] => 3 - j.toNat | _ => 0) (.inl rfl) ?_
  rintro vs - (rfl | ⟨rfl, hw⟩ | ⟨rfl, hw⟩)
  ·by_cases c1 : i = 0 ∧ o = 1 ∨ i = 1 ∧ o = 0 <;> simp [way, c1, w1] <;> omega
  ·by_cases c1 : i = 0 ∧ o = 2 ∨ i = 2 ∧ o = 0 <;> simp [way, c1, hw, w2] <;> omega
  ·simp [hw]
 ·simp [zaN]
  refine zaa rfl (fun vs => vs = [I 0] ∨ vs = [I 1] ∧ ¬ (i = 0 ∧ o = 1 ∨ i = 1 ∧ o = 0) ∨ vs = [I 2] ∧ way 3 i o = (0, false)) (fun vs => match vs with | [.int _ j] => 3 - j.toNat | _ => 0) (.inl rfl) ?_
  rintro vs - (rfl | ⟨rfl, hw⟩ | ⟨rfl, hw⟩)
  ·by_cases c1 : i = 0 ∧ o = 1 ∨ i = 1 ∧ o = 0 <;> simp [way, c1, w1] <;> omega
  ·by_cases c1 : i = 2 ∧ o = 3 ∨ i = 3 ∧ o = 2 <;> simp [way, c1, hw, w2] <;> omega
  ·simp [hw]
 ·simp [zaN, show k ≠ 1 by omega, show k ≠ 2 by omega, show k ≠ 3 by omega]
  refine zaa rfl (fun vs => vs = [I 0]) (fun _ => 0) rfl ?_
  rintro vs - rfl
  simp [way, show k ≠ 1 by omega, show k ≠ 2 by omega, show k ≠ 3 by omega]
theorem zlf (k i o : Int) (h0 : 0 ≤ k) (h1 : k ≤ 255) : C f_port_Pos [U k, I i, I o] (ib (if (way k i o).2 = true ∧ k ≠ 2 then (-1, true) else way k i o)) := by
 refine ctr [U k, I i, I o] run_port_Pos rfl rfl rfl ?_ rfl
 unfold rt_port_Pos
 refine zdP (zha k i o h0 h1) (by simp) ?_
 simp
 refine ziH (.agg (zaN k)) (zge k h0 h1).1 (fun _ => ⟨zge k h0 h1, by simp⟩) ?_
 generalize way k i o = w
 obtain ⟨a, b⟩ := w
 rcases zfh h0 h1 with rfl | rfl | rfl | rfl | h <;> cases b
 any_goals simp [zaN]
 ·simp [zaN, show k ≠ 1 by omega, show k ≠ 2 by omega, show k ≠ 3 by omega]
def zgL (l : Lay) (s : Int) : Option Sec := if 0 ≤ s then l.secs[s.toNat]? else none
theorem zbs {l : Lay} {s : Int} (h0 : 0 ≤ s) (h1 : s < l.secs.length) : ∃ n : Nat, s = n ∧ ∃ h : n < l.secs.length, zgL l s = some (l.secs[n]) := by
 refine ⟨s.toNat, by omega, by omega, ?_⟩
 unfold zgL
 rw [if_pos h0, List.getElem?_eq_getElem]
theorem zbI {l : Lay} {s : Int} (h : ¬ (0 ≤ s ∧ s < l.secs.length)) : zgL l s = none := by
 unfold zgL
 split
 ·exact List.getElem?_eq_none (by omega)
 ·rfl
def zbl (l : Lay) (s : Step) : Int × Bool := match zgL l s.s with
 | some x => way x.kind s.i s.o
 | none => (0, false)
theorem zeF (l : Lay) (hl : l.ok) (s : Step) : C f_layout_Step [l.av, s.av] (ib (zbl l s)) := by
 refine ctr (l.cells ++ s.cells) run_layout_Step rfl (by simp [zac]) rfl ?_ rfl
 unfold rt_layout_Step
 simp [Lay.cells, Step.cells]
 by_cases hc : 0 ≤ s.s ∧ s.s < l.secs.length
 ·obtain ⟨n, hn, hlt, he⟩ := zbs hc.1 hc.2
  have hk := hl _ (List.getElem_mem hlt)
  simp [hn, hlt, Sec.cells]
  refine ⟨fun h => absurd h (by omega), ?_⟩
  refine call (zha _ s.i s.o hk.1 hk.2) (by simp [hlt, Sec.cells]) (by simp) ?_
  simp [zbl, he]
 ·have h2 : 0 ≤ s.s → ¬ s.s < l.secs.length := by omega
  simp [zbl, zbI hc]
  exact fun a b => absurd ⟨a, b⟩ hc
def zhl (l : Lay) (x : Int) : Option Exi := if 0 ≤ x then l.exits[x.toNat]? else none
theorem zdv {l : Lay} {s : Int} (h0 : 0 ≤ s) (h1 : s < l.exits.length) : ∃ n : Nat, s = n ∧ ∃ h : n < l.exits.length, zhl l s = some (l.exits[n]) := by
 refine ⟨s.toNat, by omega, by omega, ?_⟩
 unfold zhl
 rw [if_pos h0, List.getElem?_eq_getElem]
theorem zcp {l : Lay} {s : Int} (h : ¬ (0 ≤ s ∧ s < l.exits.length)) : zhl l s = none := by
 unfold zhl
 split
 ·exact List.getElem?_eq_none (by omega)
 ·rfl
def over (l : Lay) (x : Int) : List Step := match zhl l x with
 | some e => e.over
 | none => []
def Lay.ovOk (l : Lay) : Prop := ∀ e ∈ l.exits, e.over.length ≤ 8796093022208
theorem zeE (l : Lay) (ho : l.ovOk) (x : Int) : C f_beyond_Over [l.av, I x] (steps (over l x)) := by
 refine ctr (l.cells ++ [I x]) run_beyond_Over rfl (by simp [zac, AV.pureAll, AV.pure]) (by simp [AV.pure]) ?_ rfl
 unfold rt_beyond_Over
 simp [Lay.cells]
 by_cases hc : 0 ≤ x ∧ x < l.exits.length
 ·obtain ⟨n, hn, hlt, he⟩ := zdv hc.1 hc.2
  have hk := ho _ (List.getElem_mem hlt)
  subst hn
  simp [hlt, Exi.cells]
  refine ⟨fun h => by omega, ?_⟩
  refine call (zbz _ hk) (by simp [hlt, Exi.cells]) (by simp) ?_
  simp [over, he]
 ·simp [over, zcp hc]
  exact fun a b => absurd ⟨a, b⟩ hc
end Go.Lb.LK
namespace Go.Lb.LK
open Go Go.Lb Go.Proofs Go.RowKit
def point (l : Lay) (s : Step) : Int × Int × Bool := match zgL l s.s with
 | some x => if (way x.kind s.i s.o).2 = true ∧ x.kind = 2 then (s.s, (way 2 s.i s.o).1, true) else (0, 0, false)
 | none => (0, 0, false)
abbrev iib (x : Int × Int × Bool) : AV := .tup [I x.1, I x.2.1, .bool x.2.2]
theorem zg0 (l : Lay) (hl : l.ok) (s : Step) : C f_beyond_Point [l.av, s.av] (iib (point l s)) := by
 refine ctr (l.cells ++ s.cells) run_beyond_Point rfl (by simp [zac]) rfl ?_ rfl
 unfold rt_beyond_Point
 simp [Lay.cells, Step.cells]
 refine call (zeF l hl s) (by simp [Lay.cells, Step.cells]) (by simp) ?_
 by_cases hc : 0 ≤ s.s ∧ s.s < l.secs.length
 ·obtain ⟨n, hn, hlt, he⟩ := zbs hc.1 hc.2
  have hls : zbl l s = way l.secs[n].kind s.i s.o := by simp [zbl, he]
  have hpt : point l s = if (way l.secs[n].kind s.i s.o).2 = true ∧ l.secs[n].kind = 2 then (s.s, (way 2 s.i s.o).1, true) else (0, 0, false) := by simp [point, he]
  rw [hls, hpt]
  clear hls hpt
  cases hw : (way l.secs[n].kind s.i s.o).2
  ·simp [hn, hlt, Sec.cells, hw]
  ·by_cases hk : l.secs[n].kind = 2
   ·rw [hk] at hw ⊢
    simp [hn, hlt, Sec.cells, hw, hk]
    refine call (zlf 2 s.i s.o (by omega) (by omega)) (by simp) (by simp) ?_
    simp
   ·simp [hn, hlt, Sec.cells, hw, hk]
 ·simp [point, zbl, zbI hc]
def zav (l : Lay) (s : Step) (f : Flank) : Bool := (zbl l s).2 && decide (f.s = s.s) && decide (f.way = (zbl l s).1)
def zcd (l : Lay) (s : Step) (k : Int) : List Need :=
 (if (point l s).2.2 = true then [⟨(point l s).1, (point l s).2.1, k⟩] else []) ++ (l.flanks.filter (zav l s)).map fun f => ⟨f.point, f.pos, k⟩
theorem zd4 (l : Lay) (hl : l.ok) (hf : l.flanks.length ≤ 2147483648) (s : Step) (k : Int) : C f_beyond_Wants [l.av, s.av, I k] (needs (zcd l s k)) := by
 refine ctr (l.cells ++ s.cells ++ [I k]) run_beyond_Wants rfl (by simp [zac, AV.pureAll, AV.pure]) (by simp [AV.pure]) ?_ rfl
 unfold rt_beyond_Wants
 simp [Lay.cells, Step.cells]
 refine call (zg0 l hl s) (by simp [Lay.cells, Step.cells]) (by simp) ?_
 simp
 have hlen : ∀ i, ((l.flanks.take i).filter (zav l s)).length ≤ 2147483648 := fun i => by
  have := List.length_filter_le (zav l s) (l.flanks.take i)
  have : (l.flanks.take i).length ≤ l.flanks.length := by simp; omega
  omega
 refine ⟨fun hp => ?_, fun hp => ?_⟩
 all_goals
  refine call (zeF l hl s) (by simp [Lay.cells, Step.cells]) (by simp) ?_
  simp
  refine zaa rfl (fun vs => ∃ i : Nat, i ≤ l.flanks.length ∧ vs = [I i, needs ((if (point l s).2.2 = true then [⟨(point l s).1, (point l s).2.1, k⟩] else []) ++ ((l.flanks.take i).filter (zav l s)).map (fun f => ⟨f.point, f.pos, k⟩))]) (fun vs => match vs with | .int _ j :: _ => l.flanks.length - j.toNat | _ => 0) ⟨0, by simp, by simp [hp, Need.cells]⟩ ?_
  rintro vs - ⟨i, hi, rfl⟩
  have hli := hlen i
  simp
  refine ⟨fun hlt => ?_, fun hge => ?_⟩
  ·have hw := zab (i := i) (by omega)
   have ht := zcw (zav l s) l.flanks hlt
   cases hon : zav l s l.flanks[i]
   ·have h3 : ¬ ((zbl l s).2 = true ∧ l.flanks[i].s = s.s ∧ l.flanks[i].way = (zbl l s).1) := by
     intro ⟨h1, h2, h3⟩
     simp [zav, h1, h2, h3] at hon
    simp [hlt, Flank.cells, hp]
    refine .inl ⟨fun h1 h2 h4 => h3 ⟨h1, h2, h4⟩, ⟨i + 1, by omega, hw, ?_⟩, by rw [hw]; omega⟩
    rw [ht, hon]; simp
   ·have h3 : (zbl l s).2 = true ∧ l.flanks[i].s = s.s ∧ l.flanks[i].way = (zbl l s).1 := by
     simp only [zav, Bool.and_eq_true, decide_eq_true_eq] at hon
     exact ⟨hon.1.1, hon.1.2, hon.2⟩
    simp [hlt, Flank.cells, hp]
    refine .inr ⟨⟨⟨h3.1, h3.2.1⟩, h3.2.2⟩, by omega, ⟨i + 1, by omega, hw, ?_⟩, by rw [hw]; omega⟩
    rw [ht, hon]; simp [Need.cells]
  ·have : l.flanks.take i = l.flanks := List.take_of_length_le hge
   simp [this, zcd, hp, Need.cells]
def zak (l : Lay) (p : Path) : List (Int × Step) := p.steps.mapIdx (fun k s => ((k : Int), s)) ++ (over l p.exit).map fun s => ((p.steps.length : Int), s)
def za6 (l : Lay) (p : Path) : List Need := (zak l p).flatMap fun x => zcd l x.2 x.1
theorem zeY (l : Lay) (s : Step) (k : Int) : (zcd l s k).length ≤ l.flanks.length + 1 := by
 unfold zcd
 rw [List.length_append, List.length_map]
 have := List.length_filter_le (zav l s) l.flanks
 split <;> simp <;> omega
theorem zeI {α β : Type} (f : α → List β) (m : Nat) (h : ∀ x, (f x).length ≤ m) : ∀ l : List α, (l.flatMap f).length ≤ l.length * m
 | [] => by simp
 | x :: l => by
  have := zeI f m h l
  have := h x
  simp only [List.flatMap_cons, List.length_append, List.length_cons, Nat.add_mul]
  omega
theorem zlY (l : Lay) (hl : l.ok) (ho : l.ovOk) (hf : l.flanks.length ≤ 1000) (p : Path) (hp : p.steps.length ≤ 1000) (hov : (over l p.exit).length ≤ 1000) : C f_need_Of [l.av, p.av] (needs (za6 l p)) := by
 refine ctr (l.cells ++ p.cells) run_need_Of rfl (by simp [zac, AV.pureAll, AV.pure]) (by simp [AV.pure]) ?_ rfl
 unfold rt_need_Of
 simp [Lay.cells, Path.cells]
 have hw1 : ∀ s k, (zcd l s k).length ≤ 1001 := fun s k => by have := zeY l s k; omega
 have hnl : (zak l p).length = p.steps.length + (over l p.exit).length := by simp [zak]
 have hN : ∀ m : Nat, (((zak l p).take m).flatMap fun x => zcd l x.2 x.1).length ≤ 2002000 := fun m => by
  have h1 := zeI (fun x : Int × Step => zcd l x.2 x.1) 1001 (fun x => hw1 x.2 x.1) ((zak l p).take m)
  have h2 : ((zak l p).take m).length ≤ 2000 := by rw [List.length_take]; omega
  omega
 have hA : ∀ (i : Nat) (h : i < p.steps.length), (zak l p)[i]'(by rw [hnl]; omega) = ((i : Int), p.steps[i]) := fun i h => by
  simp [zak, List.getElem_append_left, h]
 have hB : ∀ (i : Nat) (h : i < (over l p.exit).length), (zak l p)[p.steps.length + i]'(by rw [hnl]; omega) = ((p.steps.length : Int), (over l p.exit)[i]) := fun i h => by
  simp [zak, List.getElem_append_right]
 refine zaa rfl (fun vs => ∃ i : Nat, i ≤ p.steps.length ∧ vs = [I i, needs (((zak l p).take i).flatMap fun x => zcd l x.2 x.1)]) (fun vs => match vs with | .int _ j :: _ => p.steps.length - j.toNat | _ => 0) ⟨0, by simp, by simp⟩ ?_
 rintro vs - ⟨i, hi, rfl⟩
 have hNi := hN i
 simp
 refine ⟨fun hlt => ?_, fun hge => ?_⟩
 ·have hw := zab (i := i) (by omega)
  simp [hlt, Step.cells]
  have hx := zcH (fun x : Int × Step => zcd l x.2 x.1) (zak l p) (i := i) (by rw [hnl]; omega)
  rw [hA i hlt] at hx
  have hy := hw1 p.steps[i] i
  refine call (zd4 l hl (by omega) p.steps[i] i) (by simp [hlt, Step.cells, Lay.cells]) (by simp) ?_
  simp [-List.length_flatMap]
  refine ⟨fun x _ => by simp [Need.cells], by omega, ⟨i + 1, by omega, hw, ?_⟩, by rw [hw]; omega⟩
  rw [hx]; simp
 ·have hi' : i = p.steps.length := by omega
  subst hi'
  refine call (zeE l ho p.exit) (by simp [Lay.cells]) (by simp) ?_
  simp
  refine zaa rfl (fun vs => ∃ i : Nat, i ≤ (over l p.exit).length ∧ vs = [I i, needs (((zak l p).take (p.steps.length + i)).flatMap fun x => zcd l x.2 x.1)]) (fun vs => match vs with | .int _ j :: _ => (over l p.exit).length - j.toNat | _ => 0) ⟨0, by simp, by simp⟩ ?_
  rintro vs - ⟨i, hi, rfl⟩
  have hNi := hN (p.steps.length + i)
  simp
  refine ⟨fun hlt => ?_, fun hge => ?_⟩
  ·have hw := zab (i := i) (by omega)
   simp [hlt, Step.cells]
   have hx := zcH (fun x : Int × Step => zcd l x.2 x.1) (zak l p) (i := p.steps.length + i) (by rw [hnl]; omega)
   rw [hB i hlt] at hx
   have hy := hw1 (over l p.exit)[i] p.steps.length
   refine call (zd4 l hl (by omega) (over l p.exit)[i] p.steps.length) (by simp [hlt, Step.cells, Lay.cells]) (by simp) ?_
   simp [-List.length_flatMap]
   refine ⟨fun x _ => by simp [Need.cells], by omega, ⟨i + 1, by omega, hw, ?_⟩, by rw [hw]; omega⟩
   rw [show p.steps.length + (i + 1) = p.steps.length + i + 1 from rfl, hx]; simp
  ·have : (zak l p).take (p.steps.length + i) = zak l p := List.take_of_length_le (by rw [hnl]; omega)
   simp [this, za6]
end Go.Lb.LK
namespace Go.Lb.LK
open Go Go.Lb Go.Proofs Go.RowKit
def zcm (p : Path) (h : Hd) : Bool := decide (h.path.sig = p.sig) && !decide (h.stage = 3)
def canN (l : Lay) (im : Img) (k : Kern) (p : Path) : Int :=
 if (k.held.any (zcm p) || ((p.steps ++ over l p.exit).any (fun s => !zcN l im k s.s) || (za6 l p).any (fun n => !za5 l im k n))) = true then 190
 else if 6 ≤ k.held.length then 191 else 0
structure CanOk (l : Lay) (k : Kern) (p : Path) : Prop where
 kl : k.len
 lo : l.ok
 ov : l.ovOk
 fl : l.flanks.length ≤ 1000
 pl : p.steps.length ≤ 1000
 ol : (over l p.exit).length ≤ 1000
theorem zly {l : Lay} {k : Kern} {p : Path} (h : CanOk l k p) : (za6 l p).length ≤ 2002000 := by
 have hw1 : ∀ s k, (zcd l s k).length ≤ 1001 := fun s k => by have := zeY l s k; have := h.fl; omega
 have h1 := zeI (fun x : Int × Step => zcd l x.2 x.1) 1001 (fun x => hw1 x.2 x.1) (zak l p)
 have h2 : (zak l p).length ≤ 2000 := by have := h.pl; have := h.ol; simp [zak]; omega
 unfold za6
 omega
end Go.Lb.LK
namespace Go.Lb.LK
open Go Go.Lb Go.Proofs Go.RowKit
theorem likp (l : Lay) (im : Img) (k : Kern) (p : Path) : AV.pureAll (l.cells ++ im.cells ++ k.cells ++ p.cells) = true := by simp [zac]
theorem zon {l : Lay} {im : Img} {k : Kern} {p : Path} (h : k.held.any (zcm p) = true) : canN l im k p = 190 := by simp [canN, h]
theorem zkK {l : Lay} {im : Img} {k : Kern} {p : Path} {s : Step} (hs : s ∈ p.steps ++ over l p.exit) (h : zcN l im k s.s = false) : canN l im k p = 190 := by
 have : ((p.steps ++ over l p.exit).any fun s => !zcN l im k s.s) = true := List.any_eq_true.2 ⟨s, hs, by simp [h]⟩
 simp only [canN, this, Bool.true_or, Bool.or_true, if_true]
theorem znn {l : Lay} {im : Img} {k : Kern} {p : Path} {n : Need} (hs : n ∈ za6 l p) (h : za5 l im k n = false) : canN l im k p = 190 := by
 have : ((za6 l p).any fun n => !za5 l im k n) = true := List.any_eq_true.2 ⟨n, hs, by simp [h]⟩
 simp only [canN, this, Bool.or_true, if_true]
theorem znm {l : Lay} {im : Img} {k : Kern} {p : Path} (h1 : zaj (zcm p) k.held) (h2 : zaj (fun s : Step => !zcN l im k s.s) p.steps) (h3 : zaj (fun s : Step => !zcN l im k s.s) (over l p.exit)) (h4 : zaj (fun n => !za5 l im k n) (za6 l p)) : canN l im k p = if 6 ≤ k.held.length then 191 else 0 := by
 unfold zaj at *
 simp only [canN, List.any_append, h1, h2, h3, h4, Bool.or_false, Bool.false_eq_true, if_false]
set_option maxHeartbeats 4000000 in
theorem zdQ (l : Lay) (im : Img) (hi : im.ok) (k : Kern) (p : Path) (hc : CanOk l k p) : C f_free_Can [l.av, im.av, k.av, p.av] (I (canN l im k p)) := by
 have hk1 := hc.kl.1
 have hp1 := hc.pl
 have ho1 := hc.ol
 have hn1 := zly hc
 refine ctr (l.cells ++ im.cells ++ k.cells ++ p.cells) run_free_Can rfl (likp l im k p) rfl ?_ rfl
 unfold rt_free_Can
 simp [Lay.cells, Img.cells, Kern.cells, Path.cells]
 refine zaa rfl (fun vs => ∃ i : Nat, i ≤ k.held.length ∧ vs = [I i] ∧ zaj (zcm p) (k.held.take i)) (fun vs => match vs with | [.int _ j] => k.held.length - j.toNat | _ => 0) ⟨0, by omega, by simp, rfl⟩ ?_
 rintro vs - ⟨i, hii, rfl, hq1⟩
 simp
 refine ⟨fun hlt => ?_, fun hge => ?_⟩
 ·have hw := zab (i := i) (by omega)
  cases hs : zcm p k.held[i]
  ·have hs2 : k.held[i].path.sig = p.sig → k.held[i].stage = 3 := by
    intro h; simpa [zcm, h] using hs
   simp [hlt, Hd.cells, hw]
   left
   exact ⟨hs2, ⟨i + 1, by omega, by omega, zah hlt hq1 hs⟩, by omega⟩
  ·have hs2 : k.held[i].path.sig = p.sig ∧ ¬ k.held[i].stage = 3 := by simpa [zcm] using hs
   simp [hlt, Hd.cells, hw, hs2.1, hs2.2, zon (l := l) (im := im) (zbO hlt hs)]
 ·have ht : k.held.take i = k.held := List.take_of_length_le (by omega)
  rw [ht] at hq1
  refine zaa rfl (fun vs => ∃ i : Nat, i ≤ p.steps.length ∧ vs = [I i] ∧ zaj (fun s : Step => !zcN l im k s.s) (p.steps.take i)) (fun vs => match vs with | [.int _ j] => p.steps.length - j.toNat | _ => 0) ⟨0, by omega, by simp, rfl⟩ ?_
  rintro vs - ⟨j, hj, rfl, hq2⟩
  simp
  refine ⟨fun hlt2 => ?_, fun hge2 => ?_⟩
  ·have hw := zab (i := j) (by omega)
   simp [hlt2, Step.cells]
   refine call (zbP l im hi k hc.kl p.steps[j].s) (by simp [Lay.cells, Img.cells, Kern.cells, hlt2, Step.cells]) (by simp) ?_
   cases hf : zcN l im k p.steps[j].s
   ·simp
    refine zai (avs := []) (steps (over l p.exit)) (by simp [AV.pure]) (fun hh => ?_) (by simp) ?_
    ·simp at hh
    ·simp [zkK (List.mem_append_left (over l p.exit) (List.getElem_mem hlt2)) hf]
   ·simp [hw]
    exact ⟨⟨j + 1, by omega, by omega, zah hlt2 hq2 (by simp [hf])⟩, by omega⟩
  ·have ht2 : p.steps.take j = p.steps := List.take_of_length_le (by omega)
   rw [ht2] at hq2
   refine call (zeE l hc.ov p.exit) (by simp [Lay.cells]) (by simp) ?_
   simp
   refine zaa rfl (fun vs => ∃ i : Nat, i ≤ (over l p.exit).length ∧ vs = [I i] ∧ zaj (fun s : Step => !zcN l im k s.s) ((over l p.exit).take i)) (fun vs => match vs with | [.int _ j] => (over l p.exit).length - j.toNat | _ => 0) ⟨0, by omega, by simp, rfl⟩ ?_
   rintro vs - ⟨m, hm, rfl, hq3⟩
   simp
   refine ⟨fun hlt3 => ?_, fun hge3 => ?_⟩
   ·have hw := zab (i := m) (by omega)
    simp [hlt3, Step.cells]
    refine call (zbP l im hi k hc.kl (over l p.exit)[m].s) (by simp [Lay.cells, Img.cells, Kern.cells, hlt3, Step.cells]) (by simp) ?_
    cases hf : zcN l im k (over l p.exit)[m].s
    ·simp [zkK (List.mem_append_right p.steps (List.getElem_mem hlt3)) hf]
    ·simp [hw]
     exact ⟨⟨m + 1, by omega, by omega, zah hlt3 hq3 (by simp [hf])⟩, by omega⟩
   ·have ht3 : (over l p.exit).take m = over l p.exit := List.take_of_length_le (by omega)
    rw [ht3] at hq3
    refine call (zlY l hc.lo hc.ov hc.fl p hc.pl hc.ol) (by simp [Lay.cells, Path.cells]) (by simp) ?_
    simp
    refine zaa rfl (fun vs => ∃ i : Nat, i ≤ (za6 l p).length ∧ vs = [I i] ∧ zaj (fun n => !za5 l im k n) ((za6 l p).take i)) (fun vs => match vs with | [.int _ j] => (za6 l p).length - j.toNat | _ => 0) ⟨0, by omega, by simp, rfl⟩ ?_
    rintro vs - ⟨q, hqq, rfl, hq4⟩
    simp
    refine ⟨fun hlt4 => ?_, fun hge4 => ?_⟩
    ·have hw := zab (i := q) (by omega)
     simp [hlt4, Need.cells]
     refine call (zcF l im hi k hc.kl (za6 l p)[q]) (by simp [Lay.cells, Img.cells, Kern.cells, hlt4, Need.cells]) (by simp) ?_
     cases hf : za5 l im k (za6 l p)[q]
     ·simp [znn (List.getElem_mem hlt4) hf]
     ·simp [hw]
      exact ⟨⟨q + 1, by omega, by omega, zah hlt4 hq4 (by simp [hf])⟩, by omega⟩
    ·have ht4 : (za6 l p).take q = za6 l p := List.take_of_length_le (by omega)
     rw [ht4] at hq4
     rw [znm hq1 hq2 hq3 hq4]
     by_cases h6 : 6 ≤ k.held.length
     ·have h6' : (6 : Int) ≤ k.held.length := by omega
      simp [h6, h6']
     ·have h6' : ¬ (6 : Int) ≤ k.held.length := by omega
      simp [h6, h6']
end Go.Lb.LK
namespace Go.Lb.LK
open Go Go.Lb Go.Proofs Go.RowKit
def ways (k : Int) : Int := if k = 1 then 1 else if k = 2 then 2 else if k = 3 then 2 else 0
theorem zdR (k : Int) : C f_lockbarref05_Ways [U k] (I (ways k)) := by
 refine ctr [U k] run_lockbarref05_Ways rfl rfl rfl ?_ rfl
 unfold rt_lockbarref05_Ways
 by_cases h1 : k = 1
 ·simp [h1, ways]
 ·by_cases h2 : k = 2
  ·simp [h2, ways]
  ·by_cases h3 : k = 3
   ·simp [h3, ways]
   ·simp [h1, h2, h3, ways]
def ends (k w : Int) : Int × Int × Bool := if w < 0 ∨ w ≥ ways k then (0, 0, false) else if w = 0 then (0, 1, true) else if k = 2 then (0, 2, true) else (2, 3, true)
theorem zlg (k w : Int) : C f_lockbarref05_Ends [U k, I w] (iib (ends k w)) := by
 refine ctr [U k, I w] run_lockbarref05_Ends rfl rfl rfl ?_ rfl
 unfold rt_lockbarref05_Ends
 simp
 refine zai (I (ways k)) rfl (fun _ => ⟨by simp, zdR k⟩) (by simp) ?_
 by_cases h0 : w < 0
 ·simp [h0, ends]
 ·by_cases h1 : ways k ≤ w
  ·simp [h0, h1, ends]
  ·by_cases h2 : w = 0
   ·subst h2; simp [h1, ends]
   ·by_cases h3 : k = 2
    ·subst h3; simp [h0, h1, h2, ends]
    ·simp [h0, h1, h2, h3, ends]
theorem zo1 (k : Int) : 0 ≤ ways k ∧ ways k ≤ 2 := by unfold ways; split <;> (try split) <;> (try split) <;> omega
theorem ziR (k i o : Int) : C f_lockbarref05_Way [U k, I i, I o] (ib (way k i o)) := by
 refine ctr [U k, I i, I o] run_lockbarref05_Way rfl rfl rfl ?_ rfl
 unfold rt_lockbarref05_Way
 have hw := zo1 k
 refine zaa rfl (fun vs => ∃ j : Nat, (j : Int) ≤ 2 ∧ vs = [I j] ∧ (1 ≤ j → 1 ≤ ways k → ¬ (i = 0 ∧ o = 1 ∨ i = 1 ∧ o = 0)) ∧ (2 ≤ j → k = 2 → ¬ (i = 0 ∧ o = 2 ∨ i = 2 ∧ o = 0)) ∧ (2 ≤ j → k = 3 → ¬ (i = 2 ∧ o = 3 ∨ i = 3 ∧ o = 2)) ∧ (j : Int) ≤ ways k)
  (fun vs => match vs with | [.int _ j] => 3 - j.toNat | _ => 0) ⟨0, by simp, by simp, by omega, by omega, by omega, by simp; omega⟩ ?_
 rintro vs - ⟨j, hj, rfl, a1, a2, a3, a4⟩
 simp
 refine call (zdR k) (by simp) (by simp) ?_
 simp
 refine ⟨fun hlt => ?_, fun hge => ?_⟩
 ·refine call (zlg k j) (by simp) (by simp) ?_
  simp
  have hk : k = 1 ∨ k = 2 ∨ k = 3 := by
   unfold ways at hlt
   split at hlt
   ·exact .inl ‹_›
   ·split at hlt
    ·exact .inr (.inl ‹_›)
    ·split at hlt
     ·exact .inr (.inr ‹_›)
     ·omega
  have hj2 : j = 0 ∨ j = 1 := by omega
  rcases hj2 with rfl | rfl
  ·have he : ends k ((0 : Nat) : Int) = (0, 1, true) := by
    unfold ends
    rw [if_neg (by simp; omega)]; rfl
   rw [he]
   simp only [Int.natCast_zero, Int.zero_add, w1]
   by_cases c1 : i = 0 ∧ o = 1 ∨ i = 1 ∧ o = 0
   ·have hwy : way k i o = (0, true) := by unfold way; rw [if_pos ⟨by omega, c1⟩]
    rw [hwy]
    exact ⟨fun _ => ⟨rfl, rfl⟩, fun h1 h2 => absurd c1 (by omega)⟩
   ·refine ⟨fun h => absurd h (by omega), fun h1 h2 => ⟨⟨1, by omega, rfl, fun _ _ => by omega, fun h => by omega, fun h => by omega, by simp; omega⟩, by decide⟩⟩
  ·have hk2 : k = 2 ∨ k = 3 := by
    rcases hk with rfl | h
    ·simp [ways] at hlt
    ·exact h
   have n1 := a1 (by omega) (by omega)
   have wj : IntKind.i64.wrap (((1 : Nat) : Int) + 1) = 2 := by decide
   rw [wj]
   rcases hk2 with rfl | rfl
   ·have he : ends 2 ((1 : Nat) : Int) = (0, 2, true) := rfl
    rw [he]
    by_cases c1 : i = 0 ∧ o = 2 ∨ i = 2 ∧ o = 0
    ·have hwy : way 2 i o = (1, true) := by unfold way; rw [if_neg (fun h => n1 h.2), if_pos ⟨rfl, c1⟩]
     rw [hwy]
     exact ⟨fun _ => ⟨rfl, rfl⟩, fun h1 h2 => absurd c1 (by dsimp only at h1 h2; omega)⟩
    ·refine ⟨fun h => absurd h (by dsimp only; omega), fun h1 h2 => ⟨⟨2, by omega, rfl, fun _ _ => by omega, fun _ _ => by omega, fun _ h => by omega, by decide⟩, by decide⟩⟩
   ·have he : ends 3 ((1 : Nat) : Int) = (2, 3, true) := rfl
    rw [he]
    by_cases c1 : i = 2 ∧ o = 3 ∨ i = 3 ∧ o = 2
    ·have hwy : way 3 i o = (1, true) := by unfold way; rw [if_neg (fun h => n1 h.2), if_neg (fun h => by omega), if_pos ⟨rfl, c1⟩]
     rw [hwy]
     exact ⟨fun _ => ⟨rfl, rfl⟩, fun h1 h2 => absurd c1 (by dsimp only at h1 h2; omega)⟩
    ·refine ⟨fun h => absurd h (by dsimp only; omega), fun h1 h2 => ⟨⟨2, by omega, rfl, fun _ _ => by omega, fun _ h => by omega, fun _ _ => by omega, by decide⟩, by decide⟩⟩
 ·have hwy : way k i o = (0, false) := by
   have hjw : (j : Int) = ways k := by omega
   unfold way
   rw [if_neg, if_neg, if_neg]
   ·rintro ⟨rfl, h⟩
    have : (j : Int) = 2 := hjw
    exact a3 (by omega) rfl h
   ·rintro ⟨rfl, h⟩
    have : (j : Int) = 2 := hjw
    exact a2 (by omega) rfl h
   ·rintro ⟨hk, h⟩
    have h1 : 1 ≤ ways k := by rcases hk with rfl | rfl | rfl <;> decide
    exact a1 (by omega) h1 h
  rw [hwy]
  exact ⟨rfl, rfl⟩
theorem zcT (l : Lay) (s : Step) : C f_lockbarref06_Step [l.av, s.av] (ib (zbl l s)) := by
 refine ctr (l.cells ++ s.cells) run_lockbarref06_Step rfl (by simp [zac]) rfl ?_ rfl
 unfold rt_lockbarref06_Step
 simp [Lay.cells, Step.cells]
 by_cases hc : 0 ≤ s.s ∧ s.s < l.secs.length
 ·obtain ⟨n, hn, hlt, he⟩ := zbs hc.1 hc.2
  have hls : zbl l s = way l.secs[n].kind s.i s.o := by simp [zbl, he]
  rw [hls]
  simp [hn, hlt, Sec.cells]
  refine ⟨fun h => by omega, ?_⟩
  refine call (ziR l.secs[n].kind s.i s.o) (by simp [hlt, Sec.cells]) (by simp) ?_
  simp
 ·simp [zbl, zbI hc]
  exact fun a b => absurd ⟨a, b⟩ hc
theorem zl2 (k i o : Int) : C f_lockbarref05_Pos [U k, I i, I o] (ib (if (way k i o).2 = true ∧ k ≠ 2 then (-1, true) else way k i o)) := by
 refine ctr [U k, I i, I o] run_lockbarref05_Pos rfl rfl rfl ?_ rfl
 unfold rt_lockbarref05_Pos
 refine call (ziR k i o) (by simp) (by simp) ?_
 generalize way k i o = w
 obtain ⟨a, b⟩ := w
 cases b <;> by_cases h : k = 2 <;> simp [h]
theorem zj9 (l : Lay) (s : Step) : C f_lockbarref10_there [l.av, s.av] (.bool (zbl l s).2) := by
 refine ctr (l.cells ++ s.cells) run_lockbarref10_there rfl (by simp [zac]) rfl ?_ rfl
 unfold rt_lockbarref10_there
 simp [Lay.cells, Step.cells]
 refine call (zcT l s) (by simp [Lay.cells, Step.cells]) (by simp) ?_
 simp
theorem zhd (l : Lay) (ho : l.ovOk) (x : Int) : C f_lockbarref10_Over [l.av, I x] (steps (over l x)) := by
 refine ctr (l.cells ++ [I x]) run_lockbarref10_Over rfl (by simp [zac, AV.pureAll, AV.pure]) (by simp [AV.pure]) ?_ rfl
 unfold rt_lockbarref10_Over
 simp [Lay.cells]
 by_cases hc : 0 ≤ x ∧ x < l.exits.length
 ·obtain ⟨n, hn, hlt, he⟩ := zdv hc.1 hc.2
  have hk := ho _ (List.getElem_mem hlt)
  subst hn
  simp [hlt, Exi.cells, over, he]
  refine ⟨fun h => by omega, fun x _ => by simp [Step.cells], by omega⟩
 ·simp [over, zcp hc]
  exact fun a b => absurd ⟨a, b⟩ hc
theorem zj8 (l : Lay) (s : Step) : C f_lockbarref10_Point [l.av, s.av] (iib (point l s)) := by
 refine ctr (l.cells ++ s.cells) run_lockbarref10_Point rfl (by simp [zac]) rfl ?_ rfl
 unfold rt_lockbarref10_Point
 simp [Lay.cells, Step.cells]
 refine call (zj9 l s) (by simp [Lay.cells, Step.cells]) (by simp) ?_
 by_cases hc : 0 ≤ s.s ∧ s.s < l.secs.length
 ·obtain ⟨n, hn, hlt, he⟩ := zbs hc.1 hc.2
  have hls : zbl l s = way l.secs[n].kind s.i s.o := by simp [zbl, he]
  have hpt : point l s = if (way l.secs[n].kind s.i s.o).2 = true ∧ l.secs[n].kind = 2 then (s.s, (way 2 s.i s.o).1, true) else (0, 0, false) := by simp [point, he]
  rw [hls, hpt]
  clear hls hpt
  cases hw : (way l.secs[n].kind s.i s.o).2
  ·simp [hn, hlt, Sec.cells, hw]
  ·by_cases hk : l.secs[n].kind = 2
   ·rw [hk] at hw ⊢
    simp [hn, hlt, Sec.cells, hw, hk]
    refine call (zl2 2 s.i s.o) (by simp) (by simp) ?_
    simp
   ·simp [hn, hlt, Sec.cells, hw, hk]
 ·simp [point, zbl, zbI hc]
end Go.Lb.LK
namespace Go.Lb.LK
open Go Go.Lb Go.Proofs Go.RowKit
def zmo (k : Int) (f : Flank) : Need := ⟨f.point, f.pos, k⟩
theorem zn1 (l : Lay) (s : Step) (k : Int) : zcd l s k = (if (point l s).2.2 = true then [⟨(point l s).1, (point l s).2.1, k⟩] else []) ++ (l.flanks.filter (zav l s)).map (zmo k) := rfl
theorem zgi (l : Lay) (hf : l.flanks.length ≤ 2147483648) (s : Step) (k : Int) : C f_lockbarref10_Wants [l.av, s.av, I k] (needs (zcd l s k)) := by
 refine ctr (l.cells ++ s.cells ++ [I k]) run_lockbarref10_Wants rfl (by simp [zac, AV.pureAll, AV.pure]) (by simp [AV.pure]) ?_ rfl
 unfold rt_lockbarref10_Wants
 simp [Lay.cells, Step.cells]
 refine call (zj8 l s) (by simp [Lay.cells, Step.cells]) (by simp) ?_
 have hlen : ∀ i, ((l.flanks.take i).filter (zav l s)).length ≤ 2147483648 := fun i => by
  have := List.length_filter_le (zav l s) (l.flanks.take i)
  have : (l.flanks.take i).length ≤ l.flanks.length := by simp; omega
  omega
 rw [zn1]
 generalize hpt : point l s = pt
 obtain ⟨a, b, c⟩ := pt
 cases c
 ·simp
  refine call (zcT l s) (by simp [Lay.cells, Step.cells]) (by simp) ?_
  simp
  refine zaa rfl (fun vs => ∃ i : Nat, i ≤ l.flanks.length ∧ vs = [needs (([] : List Need) ++ ((l.flanks.take i).filter (zav l s)).map (zmo k)), I i]) (fun vs => match vs with | [_, .int _ j] => l.flanks.length - j.toNat | _ => 0) ⟨0, by omega, by simp [Need.cells]⟩ ?_
  rintro vs - ⟨i, hi, rfl⟩
  have hli := hlen i
  simp
  by_cases hlt : i < l.flanks.length
  ·have hw := zab (i := i) (by omega)
   have ht := zcw (zav l s) l.flanks hlt
   cases hst : (zbl l s).2
   ·have hnone : l.flanks.filter (zav l s) = [] := by
     rw [List.filter_eq_nil_iff]; intro f _; simp [zav, hst]
    have hnone2 : (l.flanks.take i).filter (zav l s) = [] := by
     rw [List.filter_eq_nil_iff]; intro f _; simp [zav, hst]
    simp [hlt, hst, hnone, hnone2, Need.cells]
   ·simp [hlt, hst, Flank.cells, hw]
    cases hon : zav l s l.flanks[i]
    ·have h3 : l.flanks[i].s = s.s → ¬ l.flanks[i].way = (zbl l s).1 := by
      intro h2 h3
      simp [zav, hst, h2, h3] at hon
     left
     refine ⟨h3, ⟨i + 1, by omega, ?_, by omega⟩, by omega⟩
     rw [ht, hon]; simp
    ·have h3 : l.flanks[i].s = s.s ∧ l.flanks[i].way = (zbl l s).1 := by
      simp only [zav, Bool.and_eq_true, decide_eq_true_eq] at hon
      exact ⟨hon.1.2, hon.2⟩
     right
     refine ⟨h3, by omega, ⟨i + 1, by omega, ?_, by omega⟩, by omega⟩
     rw [ht, hon]; simp [zmo, Need.cells]
  ·have hta : l.flanks.take i = l.flanks := List.take_of_length_le (by omega)
   simp [hlt, hta, Need.cells]
 ·simp
  refine call (zcT l s) (by simp [Lay.cells, Step.cells]) (by simp) ?_
  simp
  refine zaa rfl (fun vs => ∃ i : Nat, i ≤ l.flanks.length ∧ vs = [needs ([(⟨a, b, k⟩ : Need)] ++ ((l.flanks.take i).filter (zav l s)).map (zmo k)), I i]) (fun vs => match vs with | [_, .int _ j] => l.flanks.length - j.toNat | _ => 0) ⟨0, by omega, by simp [Need.cells]⟩ ?_
  rintro vs - ⟨i, hi, rfl⟩
  have hli := hlen i
  simp
  by_cases hlt : i < l.flanks.length
  ·have hw := zab (i := i) (by omega)
   have ht := zcw (zav l s) l.flanks hlt
   cases hst : (zbl l s).2
   ·have hnone : l.flanks.filter (zav l s) = [] := by
     rw [List.filter_eq_nil_iff]; intro f _; simp [zav, hst]
    have hnone2 : (l.flanks.take i).filter (zav l s) = [] := by
     rw [List.filter_eq_nil_iff]; intro f _; simp [zav, hst]
    simp [hlt, hst, hnone, hnone2, Need.cells]
   ·simp [hlt, hst, Flank.cells, hw]
    cases hon : zav l s l.flanks[i]
    ·have h3 : l.flanks[i].s = s.s → ¬ l.flanks[i].way = (zbl l s).1 := by
      intro h2 h3
      simp [zav, hst, h2, h3] at hon
     left
     refine ⟨h3, ⟨i + 1, by omega, ?_, by omega⟩, by omega⟩
     rw [ht, hon]; simp
    ·have h3 : l.flanks[i].s = s.s ∧ l.flanks[i].way = (zbl l s).1 := by
      simp only [zav, Bool.and_eq_true, decide_eq_true_eq] at hon
      exact ⟨hon.1.2, hon.2⟩
     right
     refine ⟨h3, by omega, ⟨i + 1, by omega, ?_, by omega⟩, by omega⟩
     rw [ht, hon]; simp [zmo, Need.cells]
  ·have hta : l.flanks.take i = l.flanks := List.take_of_length_le (by omega)
   simp [hlt, hta, Need.cells]
end Go.Lb.LK
namespace Go.Lb.LK
open Go Go.Lb Go.Proofs Go.RowKit
theorem zkI (l : Lay) (ho : l.ovOk) (hf : l.flanks.length ≤ 1000) (p : Path) (hp : p.steps.length ≤ 1000) (hov : (over l p.exit).length ≤ 1000) : C f_lockbarref13_Of [l.av, p.av] (needs (za6 l p)) := by
 refine ctr (l.cells ++ p.cells) run_lockbarref13_Of rfl (by simp [zac, AV.pureAll, AV.pure]) (by simp [AV.pure]) ?_ rfl
 unfold rt_lockbarref13_Of
 simp [Lay.cells, Path.cells]
 have hw1 : ∀ s k, (zcd l s k).length ≤ 1001 := fun s k => by have := zeY l s k; omega
 have hnl : (zak l p).length = p.steps.length + (over l p.exit).length := by simp [zak]
 have hN : ∀ m : Nat, (((zak l p).take m).flatMap fun x => zcd l x.2 x.1).length ≤ 2002000 := fun m => by
  have h1 := zeI (fun x : Int × Step => zcd l x.2 x.1) 1001 (fun x => hw1 x.2 x.1) ((zak l p).take m)
  have h2 : ((zak l p).take m).length ≤ 2000 := by rw [List.length_take]; omega
  omega
 have hA : ∀ (i : Nat) (h : i < p.steps.length), (zak l p)[i]'(by rw [hnl]; omega) = ((i : Int), p.steps[i]) := fun i h => by
  simp [zak, List.getElem_append_left, h]
 have hB : ∀ (i : Nat) (h : i < (over l p.exit).length), (zak l p)[p.steps.length + i]'(by rw [hnl]; omega) = ((p.steps.length : Int), (over l p.exit)[i]) := fun i h => by
  simp [zak, List.getElem_append_right]
 refine zaa rfl (fun vs => ∃ i : Nat, i ≤ p.steps.length ∧ vs = [needs (((zak l p).take i).flatMap fun x => zcd l x.2 x.1), I i]) (fun vs => match vs with | [_, .int _ j] => p.steps.length - j.toNat | _ => 0) ⟨0, by simp, by simp⟩ ?_
 rintro vs - ⟨i, hi, rfl⟩
 have hNi := hN i
 simp
 refine ⟨fun hlt => ?_, fun hge => ?_⟩
 ·have hw := zab (i := i) (by omega)
  simp [hlt, Step.cells]
  have hx := zcH (fun x : Int × Step => zcd l x.2 x.1) (zak l p) (i := i) (by rw [hnl]; omega)
  rw [hA i hlt] at hx
  have hy := hw1 p.steps[i] i
  refine call (zgi l (by omega) p.steps[i] i) (by simp [hlt, Step.cells, Lay.cells]) (by simp) ?_
  simp [-List.length_flatMap]
  refine ⟨fun x _ => by simp [Need.cells], by omega, ⟨i + 1, by omega, ?_, hw⟩, by rw [hw]; omega⟩
  rw [hx]; simp
 ·have hi' : i = p.steps.length := by omega
  subst hi'
  refine call (zhd l ho p.exit) (by simp [Lay.cells]) (by simp) ?_
  simp
  refine zaa rfl (fun vs => ∃ i : Nat, i ≤ (over l p.exit).length ∧ vs = [needs (((zak l p).take (p.steps.length + i)).flatMap fun x => zcd l x.2 x.1), I i]) (fun vs => match vs with | [_, .int _ j] => (over l p.exit).length - j.toNat | _ => 0) ⟨0, by simp, by simp⟩ ?_
  rintro vs - ⟨i, hi, rfl⟩
  have hNi := hN (p.steps.length + i)
  simp
  refine ⟨fun hlt => ?_, fun hge => ?_⟩
  ·have hw := zab (i := i) (by omega)
   simp [hlt, Step.cells]
   have hx := zcH (fun x : Int × Step => zcd l x.2 x.1) (zak l p) (i := p.steps.length + i) (by rw [hnl]; omega)
   rw [hB i hlt] at hx
   have hy := hw1 (over l p.exit)[i] p.steps.length
   refine call (zgi l (by omega) (over l p.exit)[i] p.steps.length) (by simp [hlt, Step.cells, Lay.cells]) (by simp) ?_
   simp [-List.length_flatMap]
   refine ⟨fun x _ => by simp [Need.cells], by omega, ⟨i + 1, by omega, ?_, hw⟩, by rw [hw]; omega⟩
   rw [show p.steps.length + (i + 1) = p.steps.length + i + 1 from rfl, hx]; simp
  ·have : (zak l p).take (p.steps.length + i) = zak l p := List.take_of_length_le (by rw [hnl]; omega)
   simp [this, za6]
end Go.Lb.LK
namespace Go.Lb.LK
open Go Go.Lb Go.Proofs Go.RowKit
end Go.Lb.LK
namespace Go.Lb.LK
open Go Go.Lb Go.Proofs Go.RowKit
theorem zkp (b len n j : Nat) (k : IntKind) (u v : AV) : pv (.cellset b len 3 0 1 j) [.int k (n : Nat), u, .agg [v]] = if j = b + n * 3 then v else u := by
 simp only [pv, AV.cells, Int.toNat_natCast, Nat.add_zero]
 by_cases h : j = b + n * 3
 ·subst h; simp
 ·have : ¬ (b + n * 3 ≤ j ∧ j < b + n * 3 + 1) := by omega
  simp [this, h]
def zas : Kern := ⟨1, [], fun _ => -1, fun _ => 0, fun _ => false⟩
set_option maxHeartbeats 2000000 in
theorem zl7 : C f_lockbarlaw18_rest [] zas.av := by
 refine ctr [] run_lockbarlaw18_rest rfl rfl (by simp [AV.pure]) ?_ rfl
 unfold rt_lockbarlaw18_rest
 refine zaa rfl (fun vs => ∃ m : Nat, m ≤ 24 ∧ vs = I m :: zcZ (fun i => if i < m then -1 else 0) (fun _ => 0) (fun _ => false)) (fun vs => match vs with | .int _ j :: _ => 24 - j.toNat | _ => 0) ⟨0, by omega, by simp [zcZ]⟩ ?_
 rintro vs - ⟨m, hm, rfl⟩
 simp [zcZ]
 refine ⟨fun hlt => ?_, fun hge => ?_⟩
 ·have hw := zab (i := m) (by omega)
  simp [hw, zkp]
  refine ⟨by omega, ⟨m + 1, by omega, by omega, ?_⟩, by omega⟩
  and_intros <;> first | rfl | omega | (split <;> split <;> first | rfl | omega) | (split <;> first | rfl | omega)
 ·have : m = 24 := by omega
  subst this
  simp [zas, Kern.cells]
def zaJ : Port := ⟨-1, 0⟩
def zaq : Lay := ⟨[⟨1, zaJ, ⟨1, 0⟩, zaJ, zaJ, 0, 0⟩, ⟨1, ⟨0, 1⟩, zaJ, zaJ, zaJ, 0, 0⟩], [⟨0, 0⟩], [⟨⟨0, 1⟩, [⟨1, 0, 1⟩]⟩], [], 1, 1, 9, 1, 1, 1, 1⟩
def im18 : Img := zoU zaq zfT 0 0 0 0
theorem zgt : im18.ok := ⟨⟨by decide, by decide⟩, ⟨by decide, by decide⟩, ⟨by decide, by decide⟩, ⟨by decide, by decide⟩⟩
theorem zol : C f_lockbarlaw18_two [] (.tup [zaq.av, im18.av]) := by
 refine ctr [] run_lockbarlaw18_two rfl rfl (by simp [AV.pure, AV.pureAll]) ?_ rfl
 unfold rt_lockbarlaw18_two
 simp
 refine call zhV rfl (by simp) ?_
 simp
 refine call (r := im18.av) (zl4 zaq zfT 0 0 0 0 (by omega) (by omega) (by omega) (by omega) (by omega) (by omega) (by omega) (by omega)) (by simp [Lay.cells, zaq, zaJ, Sec.cells, Port.cells, Exi.cells, Step.cells]) (fun _ => rfl) ?_
 simp [Img.cells, Lay.cells, zaq, zaJ, Sec.cells, Port.cells, Exi.cells, Step.cells]
end Go.Lb.LK
namespace Go.Lb.LK
open Go Go.Lb Go.Proofs Go.RowKit
theorem zcs (a b : List Step) (ha : a.length ≤ 8796093022208) : C f_slices_Equal_Step [steps a, steps b] (.bool (decide (a = b))) := by
 refine ctr [steps a, steps b] run_slices_Equal_Step rfl (by simp [AV.pureAll, AV.pure]) rfl ?_ rfl
 unfold rt_slices_Equal_Step
 simp
 by_cases hl : a.length = b.length
 ·simp [hl]
  refine zaa rfl (fun vs => ∃ i : Nat, i ≤ a.length ∧ vs = [I i] ∧ a.take i = b.take i) (fun vs => match vs with | [.int _ j] => a.length - j.toNat | _ => 0) ⟨0, by simp, by simp, by simp⟩ ?_
  rintro vs - ⟨i, hi, rfl, hq⟩
  simp
  refine ⟨fun hlt => ?_, fun hge => ?_⟩
  ·have hlt2 : i < b.length := by omega
   have hw := zab (i := i) (by omega)
   have he := znY a[i] b[i]
   simp [hlt, hlt2, Step.cells] at he ⊢
   by_cases hab : a[i] = b[i]
   ·simp [hab] at he ⊢
    rw [hw]
    refine ⟨⟨i + 1, by omega, rfl, ?_⟩, by omega⟩
    rw [List.take_add_one, List.take_add_one, List.getElem?_eq_getElem hlt, List.getElem?_eq_getElem hlt2, hq, hab]
   ·right
    refine ⟨fun h1 h2 h3 => hab (znZ h1 h2 h3), ?_⟩
    rintro rfl
    exact hab rfl
  ·have h1 : a.take i = a := List.take_of_length_le (by omega)
   have h2 : b.take i = b := List.take_of_length_le (by omega)
   rw [h1, h2] at hq
   simp [hq]
 ·have hne : a ≠ b := fun h => hl (by rw [h])
  have hl2 : ¬ (a.length : Int) = b.length := by omega
  simp [hne]
  exact fun h => absurd h hl2
theorem zeg (a b : List Need) (ha : a.length ≤ 8796093022208) : C f_slices_Equal_Need [needs a, needs b] (.bool (decide (a = b))) := by
 refine ctr [needs a, needs b] run_slices_Equal_Need rfl (by simp [AV.pureAll, AV.pure]) rfl ?_ rfl
 unfold rt_slices_Equal_Need
 simp
 by_cases hl : a.length = b.length
 ·simp [hl]
  refine zaa rfl (fun vs => ∃ i : Nat, i ≤ a.length ∧ vs = [I i] ∧ a.take i = b.take i) (fun vs => match vs with | [.int _ j] => a.length - j.toNat | _ => 0) ⟨0, by simp, by simp, by simp⟩ ?_
  rintro vs - ⟨i, hi, rfl, hq⟩
  simp
  refine ⟨fun hlt => ?_, fun hge => ?_⟩
  ·have hlt2 : i < b.length := by omega
   have hw := zab (i := i) (by omega)
   have he := znL a[i] b[i]
   simp [hlt, hlt2, Need.cells] at he ⊢
   by_cases hab : a[i] = b[i]
   ·simp [hab] at he ⊢
    rw [hw]
    refine ⟨⟨i + 1, by omega, rfl, ?_⟩, by omega⟩
    rw [List.take_add_one, List.take_add_one, List.getElem?_eq_getElem hlt, List.getElem?_eq_getElem hlt2, hq, hab]
   ·right
    refine ⟨fun h1 h2 h3 => hab (znM h1 h2 h3), ?_⟩
    rintro rfl
    exact hab rfl
  ·have h1 : a.take i = a := List.take_of_length_le (by omega)
   have h2 : b.take i = b := List.take_of_length_le (by omega)
   rw [h1, h2] at hq
   simp [hq]
 ·have hne : a ≠ b := fun h => hl (by rw [h])
  have hl2 : ¬ (a.length : Int) = b.length := by omega
  simp [hne]
  exact fun h => absurd h hl2
theorem ziX (a b : Path) (ha : a.steps.length ≤ 8796093022208) : C f_route_Same [a.av, b.av] (.bool (zeQ a b)) := by
 refine ctr (a.cells ++ b.cells) run_route_Same rfl (by simp [zac]) rfl ?_ rfl
 unfold rt_route_Same
 simp [Path.cells]
 refine zai (avs := [steps a.steps, steps b.steps]) (.bool (decide (a.steps = b.steps))) rfl (fun _ => ⟨by simp, zcs _ _ ha⟩) (by simp) ?_
 by_cases h1 : a.sig = b.sig <;> by_cases h2 : a.exit = b.exit <;> simp [zeQ, h1, h2]
theorem zj0 (a b : Hd) (ha : a.len) : C f_held_Same [a.av, b.av] (.bool (zfq a b)) := by
 obtain ⟨l1, l2, l3⟩ := ha
 refine ctr (a.cells ++ b.cells) run_held_Same rfl (by simp [zac]) rfl ?_ rfl
 unfold rt_held_Same
 simp [Hd.cells]
 refine zai (avs := [a.path.av, b.path.av]) (.bool (zeQ a.path b.path)) rfl (fun _ => ⟨by simp [Path.cells], ziX _ _ (by omega)⟩) (by simp) ?_
 simp
 refine zai (avs := [steps a.over, steps b.over]) (.bool (decide (a.over = b.over))) rfl (fun _ => ⟨by simp, zcs _ _ (by omega)⟩) (by simp) ?_
 simp
 refine zai (avs := [needs a.needs, needs b.needs]) (.bool (decide (a.needs = b.needs))) rfl (fun _ => ⟨by simp, zeg _ _ (by omega)⟩) (by simp) ?_
 simp [zfq, ziE, Bool.and_assoc]
 simp only [bdec]
 ac_rfl
end Go.Lb.LK
namespace Go.Lb.LK
open Go Go.Lb Go.Proofs Go.RowKit
def zf3 (a b : Kern) : Bool := AV.eqs (zcZ a.want a.run a.fail) (zcZ b.want b.run b.fail)
def zec (a b : List Hd) : Bool := (List.zipWith zfq a b).all id
def zit (a b : Kern) : Bool := decide (a.held.length = b.held.length) && (zec a.held b.held && (decide (a.next = b.next) && zf3 a b))
theorem zig (a : Kern) : zf3 a a = true := by
 unfold zf3 zcZ
 simp [AV.eqs, AV.eq1]
theorem ziN : ∀ l : List Hd, zec l l = true
 | [] => rfl
 | x :: l => by simp [zec, zlJ]
theorem zlI (a : Kern) : zit a a = true := by simp [zit, zig, ziN]
theorem kk (a b : Kern) : AV.pureAll (a.cells ++ b.cells) = true := by simp [zac]
theorem zp3 {a b : List Hd} {i : Nat} (h1 : i < a.length) (h2 : i < b.length) : (List.zipWith zfq a b)[i]'(by simp; omega) = zfq a[i] b[i] := by simp
theorem zjj (a b : Kern) : AV.eqs (zcZ a.want a.run a.fail) (zcZ b.want b.run b.fail) = zf3 a b := rfl
set_option maxRecDepth 100000 in
set_option maxHeartbeats 1000000 in
theorem zgc (a b : Kern) (ha : a.len) : C f_free_Same [a.av, b.av] (.bool (zit a b)) := by
 have h1 := ha.1
 have hm := zjj a b
 simp only [zcZ] at hm
 refine ctr (a.cells ++ b.cells) run_free_Same rfl (kk a b) rfl ?_ rfl
 unfold rt_free_Same
 simp [Kern.cells, hm, -AV.eqs]
 refine ⟨fun hn hma => ⟨fun hl => ?_, fun hl => ?_⟩, fun hno => ?_⟩
 ·have hl2 : ¬ a.held.length = b.held.length := by omega
  simp [zit, hl2]
 ·have hl : a.held.length = b.held.length := by omega
  refine zaa rfl (fun vs => ∃ i : Nat, i ≤ a.held.length ∧ vs = [I i] ∧ zaj (fun x => !x) ((List.zipWith zfq a.held b.held).take i)) (fun vs => match vs with | [.int _ j] => a.held.length - j.toNat | _ => 0) ⟨0, by simp, by simp, rfl⟩ ?_
  rintro vs - ⟨i, hi, rfl, hq⟩
  simp [-AV.eqs]
  refine ⟨fun hlt => ?_, fun hge => ?_⟩
  ·have hlt2 : i < b.held.length := by omega
   have hw := zab (i := i) (by omega)
   have hz := zp3 hlt hlt2
   simp [hlt, hlt2, Hd.cells, -AV.eqs]
   refine call (zj0 a.held[i] b.held[i] (a.at ha hlt)) (by simp [hlt, hlt2, Hd.cells]) (by simp) ?_
   cases hs : zfq a.held[i] b.held[i]
   ·have : zec a.held b.held = false := by
     unfold zec
     rw [List.all_eq_false]
     exact ⟨(List.zipWith zfq a.held b.held)[i]'(by simp; omega), List.getElem_mem _, by rw [hz, hs]; simp⟩
    simp [zit, this, -AV.eqs]
   ·simp [hw, -AV.eqs]
    exact ⟨⟨i + 1, by omega, by omega, zah (i := i) (l := List.zipWith zfq a.held b.held) (by simp; omega) hq (by rw [hz, hs]; rfl)⟩, by omega⟩
  ·have ht : (List.zipWith zfq a.held b.held).take i = List.zipWith zfq a.held b.held := List.take_of_length_le (by simp; omega)
   rw [ht] at hq
   have hall : zec a.held b.held = true := by
    unfold zec
    unfold zaj at hq
    rw [List.all_eq_true]
    intro x hx
    have := List.any_eq_false.1 hq x hx
    simpa using this
   simp [hm, hn, hma, zit, hl, hall, -AV.eqs]
 ·by_cases h : a.next = b.next
  ·simp [zit, hno h]
  ·simp [zit, h]
end Go.Lb.LK
namespace Go.Lb.LK
open Go Go.Lb Go.Proofs Go.RowKit
def p18 : Path := ⟨0, 0, [⟨0, 0, 1⟩]⟩
def q18 : Path := ⟨5, 0, [⟨1, 0, 0⟩]⟩
def hd18 (st : Int) : Hd := ⟨3, p18, [⟨1, 0, 1⟩], [⟨7, 1, 0⟩], st, 0, fun _ => false, false, 0, false⟩
def k18 (st : Int) : Kern := ⟨4, [hd18 st], fun _ => -1, fun _ => 0, fun _ => false⟩
def zaK : Kern := ⟨0, [], fun _ => 0, fun _ => 0, fun _ => false⟩
theorem f1 : canN zaq im18 zas p18 = 0 := by decide +kernel
theorem f2 : canN zaq zfT zas p18 = 190 := by decide +kernel
theorem f3 : zcN zaq im18 zas 1 = true ∧ zcN zaq zfT zas 1 = false := by decide +kernel
theorem f4 : zbR (k18 1) 1 = some 3 ∧ zbR (k18 1) 2 = none := by decide +kernel
theorem f5 : zcc (k18 1) 7 = some 1 := by decide +kernel
theorem f6 : zb8 (k18 1) 7 = false ∧ zb8 (k18 2) 7 = true := by decide +kernel
theorem f7 : canN zaq im18 (k18 2) q18 = 190 := by decide +kernel
theorem f8 : za5 zaq im18 (k18 2) ⟨7, 0, 0⟩ = false ∧ za5 zaq im18 (k18 2) ⟨-1, 0, 0⟩ = false := by decide +kernel
theorem f9 : zay (k18 2) = true ∧ zay zas = true ∧ zay zaK = false := by decide +kernel
theorem f10 : zit (k18 2) zas = false := by decide +kernel
end Go.Lb.LK
namespace Go.Lb.LK
open Go Go.Lb Go.Proofs Go.RowKit
theorem zb7 (st : Int) : (k18 st).len := by
 refine ⟨by simp [k18], fun h hh => ?_⟩
 simp only [k18, List.mem_singleton] at hh
 subst hh
 exact ⟨by simp [hd18, p18], by simp [hd18], by simp [hd18]⟩
theorem zpH (st : Int) (h : 0 ≤ st ∧ st ≤ 255) : (k18 st).ok := by
 intro x hx
 simp only [k18, List.mem_singleton] at hx
 subst hx; exact h
theorem zdJ : zas.len := ⟨by simp [zas], fun h hh => by simp [zas] at hh⟩
theorem znS : zas.ok := fun x hx => by simp [zas] at hx
theorem zne : zaK.len := ⟨by simp [zaK], fun h hh => by simp [zaK] at hh⟩
theorem zn3 : zaK.ok := fun x hx => by simp [zaK] at hx
theorem znD : zaq.ok := by
 intro s hs
 simp only [zaq, List.mem_cons, List.not_mem_nil, or_false] at hs
 rcases hs with rfl | rfl <;> decide
theorem znE : zaq.ovOk := by
 intro e he
 simp only [zaq, List.mem_singleton] at he
 subst he; simp
theorem zom (k : Kern) (p : Path) (hk : k.len) (hp : p.steps.length ≤ 1000) (ho : (over zaq p.exit).length ≤ 1000) : CanOk zaq k p := ⟨hk, znD, znE, by simp [zaq], hp, ho⟩
theorem g1c : C f_free_Can [zaq.av, im18.av, zas.av, p18.av] (I 0) := by
 have := zdQ zaq im18 zgt zas p18 (zom _ _ zdJ (by decide) (by decide))
 rw [f1] at this; exact this
theorem g2c : C f_free_Can [zaq.av, zfT.av, zas.av, p18.av] (I 190) := by
 have := zdQ zaq zfT zkT zas p18 (zom _ _ zdJ (by decide) (by decide))
 rw [f2] at this; exact this
theorem g3c : C f_free_Free [zaq.av, im18.av, zas.av, I 1] (.bool true) := by
 have := zbP zaq im18 zgt zas zdJ 1
 rw [f3.1] at this; exact this
theorem g4c : C f_free_Free [zaq.av, zfT.av, zas.av, I 1] (.bool false) := by
 have := zbP zaq zfT zkT zas zdJ 1
 rw [f3.2] at this; exact this
theorem g5c : C f_free_Holder [(k18 1).av, I 1] (.tup [I 3, .bool true]) := by
 have := zcg (k18 1) (zb7 1) 1
 rw [f4.1] at this; exact this
theorem g6c : C f_free_Holder [(k18 1).av, I 2] (.tup [I 0, .bool false]) := by
 have := zcg (k18 1) (zb7 1) 2
 rw [f4.2] at this; exact this
theorem g7c : C f_free_Wanted [(k18 1).av, I 7] (.tup [I 1, .bool true]) := by
 have := zch (k18 1) (zb7 1) 7
 rw [f5] at this; exact this
theorem g8c : C f_free_Locked [(k18 1).av, I 7] (.bool false) := by
 have := zbE (k18 1) (zb7 1) 7
 rw [f6.1] at this; exact this
theorem g9c : C f_free_Can [zaq.av, im18.av, (k18 2).av, q18.av] (I 190) := by
 have := zdQ zaq im18 zgt (k18 2) q18 (zom _ _ (zb7 2) (by decide) (by decide))
 rw [f7] at this; exact this
theorem g10c : C f_free_Locked [(k18 2).av, I 7] (.bool true) := by
 have := zbE (k18 2) (zb7 2) 7
 rw [f6.2] at this; exact this
theorem g11c : C f_free_Meets [zaq.av, im18.av, (k18 2).av, (Need.mk 7 0 0).av] (.bool false) := by
 have := zcF zaq im18 zgt (k18 2) (zb7 2) ⟨7, 0, 0⟩
 rw [f8.1] at this; exact this
theorem g12c : C f_free_Meets [zaq.av, im18.av, (k18 2).av, (Need.mk (-1) 0 0).av] (.bool false) := by
 have := zcF zaq im18 zgt (k18 2) (zb7 2) ⟨-1, 0, 0⟩
 rw [f8.2] at this; exact this
theorem g13c : C f_free_Right [(k18 2).av] (.bool true) := by
 have := zdo (k18 2) (zb7 2) (zpH 2 (by decide))
 rw [f9.1] at this; exact this
theorem g14c : C f_free_Right [zas.av] (.bool true) := by
 have := zdo zas zdJ znS
 rw [f9.2.1] at this; exact this
theorem g15c : C f_free_Right [zaK.av] (.bool false) := by
 have := zdo zaK zne zn3
 rw [f9.2.2] at this; exact this
theorem g16c : C f_free_Own [(k18 2).av] (k18 2).av := zlc (k18 2) (zb7 2)
theorem g17c : C f_free_Same [(k18 2).av, (k18 2).av] (.bool true) := by
 have := zgc (k18 2) (k18 2) (zb7 2)
 rw [zlI] at this; exact this
theorem g18c : C f_free_Same [(k18 2).av, zas.av] (.bool false) := by
 have := zgc (k18 2) zas (zb7 2)
 rw [f10] at this; exact this
end Go.Lb.LK
