/- Whether a kernel may be. -/
import Derived.Test.YtahohjgfkabacaaGreatDoorCh5
import Derived.Test.YtahohjgfkabacaaGreatDoorFw11
set_option linter.unusedSimpArgs false
set_option linter.unusedVariables false
namespace Go.Lb.LK
open Go Go.Lb Go.Proofs Go.RowKit
def zda (k : Kern) (i : Nat) : Int := if i = 0 then 0 else (k.held[i - 1]?.map (·.id)).getD 0
def okAt (k : Kern) (i : Nat) : Bool := match k.held[i]? with
 | some h => zay h && (decide (h.id < k.next) && (decide (zda k i < h.id) && (k.held.take i).all (zbm h)))
 | none => true
def zbU (k : Kern) : Bool := (List.range 24).all fun i => zaZ (k.mach i)
def zas (k : Kern) : Bool := decide (k.held.length ≤ 6 ∧ 1 ≤ k.next ∧ k.next ≤ 1073741824) && ((List.range k.held.length).all (okAt k) && zbU k)
theorem zkm {k : Kern} {i : Nat} (h : i < k.held.length) : okAt k i = (zay k.held[i] && (decide (k.held[i].id < k.next) && (decide (zda k i < k.held[i].id) && (k.held.take i).all (zbm k.held[i])))) := by
 simp only [okAt, List.getElem?_eq_getElem h]
theorem zc4 {k : Kern} {i : Nat} (h : i < k.held.length) (hb : okAt k i = false) : zas k = false := by
 have : (List.range k.held.length).all (okAt k) = false := by
  rw [List.all_eq_false]
  exact ⟨i, List.mem_range.2 h, by rw [hb]; simp⟩
 simp [zas, this]
theorem zfq {k : Kern} {i : Nat} (h : i < k.held.length) : zda k (i + 1) = k.held[i].id := by
 simp [zda, List.getElem?_eq_getElem h]
theorem aidxM (k : Kern) {i : Nat} {z : Int} (hz : z = i) (h : i < 24) : pv (.aidx 24 3 0 3 true) [.agg (zau k.want k.run k.fail), I z] = (k.mach i).av := by
 subst hz
 match i, h with
 | 0, _ => rfl
 | 1, _ => rfl
 | 2, _ => rfl
 | 3, _ => rfl
 | 4, _ => rfl
 | 5, _ => rfl
 | 6, _ => rfl
 | 7, _ => rfl
 | 8, _ => rfl
 | 9, _ => rfl
 | 10, _ => rfl
 | 11, _ => rfl
 | 12, _ => rfl
 | 13, _ => rfl
 | 14, _ => rfl
 | 15, _ => rfl
 | 16, _ => rfl
 | 17, _ => rfl
 | 18, _ => rfl
 | 19, _ => rfl
 | 20, _ => rfl
 | 21, _ => rfl
 | 22, _ => rfl
 | 23, _ => rfl
 | n + 24, h => exact absurd h (by omega)
theorem aidxK (k : Kern) {i : Nat} {z : Int} (hz : z = i) (h : i < 24) : pv (.aidx 24 3 2 3 true) [.agg k.cells, I z] = (k.mach i).av := by
 subst hz
 match i, h with
 | 0, _ => rfl
 | 1, _ => rfl
 | 2, _ => rfl
 | 3, _ => rfl
 | 4, _ => rfl
 | 5, _ => rfl
 | 6, _ => rfl
 | 7, _ => rfl
 | 8, _ => rfl
 | 9, _ => rfl
 | 10, _ => rfl
 | 11, _ => rfl
 | 12, _ => rfl
 | 13, _ => rfl
 | 14, _ => rfl
 | 15, _ => rfl
 | 16, _ => rfl
 | 17, _ => rfl
 | 18, _ => rfl
 | 19, _ => rfl
 | 20, _ => rfl
 | 21, _ => rfl
 | 22, _ => rfl
 | 23, _ => rfl
 | n + 24, h => exact absurd h (by omega)
theorem zbv {q : Nat → Bool} {n i : Nat} (h : i < n) (hb : q i = false) : (List.range n).all q = false := by
 rw [List.all_eq_false]
 exact ⟨i, List.mem_range.2 h, by rw [hb]; simp⟩
theorem za6 {q : Nat → Bool} {n : Nat} (h : ∀ i, i < n → q i = true) : (List.range n).all q = true := by
 rw [List.all_eq_true]
 exact fun i hi => h i (List.mem_range.1 hi)
set_option maxHeartbeats 2000000 in
theorem zcv (k : Kern) (hl : k.len) (hk : k.ok) : C f_lockbarref18_Right [k.av] (.bool (zas k)) := by
 have h1 := hl.1
 refine ctr k.cells run_lockbarref18_Right rfl (by simp) rfl ?_ rfl
 unfold rt_lockbarref18_Right
 simp [Kern.cells, -zab]
 refine ⟨fun hb => ?_, fun a1 a2 a3 => ?_⟩
 ·have hg : ¬ (k.held.length ≤ 6 ∧ 1 ≤ k.next ∧ k.next ≤ 1073741824) := by omega
  simp only [zas]; rw [decide_eq_false hg]; rfl
 ·have hg : k.held.length ≤ 6 ∧ 1 ≤ k.next ∧ k.next ≤ 1073741824 := by omega
  refine zac rfl (fun vs => ∃ i : Nat, i ≤ k.held.length ∧ vs = [I i] ∧ ∀ j, j < i → okAt k j = true) (fun vs => match vs with | [.int _ j] => k.held.length - j.toNat | _ => 0) ⟨0, by omega, by simp, fun j hj => by omega⟩ ?_
  rintro vs - ⟨i, hi, rfl, hq⟩
  simp [-zab]
  refine ⟨fun hlt => ?_, fun hge => ?_⟩
  ·have hw := zad (i := i) (by omega)
   have hok := zkm hlt
   simp [hlt, Hd.cells, -zab]
   refine call (zgr k.held[i] (k.at hl hlt) (hk _ (List.getElem_mem hlt))) (by simp [hlt, Hd.cells]) (by simp) ?_
   by_cases hi0 : 0 < i
   ·have hw0 : IntKind.i64.wrap ((i : Int) - 1) = (i : Int) - 1 := by rw [zaI] <;> omega
    have hlast : zda k i = k.held[i - 1].id := by
     simp [zda, show ¬ i = 0 by omega, List.getElem?_eq_getElem (show i - 1 < k.held.length by omega)]
    have hi1 : ((i : Int) - 1).toNat = i - 1 := by omega
    simp [hlt, hi0, hw0, hi1, Hd.cells, show i - 1 < k.held.length by omega, -zab]
    refine And.intro (by intros; omega) ?_
    refine ⟨fun hb => ?_, fun hr hn hli => ?_⟩
    ·refine zc4 hlt ?_
     rw [hok, hlast]
     rcases hb with (hb | hb) | hb
     ·simp [hb]
     ·simp [show ¬ k.held[i].id < k.next by omega]
     ·simp [show ¬ k.held[i - 1].id < k.held[i].id by omega]
    ·rw [← hlast] at hli
     refine zac rfl (fun vs => ∃ j : Nat, j ≤ i ∧ vs = [I j] ∧ zar (fun o => !zbm k.held[i] o) (k.held.take j)) (fun vs => match vs with | [.int _ j] => i - j.toNat | _ => 0) ⟨0, by omega, by simp, rfl⟩ ?_
     rintro vs - ⟨j, hj, rfl, hp⟩
     simp [-zab]
     refine ⟨fun hlt2 => ?_, fun hge2 => ?_⟩
     ·have hj2 : j < k.held.length := by omega
      have hwj := zad (i := j) (by omega)
      simp [hlt, hj2, Hd.cells, -zab]
      refine call (zf9 k.held[i] k.held[j] (k.at hl hlt) (k.at hl hj2)) (by simp [hlt, hj2, Hd.cells]) (by simp) ?_
      cases ha : zbm k.held[i] k.held[j]
      ·have hb : zas k = false := by
        refine zc4 hlt ?_
        rw [hok]
        have : (k.held.take i).all (zbm k.held[i]) = false := by
         rw [List.all_eq_false]
         exact ⟨k.held[j], List.mem_take_iff_getElem.2 ⟨j, by omega, rfl⟩, by rw [ha]; simp⟩
        rw [this]; simp
       simp [hb, -zab]
      ·simp [hwj, -zab]
       exact ⟨⟨j + 1, by omega, by omega, zao hj2 hp (by simp [ha])⟩, by omega⟩
     ·have hji : j = i := by omega
      subst hji
      have hall : (k.held.take j).all (zbm k.held[j]) = true := by
       rw [List.all_eq_true]
       intro x hx
       have := List.any_eq_false.1 hp x hx
       simpa using this
      have hokj : okAt k j = true := by rw [hok, hr, hall, decide_eq_true hn, decide_eq_true hli]; rfl
      simp [hlt, hw, Hd.cells, -zab]
      refine ⟨⟨j + 1, by omega, by omega, fun m hm => ?_⟩, by omega⟩
      by_cases hmj : m = j
      ·subst hmj; exact hokj
      ·exact hq m (by omega)
   ·have hi0' : i = 0 := by omega
    have hlast : zda k i = 0 := by simp [zda, hi0']
    simp [hlt, hi0, Hd.cells, -zab]
    refine ⟨fun hb => ?_, fun hr hn => ?_⟩
    ·refine zc4 hlt ?_
     rw [hok]
     rcases hb with hb | hb
     ·simp [hb]
     ·simp [show ¬ k.held[i].id < k.next by omega]
    ·have hli : zda k i < k.held[i].id := by
      rw [hlast]
      obtain ⟨⟨q1, _⟩, _⟩ := zaM hr
      omega
     refine zac rfl (fun vs => ∃ j : Nat, j ≤ i ∧ vs = [I j] ∧ zar (fun o => !zbm k.held[i] o) (k.held.take j)) (fun vs => match vs with | [.int _ j] => i - j.toNat | _ => 0) ⟨0, by omega, by simp, rfl⟩ ?_
     rintro vs - ⟨j, hj, rfl, hp⟩
     simp [-zab]
     refine ⟨fun hlt2 => ?_, fun hge2 => ?_⟩
     ·have hj2 : j < k.held.length := by omega
      have hwj := zad (i := j) (by omega)
      simp [hlt, hj2, Hd.cells, -zab]
      refine call (zf9 k.held[i] k.held[j] (k.at hl hlt) (k.at hl hj2)) (by simp [hlt, hj2, Hd.cells]) (by simp) ?_
      cases ha : zbm k.held[i] k.held[j]
      ·have hb : zas k = false := by
        refine zc4 hlt ?_
        rw [hok]
        have : (k.held.take i).all (zbm k.held[i]) = false := by
         rw [List.all_eq_false]
         exact ⟨k.held[j], List.mem_take_iff_getElem.2 ⟨j, by omega, rfl⟩, by rw [ha]; simp⟩
        rw [this]; simp
       simp [hb, -zab]
      ·simp [hwj, -zab]
       exact ⟨⟨j + 1, by omega, by omega, zao hj2 hp (by simp [ha])⟩, by omega⟩
     ·have hji : j = i := by omega
      subst hji
      have hall : (k.held.take j).all (zbm k.held[j]) = true := by
       rw [List.all_eq_true]
       intro x hx
       have := List.any_eq_false.1 hp x hx
       simpa using this
      have hokj : okAt k j = true := by rw [hok, hr, hall, decide_eq_true hn, decide_eq_true hli]; rfl
      simp [hlt, hw, Hd.cells, -zab]
      refine ⟨⟨j + 1, by omega, by omega, fun m hm => ?_⟩, by omega⟩
      by_cases hmj : m = j
      ·subst hmj; exact hokj
      ·exact hq m (by omega)
  ·have hA : (List.range k.held.length).all (okAt k) = true := za6 fun j hj => hq j (by omega)
   refine zac rfl (fun vs => ∃ m : Nat, m ≤ 24 ∧ vs = [I m] ∧ ∀ j, j < m → zaZ (k.mach j) = true) (fun vs => match vs with | [.int _ j] => 24 - j.toNat | _ => 0) ⟨0, by omega, by simp, fun j hj => by omega⟩ ?_
   rintro vs - ⟨m, hm, rfl, hqm⟩
   simp [-zab]
   refine ⟨fun hlt => ?_, fun hge => ?_⟩
   ·have hm24 : m < 24 := by omega
    have hw := zad (i := m) (by omega)
    have hMM := aidxK k (i := m) (z := (m : Int)) rfl hm24
    simp only [Kern.cells] at hMM
    skip
    repeat refine And.intro (by omega) ?_
    refine call (zeX (k.mach m)) (by simp [hMM, Mach.cells, -zab]) (by simp) ?_
    cases hmo : zaZ (k.mach m)
    ·have : zas k = false := by
      have : zbU k = false := zbv hm24 hmo
      simp [zas, this]
     simp [this, -zab]
    ·simp [hw, -zab]
     refine ⟨⟨m + 1, by omega, by omega, fun j hj => ?_⟩, by omega⟩
     by_cases hjm : j = m
     ·subst hjm; exact hmo
     ·exact hqm j (by omega)
   ·have hmall : zbU k = true := za6 fun j hj => hqm j (by omega)
    have : zas k = true := by simp only [zas, hA, hmall]; rw [decide_eq_true hg]; rfl
    simp [this, -zab]
end Go.Lb.LK
namespace Go.Lb.LK
open Go Go.Lb Go.Proofs Go.RowKit
set_option maxHeartbeats 2000000 in
theorem zdm (k : Kern) (hl : k.len) (hk : k.ok) : C f_free_Right [k.av] (.bool (zas k)) := by
 have h1 := hl.1
 refine ctr k.cells run_free_Right rfl (by simp) rfl ?_ rfl
 unfold rt_free_Right
 simp [Kern.cells, -zab]
 refine ⟨fun hb => ?_, fun a1 a2 a3 => ?_⟩
 ·have hg : ¬ (k.held.length ≤ 6 ∧ 1 ≤ k.next ∧ k.next ≤ 1073741824) := by omega
  simp only [zas]; rw [decide_eq_false hg]; rfl
 ·have hg : k.held.length ≤ 6 ∧ 1 ≤ k.next ∧ k.next ≤ 1073741824 := by omega
  refine zac rfl (fun vs => ∃ i : Nat, i ≤ k.held.length ∧ vs = [I (zda k i), I i] ∧ ∀ j, j < i → okAt k j = true) (fun vs => match vs with | [_, .int _ j] => k.held.length - j.toNat | _ => 0) ⟨0, by omega, by simp [zda], fun j hj => by omega⟩ ?_
  rintro vs - ⟨i, hi, rfl, hq⟩
  simp [-zab]
  refine ⟨fun hlt => ?_, fun hge => ?_⟩
  ·have hw := zad (i := i) (by omega)
   have hok := zkm hlt
   have hsucc := zfq hlt
   simp [hlt, Hd.cells, -zab]
   refine call (zgX k.held[i] (k.at hl hlt) (hk _ (List.getElem_mem hlt))) (by simp [hlt, Hd.cells]) (by simp) ?_
   simp [hlt, Hd.cells, -zab]
   refine And.intro (fun _ _ _ => by omega) ?_
   refine ⟨fun hb => ?_, fun hr hli hn => ?_⟩
   ·refine zc4 hlt ?_
    rw [hok]
    rcases hb with (hb | hb) | hb
    ·simp [hb]
    ·simp [show ¬ zda k i < k.held[i].id by omega]
    ·simp [show ¬ k.held[i].id < k.next by omega]
   ·refine zac rfl (fun vs => ∃ j : Nat, j ≤ i ∧ vs = [I j] ∧ zar (fun o => !zbm k.held[i] o) (k.held.take j)) (fun vs => match vs with | [.int _ j] => i - j.toNat | _ => 0) ⟨0, by omega, by simp, rfl⟩ ?_
    rintro vs - ⟨j, hj, rfl, hp⟩
    simp [-zab]
    refine ⟨fun hlt2 => ?_, fun hge2 => ?_⟩
    ·have hj2 : j < k.held.length := by omega
     have hwj := zad (i := j) (by omega)
     simp [hlt, hj2, hlt2, Hd.cells, -zab]
     refine call (zlm k.held[i] k.held[j] (k.at hl hlt) (k.at hl hj2)) (by simp [hlt, hj2, hlt2, Hd.cells]) (by simp) ?_
     cases ha : zbm k.held[i] k.held[j]
     ·have hb : zas k = false := by
       refine zc4 hlt ?_
       rw [hok]
       have : (k.held.take i).all (zbm k.held[i]) = false := by
        rw [List.all_eq_false]
        exact ⟨k.held[j], List.mem_take_iff_getElem.2 ⟨j, by omega, rfl⟩, by rw [ha]; simp⟩
       rw [this]; simp
      simp [hb, -zab]
     ·simp [hwj, -zab]
      exact ⟨⟨j + 1, by omega, by omega, zao hj2 hp (by simp [ha])⟩, by omega⟩
    ·have hji : j = i := by omega
     subst hji
     have hall : (k.held.take j).all (zbm k.held[j]) = true := by
      rw [List.all_eq_true]
      intro x hx
      have := List.any_eq_false.1 hp x hx
      simpa using this
     have hokj : okAt k j = true := by rw [hok, hr, hall, decide_eq_true hn, decide_eq_true hli]; rfl
     simp [hlt, hw, Hd.cells, -zab]
     refine ⟨⟨j + 1, by omega, ⟨hsucc.symm, by omega⟩, fun m hm => ?_⟩, by omega⟩
     by_cases hmj : m = j
     ·subst hmj; exact hokj
     ·exact hq m (by omega)
  ·have hA : (List.range k.held.length).all (okAt k) = true := za6 fun j hj => hq j (by omega)
   refine zac rfl (fun vs => ∃ m : Nat, m ≤ 24 ∧ vs = [I m] ∧ ∀ j, j < m → zaZ (k.mach j) = true) (fun vs => match vs with | [.int _ j] => 24 - j.toNat | _ => 0) ⟨0, by omega, by simp, fun j hj => by omega⟩ ?_
   rintro vs - ⟨m, hm, rfl, hqm⟩
   simp [-zab]
   refine ⟨fun hlt => ?_, fun hge => ?_⟩
   ·have hm24 : m < 24 := by omega
    have hw := zad (i := m) (by omega)
    have hMM := aidxM k (i := m) (z := (m : Int)) rfl hm24
    simp only [zau] at hMM
    simp [hMM, Mach.cells, -zab]
    repeat refine And.intro (by omega) ?_
    refine call (zcV (k.mach m)) (by simp [hMM, Mach.cells, -zab]) (by simp) ?_
    cases hmo : zaZ (k.mach m)
    ·have : zas k = false := by
      have : zbU k = false := zbv hm24 hmo
      simp [zas, this]
     simp [this, -zab]
    ·simp [hw, -zab]
     refine ⟨⟨m + 1, by omega, by omega, fun j hj => ?_⟩, by omega⟩
     by_cases hjm : j = m
     ·subst hjm; exact hmo
     ·exact hqm j (by omega)
   ·have hmall : zbU k = true := za6 fun j hj => hqm j (by omega)
    have : zas k = true := by simp only [zas, hA, hmall]; rw [decide_eq_true hg]; rfl
    simp [this, -zab]
end Go.Lb.LK
namespace Go.Lb.LK
open Go Go.Lb Go.Proofs Go.RowKit
theorem liks (l : Lay) (im : Img) (k : Kern) (xs : List AV) (h : AV.pureAll xs = true) : AV.pureAll (l.cells ++ im.cells ++ k.cells ++ xs) = true := by simp [zaf, h]
def zcF (l : Lay) (im : Img) (k : Kern) (s : Int) : Bool := (zbV k s).isNone && !zag l im s
theorem zin (l : Lay) (im : Img) (hi : im.ok) (k : Kern) (hl : k.len) (s : Int) : C f_free_Free [l.av, im.av, k.av, I s] (.bool (zcF l im k s)) := by
 refine ctr (l.cells ++ im.cells ++ k.cells ++ [I s]) run_free_Free rfl (liks l im k _ rfl) rfl ?_ rfl
 unfold rt_free_Free
 simp [Lay.cells, Img.cells, Kern.cells]
 refine call (zjv k hl s) (by simp [Kern.cells]) (by simp [optP]) ?_
 simp [optP]
 refine zak (avs := [l.av, im.av, I s]) (.bool (zag l im s)) rfl (fun _ => ⟨by simp [Lay.cells, Img.cells], zaq l im hi s⟩) (by simp) ?_
 cases h : zbV k s <;> simp [zcF, h]
theorem zhM (l : Lay) (im : Img) (hi : im.ok) (k : Kern) (hl : k.len) (s : Int) : C f_lockbarref18_Free [l.av, im.av, k.av, I s] (.bool (zcF l im k s)) := by
 refine ctr (l.cells ++ im.cells ++ k.cells ++ [I s]) run_lockbarref18_Free rfl (liks l im k _ rfl) rfl ?_ rfl
 unfold rt_lockbarref18_Free
 simp [Lay.cells, Img.cells, Kern.cells]
 refine call (zfu k hl s) (by simp [Kern.cells]) (by simp [optP]) ?_
 simp [optP]
 refine zak (avs := [l.av, im.av, I s]) (.bool (zag l im s)) rfl (fun _ => ⟨by simp [Lay.cells, Img.cells], zaW l im hi s⟩) (by simp) ?_
 cases h : zbV k s <;> simp [zcF, h]
def zcT (l : Lay) (im : Img) (k : Kern) (n : Need) : Bool :=
 decide (0 ≤ n.p ∧ n.p < 24) && (match zbB k n.p with
  | some pos => decide (pos = n.pos) && (decide (atP l im n.p = n.pos) || !zaA k n.p)
  | none => decide (atP l im n.p = n.pos) || (!k.fail n.p.toNat && zcF l im k n.p))
theorem aidxF (k : Kern) {i : Nat} {z : Int} (hz : z = i) (h : i < 24) : pv (.aidx 24 3 4 1 false) [.agg k.cells, I z] = .bool (k.fail i) := by
 subst hz
 have := zlu k.want k.run k.fail h .undef
 have e : k.cells.getD (i * 3 + 4) .undef = .bool (k.fail i) := by
  rw [← this]; rfl
 simp only [zab, Int.toNat_natCast, AV.cut]
 rw [e]
theorem zoh (l : Lay) (im : Img) (hi : im.ok) (k : Kern) (hl : k.len) (n : Need) : C f_lockbarref18_Meets [l.av, im.av, k.av, n.av] (.bool (zcT l im k n)) := by
 refine ctr (l.cells ++ im.cells ++ k.cells ++ n.cells) run_lockbarref18_Meets rfl (liks l im k _ (by simp)) rfl ?_ rfl
 unfold rt_lockbarref18_Meets
 simp [Lay.cells, Img.cells, Kern.cells, Need.cells, -zab]
 refine ⟨fun hb => by unfold zcT; rw [decide_eq_false (by omega)]; rfl, fun h0 h24 => ?_⟩
 have hA := aidxF k (i := n.p.toNat) (z := n.p) (by omega) (by omega)
 simp only [Kern.cells] at hA
 refine call (zfi l im hi n.p) (by simp [Lay.cells, Img.cells]) (by simp) ?_
 simp [-zab]
 refine call (zdS k hl n.p) (by simp [Kern.cells]) (by simp [optP]) ?_
 cases hm : zbB k n.p with
 | some pos =>
  simp [optP, -zab]
  refine zak (avs := [k.av, I n.p]) (.bool (zaA k n.p)) rfl (fun _ => ⟨by simp [Kern.cells], zdh k hl n.p⟩) (by simp) ?_
  by_cases hp : pos = n.pos <;> by_cases ha : atP l im n.p = n.pos <;> cases hk : zaA k n.p <;> simp [zcT, h0, h24, hm, hp, ha, hk]
 | none =>
  simp [optP, hA, -zab]
  repeat refine And.intro (by intros; omega) ?_
  refine zak (avs := [l.av, im.av, k.av, I n.p]) (.bool (zcF l im k n.p)) rfl (fun _ => ⟨by simp [Lay.cells, Img.cells, Kern.cells], zhM l im hi k hl n.p⟩) (by simp) ?_
  simp [hA, -zab]
  repeat refine And.intro (by intros; omega) ?_
  by_cases ha : atP l im n.p = n.pos <;> cases hf : k.fail n.p.toNat <;> simp [zcT, h0, h24, hm, ha, hf]
end Go.Lb.LK
namespace Go.Lb.LK
open Go Go.Lb Go.Proofs Go.RowKit
def way (k i o : Int) : Int × Bool :=
 if (k = 1 ∨ k = 2 ∨ k = 3) ∧ (i = 0 ∧ o = 1 ∨ i = 1 ∧ o = 0) then (0, true)
 else if k = 2 ∧ (i = 0 ∧ o = 2 ∨ i = 2 ∧ o = 0) then (1, true)
 else if k = 3 ∧ (i = 2 ∧ o = 3 ∨ i = 3 ∧ o = 2) then (1, true) else (0, false)
theorem w1 : IntKind.i64.wrap 1 = 1 := by decide
theorem w2 : IntKind.i64.wrap 2 = 2 := by decide
abbrev ib (x : Int × Bool) : AV := .tup [I x.1, .bool x.2]
def zis (l : Lay) (s : Int) : Option Sec := if 0 ≤ s then l.secs[s.toNat]? else none
theorem zch {l : Lay} {s : Int} (h0 : 0 ≤ s) (h1 : s < l.secs.length) : ∃ n : Nat, s = n ∧ ∃ h : n < l.secs.length, zis l s = some (l.secs[n]) := by
 refine ⟨s.toNat, by omega, by omega, ?_⟩
 unfold zis
 rw [if_pos h0, List.getElem?_eq_getElem]
theorem zdf {l : Lay} {s : Int} (h : ¬ (0 ≤ s ∧ s < l.secs.length)) : zis l s = none := by
 unfold zis
 split
 ·exact List.getElem?_eq_none (by omega)
 ·rfl
def zcN (l : Lay) (s : Step) : Int × Bool := match zis l s.s with
 | some x => way x.kind s.i s.o
 | none => (0, false)
def zja (l : Lay) (x : Int) : Option Exi := if 0 ≤ x then l.exits[x.toNat]? else none
theorem zlL {l : Lay} {s : Int} (h0 : 0 ≤ s) (h1 : s < l.exits.length) : ∃ n : Nat, s = n ∧ ∃ h : n < l.exits.length, zja l s = some (l.exits[n]) := by
 refine ⟨s.toNat, by omega, by omega, ?_⟩
 unfold zja
 rw [if_pos h0, List.getElem?_eq_getElem]
theorem zgn {l : Lay} {s : Int} (h : ¬ (0 ≤ s ∧ s < l.exits.length)) : zja l s = none := by
 unfold zja
 split
 ·exact List.getElem?_eq_none (by omega)
 ·rfl
def over (l : Lay) (x : Int) : List Step := match zja l x with
 | some e => e.over
 | none => []
def Lay.ovOk (l : Lay) : Prop := ∀ e ∈ l.exits, e.over.length ≤ 4294967296
end Go.Lb.LK
namespace Go.Lb.LK
open Go Go.Lb Go.Proofs Go.RowKit
def point (l : Lay) (s : Step) : Int × Int × Bool := match zis l s.s with
 | some x => if (way x.kind s.i s.o).2 = true ∧ x.kind = 2 then (s.s, (way 2 s.i s.o).1, true) else (0, 0, false)
 | none => (0, 0, false)
abbrev iib (x : Int × Int × Bool) : AV := .tup [I x.1, I x.2.1, .bool x.2.2]
def za4 (l : Lay) (s : Step) (f : Flank) : Bool := (zcN l s).2 && decide (f.s = s.s) && decide (f.way = (zcN l s).1)
def zfn (l : Lay) (s : Step) (k : Int) : List Need :=
 (if (point l s).2.2 = true then [⟨(point l s).1, (point l s).2.1, k⟩] else []) ++ (l.flanks.filter (za4 l s)).map fun f => ⟨f.point, f.pos, k⟩
def zaV (l : Lay) (p : Path) : List (Int × Step) := p.steps.mapIdx (fun k s => ((k : Int), s)) ++ (over l p.exit).map fun s => ((p.steps.length : Int), s)
def zaB (l : Lay) (p : Path) : List Need := (zaV l p).flatMap fun x => zfn l x.2 x.1
theorem zlM (l : Lay) (s : Step) (k : Int) : (zfn l s k).length ≤ l.flanks.length + 1 := by
 unfold zfn
 rw [List.length_append, List.length_map]
 have := List.length_filter_le (za4 l s) l.flanks
 split <;> simp <;> omega
theorem zkg {α β : Type} (f : α → List β) (m : Nat) (h : ∀ x, (f x).length ≤ m) : ∀ l : List α, (l.flatMap f).length ≤ l.length * m
 | [] => by simp
 | x :: l => by
  have := zkg f m h l
  have := h x
  simp only [List.flatMap_cons, List.length_append, List.length_cons, Nat.add_mul]
  omega
end Go.Lb.LK
namespace Go.Lb.LK
open Go Go.Lb Go.Proofs Go.RowKit
def zd2 (p : Path) (h : Hd) : Bool := decide (h.path.sig = p.sig) && !decide (h.stage = 3)
def canN (l : Lay) (im : Img) (k : Kern) (p : Path) : Int :=
 if (k.held.any (zd2 p) || ((p.steps ++ over l p.exit).any (fun s => !zcF l im k s.s) || (zaB l p).any (fun n => !zcT l im k n))) = true then 190
 else if 6 ≤ k.held.length then 191 else 0
structure CanOk (l : Lay) (k : Kern) (p : Path) : Prop where
 kl : k.len
 lo : l.ok
 ov : l.ovOk
 fl : l.flanks.length ≤ 1000
 pl : p.steps.length ≤ 1000
 ol : (over l p.exit).length ≤ 1000
theorem zgx {l : Lay} {k : Kern} {p : Path} (h : CanOk l k p) : (zaB l p).length ≤ 2002000 := by
 have hw1 : ∀ s k, (zfn l s k).length ≤ 1001 := fun s k => by have := zlM l s k; have := h.fl; omega
 have h1 := zkg (fun x : Int × Step => zfn l x.2 x.1) 1001 (fun x => hw1 x.2 x.1) (zaV l p)
 have h2 : (zaV l p).length ≤ 2000 := by have := h.pl; have := h.ol; simp [zaV]; omega
 unfold zaB
 omega
end Go.Lb.LK
namespace Go.Lb.LK
open Go Go.Lb Go.Proofs Go.RowKit
theorem likp (l : Lay) (im : Img) (k : Kern) (p : Path) : AV.pureAll (l.cells ++ im.cells ++ k.cells ++ p.cells) = true := by simp [zaf]
theorem zrM {l : Lay} {im : Img} {k : Kern} {p : Path} (h : k.held.any (zd2 p) = true) : canN l im k p = 190 := by simp [canN, h]
theorem zqq {l : Lay} {im : Img} {k : Kern} {p : Path} {s : Step} (hs : s ∈ p.steps ++ over l p.exit) (h : zcF l im k s.s = false) : canN l im k p = 190 := by
 have : ((p.steps ++ over l p.exit).any fun s => !zcF l im k s.s) = true := List.any_eq_true.2 ⟨s, hs, by simp [h]⟩
 simp only [canN, this, Bool.true_or, Bool.or_true, if_true]
theorem znx {l : Lay} {im : Img} {k : Kern} {p : Path} {n : Need} (hs : n ∈ zaB l p) (h : zcT l im k n = false) : canN l im k p = 190 := by
 have : ((zaB l p).any fun n => !zcT l im k n) = true := List.any_eq_true.2 ⟨n, hs, by simp [h]⟩
 simp only [canN, this, Bool.or_true, if_true]
theorem zqH {l : Lay} {im : Img} {k : Kern} {p : Path} (h1 : zar (zd2 p) k.held) (h2 : zar (fun s : Step => !zcF l im k s.s) p.steps) (h3 : zar (fun s : Step => !zcF l im k s.s) (over l p.exit)) (h4 : zar (fun n => !zcT l im k n) (zaB l p)) : canN l im k p = if 6 ≤ k.held.length then 191 else 0 := by
 unfold zar at *
 simp only [canN, List.any_append, h1, h2, h3, h4, Bool.or_false, Bool.false_eq_true, if_false]
end Go.Lb.LK
namespace Go.Lb.LK
open Go Go.Lb Go.Proofs Go.RowKit
def ways (k : Int) : Int := if k = 1 then 1 else if k = 2 then 2 else if k = 3 then 2 else 0
theorem zeR (k : Int) : C f_lockbarref05_Ways [U k] (I (ways k)) := by
 refine ctr [U k] run_lockbarref05_Ways rfl rfl rfl ?_ rfl
 unfold rt_lockbarref05_Ways
 by_cases h1 : k = 1
 ·simp [h1, ways]
 ·by_cases h2 : k = 2
  ·simp [h2, ways]
  ·by_cases h3 : k = 3
   ·simp [h3, ways]
   ·simp [h1, h2, h3, ways]
def ends (k w : Int) : Int × Int × Bool := if w < 0 ∨ w ≥ ways k then (0, 0, false) else if w = 0 then (0, 1, true) else if k = 2 then (0, 2, true) else (2, 3, true)
theorem zok (k w : Int) : C f_lockbarref05_Ends [U k, I w] (iib (ends k w)) := by
 refine ctr [U k, I w] run_lockbarref05_Ends rfl rfl rfl ?_ rfl
 unfold rt_lockbarref05_Ends
 simp
 refine zak (I (ways k)) rfl (fun _ => ⟨by simp, zeR k⟩) (by simp) ?_
 by_cases h0 : w < 0
 ·simp [h0, ends]
 ·by_cases h1 : ways k ≤ w
  ·simp [h0, h1, ends]
  ·by_cases h2 : w = 0
   ·subst h2; simp [h1, ends]
   ·by_cases h3 : k = 2
    ·subst h3; simp [h0, h1, h2, ends]
    ·simp [h0, h1, h2, h3, ends]
theorem zrG (k : Int) : 0 ≤ ways k ∧ ways k ≤ 2 := by unfold ways; split <;> (try split) <;> (try split) <;> omega
theorem zle (k i o : Int) : C f_lockbarref05_Way [U k, I i, I o] (ib (way k i o)) := by
 refine ctr [U k, I i, I o] run_lockbarref05_Way rfl rfl rfl ?_ rfl
 unfold rt_lockbarref05_Way
 have hw := zrG k
 refine zac rfl (fun vs => ∃ j : Nat, (j : Int) ≤ 2 ∧ vs = [I j] ∧ (1 ≤ j → 1 ≤ ways k → ¬ (i = 0 ∧ o = 1 ∨ i = 1 ∧ o = 0)) ∧ (2 ≤ j → k = 2 → ¬ (i = 0 ∧ o = 2 ∨ i = 2 ∧ o = 0)) ∧ (2 ≤ j → k = 3 → ¬ (i = 2 ∧ o = 3 ∨ i = 3 ∧ o = 2)) ∧ (j : Int) ≤ ways k)
  (fun vs => match vs with | [.int _ j] => 3 - j.toNat | _ => 0) ⟨0, by simp, by simp, by omega, by omega, by omega, by simp; omega⟩ ?_
 rintro vs - ⟨j, hj, rfl, a1, a2, a3, a4⟩
 simp
 refine call (zeR k) (by simp) (by simp) ?_
 simp
 refine ⟨fun hlt => ?_, fun hge => ?_⟩
 ·refine call (zok k j) (by simp) (by simp) ?_
  simp
  have hk : k = 1 ∨ k = 2 ∨ k = 3 := by
   unfold ways at hlt
   split at hlt
   ·exact .inl ‹_›
   ·split at hlt
    ·exact .inr (.inl ‹_›)
    ·split at hlt
     ·exact .inr (.inr ‹_›)
     ·omega
  have hj2 : j = 0 ∨ j = 1 := by omega
  rcases hj2 with rfl | rfl
  ·have he : ends k ((0 : Nat) : Int) = (0, 1, true) := by
    unfold ends
    rw [if_neg (by simp; omega)]; rfl
   rw [he]
   simp only [Int.natCast_zero, Int.zero_add, w1]
   by_cases c1 : i = 0 ∧ o = 1 ∨ i = 1 ∧ o = 0
   ·have hwy : way k i o = (0, true) := by unfold way; rw [if_pos ⟨by omega, c1⟩]
    rw [hwy]
    exact ⟨fun _ => ⟨rfl, rfl⟩, fun h1 h2 => absurd c1 (by omega)⟩
   ·refine ⟨fun h => absurd h (by omega), fun h1 h2 => ⟨⟨1, by omega, rfl, fun _ _ => by omega, fun h => by omega, fun h => by omega, by simp; omega⟩, by decide⟩⟩
  ·have hk2 : k = 2 ∨ k = 3 := by
    rcases hk with rfl | h
    ·simp [ways] at hlt
    ·exact h
   have n1 := a1 (by omega) (by omega)
   have wj : IntKind.i64.wrap (((1 : Nat) : Int) + 1) = 2 := by decide
   rw [wj]
   rcases hk2 with rfl | rfl
   ·have he : ends 2 ((1 : Nat) : Int) = (0, 2, true) := rfl
    rw [he]
    by_cases c1 : i = 0 ∧ o = 2 ∨ i = 2 ∧ o = 0
    ·have hwy : way 2 i o = (1, true) := by unfold way; rw [if_neg (fun h => n1 h.2), if_pos ⟨rfl, c1⟩]
     rw [hwy]
     exact ⟨fun _ => ⟨rfl, rfl⟩, fun h1 h2 => absurd c1 (by dsimp only at h1 h2; omega)⟩
    ·refine ⟨fun h => absurd h (by dsimp only; omega), fun h1 h2 => ⟨⟨2, by omega, rfl, fun _ _ => by omega, fun _ _ => by omega, fun _ h => by omega, by decide⟩, by decide⟩⟩
   ·have he : ends 3 ((1 : Nat) : Int) = (2, 3, true) := rfl
    rw [he]
    by_cases c1 : i = 2 ∧ o = 3 ∨ i = 3 ∧ o = 2
    ·have hwy : way 3 i o = (1, true) := by unfold way; rw [if_neg (fun h => n1 h.2), if_neg (fun h => by omega), if_pos ⟨rfl, c1⟩]
     rw [hwy]
     exact ⟨fun _ => ⟨rfl, rfl⟩, fun h1 h2 => absurd c1 (by dsimp only at h1 h2; omega)⟩
    ·refine ⟨fun h => absurd h (by dsimp only; omega), fun h1 h2 => ⟨⟨2, by omega, rfl, fun _ _ => by omega, fun _ h => by omega, fun _ _ => by omega, by decide⟩, by decide⟩⟩
 ·have hwy : way k i o = (0, false) := by
   have hjw : (j : Int) = ways k := by omega
   unfold way
   rw [if_neg, if_neg, if_neg]
   ·rintro ⟨rfl, h⟩
    have : (j : Int) = 2 := hjw
    exact a3 (by omega) rfl h
   ·rintro ⟨rfl, h⟩
    have : (j : Int) = 2 := hjw
    exact a2 (by omega) rfl h
   ·rintro ⟨hk, h⟩
    have h1 : 1 ≤ ways k := by rcases hk with rfl | rfl | rfl <;> decide
    exact a1 (by omega) h1 h
  rw [hwy]
  exact ⟨rfl, rfl⟩
theorem zdE (l : Lay) (s : Step) : C f_lockbarref06_Step [l.av, s.av] (ib (zcN l s)) := by
 refine ctr (l.cells ++ s.cells) run_lockbarref06_Step rfl (by simp [zaf]) rfl ?_ rfl
 unfold rt_lockbarref06_Step
 simp [Lay.cells, Step.cells]
 by_cases hc : 0 ≤ s.s ∧ s.s < l.secs.length
 ·obtain ⟨n, hn, hlt, he⟩ := zch hc.1 hc.2
  have hls : zcN l s = way l.secs[n].kind s.i s.o := by simp [zcN, he]
  rw [hls]
  simp [hn, hlt, Sec.cells]
  refine ⟨fun h => by omega, ?_⟩
  refine call (zle l.secs[n].kind s.i s.o) (by simp [hlt, Sec.cells]) (by simp) ?_
  simp
 ·simp [zcN, zdf hc]
  exact fun a b => absurd ⟨a, b⟩ hc
theorem zo8 (k i o : Int) : C f_lockbarref05_Pos [U k, I i, I o] (ib (if (way k i o).2 = true ∧ k ≠ 2 then (-1, true) else way k i o)) := by
 refine ctr [U k, I i, I o] run_lockbarref05_Pos rfl rfl rfl ?_ rfl
 unfold rt_lockbarref05_Pos
 refine call (zle k i o) (by simp) (by simp) ?_
 generalize way k i o = w
 obtain ⟨a, b⟩ := w
 cases b <;> by_cases h : k = 2 <;> simp [h]
theorem zmm (l : Lay) (s : Step) : C f_lockbarref10_there [l.av, s.av] (.bool (zcN l s).2) := by
 refine ctr (l.cells ++ s.cells) run_lockbarref10_there rfl (by simp [zaf]) rfl ?_ rfl
 unfold rt_lockbarref10_there
 simp [Lay.cells, Step.cells]
 refine call (zdE l s) (by simp [Lay.cells, Step.cells]) (by simp) ?_
 simp
theorem zgb (l : Lay) (ho : l.ovOk) (x : Int) : C f_lockbarref10_Over [l.av, I x] (steps (over l x)) := by
 refine ctr (l.cells ++ [I x]) run_lockbarref10_Over rfl (by simp [zaf, AV.pureAll, AV.pure]) (by simp [AV.pure]) ?_ rfl
 unfold rt_lockbarref10_Over
 simp [Lay.cells]
 by_cases hc : 0 ≤ x ∧ x < l.exits.length
 ·obtain ⟨n, hn, hlt, he⟩ := zlL hc.1 hc.2
  have hk := ho _ (List.getElem_mem hlt)
  subst hn
  simp [hlt, Exi.cells, over, he]
  refine ⟨fun h => by omega, fun x _ => by simp [Step.cells], by omega⟩
 ·simp [over, zgn hc]
  exact fun a b => absurd ⟨a, b⟩ hc
theorem zmt (l : Lay) (s : Step) : C f_lockbarref10_Point [l.av, s.av] (iib (point l s)) := by
 refine ctr (l.cells ++ s.cells) run_lockbarref10_Point rfl (by simp [zaf]) rfl ?_ rfl
 unfold rt_lockbarref10_Point
 simp [Lay.cells, Step.cells]
 refine call (zmm l s) (by simp [Lay.cells, Step.cells]) (by simp) ?_
 by_cases hc : 0 ≤ s.s ∧ s.s < l.secs.length
 ·obtain ⟨n, hn, hlt, he⟩ := zch hc.1 hc.2
  have hls : zcN l s = way l.secs[n].kind s.i s.o := by simp [zcN, he]
  have hpt : point l s = if (way l.secs[n].kind s.i s.o).2 = true ∧ l.secs[n].kind = 2 then (s.s, (way 2 s.i s.o).1, true) else (0, 0, false) := by simp [point, he]
  rw [hls, hpt]
  clear hls hpt
  cases hw : (way l.secs[n].kind s.i s.o).2
  ·simp [hn, hlt, Sec.cells, hw]
  ·by_cases hk : l.secs[n].kind = 2
   ·rw [hk] at hw ⊢
    simp [hn, hlt, Sec.cells, hw, hk]
    refine call (zo8 2 s.i s.o) (by simp) (by simp) ?_
    simp
   ·simp [hn, hlt, Sec.cells, hw, hk]
 ·simp [point, zcN, zdf hc]
end Go.Lb.LK
namespace Go.Lb.LK
open Go Go.Lb Go.Proofs Go.RowKit
def zoL (k : Int) (f : Flank) : Need := ⟨f.point, f.pos, k⟩
theorem zqB (l : Lay) (s : Step) (k : Int) : zfn l s k = (if (point l s).2.2 = true then [⟨(point l s).1, (point l s).2.1, k⟩] else []) ++ (l.flanks.filter (za4 l s)).map (zoL k) := rfl
theorem zhx (l : Lay) (hf : l.flanks.length ≤ 2147483648) (s : Step) (k : Int) : C f_lockbarref10_Wants [l.av, s.av, I k] (needs (zfn l s k)) := by
 refine ctr (l.cells ++ s.cells ++ [I k]) run_lockbarref10_Wants rfl (by simp [zaf, AV.pureAll, AV.pure]) (by simp [AV.pure]) ?_ rfl
 unfold rt_lockbarref10_Wants
 simp [Lay.cells, Step.cells]
 refine call (zmt l s) (by simp [Lay.cells, Step.cells]) (by simp) ?_
 have hlen : ∀ i, ((l.flanks.take i).filter (za4 l s)).length ≤ 2147483648 := fun i => by
  have := List.length_filter_le (za4 l s) (l.flanks.take i)
  have : (l.flanks.take i).length ≤ l.flanks.length := by simp; omega
  omega
 rw [zqB]
 generalize hpt : point l s = pt
 obtain ⟨a, b, c⟩ := pt
 cases c
 ·simp
  refine call (zdE l s) (by simp [Lay.cells, Step.cells]) (by simp) ?_
  simp
  refine zac rfl (fun vs => ∃ i : Nat, i ≤ l.flanks.length ∧ vs = [needs (([] : List Need) ++ ((l.flanks.take i).filter (za4 l s)).map (zoL k)), I i]) (fun vs => match vs with | [_, .int _ j] => l.flanks.length - j.toNat | _ => 0) ⟨0, by omega, by simp [Need.cells]⟩ ?_
  rintro vs - ⟨i, hi, rfl⟩
  have hli := hlen i
  simp
  by_cases hlt : i < l.flanks.length
  ·have hw := zad (i := i) (by omega)
   have ht := zbN (za4 l s) l.flanks hlt
   cases hst : (zcN l s).2
   ·have hnone : l.flanks.filter (za4 l s) = [] := by
     rw [List.filter_eq_nil_iff]; intro f _; simp [za4, hst]
    have hnone2 : (l.flanks.take i).filter (za4 l s) = [] := by
     rw [List.filter_eq_nil_iff]; intro f _; simp [za4, hst]
    simp [hlt, hst, hnone, hnone2, Need.cells]
   ·simp [hlt, hst, Flank.cells, hw]
    cases hon : za4 l s l.flanks[i]
    ·have h3 : l.flanks[i].s = s.s → ¬ l.flanks[i].way = (zcN l s).1 := by
      intro h2 h3
      simp [za4, hst, h2, h3] at hon
     left
     refine ⟨h3, ⟨i + 1, by omega, ?_, by omega⟩, by omega⟩
     rw [ht, hon]; simp
    ·have h3 : l.flanks[i].s = s.s ∧ l.flanks[i].way = (zcN l s).1 := by
      simp only [za4, Bool.and_eq_true, decide_eq_true_eq] at hon
      exact ⟨hon.1.2, hon.2⟩
     right
     refine ⟨h3, by omega, ⟨i + 1, by omega, ?_, by omega⟩, by omega⟩
     rw [ht, hon]; simp [zoL, Need.cells]
  ·have hta : l.flanks.take i = l.flanks := List.take_of_length_le (by omega)
   simp [hlt, hta, Need.cells]
 ·simp
  refine call (zdE l s) (by simp [Lay.cells, Step.cells]) (by simp) ?_
  simp
  refine zac rfl (fun vs => ∃ i : Nat, i ≤ l.flanks.length ∧ vs = [needs ([(⟨a, b, k⟩ : Need)] ++ ((l.flanks.take i).filter (za4 l s)).map (zoL k)), I i]) (fun vs => match vs with | [_, .int _ j] => l.flanks.length - j.toNat | _ => 0) ⟨0, by omega, by simp [Need.cells]⟩ ?_
  rintro vs - ⟨i, hi, rfl⟩
  have hli := hlen i
  simp
  by_cases hlt : i < l.flanks.length
  ·have hw := zad (i := i) (by omega)
   have ht := zbN (za4 l s) l.flanks hlt
   cases hst : (zcN l s).2
   ·have hnone : l.flanks.filter (za4 l s) = [] := by
     rw [List.filter_eq_nil_iff]; intro f _; simp [za4, hst]
    have hnone2 : (l.flanks.take i).filter (za4 l s) = [] := by
     rw [List.filter_eq_nil_iff]; intro f _; simp [za4, hst]
    simp [hlt, hst, hnone, hnone2, Need.cells]
   ·simp [hlt, hst, Flank.cells, hw]
    cases hon : za4 l s l.flanks[i]
    ·have h3 : l.flanks[i].s = s.s → ¬ l.flanks[i].way = (zcN l s).1 := by
      intro h2 h3
      simp [za4, hst, h2, h3] at hon
     left
     refine ⟨h3, ⟨i + 1, by omega, ?_, by omega⟩, by omega⟩
     rw [ht, hon]; simp
    ·have h3 : l.flanks[i].s = s.s ∧ l.flanks[i].way = (zcN l s).1 := by
      simp only [za4, Bool.and_eq_true, decide_eq_true_eq] at hon
      exact ⟨hon.1.2, hon.2⟩
     right
     refine ⟨h3, by omega, ⟨i + 1, by omega, ?_, by omega⟩, by omega⟩
     rw [ht, hon]; simp [zoL, Need.cells]
  ·have hta : l.flanks.take i = l.flanks := List.take_of_length_le (by omega)
   simp [hlt, hta, Need.cells]
end Go.Lb.LK
namespace Go.Lb.LK
open Go Go.Lb Go.Proofs Go.RowKit
theorem zj9 (l : Lay) (ho : l.ovOk) (hf : l.flanks.length ≤ 1000) (p : Path) (hp : p.steps.length ≤ 1000) (hov : (over l p.exit).length ≤ 1000) : C f_lockbarref13_Of [l.av, p.av] (needs (zaB l p)) := by
 refine ctr (l.cells ++ p.cells) run_lockbarref13_Of rfl (by simp [zaf, AV.pureAll, AV.pure]) (by simp [AV.pure]) ?_ rfl
 unfold rt_lockbarref13_Of
 simp [Lay.cells, Path.cells]
 have hw1 : ∀ s k, (zfn l s k).length ≤ 1001 := fun s k => by have := zlM l s k; omega
 have hnl : (zaV l p).length = p.steps.length + (over l p.exit).length := by simp [zaV]
 have hN : ∀ m : Nat, (((zaV l p).take m).flatMap fun x => zfn l x.2 x.1).length ≤ 2002000 := fun m => by
  have h1 := zkg (fun x : Int × Step => zfn l x.2 x.1) 1001 (fun x => hw1 x.2 x.1) ((zaV l p).take m)
  have h2 : ((zaV l p).take m).length ≤ 2000 := by rw [List.length_take]; omega
  omega
 have hA : ∀ (i : Nat) (h : i < p.steps.length), (zaV l p)[i]'(by rw [hnl]; omega) = ((i : Int), p.steps[i]) := fun i h => by
  simp [zaV, List.getElem_append_left, h]
 have hB : ∀ (i : Nat) (h : i < (over l p.exit).length), (zaV l p)[p.steps.length + i]'(by rw [hnl]; omega) = ((p.steps.length : Int), (over l p.exit)[i]) := fun i h => by
  simp [zaV, List.getElem_append_right]
 refine zac rfl (fun vs => ∃ i : Nat, i ≤ p.steps.length ∧ vs = [needs (((zaV l p).take i).flatMap fun x => zfn l x.2 x.1), I i]) (fun vs => match vs with | [_, .int _ j] => p.steps.length - j.toNat | _ => 0) ⟨0, by simp, by simp⟩ ?_
 rintro vs - ⟨i, hi, rfl⟩
 have hNi := hN i
 simp
 refine ⟨fun hlt => ?_, fun hge => ?_⟩
 ·have hw := zad (i := i) (by omega)
  simp [hlt, Step.cells]
  have hx := zds (fun x : Int × Step => zfn l x.2 x.1) (zaV l p) (i := i) (by rw [hnl]; omega)
  rw [hA i hlt] at hx
  have hy := hw1 p.steps[i] i
  refine call (zhx l (by omega) p.steps[i] i) (by simp [hlt, Step.cells, Lay.cells]) (by simp) ?_
  simp [-List.length_flatMap]
  refine ⟨fun x _ => by simp [Need.cells], by omega, ⟨i + 1, by omega, ?_, hw⟩, by rw [hw]; omega⟩
  rw [hx]; simp
 ·have hi' : i = p.steps.length := by omega
  subst hi'
  refine call (zgb l ho p.exit) (by simp [Lay.cells]) (by simp) ?_
  simp
  refine zac rfl (fun vs => ∃ i : Nat, i ≤ (over l p.exit).length ∧ vs = [needs (((zaV l p).take (p.steps.length + i)).flatMap fun x => zfn l x.2 x.1), I i]) (fun vs => match vs with | [_, .int _ j] => (over l p.exit).length - j.toNat | _ => 0) ⟨0, by simp, by simp⟩ ?_
  rintro vs - ⟨i, hi, rfl⟩
  have hNi := hN (p.steps.length + i)
  simp
  refine ⟨fun hlt => ?_, fun hge => ?_⟩
  ·have hw := zad (i := i) (by omega)
   simp [hlt, Step.cells]
   have hx := zds (fun x : Int × Step => zfn l x.2 x.1) (zaV l p) (i := p.steps.length + i) (by rw [hnl]; omega)
   rw [hB i hlt] at hx
   have hy := hw1 (over l p.exit)[i] p.steps.length
   refine call (zhx l (by omega) (over l p.exit)[i] p.steps.length) (by simp [hlt, Step.cells, Lay.cells]) (by simp) ?_
   simp [-List.length_flatMap]
   refine ⟨fun x _ => by simp [Need.cells], by omega, ⟨i + 1, by omega, ?_, hw⟩, by rw [hw]; omega⟩
   rw [show p.steps.length + (i + 1) = p.steps.length + i + 1 from rfl, hx]; simp
  ·have : (zaV l p).take (p.steps.length + i) = zaV l p := List.take_of_length_le (by rw [hnl]; omega)
   simp [this, zaB]
end Go.Lb.LK
namespace Go.Lb.LK
open Go Go.Lb Go.Proofs Go.RowKit
set_option maxHeartbeats 2000000 in
theorem zqC (l : Lay) (im : Img) (hi : im.ok) (k : Kern) (p : Path) (hc : CanOk l k p) : C f_lockbarref18_Can [l.av, im.av, k.av, p.av] (I (canN l im k p)) := by
 have hk1 := hc.kl.1
 have hp1 := hc.pl
 have ho1 := hc.ol
 have hn1 := zgx hc
 refine ctr (l.cells ++ im.cells ++ k.cells ++ p.cells) run_lockbarref18_Can rfl (likp l im k p) rfl ?_ rfl
 unfold rt_lockbarref18_Can
 simp [Lay.cells, Img.cells, Kern.cells, Path.cells]
 refine zac rfl (fun vs => ∃ i : Nat, i ≤ k.held.length ∧ vs = [I i] ∧ zar (zd2 p) (k.held.take i)) (fun vs => match vs with | [.int _ j] => k.held.length - j.toNat | _ => 0) ⟨0, by omega, by simp, rfl⟩ ?_
 rintro vs - ⟨i, hii, rfl, hq1⟩
 simp
 refine ⟨fun hlt => ?_, fun hge => ?_⟩
 ·have hw := zad (i := i) (by omega)
  cases hs : zd2 p k.held[i]
  ·have hs2 : k.held[i].path.sig = p.sig → k.held[i].stage = 3 := by
    intro h; simpa [zd2, h] using hs
   simp [hlt, Hd.cells, hw]
   left
   exact ⟨hs2, ⟨i + 1, by omega, by omega, zao hlt hq1 hs⟩, by omega⟩
  ·have hs2 : k.held[i].path.sig = p.sig ∧ ¬ k.held[i].stage = 3 := by simpa [zd2] using hs
   simp [hlt, Hd.cells, hw, hs2.1, hs2.2, zrM (l := l) (im := im) (zcc hlt hs)]
 ·have ht : k.held.take i = k.held := List.take_of_length_le (by omega)
  rw [ht] at hq1
  have hst : ∀ x : Step, x.cells.length = 3 ∧ AV.ones x.cells = true := fun x => by simp [Step.cells]
  refine ⟨fun x _ => hst x, by omega, ?_⟩
  refine call (zgb l hc.ov p.exit) (by simp [Lay.cells]) (by simp) ?_
  simp
  refine ⟨fun x _ => hst x, by omega, ?_⟩
  generalize hall : p.steps ++ over l p.exit = all
  have hmap : List.map Step.av p.steps ++ List.map Step.av (over l p.exit) = all.map Step.av := by rw [← hall, List.map_append]
  have hlen : all.length = p.steps.length + (over l p.exit).length := by rw [← hall]; simp
  refine zac rfl (fun vs => ∃ i : Nat, i ≤ all.length ∧ vs = [I i] ∧ zar (fun s : Step => !zcF l im k s.s) (all.take i)) (fun vs => match vs with | [.int _ j] => all.length - j.toNat | _ => 0) ⟨0, by omega, by simp, rfl⟩ ?_
  rintro vs - ⟨j, hj, rfl, hq2⟩
  simp [hmap, ← hlen]
  refine ⟨fun hlt2 => ?_, fun hge2 => ?_⟩
  ·have hw := zad (i := j) (by omega)
   simp [hmap, hlt2, Step.cells]
   repeat refine And.intro (by omega) ?_
   refine call (zhM l im hi k hc.kl all[j].s) (by simp [Lay.cells, Img.cells, Kern.cells, hmap, hlt2, Step.cells]) (by simp) ?_
   cases hf : zcF l im k all[j].s
   ·have : canN l im k p = 190 := zqq (s := all[j]) (by rw [hall]; exact List.getElem_mem hlt2) hf
    simp [this]
   ·simp [hw]
    exact ⟨⟨j + 1, by omega, by omega, zao hlt2 hq2 (by simp [hf])⟩, by omega⟩
  ·have ht2 : all.take j = all := List.take_of_length_le (by omega)
   rw [ht2] at hq2
   have hq23 : zar (fun s : Step => !zcF l im k s.s) p.steps ∧ zar (fun s : Step => !zcF l im k s.s) (over l p.exit) := by
    unfold zar at hq2 ⊢
    rw [← hall, List.any_append, Bool.or_eq_false_iff] at hq2
    exact hq2
   refine call (zj9 l hc.ov hc.fl p hc.pl hc.ol) (by simp [Lay.cells, Path.cells]) (by simp) ?_
   simp
   refine zac rfl (fun vs => ∃ i : Nat, i ≤ (zaB l p).length ∧ vs = [I i] ∧ zar (fun n => !zcT l im k n) ((zaB l p).take i)) (fun vs => match vs with | [.int _ j] => (zaB l p).length - j.toNat | _ => 0) ⟨0, by omega, by simp, rfl⟩ ?_
   rintro vs - ⟨q, hqq, rfl, hq4⟩
   simp
   refine ⟨fun hlt4 => ?_, fun hge4 => ?_⟩
   ·have hw := zad (i := q) (by omega)
    simp [hlt4, Need.cells]
    refine call (zoh l im hi k hc.kl (zaB l p)[q]) (by simp [Lay.cells, Img.cells, Kern.cells, hlt4, Need.cells]) (by simp) ?_
    cases hf : zcT l im k (zaB l p)[q]
    ·simp [znx (List.getElem_mem hlt4) hf]
    ·simp [hw]
     exact ⟨⟨q + 1, by omega, by omega, zao hlt4 hq4 (by simp [hf])⟩, by omega⟩
   ·have ht4 : (zaB l p).take q = zaB l p := List.take_of_length_le (by omega)
    rw [ht4] at hq4
    rw [zqH hq1 hq23.1 hq23.2 hq4]
    by_cases h6 : 6 ≤ k.held.length
    ·have h6' : (6 : Int) ≤ k.held.length := by omega
     simp [h6, h6']
    ·have h6' : ¬ (6 : Int) ≤ k.held.length := by omega
     simp [h6, h6']
end Go.Lb.LK
namespace Go.Lb.LK
open Go Go.Lb Go.Proofs Go.RowKit
def znW : Kern := ⟨1, [], fun _ => -1, fun _ => 0, fun _ => false⟩
def znZ : Port := ⟨-1, 0⟩
def zk1 : Lay := ⟨[⟨1, znZ, ⟨1, 0⟩, znZ, znZ, 0, 0⟩, ⟨1, ⟨0, 1⟩, znZ, znZ, znZ, 0, 0⟩], [⟨0, 0⟩], [⟨⟨0, 1⟩, [⟨1, 0, 1⟩]⟩], [], 1, 1, 9, 1, 1, 1, 1⟩
def im18 : Img := zmd zk1 zk7 0 0 0 0
end Go.Lb.LK
namespace Go.Lb.LK
open Go Go.Lb Go.Proofs Go.RowKit
end Go.Lb.LK
namespace Go.Lb.LK
open Go Go.Lb Go.Proofs Go.RowKit
def zhi (a b : Kern) : Bool := AV.eqs (zau a.want a.run a.fail) (zau b.want b.run b.fail)
def zfs (a b : List Hd) : Bool := (List.zipWith zgv a b).all id
def zmA (a b : Kern) : Bool := decide (a.held.length = b.held.length) && (zfs a.held b.held && (decide (a.next = b.next) && zhi a b))
theorem zjG (a : Kern) : zhi a a = true := by
 unfold zhi zau
 simp [AV.eqs, AV.eq1]
theorem zlA : ∀ l : List Hd, zfs l l = true
 | [] => rfl
 | x :: l => by simp [zfs, zoo]
theorem zod (a : Kern) : zmA a a = true := by simp [zmA, zjG, zlA]
theorem kk (a b : Kern) : AV.pureAll (a.cells ++ b.cells) = true := by simp [zaf]
theorem zs3 {a b : List Hd} {i : Nat} (h1 : i < a.length) (h2 : i < b.length) : (List.zipWith zgv a b)[i]'(by simp; omega) = zgv a[i] b[i] := by simp
theorem zlt (a b : Kern) : AV.eqs (zau a.want a.run a.fail) (zau b.want b.run b.fail) = zhi a b := rfl
set_option maxHeartbeats 1000000 in
theorem zpX (a b : Kern) (ha : a.len) : C f_lockbarref18_Same [a.av, b.av] (.bool (zmA a b)) := by
 have h1 := ha.1
 have hm := zlt a b
 simp only [zau] at hm
 refine ctr (a.cells ++ b.cells) run_lockbarref18_Same rfl (kk a b) rfl ?_ rfl
 unfold rt_lockbarref18_Same
 simp [Kern.cells, -AV.eqs]
 by_cases hl : a.held.length = b.held.length
 ·simp [hl, -AV.eqs]
  refine zac rfl (fun vs => ∃ i : Nat, i ≤ a.held.length ∧ vs = [I i] ∧ zar (fun x => !x) ((List.zipWith zgv a.held b.held).take i)) (fun vs => match vs with | [.int _ j] => a.held.length - j.toNat | _ => 0) ⟨0, by simp, by simp, rfl⟩ ?_
  rintro vs - ⟨i, hi, rfl, hq⟩
  simp [-AV.eqs]
  refine ⟨fun hlt => ?_, fun hge => ?_⟩
  ·have hlt2 : i < b.held.length := by omega
   have hw := zad (i := i) (by omega)
   have hz := zs3 hlt hlt2
   simp [hlt, hlt2, Hd.cells, -AV.eqs]
   refine call (zpn a.held[i] b.held[i] (a.at ha hlt)) (by simp [hlt, hlt2, Hd.cells]) (by simp) ?_
   cases hs : zgv a.held[i] b.held[i]
   ·have : zfs a.held b.held = false := by
     unfold zfs
     rw [List.all_eq_false]
     exact ⟨(List.zipWith zgv a.held b.held)[i]'(by simp; omega), List.getElem_mem _, by rw [hz, hs]; simp⟩
    simp [zmA, this, -AV.eqs]
   ·simp [hw, -AV.eqs]
    exact ⟨⟨i + 1, by omega, by omega, zao (i := i) (l := List.zipWith zgv a.held b.held) (by simp; omega) hq (by rw [hz, hs]; rfl)⟩, by omega⟩
  ·have ht : (List.zipWith zgv a.held b.held).take i = List.zipWith zgv a.held b.held := List.take_of_length_le (by simp; omega)
   rw [ht] at hq
   have hall : zfs a.held b.held = true := by
    unfold zfs
    unfold zar at hq
    rw [List.all_eq_true]
    intro x hx
    have := List.any_eq_false.1 hq x hx
    simpa using this
   simp [hm, zmA, hl, hall, -AV.eqs]
 ·have hl2 : ¬ (a.held.length : Int) = b.held.length := by omega
  simp [hl, zmA, -AV.eqs]
  exact fun h => absurd h hl2
end Go.Lb.LK
namespace Go.Lb.LK
open Go Go.Lb Go.Proofs Go.RowKit
def p18 : Path := ⟨0, 0, [⟨0, 0, 1⟩]⟩
def q18 : Path := ⟨5, 0, [⟨1, 0, 0⟩]⟩
def hd18 (st : Int) : Hd := ⟨3, p18, [⟨1, 0, 1⟩], [⟨7, 1, 0⟩], st, 0, fun _ => false, false, 0, false⟩
def k18 (st : Int) : Kern := ⟨4, [hd18 st], fun _ => -1, fun _ => 0, fun _ => false⟩
def zmo : Kern := ⟨0, [], fun _ => 0, fun _ => 0, fun _ => false⟩
theorem f1 : canN zk1 im18 znW p18 = 0 := by decide +kernel
theorem f2 : canN zk1 zk7 znW p18 = 190 := by decide +kernel
theorem f3 : zcF zk1 im18 znW 1 = true ∧ zcF zk1 zk7 znW 1 = false := by decide +kernel
theorem f4 : zbV (k18 1) 1 = some 3 ∧ zbV (k18 1) 2 = none := by decide +kernel
theorem f5 : zbB (k18 1) 7 = some 1 := by decide +kernel
theorem f6 : zaA (k18 1) 7 = false ∧ zaA (k18 2) 7 = true := by decide +kernel
theorem f7 : canN zk1 im18 (k18 2) q18 = 190 := by decide +kernel
theorem f8 : zcT zk1 im18 (k18 2) ⟨7, 0, 0⟩ = false ∧ zcT zk1 im18 (k18 2) ⟨-1, 0, 0⟩ = false := by decide +kernel
theorem f9 : zas (k18 2) = true ∧ zas znW = true ∧ zas zmo = false := by decide +kernel
theorem f10 : zmA (k18 2) znW = false := by decide +kernel
end Go.Lb.LK
namespace Go.Lb.LK
open Go Go.Lb Go.Proofs Go.RowKit
end Go.Lb.LK
namespace Go.Lb.LK
open Go Go.Lb Go.Proofs Go.RowKit
end Go.Lb.LK
namespace Go.Lb.LK
open Go Go.Lb Go.Proofs Go.RowKit
theorem zdG {k : Kern} (h : zas k = true) {i : Nat} (hi : i < k.held.length) : zay k.held[i] = true ∧ k.held[i].id < k.next ∧ zda k i < k.held[i].id ∧ ∀ j, j < i → ∀ hj : j < k.held.length, zbm k.held[i] k.held[j] = true := by
 simp only [zas, Bool.and_eq_true] at h
 have h1 := List.all_eq_true.1 h.2.1 i (List.mem_range.2 hi)
 rw [zkm hi] at h1
 simp only [Bool.and_eq_true, decide_eq_true_eq] at h1
 refine ⟨h1.1, h1.2.1, h1.2.2.1, fun j hj hj2 => ?_⟩
 exact List.all_eq_true.1 h1.2.2.2 _ (List.mem_take_iff_getElem.2 ⟨j, by omega, rfl⟩)
end Go.Lb.LK
namespace Go.Lb.LK
open Go Go.Lb Go.Proofs Go.RowKit
structure GoodL (nx : Int) (hs : List Hd) : Prop where
 right : ∀ h ∈ hs, zay h = true
 lt : ∀ h ∈ hs, h.id < nx
 pw : hs.Pairwise fun a b => a.id < b.id ∧ zbm b a = true
theorem zri {k : Kern} (hr : zas k = true) : ∀ j, ∀ hj : j < k.held.length, ∀ i, ∀ hi : i < j, k.held[i].id < k.held[j].id := by
 intro j
 induction j with
 | zero => intro _ i hi; omega
 | succ j ih =>
  intro hj i hi
  have h1 := (zdG hr hj).2.2.1
  rw [zfq (by omega)] at h1
  by_cases hij : i = j
  ·subst hij; exact h1
  ·have := ih (by omega) i (by omega)
   omega
theorem zga {k : Kern} (hr : zas k = true) : GoodL k.next k.held := by
 refine ⟨fun h hh => ?_, fun h hh => ?_, ?_⟩
 ·obtain ⟨i, hi, rfl⟩ := List.mem_iff_getElem.1 hh
  exact (zdG hr hi).1
 ·obtain ⟨i, hi, rfl⟩ := List.mem_iff_getElem.1 hh
  exact (zdG hr hi).2.1
 ·rw [List.pairwise_iff_getElem]
  exact fun i j hi hj hij => ⟨zri hr j hj i hij, (zdG hr hj).2.2.2 i hij hi⟩
theorem znv {k : Kern} (h1 : k.held.length ≤ 6) (h2 : 1 ≤ k.next) (h3 : k.next ≤ 1073741824) (hg : GoodL k.next k.held) (hm : zbU k = true) : zas k = true := by
 have hp := List.pairwise_iff_getElem.1 hg.pw
 have : (List.range k.held.length).all (okAt k) = true := by
  refine za6 fun i hi => ?_
  rw [zkm hi]
  have hr := hg.right _ (List.getElem_mem hi)
  have hl := hg.lt _ (List.getElem_mem hi)
  have hid : zda k i < k.held[i].id := by
   by_cases h0 : i = 0
   ·subst h0
    have := (zaM hr).1
    unfold Hd.g1 at this
    simp only [zda, if_true]
    omega
   ·obtain ⟨j, rfl⟩ : ∃ j, i = j + 1 := ⟨i - 1, by omega⟩
    rw [zfq (by omega)]
    exact (hp j (j + 1) (by omega) hi (by omega)).1
  have hap : (k.held.take i).all (zbm k.held[i]) = true := by
   rw [List.all_eq_true]
   intro x hx
   obtain ⟨j, hj, rfl⟩ := List.mem_take_iff_getElem.1 hx
   exact (hp j i (by omega) hi (by omega)).2
  simp [hr, hl, hid, hap]
 simp [zas, h1, h2, h3, this, hm]
theorem zmp {k : Kern} (hr : zas k = true) : k.held.length ≤ 6 ∧ 1 ≤ k.next ∧ k.next ≤ 1073741824 ∧ zbU k = true := by
 simp only [zas, Bool.and_eq_true, decide_eq_true_eq] at hr
 exact ⟨hr.1.1, hr.1.2.1, hr.1.2.2, hr.2.2⟩
theorem GoodL.sub {nx : Int} {a b : List Hd} (h : GoodL nx b) (hs : a.Sublist b) : GoodL nx a :=
 ⟨fun x hx => h.right x (hs.subset hx), fun x hx => h.lt x (hs.subset hx), h.pw.sublist hs⟩
structure Less (a b : Hd) : Prop where
 id : a.id = b.id
 secs : ∀ s ∈ zaG a, s ∈ zaG b
 needs : ∀ n ∈ zai a, n ∈ zai b
theorem Less.refl (a : Hd) : Less a a := ⟨rfl, fun _ h => h, fun _ h => h⟩
theorem Less.apart {a b c d : Hd} (h1 : Less a b) (h2 : Less c d) (h : zbm b d = true) : zbm a c = true := by
 unfold zbm at h ⊢
 rw [Bool.and_eq_true, Bool.not_eq_true', Bool.not_eq_true'] at h ⊢
 constructor
 ·refine List.any_eq_false.2 fun s hs => ?_
  have := List.any_eq_false.1 h.1 s (h1.secs s hs)
  simp only [decide_eq_true_eq] at this ⊢
  exact fun hc => this (h2.secs s hc)
 ·refine List.any_eq_false.2 fun x hx => ?_
  have h3 := List.any_eq_false.1 h.2 x (h1.needs x hx)
  rw [Bool.not_eq_true] at h3 ⊢
  refine List.any_eq_false.2 fun y hy => ?_
  exact List.any_eq_false.1 h3 y (h2.needs y hy)
theorem GoodL.put {nx : Int} {hs : List Hd} {m : Nat} (hm : m < hs.length) {h : Hd} (hg : GoodL nx hs) (hl : Less h hs[m]) (hr : zay h = true) : GoodL nx (hs.set m h) := by
 refine ⟨fun x hx => ?_, fun x hx => ?_, ?_⟩
 ·rcases List.mem_or_eq_of_mem_set hx with hx | rfl
  ·exact hg.right x hx
  ·exact hr
 ·rcases List.mem_or_eq_of_mem_set hx with hx | rfl
  ·exact hg.lt x hx
  ·rw [hl.id]; exact hg.lt _ (List.getElem_mem hm)
 ·rw [List.pairwise_iff_getElem]
  intro i j hi hj hij
  have hp := List.pairwise_iff_getElem.1 hg.pw i j (by simpa using hi) (by simpa using hj) hij
  simp only [List.getElem_set]
  by_cases h1 : m = i
  ·subst h1
   rw [if_pos rfl, if_neg (by omega)]
   exact ⟨by rw [hl.id]; exact hp.1, (Less.refl _).apart hl hp.2⟩
  ·by_cases h2 : m = j
   ·subst h2
    rw [if_neg h1, if_pos rfl]
    exact ⟨by rw [hl.id]; exact hp.1, hl.apart (Less.refl _) hp.2⟩
   ·rw [if_neg h1, if_neg h2]; exact hp
theorem zln (h : Hd) (t : Int) (st : Int) : Less { h with stage := st, timer := t } h := ⟨rfl, fun _ h => h, fun _ h => h⟩
theorem zeV {h : Hd} (hr : zay h = true) {st t : Int} (h1 : 1 ≤ st ∧ st < 5) (h2 : 0 ≤ t ∧ t ≤ 1073741824) : zay { h with stage := st, timer := t } = true := by
 unfold zay at hr ⊢
 simp only [Bool.and_eq_true, decide_eq_true_eq] at hr ⊢
 obtain ⟨a, b, c⟩ := hr
 refine ⟨?_, ?_, c⟩
 ·unfold Hd.g1 at a ⊢
  exact ⟨a.1, a.2.1, h2.1, h2.2, a.2.2.2.2⟩
 ·unfold Hd.g2 at b ⊢
  exact ⟨h1.1, h1.2, b.2.2⟩
end Go.Lb.LK
namespace Go.Lb.LK
open Go Go.Lb Go.Proofs Go.RowKit
def zbf (k : Int) : Int := if k = 1 then 2 else if k = 2 then 3 else if k = 3 then 4 else 0
theorem zkU (k : Int) : 0 ≤ zbf k ∧ zbf k ≤ 4 := by unfold zbf; split <;> (try split) <;> (try split) <;> omega
theorem zct (k : Int) : C f_lockbarref05_Ports [U k] (I (zbf k)) := by
 refine ctr [U k] run_lockbarref05_Ports rfl rfl rfl ?_ rfl
 unfold rt_lockbarref05_Ports
 by_cases h1 : k = 1
 ·simp [zbf, h1]
 ·by_cases h2 : k = 2
  ·simp [zbf, h2]
  ·by_cases h3 : k = 3 <;> simp [zbf, h1, h2, h3]
def noP : Port := ⟨-1, 0⟩
def Sec.join (s : Sec) (i : Nat) : Port := if i = 0 then s.j0 else if i = 1 then s.j1 else if i = 2 then s.j2 else s.j3
def Sec.cls (s : Sec) (i : Nat) : Int := if i = 0 then s.c0 else s.c1
theorem zrh (s : Sec) {i : Nat} {z : Int} (hz : z = i) (h : i < 4) : pv (.aidx 4 2 1 2 true) [.agg s.cells, I z] = (s.join i).av := by
 subst hz
 match i, h with
 | 0, _ => rfl
 | 1, _ => rfl
 | 2, _ => rfl
 | 3, _ => rfl
theorem zsB (s : Sec) {i : Nat} {z : Int} (hz : z = i) (h : i < 4) : pv (.aidx 4 2 1 1 false) [.agg s.cells, I z] = I (s.join i).s := by
 subst hz
 match i, h with
 | 0, _ => rfl
 | 1, _ => rfl
 | 2, _ => rfl
 | 3, _ => rfl
theorem aidxC (s : Sec) {i : Nat} {z : Int} (hz : z = i) (h : i < 2) : pv (.aidx 2 1 9 1 false) [.agg s.cells, I z] = I (s.cls i) := by
 subst hz
 match i, h with
 | 0, _ => rfl
 | 1, _ => rfl
theorem zeU (x y : Port) : AV.eqs x.cells y.cells = decide (x = y) := by
 obtain ⟨a, b⟩ := x
 obtain ⟨d, e⟩ := y
 simp [Port.cells, AV.eqs, AV.eq1]
 by_cases h1 : a = d <;> by_cases h2 : b = e <;> simp [h1, h2]
def hasP (l : Lay) (p : Port) : Bool := match zis l p.s with
 | some s => decide (0 ≤ p.p) && decide (p.p < zbf s.kind)
 | none => false
def za5 (l : Lay) (p : Port) : Port := match zis l p.s with
 | some s => if 0 ≤ p.p ∧ p.p < zbf s.kind then s.join p.p.toNat else noP
 | none => noP
theorem zkE (l : Lay) (p : Port) : C f_lockbarref07_Has [l.av, p.av] (.bool (hasP l p)) := by
 refine ctr (l.cells ++ p.cells) run_lockbarref07_Has rfl (by simp [zaf]) rfl ?_ rfl
 unfold rt_lockbarref07_Has
 simp [Lay.cells, Port.cells]
 by_cases hc : 0 ≤ p.s ∧ p.s < l.secs.length
 ·obtain ⟨n, hn, hlt, he⟩ := zch hc.1 hc.2
  have hls : hasP l p = (decide (0 ≤ p.p) && decide (p.p < zbf l.secs[n].kind)) := by simp [hasP, he]
  rw [hls]
  simp [hn, hlt, Sec.cells]
  refine zak (avs := [U l.secs[n].kind]) (I (zbf l.secs[n].kind)) rfl (fun _ => ⟨by simp [hlt, Sec.cells], zct _⟩) (fun _ => rfl) ?_
  by_cases h0 : 0 ≤ p.p <;> simp [h0, hlt]
 ·have hls : hasP l p = false := by simp [hasP, zdf hc]
  rw [hls]
  have hc2 : 0 ≤ p.s → ¬ p.s < l.secs.length := fun h1 h2 => hc ⟨h1, h2⟩
  by_cases h0 : 0 ≤ p.s
  ·have h1 := hc2 h0
   simp [h0, h1]
   refine zak (avs := []) (I 0) rfl (fun hh => ?_) (fun _ => rfl) ?_
   ·simp [h0, h1] at hh
   ·simp [h0, h1]
  ·simp [h0]
   refine zak (avs := []) (I 0) rfl (fun hh => ?_) (fun _ => rfl) ?_
   ·simp [h0] at hh
   ·simp [h0]
theorem zjj : C f_lockbarref07_none [] noP.av := by
 refine ctr [] run_lockbarref07_none rfl rfl rfl ?_ rfl
 unfold rt_lockbarref07_none
 simp [noP, Port.cells]
theorem zqU {l : Lay} {p : Port} : hasP l p = true ↔ ∃ n : Nat, ∃ m : Nat, p.s = n ∧ p.p = m ∧ m < 4 ∧ ∃ h : n < l.secs.length, (m : Int) < zbf l.secs[n].kind := by
 unfold hasP
 constructor
 ·intro h
  by_cases hc : 0 ≤ p.s ∧ p.s < l.secs.length
  ·obtain ⟨n, hn, hlt, he⟩ := zch hc.1 hc.2
   rw [he] at h
   simp only [Bool.and_eq_true, decide_eq_true_eq] at h
   have := zkU l.secs[n].kind
   exact ⟨n, p.p.toNat, hn, by omega, by omega, hlt, by omega⟩
  ·rw [zdf hc] at h; cases h
 ·rintro ⟨n, m, h1, h2, h3, hlt, h4⟩
  obtain ⟨n', hn', hlt', he⟩ := zch (l := l) (s := p.s) (by omega) (by omega)
  have : n' = n := by omega
  subst this
  rw [he]
  simp only [Bool.and_eq_true, decide_eq_true_eq]
  exact ⟨by omega, by omega⟩
theorem zmn {l : Lay} {p : Port} (h : hasP l p = true) : ∃ n : Nat, ∃ m : Nat, p.s = n ∧ p.p = m ∧ m < 4 ∧ ∃ h : n < l.secs.length, za5 l p = l.secs[n].join m := by
 obtain ⟨n, m, h1, h2, h3, hlt, h4⟩ := zqU.1 h
 obtain ⟨n', hn', hlt', he⟩ := zch (l := l) (s := p.s) (by omega) (by omega)
 have : n' = n := by omega
 subst this
 refine ⟨n', m, h1, h2, h3, hlt, ?_⟩
 unfold za5
 rw [he]
 simp only
 rw [if_pos ⟨by omega, by omega⟩, h2]; rfl
theorem zmN {l : Lay} {p : Port} (h : hasP l p = false) : za5 l p = noP := by
 unfold hasP at h
 unfold za5
 split
 ·rename_i s hs
  rw [hs] at h
  simp only [Bool.and_eq_false_iff, decide_eq_false_iff_not] at h
  rw [if_neg (by omega)]
 ·rfl
theorem zet (l : Lay) (p : Port) : C f_lockbarref07_Beyond [l.av, p.av] (za5 l p).av := by
 refine ctr (l.cells ++ p.cells) run_lockbarref07_Beyond rfl (by simp [zaf]) (by simp [AV.pure]) ?_ rfl
 unfold rt_lockbarref07_Beyond
 simp [Lay.cells, Port.cells]
 refine call (zkE l p) (by simp [Lay.cells, Port.cells]) (fun _ => rfl) ?_
 cases hh : hasP l p
 ·simp
  refine call zjj rfl (by simp) ?_
  simp [zmN hh, noP, Port.cells]
 ·obtain ⟨n, m, h1, h2, h3, hlt, h4⟩ := zmn hh
  have hm : m = 0 ∨ m = 1 ∨ m = 2 ∨ m = 3 := by omega
  rcases hm with rfl | rfl | rfl | rfl <;> simp [h1, h2, h4, hlt, Sec.cells, Sec.join, Port.cells]
end Go.Lb.LK
namespace Go.Lb.LK
open Go Go.Lb Go.Proofs Go.RowKit
def zkf (n : Int) : Int := min (min (max n 0) 1073741824 + 1) 1073741824
theorem znJ (n : Int) : C f_tick_on [I 0, I n, I 1] (I (zkf n)) := by
 refine ctr [I 0, I n, I 1] run_tick_on rfl rfl rfl ?_ rfl
 unfold rt_tick_on
 simp
 have e1 : max 0 (min n 1073741824) = min (max n 0) 1073741824 := by omega
 rw [e1]
 have e2 : IntKind.i64.wrap (1073741824 - min (max n 0) 1073741824) = 1073741824 - min (max n 0) 1073741824 := by rw [zaI] <;> omega
 rw [e2, show max (1 : Int) 0 = 1 from rfl]
 by_cases h : min (max n 0) 1073741824 = 1073741824
 ·rw [h]; simp [zkf, h, show min (1 : Int) 0 = 0 from rfl, show min (1073741825 : Int) 1073741824 = 1073741824 from rfl]
 ·have e3 : min 1 (1073741824 - min (max n 0) 1073741824) = 1 := by omega
  rw [e3]
  have e4 : IntKind.i64.wrap (min (max n 0) 1073741824 + 1) = min (max n 0) 1073741824 + 1 := by rw [zaI] <;> omega
  simp [e4, zkf]
  omega
theorem zal (n : Int) : C f_tick_Next [I n] (I (zkf n)) := by
 refine ctr [I n] run_tick_Next rfl rfl rfl ?_ rfl
 unfold rt_tick_Next
 refine call (znJ n) (by simp) (by simp) ?_
 simp
def zqN : Port := ⟨0, 0⟩
def zc9 : Sec := ⟨1, zqN, zqN, zqN, zqN, 0, 0⟩
end Go.Lb.LK
namespace Go.Lb.LK
open Go Go.Lb Go.Proofs Go.RowKit
def Hd.n (h : Hd) : Nat := h.path.steps.length
def zce (l : Lay) (im : Img) (h : Hd) : Bool := (zai h).all fun x => decide (atP l im x.p = x.pos)
def zbz (l : Lay) (im : Img) (h : Hd) : Bool := !zay h || stale l im
def zaK (h : Hd) (k : Nat) : Int := (h.path.steps[k]?.map (·.s)).getD 0
def wr (l : Lay) (im : Img) (h : Hd) : Nat → Bool
 | 0 => h.was 0 || (decide (h.gone ≤ 0 ∧ 0 < h.n) && told l im (zaK h 0))
 | k + 1 => h.was (k + 1) || (decide (h.gone ≤ (k + 1 : Nat) ∧ k + 1 < h.n) && (told l im (zaK h (k + 1)) && wr l im h k))
def wrM (l : Lay) (im : Img) (h : Hd) (m : Nat) : Nat → Bool := fun j => if j < m then wr l im h j else h.was j
def zbk (l : Lay) (im : Img) (h : Hd) (g : Nat) : Bool := decide (g < h.n) && (wr l im h g && ((decide (g + 1 = h.n) || wr l im h (g + 1)) && !zag l im (zaK h g)))
def goF (l : Lay) (im : Img) (h : Hd) : Nat → Nat → Nat
 | 0, g => g
 | f + 1, g => if zbk l im h g = true then goF l im h f (g + 1) else g
def goX (l : Lay) (im : Img) (h : Hd) (g : Nat) : Nat := goF l im h (h.n - g) g
theorem znh {l : Lay} {im : Img} {h : Hd} {g : Nat} (hc : zbk l im h g = true) : g < h.n := by
 simp only [zbk, Bool.and_eq_true, decide_eq_true_eq] at hc; exact hc.1
theorem zhR {l : Lay} {im : Img} {h : Hd} {g : Nat} (hc : zbk l im h g = true) : goX l im h g = goX l im h (g + 1) := by
 have := znh hc
 unfold goX
 obtain ⟨f, hf⟩ : ∃ f, h.n - g = f + 1 := ⟨h.n - g - 1, by omega⟩
 rw [hf, show h.n - (g + 1) = f by omega]
 simp [goF, hc]
theorem zbE {l : Lay} {im : Img} {h : Hd} {g : Nat} (hc : zbk l im h g = false) : goX l im h g = g := by
 unfold goX
 cases h.n - g with
 | zero => rfl
 | succ f => simp [goF, hc]
theorem zrb {l : Lay} {im : Img} {h : Hd} : ∀ {f g : Nat}, g ≤ goF l im h f g
 | 0, g => Nat.le_refl _
 | f + 1, g => by
  simp only [goF]
  split
  ·have := @zrb l im h f (g + 1); omega
  ·exact Nat.le_refl _
theorem zrc {l : Lay} {im : Img} {h : Hd} : ∀ {f g : Nat}, g ≤ h.n → goF l im h f g ≤ h.n
 | 0, g, hg => hg
 | f + 1, g, hg => by
  simp only [goF]
  split
  ·rename_i hc
   exact zrc (znh hc)
  ·exact hg
theorem ztI {l : Lay} {im : Img} {h : Hd} : ∀ {f g k : Nat}, g ≤ k → k < goF l im h f g → zbk l im h k = true
 | 0, g, k, h1, h2 => by simp only [goF] at h2; omega
 | f + 1, g, k, h1, h2 => by
  simp only [goF] at h2
  split at h2
  ·rename_i hc
   by_cases hk : g = k
   ·subst hk; exact hc
   ·exact ztI (show g + 1 ≤ k by omega) h2
  ·omega
def zos (l : Lay) (im : Img) (h : Hd) : Bool := wr l im h (h.n - 1)
def zan (l : Lay) (im : Img) (h : Hd) : Int := if zos l im h = true then zkf h.timer else h.timer
def opnS (l : Lay) (im : Img) (h : Hd) : Bool := h.opn || (decide (goX l im h h.gone.toNat = h.n) || (zos l im h && decide (l.over ≤ zan l im h)))
def runS (l : Lay) (im : Img) (h : Hd) : Hd :=
 if zbz l im h = true then h else { h with was := wr l im h, gone := goX l im h h.gone.toNat, timer := zan l im h, opn := opnS l im h }
def zbW (l : Lay) (im : Img) (h : Hd) : Hd :=
 if zbz l im h = true then h
 else if h.stage = 1 then (if zce l im h = true then { h with stage := 2 } else h)
 else if h.stage = 2 then (if told l im (zaK h 0) = true then runS l im { h with stage := 3, timer := 0 } else h)
 else if h.stage = 3 then runS l im h else h
theorem zsQ {l : Lay} {im : Img} {h : Hd} {k : Nat} (hk : (k : Int) < h.gone) : wr l im h k = h.was k := by
 cases k with
 | zero => simp only [wr]; rw [decide_eq_false (by omega)]; simp
 | succ k => simp only [wr]; rw [decide_eq_false (by omega)]; simp
theorem zpb {l : Lay} {im : Img} {h : Hd} {k : Nat} (hk : h.n ≤ k) : wr l im h k = h.was k := by
 cases k with
 | zero => simp only [wr]; rw [decide_eq_false (by omega)]; simp
 | succ k => simp only [wr]; rw [decide_eq_false (by omega)]; simp
theorem zm1 {l : Lay} {im : Img} {h : Hd} {m : Nat} (hm : (m : Int) ≤ h.gone) : wrM l im h m = h.was := by
 funext j
 unfold wrM
 split
 ·exact zsQ (by omega)
 ·rfl
theorem zo0 {l : Lay} {im : Img} {h : Hd} {m : Nat} (hm : h.n ≤ m) : wrM l im h m = wr l im h := by
 funext j
 unfold wrM
 split
 ·rfl
 ·exact (zpb (by omega)).symm
theorem zhj {l : Lay} {im : Img} {h : Hd} {m : Nat} (j : Nat) : wrM l im h (m + 1) j = if j = m then wr l im h m else wrM l im h m j := by
 unfold wrM
 by_cases h1 : j = m
 ·subst h1; simp
 ·by_cases h2 : j < m
  ·simp [h1, h2, show j < m + 1 by omega]
  ·simp [h1, h2, show ¬ j < m + 1 by omega]
theorem zsN {l : Lay} {im : Img} {h : Hd} {k : Nat} (h1 : h.gone ≤ k) (h2 : k < h.n) : wr l im h k = (h.was k || (told l im (zaK h k) && (decide (k = 0) || wr l im h (k - 1)))) := by
 cases k with
 | zero => simp only [wr]; rw [decide_eq_true (by omega : h.gone ≤ 0 ∧ 0 < h.n)]; simp
 | succ k => simp only [wr]; rw [decide_eq_true (by omega : h.gone ≤ (k + 1 : Nat) ∧ k + 1 < h.n)]; simp
theorem zpw {l : Lay} {im : Img} {h : Hd} {k : Nat} (hk : wr l im h k = true) (j : Nat) : wrM l im h (k + 1) j = (decide (j = k) || wrM l im h k j) := by
 rw [zhj]
 by_cases h1 : j = k
 ·subst h1; simp [hk]
 ·simp [h1]
theorem zeZ (w : Nat → Bool) {i : Nat} {z : Int} (hz : z = i) (h : i < 12) : pv (.aidx 12 1 0 1 false) [.agg [AV.bool (w 0), AV.bool (w 1), AV.bool (w 2), AV.bool (w 3), AV.bool (w 4), AV.bool (w 5), AV.bool (w 6), AV.bool (w 7), AV.bool (w 8), AV.bool (w 9), AV.bool (w 10), AV.bool (w 11)], I z] = .bool (w i) := by
 subst hz
 match i, h with
 | 0, _ => rfl
 | 1, _ => rfl
 | 2, _ => rfl
 | 3, _ => rfl
 | 4, _ => rfl
 | 5, _ => rfl
 | 6, _ => rfl
 | 7, _ => rfl
 | 8, _ => rfl
 | 9, _ => rfl
 | 10, _ => rfl
 | 11, _ => rfl
 | n + 12, h => exact absurd h (by omega)
end Go.Lb.LK
namespace Go.Lb.LK
open Go Go.Lb Go.Proofs Go.RowKit
theorem zjP (l : Lay) (im : Img) (hi : im.ok) (h : Hd) (hl : h.len) : C f_pass_Stands [l.av, im.av, h.av] (.bool (zce l im h)) := by
 refine ctr (l.cells ++ im.cells ++ h.cells) run_pass_Stands rfl (lih l im h) rfl ?_ rfl
 unfold rt_pass_Stands
 have hn := zbb h
 have hl3 := hl.2.2
 simp [Lay.cells, Img.cells, Hd.cells]
 refine call (zb8 h hl) (by simp [Hd.cells]) (by simp) ?_
 simp
 refine zac rfl (fun vs => ∃ i : Nat, i ≤ (zai h).length ∧ vs = [I i] ∧ zar (fun x => !decide (atP l im x.p = x.pos)) ((zai h).take i)) (fun vs => match vs with | [.int _ j] => (zai h).length - j.toNat | _ => 0) ⟨0, by simp, by simp, rfl⟩ ?_
 rintro vs - ⟨i, hik, rfl, hq⟩
 simp
 refine ⟨fun hlt => ?_, fun hge => ?_⟩
 ·have hw := zad (i := i) (by omega)
  simp [hlt, Need.cells]
  refine call (zc5 l im hi (zai h)[i].p) (by simp [Lay.cells, Img.cells, hlt, Need.cells]) (by simp) ?_
  simp [hlt, Need.cells]
  cases hq2 : decide (atP l im (zai h)[i].p = (zai h)[i].pos)
  ·have hq3 : ¬ atP l im (zai h)[i].p = (zai h)[i].pos := by simpa using hq2
   simp [hq3]
   have : zce l im h = false := by
    unfold zce
    rw [List.all_eq_false]
    exact ⟨_, List.getElem_mem hlt, by simpa using hq3⟩
   simp [this]
  ·have hq3 : atP l im (zai h)[i].p = (zai h)[i].pos := by simpa using hq2
   simp [hq3, hw]
   exact ⟨⟨i + 1, by omega, rfl, zao hlt hq (by simp [hq3])⟩, by omega⟩
 ·have : (zai h).take i = zai h := List.take_of_length_le (by omega)
  rw [this] at hq
  unfold zar at hq
  have : zce l im h = true := by
   unfold zce
   simpa using hq
  simp [this]
theorem zfD (l : Lay) (im : Img) (h : Hd) (hl : h.len) (hs : 0 ≤ h.stage ∧ h.stage ≤ 255) : C f_pass_asleep [l.av, im.av, h.av] (.bool (zbz l im h)) := by
 refine ctr (l.cells ++ im.cells ++ h.cells) run_pass_asleep rfl (lih l im h) rfl ?_ rfl
 unfold rt_pass_asleep
 simp [Lay.cells, Img.cells, Hd.cells]
 refine call (zgX h hl hs) (by simp [Hd.cells]) (by simp) ?_
 simp
 refine zak (avs := [l.av, im.av]) (.bool (stale l im)) rfl (fun _ => ⟨by simp [Lay.cells, Img.cells], zbe l im⟩) (by simp) ?_
 cases hq : zay h <;> simp [zbz, hq]
end Go.Lb.LK
namespace Go.Lb.LK
open Go Go.Lb Go.Proofs Go.RowKit
theorem zbt {h : Hd} {k : Nat} (hk : k < h.path.steps.length) : zaK h k = h.path.steps[k].s := by
 simp [zaK, hk]
theorem zfe {l : Lay} {im : Img} {h : Hd} (ha : zbz l im h = true) : runS l im h = h := by simp [runS, ha]
theorem zdB {l : Lay} {im : Img} {h : Hd} (ha : zbz l im h = false) : runS l im h = { h with was := wr l im h, gone := goX l im h h.gone.toNat, timer := zan l im h, opn := opnS l im h } := by simp [runS, ha]
end Go.Lb.LK
