/- Whether a kernel may be. -/
import Derived.Test.YtkcpgfjlmicnnaaGreatDoorCh3
set_option linter.unusedSimpArgs false
set_option linter.unusedVariables false
namespace Go.Lb.LK
open Go Go.Lb Go.Proofs Go.RowKit
def zcG (k : Kern) (i : Nat) : Int := if i = 0 then 0 else (k.held[i - 1]?.map (·.id)).getD 0
def okAt (k : Kern) (i : Nat) : Bool := match k.held[i]? with
 | some h => zav h && (decide (h.id < k.next) && (decide (zcG k i < h.id) && (k.held.take i).all (zbs h)))
 | none => true
def zfH (k : Kern) : Bool := (List.range 24).all fun i => zgD (k.mach i)
def zaA (k : Kern) : Bool := decide (k.held.length ≤ 6 ∧ 1 ≤ k.next ∧ k.next ≤ 1073741824) && ((List.range k.held.length).all (okAt k) && zfH k)
theorem zeE {k : Kern} {i : Nat} (h : i < k.held.length) : okAt k i = (zav k.held[i] && (decide (k.held[i].id < k.next) && (decide (zcG k i < k.held[i].id) && (k.held.take i).all (zbs k.held[i])))) := by
 simp only [okAt, List.getElem?_eq_getElem h]
theorem zdf {k : Kern} {i : Nat} (h : i < k.held.length) (hb : okAt k i = false) : zaA k = false := by
 have : (List.range k.held.length).all (okAt k) = false := by
  rw [List.all_eq_false]
  exact ⟨i, List.mem_range.2 h, by rw [hb]; simp⟩
 simp [zaA, this]
theorem zfD {k : Kern} {i : Nat} (h : i < k.held.length) : zcG k (i + 1) = k.held[i].id := by
 simp [zcG, List.getElem?_eq_getElem h]
theorem aidxK (k : Kern) {i : Nat} {z : Int} (hz : z = i) (h : i < 24) : pv (.aidx 24 3 2 3 true) [.agg k.cells, I z] = (k.mach i).av := by
 subst hz
 match i, h with
 | 0, _ => rfl
 | 1, _ => rfl
 | 2, _ => rfl
 | 3, _ => rfl
 | 4, _ => rfl
 | 5, _ => rfl
 | 6, _ => rfl
 | 7, _ => rfl
 | 8, _ => rfl
 | 9, _ => rfl
 | 10, _ => rfl
 | 11, _ => rfl
 | 12, _ => rfl
 | 13, _ => rfl
 | 14, _ => rfl
 | 15, _ => rfl
 | 16, _ => rfl
 | 17, _ => rfl
 | 18, _ => rfl
 | 19, _ => rfl
 | 20, _ => rfl
 | 21, _ => rfl
 | 22, _ => rfl
 | 23, _ => rfl
 | n + 24, h => exact absurd h (by omega)
theorem zlw {q : Nat → Bool} {n i : Nat} (h : i < n) (hb : q i = false) : (List.range n).all q = false := by
 rw [List.all_eq_false]
 exact ⟨i, List.mem_range.2 h, by rw [hb]; simp⟩
theorem zfN {q : Nat → Bool} {n : Nat} (h : ∀ i, i < n → q i = true) : (List.range n).all q = true := by
 rw [List.all_eq_true]
 exact fun i hi => h i (List.mem_range.1 hi)
set_option maxHeartbeats 2000000 in
theorem zdB (k : Kern) (hl : k.wide) (hk : k.ok) : C f_lockbarref18_Right [k.av] (.bool (zaA k)) := by
 have h1 := hl.1
 refine ctr k.cells run_lockbarref18_Right rfl (by simp) rfl ?_ rfl
 unfold rt_lockbarref18_Right
 simp [Kern.cells, -zaa]
 refine ⟨fun hb => ?_, fun a1 a2 a3 => ?_⟩
 ·have hg : ¬ (k.held.length ≤ 6 ∧ 1 ≤ k.next ∧ k.next ≤ 1073741824) := by omega
  simp only [zaA]; rw [decide_eq_false hg]; rfl
 ·have hg : k.held.length ≤ 6 ∧ 1 ≤ k.next ∧ k.next ≤ 1073741824 := by omega
  refine zae rfl (fun vs => ∃ i : Nat, i ≤ k.held.length ∧ vs = [I i] ∧ ∀ j, j < i → okAt k j = true) (fun vs => match vs with | [.int _ j] => k.held.length - j.toNat | _ => 0) ⟨0, by omega, by simp, fun j hj => by omega⟩ ?_
  rintro vs - ⟨i, hi, rfl, hq⟩
  simp [-zaa]
  refine ⟨fun hlt => ?_, fun hge => ?_⟩
  ·have hw := zaf (i := i) (by omega)
   have hok := zeE hlt
   simp [hlt, Hd.cells, -zaa]
   refine call (zfp k.held[i] (k.atW hl hlt) (hk _ (List.getElem_mem hlt))) (by simp [hlt, Hd.cells]) (by simp) ?_
   by_cases hi0 : 0 < i
   ·have hw0 : IntKind.i64.wrap ((i : Int) - 1) = (i : Int) - 1 := by rw [zaB] <;> omega
    have hlast : zcG k i = k.held[i - 1].id := by
     simp [zcG, show ¬ i = 0 by omega, List.getElem?_eq_getElem (show i - 1 < k.held.length by omega)]
    have hi1 : ((i : Int) - 1).toNat = i - 1 := by omega
    simp [hlt, hi0, hw0, hi1, Hd.cells, show i - 1 < k.held.length by omega, -zaa]
    refine And.intro (by intros; omega) ?_
    refine ⟨fun hb => ?_, fun hr hn hli => ?_⟩
    ·refine zdf hlt ?_
     rw [hok, hlast]
     rcases hb with (hb | hb) | hb
     ·simp [hb]
     ·simp [show ¬ k.held[i].id < k.next by omega]
     ·simp [show ¬ k.held[i - 1].id < k.held[i].id by omega]
    ·rw [← hlast] at hli
     refine zae rfl (fun vs => ∃ j : Nat, j ≤ i ∧ vs = [I j] ∧ zbj (fun o => !zbs k.held[i] o) (k.held.take j)) (fun vs => match vs with | [.int _ j] => i - j.toNat | _ => 0) ⟨0, by omega, by simp, rfl⟩ ?_
     rintro vs - ⟨j, hj, rfl, hp⟩
     simp [-zaa]
     refine ⟨fun hlt2 => ?_, fun hge2 => ?_⟩
     ·have hj2 : j < k.held.length := by omega
      have hrj : zav k.held[j] = true := by
       have := hq j (by omega)
       rw [zeE hj2] at this
       simp only [Bool.and_eq_true] at this
       exact this.1
      have hwj := zaf (i := j) (by omega)
      simp [hlt, hj2, Hd.cells, -zaa]
      refine call (zgl k.held[i] k.held[j] (zbO (k.atW hl hlt) hr) (zbO (k.atW hl hj2) hrj)) (by simp [hlt, hj2, Hd.cells]) (by simp) ?_
      cases ha : zbs k.held[i] k.held[j]
      ·have hb : zaA k = false := by
        refine zdf hlt ?_
        rw [hok]
        have : (k.held.take i).all (zbs k.held[i]) = false := by
         rw [List.all_eq_false]
         exact ⟨k.held[j], List.mem_take_iff_getElem.2 ⟨j, by omega, rfl⟩, by rw [ha]; simp⟩
        rw [this]; simp
       simp [hb, -zaa]
      ·simp [hwj, -zaa]
       exact ⟨⟨j + 1, by omega, by omega, zaS hj2 hp (by simp [ha])⟩, by omega⟩
     ·have hji : j = i := by omega
      subst hji
      have hall : (k.held.take j).all (zbs k.held[j]) = true := by
       rw [List.all_eq_true]
       intro x hx
       have := List.any_eq_false.1 hp x hx
       simpa using this
      have hokj : okAt k j = true := by rw [hok, hr, hall, decide_eq_true hn, decide_eq_true hli]; rfl
      simp [hlt, hw, Hd.cells, -zaa]
      refine ⟨⟨j + 1, by omega, by omega, fun m hm => ?_⟩, by omega⟩
      by_cases hmj : m = j
      ·subst hmj; exact hokj
      ·exact hq m (by omega)
   ·have hi0' : i = 0 := by omega
    have hlast : zcG k i = 0 := by simp [zcG, hi0']
    simp [hlt, hi0, Hd.cells, -zaa]
    refine ⟨fun hb => ?_, fun hr hn => ?_⟩
    ·refine zdf hlt ?_
     rw [hok]
     rcases hb with hb | hb
     ·simp [hb]
     ·simp [show ¬ k.held[i].id < k.next by omega]
    ·have hli : zcG k i < k.held[i].id := by
      rw [hlast]
      obtain ⟨⟨q1, _⟩, _⟩ := zcd hr
      omega
     refine zae rfl (fun vs => ∃ j : Nat, j ≤ i ∧ vs = [I j] ∧ zbj (fun o => !zbs k.held[i] o) (k.held.take j)) (fun vs => match vs with | [.int _ j] => i - j.toNat | _ => 0) ⟨0, by omega, by simp, rfl⟩ ?_
     rintro vs - ⟨j, hj, rfl, hp⟩
     simp [-zaa]
     refine ⟨fun hlt2 => ?_, fun hge2 => ?_⟩
     ·have hj2 : j < k.held.length := by omega
      have hrj : zav k.held[j] = true := by
       have := hq j (by omega)
       rw [zeE hj2] at this
       simp only [Bool.and_eq_true] at this
       exact this.1
      have hwj := zaf (i := j) (by omega)
      simp [hlt, hj2, Hd.cells, -zaa]
      refine call (zgl k.held[i] k.held[j] (zbO (k.atW hl hlt) hr) (zbO (k.atW hl hj2) hrj)) (by simp [hlt, hj2, Hd.cells]) (by simp) ?_
      cases ha : zbs k.held[i] k.held[j]
      ·have hb : zaA k = false := by
        refine zdf hlt ?_
        rw [hok]
        have : (k.held.take i).all (zbs k.held[i]) = false := by
         rw [List.all_eq_false]
         exact ⟨k.held[j], List.mem_take_iff_getElem.2 ⟨j, by omega, rfl⟩, by rw [ha]; simp⟩
        rw [this]; simp
       simp [hb, -zaa]
      ·simp [hwj, -zaa]
       exact ⟨⟨j + 1, by omega, by omega, zaS hj2 hp (by simp [ha])⟩, by omega⟩
     ·have hji : j = i := by omega
      subst hji
      have hall : (k.held.take j).all (zbs k.held[j]) = true := by
       rw [List.all_eq_true]
       intro x hx
       have := List.any_eq_false.1 hp x hx
       simpa using this
      have hokj : okAt k j = true := by rw [hok, hr, hall, decide_eq_true hn, decide_eq_true hli]; rfl
      simp [hlt, hw, Hd.cells, -zaa]
      refine ⟨⟨j + 1, by omega, by omega, fun m hm => ?_⟩, by omega⟩
      by_cases hmj : m = j
      ·subst hmj; exact hokj
      ·exact hq m (by omega)
  ·have hA : (List.range k.held.length).all (okAt k) = true := zfN fun j hj => hq j (by omega)
   refine zae rfl (fun vs => ∃ m : Nat, m ≤ 24 ∧ vs = [I m] ∧ ∀ j, j < m → zgD (k.mach j) = true) (fun vs => match vs with | [.int _ j] => 24 - j.toNat | _ => 0) ⟨0, by omega, by simp, fun j hj => by omega⟩ ?_
   rintro vs - ⟨m, hm, rfl, hqm⟩
   simp [-zaa]
   refine ⟨fun hlt => ?_, fun hge => ?_⟩
   ·have hm24 : m < 24 := by omega
    have hw := zaf (i := m) (by omega)
    have hMM := aidxK k (i := m) (z := (m : Int)) rfl hm24
    simp only [Kern.cells] at hMM
    skip
    repeat refine And.intro (by omega) ?_
    refine call (zj4 (k.mach m)) (by simp [hMM, Mach.cells, -zaa]) (by simp) ?_
    cases hmo : zgD (k.mach m)
    ·have : zaA k = false := by
      have : zfH k = false := zlw hm24 hmo
      simp [zaA, this]
     simp [this, -zaa]
    ·simp [hw, -zaa]
     refine ⟨⟨m + 1, by omega, by omega, fun j hj => ?_⟩, by omega⟩
     by_cases hjm : j = m
     ·subst hjm; exact hmo
     ·exact hqm j (by omega)
   ·have hmall : zfH k = true := zfN fun j hj => hqm j (by omega)
    have : zaA k = true := by simp only [zaA, hA, hmall]; rw [decide_eq_true hg]; rfl
    simp [this, -zaa]
theorem zgo (k : Kern) (hl : k.len) (hk : k.ok) : C f_lockbarref18_Right [k.av] (.bool (zaA k)) := zdB k hl.wide hk
theorem zd6 {k : Kern} (hl : k.wide) (hr : zaA k = true) : k.len := by
 simp only [zaA, Bool.and_eq_true, decide_eq_true_eq] at hr
 refine ⟨by omega, fun h hh => ?_⟩
 obtain ⟨i, hi, rfl⟩ := List.mem_iff_getElem.1 hh
 have h1 := List.all_eq_true.1 hr.2.1 i (List.mem_range.2 hi)
 rw [zeE hi] at h1
 simp only [Bool.and_eq_true] at h1
 exact zbO (k.atW hl hi) h1.1
end Go.Lb.LK
namespace Go.Lb.LK
open Go Go.Lb Go.Proofs Go.RowKit
end Go.Lb.LK
namespace Go.Lb.LK
open Go Go.Lb Go.Proofs Go.RowKit
def zmn (l : Lay) (im : Img) (k : Kern) (s : Int) : Bool := (zjc k s).isNone && !zai l im s
def zlq (l : Lay) (im : Img) (k : Kern) (n : Need) : Bool :=
 decide (0 ≤ n.p ∧ n.p < 24) && (match zlQ k n.p with
  | some pos => decide (pos = n.pos) && (decide (atP l im n.p = n.pos) || !zje k n.p)
  | none => decide (atP l im n.p = n.pos) || (!k.fail n.p.toNat && zmn l im k n.p))
end Go.Lb.LK
namespace Go.Lb.LK
open Go Go.Lb Go.Proofs Go.RowKit
def za5 (k : Int) : List AV :=
 if k = 1 then [I 2, I 0, I 1, I 0, I 0, I 1, .bool false] else if k = 2 then [I 3, I 0, I 1, I 0, I 2, I 2, .bool true]
 else if k = 3 then [I 4, I 0, I 1, I 2, I 3, I 2, .bool false] else [I 0, I 0, I 0, I 0, I 0, I 0, .bool false]
theorem zgz {k : Int} (h0 : 0 ≤ k) (h1 : k ≤ 255) : k = 0 ∨ k = 1 ∨ k = 2 ∨ k = 3 ∨ 4 ≤ k := by omega
theorem zkN (k : Int) (h0 : 0 ≤ k) (h1 : k ≤ 255) : C f_port_of [U k] (.agg (za5 k)) := by
 refine ctr [U k] run_port_of rfl rfl ?_ ?_ rfl
 ·unfold za5; repeat' split
  all_goals rfl
 ·unfold rt_port_of
  have hw : IntKind.i64.wrap k = k := by rw [zaB] <;> omega
  rcases zgz h0 h1 with rfl | rfl | rfl | rfl | h
  ·simp [za5, hw]
  ·simp [za5, hw]
  ·simp [za5, hw]
  ·simp [za5, hw]
  ·have : ¬ k < 4 := by omega
   simp [hw, this, za5, show k ≠ 1 by omega, show k ≠ 2 by omega, show k ≠ 3 by omega]
def way (k i o : Int) : Int × Bool :=
 if (k = 1 ∨ k = 2 ∨ k = 3) ∧ (i = 0 ∧ o = 1 ∨ i = 1 ∧ o = 0) then (0, true)
 else if k = 2 ∧ (i = 0 ∧ o = 2 ∨ i = 2 ∧ o = 0) then (1, true)
 else if k = 3 ∧ (i = 2 ∧ o = 3 ∨ i = 3 ∧ o = 2) then (1, true) else (0, false)
theorem w1 : IntKind.i64.wrap 1 = 1 := by decide
theorem w2 : IntKind.i64.wrap 2 = 2 := by decide
def ziB (l : Lay) (s : Int) : Option Sec := if 0 ≤ s then l.secs[s.toNat]? else none
theorem zfh {l : Lay} {s : Int} (h0 : 0 ≤ s) (h1 : s < l.secs.length) : ∃ n : Nat, s = n ∧ ∃ h : n < l.secs.length, ziB l s = some (l.secs[n]) := by
 refine ⟨s.toNat, by omega, by omega, ?_⟩
 unfold ziB
 rw [if_pos h0, List.getElem?_eq_getElem]
theorem ziC {l : Lay} {s : Int} (h : ¬ (0 ≤ s ∧ s < l.secs.length)) : ziB l s = none := by
 unfold ziB
 split
 ·exact List.getElem?_eq_none (by omega)
 ·rfl
def zor (l : Lay) (s : Step) : Int × Bool := match ziB l s.s with
 | some x => way x.kind s.i s.o
 | none => (0, false)
def zoc (l : Lay) (x : Int) : Option Exi := if 0 ≤ x then l.exits[x.toNat]? else none
def over (l : Lay) (x : Int) : List Step := match zoc l x with
 | some e => e.over
 | none => []
def Lay.ovOk (l : Lay) : Prop := ∀ e ∈ l.exits, e.over.length ≤ 8796093022208
end Go.Lb.LK
namespace Go.Lb.LK
open Go Go.Lb Go.Proofs Go.RowKit
def point (l : Lay) (s : Step) : Int × Int × Bool := match ziB l s.s with
 | some x => if (way x.kind s.i s.o).2 = true ∧ x.kind = 2 then (s.s, (way 2 s.i s.o).1, true) else (0, 0, false)
 | none => (0, 0, false)
def znf (l : Lay) (s : Step) (f : Flank) : Bool := (zor l s).2 && decide (f.s = s.s) && decide (f.way = (zor l s).1)
def wants (l : Lay) (s : Step) (k : Int) : List Need :=
 (if (point l s).2.2 = true then [⟨(point l s).1, (point l s).2.1, k⟩] else []) ++ (l.flanks.filter (znf l s)).map fun f => ⟨f.point, f.pos, k⟩
def zmC (l : Lay) (p : Path) : List (Int × Step) := p.steps.mapIdx (fun k s => ((k : Int), s)) ++ (over l p.exit).map fun s => ((p.steps.length : Int), s)
def zot (l : Lay) (p : Path) : List Need := (zmC l p).flatMap fun x => wants l x.2 x.1
end Go.Lb.LK
namespace Go.Lb.LK
open Go Go.Lb Go.Proofs Go.RowKit
end Go.Lb.LK
namespace Go.Lb.LK
open Go Go.Lb Go.Proofs Go.RowKit
def zcl (k : Int) : Int := if k = 1 then 2 else if k = 2 then 3 else if k = 3 then 4 else 0
theorem zlu (k : Int) : 0 ≤ zcl k ∧ zcl k ≤ 4 := by unfold zcl; split <;> (try split) <;> (try split) <;> omega
def noP : Port := ⟨-1, 0⟩
def Sec.join (s : Sec) (i : Nat) : Port := if i = 0 then s.j0 else if i = 1 then s.j1 else if i = 2 then s.j2 else s.j3
def hasP (l : Lay) (p : Port) : Bool := match ziB l p.s with
 | some s => decide (0 ≤ p.p) && decide (p.p < zcl s.kind)
 | none => false
def zdA (l : Lay) (p : Port) : Port := match ziB l p.s with
 | some s => if 0 ≤ p.p ∧ p.p < zcl s.kind then s.join p.p.toNat else noP
 | none => noP
theorem zmp {l : Lay} {p : Port} : hasP l p = true ↔ ∃ n : Nat, ∃ m : Nat, p.s = n ∧ p.p = m ∧ m < 4 ∧ ∃ h : n < l.secs.length, (m : Int) < zcl l.secs[n].kind := by
 unfold hasP
 constructor
 ·intro h
  by_cases hc : 0 ≤ p.s ∧ p.s < l.secs.length
  ·obtain ⟨n, hn, hlt, he⟩ := zfh hc.1 hc.2
   rw [he] at h
   simp only [Bool.and_eq_true, decide_eq_true_eq] at h
   have := zlu l.secs[n].kind
   exact ⟨n, p.p.toNat, hn, by omega, by omega, hlt, by omega⟩
  ·rw [ziC hc] at h; cases h
 ·rintro ⟨n, m, h1, h2, h3, hlt, h4⟩
  obtain ⟨n', hn', hlt', he⟩ := zfh (l := l) (s := p.s) (by omega) (by omega)
  have : n' = n := by omega
  subst this
  rw [he]
  simp only [Bool.and_eq_true, decide_eq_true_eq]
  exact ⟨by omega, by omega⟩
theorem ziU {l : Lay} {p : Port} (h : hasP l p = true) : ∃ n : Nat, ∃ m : Nat, p.s = n ∧ p.p = m ∧ m < 4 ∧ ∃ h : n < l.secs.length, zdA l p = l.secs[n].join m := by
 obtain ⟨n, m, h1, h2, h3, hlt, h4⟩ := zmp.1 h
 obtain ⟨n', hn', hlt', he⟩ := zfh (l := l) (s := p.s) (by omega) (by omega)
 have : n' = n := by omega
 subst this
 refine ⟨n', m, h1, h2, h3, hlt, ?_⟩
 unfold zdA
 rw [he]
 simp only
 rw [if_pos ⟨by omega, by omega⟩, h2]; rfl
theorem ziV {l : Lay} {p : Port} (h : hasP l p = false) : zdA l p = noP := by
 unfold hasP at h
 unfold zdA
 split
 ·rename_i s hs
  rw [hs] at h
  simp only [Bool.and_eq_false_iff, decide_eq_false_iff_not] at h
  rw [if_neg (by omega)]
 ·rfl
end Go.Lb.LK
namespace Go.Lb.LK
open Go Go.Lb Go.Proofs Go.RowKit
def zkk (n : Int) : Int := min (min (max n 0) 1073741824 + 1) 1073741824
theorem zj6 (n : Int) : C f_tick_on [I 0, I n, I 1] (I (zkk n)) := by
 refine ctr [I 0, I n, I 1] run_tick_on rfl rfl rfl ?_ rfl
 unfold rt_tick_on
 simp
 have e1 : max 0 (min n 1073741824) = min (max n 0) 1073741824 := by omega
 rw [e1]
 have e2 : IntKind.i64.wrap (1073741824 - min (max n 0) 1073741824) = 1073741824 - min (max n 0) 1073741824 := by rw [zaB] <;> omega
 rw [e2, show max (1 : Int) 0 = 1 from rfl]
 by_cases h : min (max n 0) 1073741824 = 1073741824
 ·rw [h]; simp [zkk, h, show min (1 : Int) 0 = 0 from rfl, show min (1073741825 : Int) 1073741824 = 1073741824 from rfl]
 ·have e3 : min 1 (1073741824 - min (max n 0) 1073741824) = 1 := by omega
  rw [e3]
  have e4 : IntKind.i64.wrap (min (max n 0) 1073741824 + 1) = min (max n 0) 1073741824 + 1 := by rw [zaB] <;> omega
  simp [e4, zkk]
  omega
theorem zad (n : Int) : C f_tick_Next [I n] (I (zkk n)) := by
 refine ctr [I n] run_tick_Next rfl rfl rfl ?_ rfl
 unfold rt_tick_Next
 refine call (zj6 n) (by simp) (by simp) ?_
 simp
theorem zj3 (n : Int) : C f_lockbarref03_Clock [I n] (I (min (max n 0) 1073741824)) := by
 refine ctr [I n] run_lockbarref03_Clock rfl rfl rfl ?_ rfl
 unfold rt_lockbarref03_Clock
 refine call (zfn n 1073741824) (by simp) (by simp) ?_
 simp
theorem zcr (n : Int) : C f_lockbarref03_Next [I n] (I (zkk n)) := by
 refine ctr [I n] run_lockbarref03_Next rfl rfl rfl ?_ rfl
 unfold rt_lockbarref03_Next
 refine call (zj3 n) (by simp) (by simp) ?_
 simp
 rw [zaB (by omega) (by omega)]; rfl
def zmB : Port := ⟨0, 0⟩
def zcp : Sec := ⟨1, zmB, zmB, zmB, zmB, 0, 0⟩
end Go.Lb.LK
namespace Go.Lb.LK
open Go Go.Lb Go.Proofs Go.RowKit
def Hd.n (h : Hd) : Nat := h.path.steps.length
def zcy (l : Lay) (im : Img) (h : Hd) : Bool := !zav h || stale l im
def zaL (h : Hd) (k : Nat) : Int := (h.path.steps[k]?.map (·.s)).getD 0
def wr (l : Lay) (im : Img) (h : Hd) : Nat → Bool
 | 0 => h.was 0 || (decide (h.gone ≤ 0 ∧ 0 < h.n) && told l im (zaL h 0))
 | k + 1 => h.was (k + 1) || (decide (h.gone ≤ (k + 1 : Nat) ∧ k + 1 < h.n) && (told l im (zaL h (k + 1)) && wr l im h k))
def wrM (l : Lay) (im : Img) (h : Hd) (m : Nat) : Nat → Bool := fun j => if j < m then wr l im h j else h.was j
def zaW (l : Lay) (im : Img) (h : Hd) (g : Nat) : Bool := decide (g < h.n) && (wr l im h g && ((decide (g + 1 = h.n) || wr l im h (g + 1)) && !zai l im (zaL h g)))
def goF (l : Lay) (im : Img) (h : Hd) : Nat → Nat → Nat
 | 0, g => g
 | f + 1, g => if zaW l im h g = true then goF l im h f (g + 1) else g
def goX (l : Lay) (im : Img) (h : Hd) (g : Nat) : Nat := goF l im h (h.n - g) g
theorem zmd {l : Lay} {im : Img} {h : Hd} {g : Nat} (hc : zaW l im h g = true) : g < h.n := by
 simp only [zaW, Bool.and_eq_true, decide_eq_true_eq] at hc; exact hc.1
theorem zfz {l : Lay} {im : Img} {h : Hd} {g : Nat} (hc : zaW l im h g = true) : goX l im h g = goX l im h (g + 1) := by
 have := zmd hc
 unfold goX
 obtain ⟨f, hf⟩ : ∃ f, h.n - g = f + 1 := ⟨h.n - g - 1, by omega⟩
 rw [hf, show h.n - (g + 1) = f by omega]
 simp [goF, hc]
theorem za9 {l : Lay} {im : Img} {h : Hd} {g : Nat} (hc : zaW l im h g = false) : goX l im h g = g := by
 unfold goX
 cases h.n - g with
 | zero => rfl
 | succ f => simp [goF, hc]
def zkg (l : Lay) (im : Img) (h : Hd) : Bool := wr l im h (h.n - 1)
def zag (l : Lay) (im : Img) (h : Hd) : Int := if zkg l im h = true then zkk h.timer else h.timer
def opnS (l : Lay) (im : Img) (h : Hd) : Bool := h.opn || (decide (goX l im h h.gone.toNat = h.n) || (zkg l im h && decide (l.over ≤ zag l im h)))
def runS (l : Lay) (im : Img) (h : Hd) : Hd :=
 if zcy l im h = true then h else { h with was := wr l im h, gone := goX l im h h.gone.toNat, timer := zag l im h, opn := opnS l im h }
theorem zoQ {l : Lay} {im : Img} {h : Hd} {k : Nat} (hk : (k : Int) < h.gone) : wr l im h k = h.was k := by
 cases k with
 | zero => simp only [wr]; rw [decide_eq_false (by omega)]; simp
 | succ k => simp only [wr]; rw [decide_eq_false (by omega)]; simp
theorem znK {l : Lay} {im : Img} {h : Hd} {k : Nat} (hk : h.n ≤ k) : wr l im h k = h.was k := by
 cases k with
 | zero => simp only [wr]; rw [decide_eq_false (by omega)]; simp
 | succ k => simp only [wr]; rw [decide_eq_false (by omega)]; simp
theorem zjZ {l : Lay} {im : Img} {h : Hd} {m : Nat} (hm : (m : Int) ≤ h.gone) : wrM l im h m = h.was := by
 funext j
 unfold wrM
 split
 ·exact zoQ (by omega)
 ·rfl
theorem zlX {l : Lay} {im : Img} {h : Hd} {m : Nat} (hm : h.n ≤ m) : wrM l im h m = wr l im h := by
 funext j
 unfold wrM
 split
 ·rfl
 ·exact (znK (by omega)).symm
theorem zfl {l : Lay} {im : Img} {h : Hd} {m : Nat} (j : Nat) : wrM l im h (m + 1) j = if j = m then wr l im h m else wrM l im h m j := by
 unfold wrM
 by_cases h1 : j = m
 ·subst h1; simp
 ·by_cases h2 : j < m
  ·simp [h1, h2, show j < m + 1 by omega]
  ·simp [h1, h2, show ¬ j < m + 1 by omega]
theorem zoP {l : Lay} {im : Img} {h : Hd} {k : Nat} (h1 : h.gone ≤ k) (h2 : k < h.n) : wr l im h k = (h.was k || (told l im (zaL h k) && (decide (k = 0) || wr l im h (k - 1)))) := by
 cases k with
 | zero => simp only [wr]; rw [decide_eq_true (by omega : h.gone ≤ 0 ∧ 0 < h.n)]; simp
 | succ k => simp only [wr]; rw [decide_eq_true (by omega : h.gone ≤ (k + 1 : Nat) ∧ k + 1 < h.n)]; simp
theorem zjY {l : Lay} {im : Img} {h : Hd} {k : Nat} (hk : wr l im h k = h.was k) : wrM l im h (k + 1) = wrM l im h k := by
 funext j
 rw [zfl]
 split
 ·rename_i h1; subst h1; rw [hk]; simp [wrM]
 ·rfl
theorem zlY {l : Lay} {im : Img} {h : Hd} {k : Nat} (hk : wr l im h k = true) (j : Nat) : wrM l im h (k + 1) j = (decide (j = k) || wrM l im h k j) := by
 rw [zfl]
 by_cases h1 : j = k
 ·subst h1; simp [hk]
 ·simp [h1]
theorem zlZ (w : Nat → Bool) (t : List AV) {i : Nat} (h : i < 12) : ((AV.bool (w 0) :: AV.bool (w 1) :: AV.bool (w 2) :: AV.bool (w 3) :: AV.bool (w 4) :: AV.bool (w 5) :: AV.bool (w 6) :: AV.bool (w 7) :: AV.bool (w 8) :: AV.bool (w 9) :: AV.bool (w 10) :: AV.bool (w 11) :: t)[i]?).getD .undef = .bool (w i) := by
 match i, h with
 | 0, _ => rfl
 | 1, _ => rfl
 | 2, _ => rfl
 | 3, _ => rfl
 | 4, _ => rfl
 | 5, _ => rfl
 | 6, _ => rfl
 | 7, _ => rfl
 | 8, _ => rfl
 | 9, _ => rfl
 | 10, _ => rfl
 | 11, _ => rfl
 | n + 12, h => exact absurd h (by omega)
theorem zl3 (w : Nat → Bool) (a0 a1 a2 a3 a4 a5 a6 a7 : AV) (t : List AV) {i : Nat} {z : Int} (hz : z = i) (h : i < 12) : pv (.aidx 12 1 8 1 false) [.agg (a0 :: a1 :: a2 :: a3 :: a4 :: a5 :: a6 :: a7 :: AV.bool (w 0) :: AV.bool (w 1) :: AV.bool (w 2) :: AV.bool (w 3) :: AV.bool (w 4) :: AV.bool (w 5) :: AV.bool (w 6) :: AV.bool (w 7) :: AV.bool (w 8) :: AV.bool (w 9) :: AV.bool (w 10) :: AV.bool (w 11) :: t), I z] = .bool (w i) := by
 subst hz
 match i, h with
 | 0, _ => rfl
 | 1, _ => rfl
 | 2, _ => rfl
 | 3, _ => rfl
 | 4, _ => rfl
 | 5, _ => rfl
 | 6, _ => rfl
 | 7, _ => rfl
 | 8, _ => rfl
 | 9, _ => rfl
 | 10, _ => rfl
 | 11, _ => rfl
 | n + 12, h => exact absurd h (by omega)
theorem zdj (w : Nat → Bool) {i : Nat} {z : Int} (hz : z = i) (h : i < 12) : pv (.aidx 12 1 0 1 false) [.agg [AV.bool (w 0), AV.bool (w 1), AV.bool (w 2), AV.bool (w 3), AV.bool (w 4), AV.bool (w 5), AV.bool (w 6), AV.bool (w 7), AV.bool (w 8), AV.bool (w 9), AV.bool (w 10), AV.bool (w 11)], I z] = .bool (w i) := by
 subst hz
 match i, h with
 | 0, _ => rfl
 | 1, _ => rfl
 | 2, _ => rfl
 | 3, _ => rfl
 | 4, _ => rfl
 | 5, _ => rfl
 | 6, _ => rfl
 | 7, _ => rfl
 | 8, _ => rfl
 | 9, _ => rfl
 | 10, _ => rfl
 | 11, _ => rfl
 | n + 12, h => exact absurd h (by omega)
end Go.Lb.LK
namespace Go.Lb.LK
open Go Go.Lb Go.Proofs Go.RowKit
theorem zg4 (l : Lay) (im : Img) (h : Hd) (hl : h.len) (hs : 0 ≤ h.stage ∧ h.stage ≤ 255) : C f_pass_asleep [l.av, im.av, h.av] (.bool (zcy l im h)) := by
 refine ctr (l.cells ++ im.cells ++ h.cells) run_pass_asleep rfl (lih l im h) rfl ?_ rfl
 unfold rt_pass_asleep
 simp [Lay.cells, Img.cells, Hd.cells]
 refine call (zhT h hl hs) (by simp [Hd.cells]) (by simp) ?_
 simp
 refine zap (avs := [l.av, im.av]) (.bool (stale l im)) rfl (fun _ => ⟨by simp [Lay.cells, Img.cells], zbZ l im⟩) (by simp) ?_
 cases hq : zav h <;> simp [zcy, hq]
end Go.Lb.LK
namespace Go.Lb.LK
open Go Go.Lb Go.Proofs Go.RowKit
theorem za3 {h : Hd} {k : Nat} (hk : k < h.path.steps.length) : zaL h k = h.path.steps[k].s := by
 simp [zaL, hk]
theorem zfQ {l : Lay} {im : Img} {h : Hd} (ha : zcy l im h = true) : runS l im h = h := by simp [runS, ha]
theorem zgM {l : Lay} {im : Img} {h : Hd} (ha : zcy l im h = false) : runS l im h = { h with was := wr l im h, gone := goX l im h h.gone.toNat, timer := zag l im h, opn := opnS l im h } := by simp [runS, ha]
set_option maxHeartbeats 2000000 in
theorem zmc (l : Lay) (im : Img) (hi : im.ok) (h : Hd) (hl : h.len) (hs : 0 ≤ h.stage ∧ h.stage ≤ 255) : C f_lockbarref21_Run [l.av, im.av, h.av] (runS l im h).av := by
 refine ctr (l.cells ++ im.cells ++ h.cells) run_lockbarref21_Run rfl (lih l im h) (by simp [AV.pure]) ?_ rfl
 unfold rt_lockbarref21_Run
 simp [Lay.cells, Img.cells, Hd.cells]
 refine call (zmb h hl) (by simp [Hd.cells]) (by simp) ?_
 simp [Hd.av, Hd.cells]
 refine call (zj5 h hl hs) (by simp [Hd.cells]) (by simp) ?_
 simp
 refine zap (avs := [l.av, im.av]) (.bool (stale l im)) rfl (fun _ => ⟨by simp [Lay.cells, Img.cells], zbt l im⟩) (by simp) ?_
 simp
 cases ha : zcy l im h
 ·rw [zgM ha]
  simp only [zcy, Bool.or_eq_false_iff, Bool.not_eq_false'] at ha
  obtain ⟨⟨a1, a2, a3, a4, a5, a6, a7⟩, ⟨d1, d2, d3, d4⟩, _⟩ := zcd ha.1
  simp [ha.1, ha.2]
  obtain ⟨g, hg⟩ : ∃ g : Nat, h.gone = g := ⟨h.gone.toNat, by omega⟩
  refine zae rfl (fun vs => ∃ k : Nat, g ≤ k ∧ k ≤ h.n ∧ vs = I k :: zcI (wrM l im h k)) (fun vs => match vs with | .int _ j :: _ => h.n - j.toNat | _ => 0) ⟨g, by omega, by unfold Hd.n; omega, by simp [zjZ (l := l) (im := im) (h := h) (m := g) (by omega), hg, zcI]⟩ ?_
  rintro vs - ⟨k, hk1, hk2, rfl⟩
  have hn : h.n = h.path.steps.length := rfl
  simp [zcI]
  refine ⟨fun hlt => ?_, fun hge => ?_⟩
  ·simp [hlt, Step.cells]
   refine call (zhW l im hi (zaL h k)) (by simp [Lay.cells, Img.cells, hlt, Step.cells, za3]) (by simp) ?_
   simp [hlt, Step.cells]
   have hw := zaf (i := k) (by omega)
   have hat := zoP (l := l) (im := im) (h := h) (k := k) (by omega) (by omega)
   have hprev : ¬ k = 0 → IntKind.i64.wrap ((k : Int) - 1) = ((k - 1 : Nat) : Int) := fun hk0 => by rw [zaB] <;> omega
   have hpw : ¬ k = 0 → wrM l im h k (k - 1) = wr l im h (k - 1) := fun hk0 => by unfold wrM; rw [if_pos (by omega)]
   have hcell : ¬ k = 0 → _ := fun hk0 => zlZ (wrM l im h k) [AV.bool h.opn, I h.timer, AV.bool h.shown] (i := k - 1) (by omega)
   rw [hw]
   refine ⟨fun h1 h2 => by rw [hprev h1]; omega, fun h1 h2 => by rw [hprev h1]; omega, ?_⟩
   cases ht : told l im (zaL h k)
   ·left
    rw [ht] at hat
    refine ⟨fun hh => (by cases hh), ⟨k + 1, by omega, by omega, rfl, ?_⟩, by omega⟩
    rw [zjY (by simpa using hat)]
    simp
   ·by_cases hk0 : k = 0
    ·right
     refine ⟨by simp [hk0], by omega, ⟨k + 1, by omega, by omega, rfl, ?_⟩, by omega⟩
     have : wr l im h k = true := by rw [hat, ht]; simp [hk0]
     simp only [zlY this]
     subst hk0
     simp
    ·rw [hprev hk0]
     simp only [Int.toNat_natCast, hcell hk0, hpw hk0, if_neg hk0]
     cases hp : wr l im h (k - 1)
     ·left
      refine ⟨fun _ => rfl, ⟨k + 1, by omega, by omega, rfl, ?_⟩, by omega⟩
      rw [zjY (by rw [hat, hp]; simp [hk0])]
      simp
     ·right
      refine ⟨rfl, by omega, ⟨k + 1, by omega, by omega, rfl, ?_⟩, by omega⟩
      have : wr l im h k = true := by rw [hat, ht, hp]; simp
      simp only [zlY this]
      have hd : ∀ a b : Nat, b = 8 + a → decide (b = 8 + k) = decide (a = k) := fun a b e => decide_eq_decide.2 (by omega)
      rw [hd 1 9 rfl, hd 2 10 rfl, hd 3 11 rfl, hd 4 12 rfl, hd 5 13 rfl, hd 6 14 rfl, hd 7 15 rfl, hd 8 16 rfl, hd 9 17 rfl, hd 10 18 rfl, hd 11 19 rfl]
      simp [eq_comm]
  ·have hkn : k = h.n := by omega
   subst hkn
   rw [zlX (Nat.le_refl _)]
   refine zae rfl (fun vs => ∃ k : Nat, g ≤ k ∧ k ≤ h.n ∧ vs = [I k] ∧ goX l im h h.gone.toNat = goX l im h k) (fun vs => match vs with | .int _ j :: _ => h.n + 1 - j.toNat | _ => 0) ⟨g, by omega, by omega, by simp [hg], by rw [hg]; rfl⟩ ?_
   rintro vs - ⟨k, hk1, hk2, rfl, hgo⟩
   by_cases hlt : k < h.path.steps.length
   ·have hk12 : k < 12 := by omega
    have hwn : IntKind.i64.wrap ((h.path.steps.length : Int) - 1) = ((h.path.steps.length - 1 : Nat) : Int) := by rw [zaB] <;> omega
    have hw := zaf (i := k) (by omega)
    have hAk := fun a0 a1 a2 a3 a4 a5 a6 a7 t => zl3 (wr l im h) a0 a1 a2 a3 a4 a5 a6 a7 t (i := k) (z := (k : Int)) rfl (by omega)
    have hAk1 := fun (hk : ¬ k = h.path.steps.length - 1) a0 a1 a2 a3 a4 a5 a6 a7 t => zl3 (wr l im h) a0 a1 a2 a3 a4 a5 a6 a7 t (i := k + 1) (z := (k : Int) + 1) rfl (by omega)
    have hAn := fun a0 a1 a2 a3 a4 a5 a6 a7 t => zl3 (wr l im h) a0 a1 a2 a3 a4 a5 a6 a7 t (i := h.path.steps.length - 1) (z := ((h.path.steps.length - 1 : Nat) : Int)) rfl (by omega)
    rw [show wr l im h (h.path.steps.length - 1) = zkg l im h from rfl] at hAn
    simp [hlt, hAk, -zaa, Step.cells]
    repeat refine ⟨by omega, ?_⟩
    refine zap (avs := [l.av, im.av, I (zaL h k)]) (.bool (zai l im (zaL h k))) rfl (fun _ => ⟨by simp [Lay.cells, Img.cells, hlt, Step.cells, za3], zd2 l im hi _⟩) (by simp) ?_
    have hkn2 : ¬ k = h.path.steps.length := by omega
    have hcan : zaW l im h k = (wr l im h k && ((decide (k = h.path.steps.length - 1) || wr l im h (k + 1)) && !zai l im (zaL h k))) := by
     have e : decide (k + 1 = h.path.steps.length) = decide (k = h.path.steps.length - 1) := decide_eq_decide.2 (by omega)
     unfold zaW
     rw [hn, e]; simp [hlt]
    have hstop : zaW l im h k = false → goX l im h h.gone.toNat = k := fun hc => by rw [hgo]; exact za9 hc
    have hgoon : zaW l im h k = true → goX l im h h.gone.toNat = goX l im h (k + 1) := fun hc => by rw [hgo]; exact zfz hc
    have hbnd : ((h.path.steps.length - 1 : Nat) : Int) < 12 ∧ h.path.steps.length - 1 + 8 < 23 := by omega
    have hdz2 : ((k : Int) = (h.path.steps.length : Int)) = False := by simp only [eq_iff_iff, iff_false]; omega
    by_cases hgo2 : zaW l im h k = true
    ·have hgo3 := hgo2
     rw [hcan] at hgo2
     simp at hgo2
     by_cases hkn : k = h.path.steps.length - 1
     ·have hdz : ((k : Int) = ((h.path.steps.length - 1 : Nat) : Int)) = True := by simp only [eq_iff_iff, iff_true]; omega
      simp [hlt, hAk, hAn, hwn, hw, hgo2.1, hgo2.2.2, hdz, hdz2, -zaa]
      exact ⟨⟨k + 1, by omega, by omega, by omega, hgoon hgo3⟩, by omega⟩
     ·have hdz : ((k : Int) = ((h.path.steps.length - 1 : Nat) : Int)) = False := by simp only [eq_iff_iff, iff_false]; omega
      have hk1 : wr l im h (k + 1) = true := by
       rcases hgo2.2.1 with h1 | h1
       ·exact absurd h1 hkn
       ·exact h1
      simp [hlt, hAk, hAk1 hkn, hAn, hwn, hw, hgo2.1, hgo2.2.2, hk1, hdz, hdz2, -zaa]
      repeat refine ⟨by omega, ?_⟩
      exact ⟨⟨k + 1, by omega, by omega, by omega, hgoon hgo3⟩, by omega⟩
    ·have hst := hstop (by simpa using hgo2)
     rw [hcan] at hgo2
     simp at hgo2
     by_cases hkn : k = h.path.steps.length - 1
     ·have hdz : ((k : Int) = ((h.path.steps.length - 1 : Nat) : Int)) = True := by simp only [eq_iff_iff, iff_true]; omega
      cases hwk : wr l im h k
      ·simp [hlt, hAk, hAn, hwn, hw, hdz, hdz2, hwk, -zaa]
       repeat refine ⟨by omega, ?_⟩
       refine ⟨fun hL => ?_, fun hL => ?_⟩
       ·refine call (zcr h.timer) (by simp) (by simp) ?_
        simp [hAn, hL, hst, hwn, hdz2, opnS, zag, hn, hkn2, -zaa]
        and_intros <;> intros <;> omega
       ·simp [hAn, hL, hst, hwn, hdz2, opnS, zag, hn, hkn2, -zaa]
        and_intros <;> intros <;> omega
      ·have hoc : zai l im (zaL h k) = true := hgo2 hwk (.inl hkn)
       simp [hlt, hAk, hAn, hwn, hw, hdz, hdz2, hwk, hoc, -zaa]
       repeat refine ⟨by omega, ?_⟩
       refine ⟨fun hL => ?_, fun hL => ?_⟩
       ·refine call (zcr h.timer) (by simp) (by simp) ?_
        simp [hAn, hL, hst, hwn, hdz2, opnS, zag, hn, hkn2, -zaa]
        and_intros <;> intros <;> omega
       ·simp [hAn, hL, hst, hwn, hdz2, opnS, zag, hn, hkn2, -zaa]
        and_intros <;> intros <;> omega
     ·have hdz : ((k : Int) = ((h.path.steps.length - 1 : Nat) : Int)) = False := by simp only [eq_iff_iff, iff_false]; omega
      cases hwk : wr l im h k
      ·simp [hlt, hAk, hAn, hwn, hw, hdz, hdz2, hwk, -zaa]
       repeat refine ⟨by omega, ?_⟩
       refine ⟨fun hL => ?_, fun hL => ?_⟩
       ·refine call (zcr h.timer) (by simp) (by simp) ?_
        simp [hAn, hL, hst, hwn, hdz2, opnS, zag, hn, hkn2, -zaa]
        and_intros <;> intros <;> omega
       ·simp [hAn, hL, hst, hwn, hdz2, opnS, zag, hn, hkn2, -zaa]
        and_intros <;> intros <;> omega
      ·cases hoc : zai l im (zaL h k)
       ·have hk1 : wr l im h (k + 1) = false := by
         cases hk1 : wr l im h (k + 1)
         ·rfl
         ·rw [hgo2 hwk (.inr hk1)] at hoc; cases hoc
        simp [hlt, hAk, hAk1 hkn, hAn, hwn, hw, hdz, hdz2, hwk, hoc, hk1, -zaa]
        repeat refine ⟨by omega, ?_⟩
        refine ⟨fun hL => ?_, fun hL => ?_⟩
        ·refine call (zcr h.timer) (by simp) (by simp) ?_
         simp [hAn, hL, hst, hwn, hdz2, opnS, zag, hn, hkn2, -zaa]
         and_intros <;> intros <;> omega
        ·simp [hAn, hL, hst, hwn, hdz2, opnS, zag, hn, hkn2, -zaa]
         and_intros <;> intros <;> omega
       ·simp [hlt, hAk, hAk1 hkn, hAn, hwn, hw, hdz, hdz2, hwk, hoc, -zaa]
        repeat refine ⟨by omega, ?_⟩
        refine ⟨fun hL => ?_, fun hL => ?_⟩
        ·refine call (zcr h.timer) (by simp) (by simp) ?_
         simp [hAn, hL, hst, hwn, hdz2, opnS, zag, hn, hkn2, -zaa]
         and_intros <;> intros <;> omega
        ·simp [hAn, hL, hst, hwn, hdz2, opnS, zag, hn, hkn2, -zaa]
         and_intros <;> intros <;> omega
   ·have hkn : k = h.path.steps.length := by omega
    have hwn : IntKind.i64.wrap ((h.path.steps.length : Int) - 1) = ((h.path.steps.length - 1 : Nat) : Int) := by rw [zaB] <;> omega
    have hAn := fun a0 a1 a2 a3 a4 a5 a6 a7 t => zl3 (wr l im h) a0 a1 a2 a3 a4 a5 a6 a7 t (i := h.path.steps.length - 1) (z := ((h.path.steps.length - 1 : Nat) : Int)) rfl (by omega)
    rw [show wr l im h (h.path.steps.length - 1) = zkg l im h from rfl] at hAn
    have hst : goX l im h h.gone.toNat = k := by
     rw [hgo]; refine za9 ?_
     unfold zaW; rw [hn]; simp [hlt]
    have hdz2 : ((k : Int) = (h.path.steps.length : Int)) = True := by simp only [eq_iff_iff, iff_true]; omega
    simp [hlt, hwn, hAn, -zaa]
    refine zap (avs := []) (.bool false) rfl (fun hh => ?_) (by simp) ?_
    ·simp [hlt] at hh
    simp [hlt, hwn, hAn, -zaa]
    repeat refine ⟨by omega, ?_⟩
    refine ⟨fun hL => ?_, fun hL => ?_⟩
    ·refine call (zcr h.timer) (by simp) (by simp) ?_
     simp [hAn, hL, hst, hwn, hdz2, opnS, zag, hn, hkn, -zaa]
    ·simp [hAn, hL, hst, hwn, hdz2, opnS, zag, hn, hkn, -zaa]
 ·rw [zfQ ha]
  have : zav h = false ∨ stale l im = true := by simpa [zcy] using ha
  rcases this with this | this <;> simp [this, Hd.cells]
end Go.Lb.LK
