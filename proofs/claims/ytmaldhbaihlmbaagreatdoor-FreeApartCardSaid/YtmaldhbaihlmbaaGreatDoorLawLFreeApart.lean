/- Ports, as the document has them; what lies beyond. -/
import Derived.Test.YtmaldhbaihlmbaaGreatDoorCh5
import Derived.Test.YtmaldhbaihlmbaaGreatDoorCh1
import Derived.Test.YtmaldhbaihlmbaaGreatDoorCh6
import Derived.Test.YtmaldhbaihlmbaaGreatDoorCh4
import Derived.Test.YtmaldhbaihlmbaaGreatDoorRows
import Derived.Test.YtmaldhbaihlmbaaGreatDoorTie
import Derived.Test.YtmaldhbaihlmbaaGreatDoorCards
import Derived.ProofKit
import Derived.LaidMore
import Derived.OpenShut
import Derived.Stop.Joined
import Derived.SevenTiedAt
set_option linter.unusedSimpArgs false
set_option linter.unusedVariables false
namespace Go.Lb.LK
open Go Go.Lb Go.Proofs Go.RowKit
def zaT (k : Int) : Int := if k = 1 then 2 else if k = 2 then 3 else if k = 3 then 4 else 0
theorem zju (k : Int) : 0 ≤ zaT k ∧ zaT k ≤ 4 := by unfold zaT; split <;> (try split) <;> (try split) <;> omega
theorem zbQ (k : Int) : C f_lockbarref05_Ports [U k] (I (zaT k)) := by
 refine ctr [U k] run_lockbarref05_Ports rfl rfl rfl ?_ rfl
 unfold rt_lockbarref05_Ports
 by_cases h1 : k = 1
 ·simp [zaT, h1]
 ·by_cases h2 : k = 2
  ·simp [zaT, h2]
  ·by_cases h3 : k = 3 <;> simp [zaT, h1, h2, h3]
def noP : Port := ⟨-1, 0⟩
def Sec.join (s : Sec) (i : Nat) : Port := if i = 0 then s.j0 else if i = 1 then s.j1 else if i = 2 then s.j2 else s.j3
def Sec.cls (s : Sec) (i : Nat) : Int := if i = 0 then s.c0 else s.c1
theorem zog (s : Sec) {i : Nat} {z : Int} (hz : z = i) (h : i < 4) : pv (.aidx 4 2 1 2 true) [.agg s.cells, I z] = (s.join i).av := by
 subst hz
 match i, h with
 | 0, _ => rfl
 | 1, _ => rfl
 | 2, _ => rfl
 | 3, _ => rfl
theorem zpt (s : Sec) {i : Nat} {z : Int} (hz : z = i) (h : i < 4) : pv (.aidx 4 2 1 1 false) [.agg s.cells, I z] = I (s.join i).s := by
 subst hz
 match i, h with
 | 0, _ => rfl
 | 1, _ => rfl
 | 2, _ => rfl
 | 3, _ => rfl
theorem aidxC (s : Sec) {i : Nat} {z : Int} (hz : z = i) (h : i < 2) : pv (.aidx 2 1 9 1 false) [.agg s.cells, I z] = I (s.cls i) := by
 subst hz
 match i, h with
 | 0, _ => rfl
 | 1, _ => rfl
theorem zdX (x y : Port) : AV.eqs x.cells y.cells = decide (x = y) := by
 obtain ⟨a, b⟩ := x
 obtain ⟨d, e⟩ := y
 simp [Port.cells, AV.eqs, AV.eq1]
 by_cases h1 : a = d <;> by_cases h2 : b = e <;> simp [h1, h2]
def hasP (l : Lay) (p : Port) : Bool := match zgL l p.s with
 | some s => decide (0 ≤ p.p) && decide (p.p < zaT s.kind)
 | none => false
def zaM (l : Lay) (p : Port) : Port := match zgL l p.s with
 | some s => if 0 ≤ p.p ∧ p.p < zaT s.kind then s.join p.p.toNat else noP
 | none => noP
theorem ziT (l : Lay) (p : Port) : C f_lockbarref07_Has [l.av, p.av] (.bool (hasP l p)) := by
 refine ctr (l.cells ++ p.cells) run_lockbarref07_Has rfl (by simp [zac]) rfl ?_ rfl
 unfold rt_lockbarref07_Has
 simp [Lay.cells, Port.cells]
 by_cases hc : 0 ≤ p.s ∧ p.s < l.secs.length
 ·obtain ⟨n, hn, hlt, he⟩ := zbs hc.1 hc.2
  have hls : hasP l p = (decide (0 ≤ p.p) && decide (p.p < zaT l.secs[n].kind)) := by simp [hasP, he]
  rw [hls]
  simp [hn, hlt, Sec.cells]
  refine zai (avs := [U l.secs[n].kind]) (I (zaT l.secs[n].kind)) rfl (fun _ => ⟨by simp [hlt, Sec.cells], zbQ _⟩) (fun _ => rfl) ?_
  by_cases h0 : 0 ≤ p.p <;> simp [h0, hlt]
 ·have hls : hasP l p = false := by simp [hasP, zbI hc]
  rw [hls]
  have hc2 : 0 ≤ p.s → ¬ p.s < l.secs.length := fun h1 h2 => hc ⟨h1, h2⟩
  by_cases h0 : 0 ≤ p.s
  ·have h1 := hc2 h0
   simp [h0, h1]
   refine zai (avs := []) (I 0) rfl (fun hh => ?_) (fun _ => rfl) ?_
   ·simp [h0, h1] at hh
   ·simp [h0, h1]
  ·simp [h0]
   refine zai (avs := []) (I 0) rfl (fun hh => ?_) (fun _ => rfl) ?_
   ·simp [h0] at hh
   ·simp [h0]
theorem zhc : C f_lockbarref07_none [] noP.av := by
 refine ctr [] run_lockbarref07_none rfl rfl rfl ?_ rfl
 unfold rt_lockbarref07_none
 simp [noP, Port.cells]
theorem znz {l : Lay} {p : Port} : hasP l p = true ↔ ∃ n : Nat, ∃ m : Nat, p.s = n ∧ p.p = m ∧ m < 4 ∧ ∃ h : n < l.secs.length, (m : Int) < zaT l.secs[n].kind := by
 unfold hasP
 constructor
 ·intro h
  by_cases hc : 0 ≤ p.s ∧ p.s < l.secs.length
  ·obtain ⟨n, hn, hlt, he⟩ := zbs hc.1 hc.2
   rw [he] at h
   simp only [Bool.and_eq_true, decide_eq_true_eq] at h
   have := zju l.secs[n].kind
   exact ⟨n, p.p.toNat, hn, by omega, by omega, hlt, by omega⟩
  ·rw [zbI hc] at h; cases h
 ·rintro ⟨n, m, h1, h2, h3, hlt, h4⟩
  obtain ⟨n', hn', hlt', he⟩ := zbs (l := l) (s := p.s) (by omega) (by omega)
  have : n' = n := by omega
  subst this
  rw [he]
  simp only [Bool.and_eq_true, decide_eq_true_eq]
  exact ⟨by omega, by omega⟩
theorem zjT {l : Lay} {p : Port} (h : hasP l p = true) : ∃ n : Nat, ∃ m : Nat, p.s = n ∧ p.p = m ∧ m < 4 ∧ ∃ h : n < l.secs.length, zaM l p = l.secs[n].join m := by
 obtain ⟨n, m, h1, h2, h3, hlt, h4⟩ := znz.1 h
 obtain ⟨n', hn', hlt', he⟩ := zbs (l := l) (s := p.s) (by omega) (by omega)
 have : n' = n := by omega
 subst this
 refine ⟨n', m, h1, h2, h3, hlt, ?_⟩
 unfold zaM
 rw [he]
 simp only
 rw [if_pos ⟨by omega, by omega⟩, h2]; rfl
theorem zjU {l : Lay} {p : Port} (h : hasP l p = false) : zaM l p = noP := by
 unfold hasP at h
 unfold zaM
 split
 ·rename_i s hs
  rw [hs] at h
  simp only [Bool.and_eq_false_iff, decide_eq_false_iff_not] at h
  rw [if_neg (by omega)]
 ·rfl
theorem zdq (l : Lay) (p : Port) : C f_lockbarref07_Beyond [l.av, p.av] (zaM l p).av := by
 refine ctr (l.cells ++ p.cells) run_lockbarref07_Beyond rfl (by simp [zac]) (by simp [AV.pure]) ?_ rfl
 unfold rt_lockbarref07_Beyond
 simp [Lay.cells, Port.cells]
 refine call (ziT l p) (by simp [Lay.cells, Port.cells]) (fun _ => rfl) ?_
 cases hh : hasP l p
 ·simp
  refine call zhc rfl (by simp) ?_
  simp [zjU hh, noP, Port.cells]
 ·obtain ⟨n, m, h1, h2, h3, hlt, h4⟩ := zjT hh
  have hm : m = 0 ∨ m = 1 ∨ m = 2 ∨ m = 3 := by omega
  rcases hm with rfl | rfl | rfl | rfl <;> simp [h1, h2, h4, hlt, Sec.cells, Sec.join, Port.cells]
end Go.Lb.LK
namespace Go.Lb.LK
open Go Go.Lb Go.Proofs Go.RowKit
def mayP (p : Port) : Bool := decide (p = noP) || (decide (0 ≤ p.s) && (decide (p.s < 24) && (decide (0 ≤ p.p) && decide (p.p < 4))))
theorem zmO (a b : Int) : ((⟨a, b⟩ : Port) = noP) ↔ a = -1 ∧ b = 0 := by simp [noP]
theorem zl1 (p : Port) : C f_lockbarref05_May [p.av] (.bool (mayP p)) := by
 refine ctr p.cells run_lockbarref05_May rfl (by simp) rfl ?_ rfl
 unfold rt_lockbarref05_May
 obtain ⟨a, b⟩ := p
 simp [Port.cells, mayP, zmO]
 by_cases h1 : a = -1 <;> by_cases h2 : b = 0 <;> by_cases h3 : 0 ≤ a <;> by_cases h4 : a < 24 <;> by_cases h5 : 0 ≤ b <;> by_cases h6 : b < 4 <;> simp [h1, h2, h3, h4, h5, h6, AV.eqs, AV.eq1]
def zgu (s : Sec) (i : Nat) : Bool := if (i : Int) < zaT s.kind then mayP (s.join i) else decide (s.join i = noP)
def zmb (s : Sec) (i : Nat) : Bool := (decide (0 ≤ s.cls i) && decide (s.cls i ≤ 3)) && (decide ((i : Int) < ways s.kind) || decide (s.cls i = 0))
def ziu (s : Sec) : Bool := (List.range 4).all (zgu s) && ((List.range 2).all (zmb s) && decide (0 < zaT s.kind))
theorem zgf (s : Sec) : C f_lockbarref05_Right [s.av] (.bool (ziu s)) := by
 refine ctr s.cells run_lockbarref05_Right rfl (by simp) rfl ?_ rfl
 unfold rt_lockbarref05_Right
 simp [Sec.cells, -zad]
 refine zaa rfl (fun vs => ∃ i : Nat, i ≤ 4 ∧ vs = [I i] ∧ ∀ j, j < i → zgu s j = true) (fun vs => match vs with | [.int _ j] => 4 - j.toNat | _ => 0) ⟨0, by omega, by simp, fun j hj => by omega⟩ ?_
 rintro vs - ⟨i, hi, rfl, hq⟩
 simp [-zad]
 refine ⟨fun hlt => ?_, fun hge => ?_⟩
 ·have hw := zab (i := i) (by omega)
  have hi4 : i < 4 := by omega
  have hJ := zog s (i := i) (z := (i : Int)) rfl hi4
  simp only [Sec.cells] at hJ
  refine call (zbQ s.kind) (by simp) (fun _ => rfl) ?_
  simp [hJ, -zad]
  repeat refine And.intro (by intros; omega) ?_
  refine zai (avs := [(s.join i).av]) (.bool (mayP (s.join i))) rfl (fun _ => ⟨by simp [hJ, -zad], zl1 _⟩) (fun _ => rfl) ?_
  simp [hJ, -zad]
  refine zai (avs := [U s.kind]) (I (zaT s.kind)) rfl (fun _ => ⟨by simp, zbQ _⟩) (fun _ => rfl) ?_
  have hje : zgu s i = if (i : Int) < zaT s.kind then mayP (s.join i) else decide (s.join i = noP) := rfl
  have hbad : zgu s i = false → ziu s = false := fun hk => by simp [ziu, zbc hi4 hk]
  have hgood : zgu s i = true → ∀ j, j < i + 1 → zgu s j = true := fun hk j hj => by
   by_cases hji : j = i
   ·subst hji; exact hk
   ·exact hq j (by omega)
  by_cases hp : (i : Int) < zaT s.kind
  ·rw [if_pos hp] at hje
   have hp2 : ¬ zaT s.kind ≤ (i : Int) := by omega
   cases hm : mayP (s.join i)
   ·have := hbad (by rw [hje, hm])
    simp [hp, hp2, hm, hJ, this, -zad]
   ·have := hgood (by rw [hje, hm])
    simp [hp, hp2, hm, hJ, hw, -zad]
    exact ⟨⟨i + 1, by omega, by omega, this⟩, by omega⟩
  ·rw [if_neg hp] at hje
   have hp2 : zaT s.kind ≤ (i : Int) := by omega
   have hpe := zdX (s.join i) noP
   by_cases hj : s.join i = noP
   ·have := hgood (by rw [hje]; simpa using hj)
    simp [hj, Port.cells, noP, AV.eqs, AV.eq1] at hpe
    simp [hp, hp2, hJ, hj, hw, noP, Port.cells, AV.eqs, AV.eq1, -zad]
    repeat refine And.intro (by intros; omega) ?_
    exact ⟨⟨i + 1, by omega, by omega, this⟩, by omega⟩
   ·have := hbad (by rw [hje]; simpa using hj)
    have hj2 : ¬ ((s.join i).s = -1 ∧ (s.join i).p = 0) := fun h => hj (by rw [← zmO] at h; exact h)
    simp [hp, hp2, hJ, hw, this, Port.cells, AV.eqs, AV.eq1, -zad]
    repeat refine And.intro (by intros; omega) ?_
    exact fun h1 h2 => absurd ⟨h1, h2⟩ hj2
 ·have h4 : (List.range 4).all (zgu s) = true := zaU fun j hj => hq j (by omega)
  refine zaa rfl (fun vs => ∃ i : Nat, i ≤ 2 ∧ vs = [I i] ∧ ∀ j, j < i → zmb s j = true) (fun vs => match vs with | [.int _ j] => 2 - j.toNat | _ => 0) ⟨0, by omega, by simp, fun j hj => by omega⟩ ?_
  rintro vs - ⟨m, hm, rfl, hqm⟩
  simp [-zad]
  refine ⟨fun hlt => ?_, fun hge => ?_⟩
  ·have hw := zab (i := m) (by omega)
   have hm2 : m < 2 := by omega
   have hC := aidxC s (i := m) (z := (m : Int)) rfl hm2
   simp only [Sec.cells] at hC
   simp [hC, -zad]
   repeat refine And.intro (by intros; omega) ?_
   refine zai (avs := [U s.kind]) (I (ways s.kind)) rfl (fun _ => ⟨by simp, zdR _⟩) (fun _ => rfl) ?_
   simp [hC, -zad]
   repeat refine And.intro (by intros; omega) ?_
   have hce : zmb s m = ((decide (0 ≤ s.cls m) && decide (s.cls m ≤ 3)) && (decide ((m : Int) < ways s.kind) || decide (s.cls m = 0))) := rfl
   refine ⟨fun hb => ?_, fun h1 h2 h3 => ⟨⟨m + 1, by omega, hw, fun j hj => ?_⟩, by omega⟩⟩
   ·have hk : zmb s m = false := by
     rw [hce]
     rcases hb with (hb | hb) | ⟨hb, hb2⟩
     ·simp [show ¬ 0 ≤ s.cls m by omega]
     ·simp [show ¬ s.cls m ≤ 3 by omega]
     ·simp [show ¬ (m : Int) < ways s.kind by omega, hb2]
    simp [ziu, h4, zbc hm2 hk]
   ·by_cases hjm : j = m
    ·subst hjm
     rw [hce]
     by_cases hw2 : (j : Int) < ways s.kind
     ·simp [h1, h2, hw2]
     ·simp [h1, h2, h3 (by omega)]
    ·exact hqm j (by omega)
  ·have h2 : (List.range 2).all (zmb s) = true := zaU fun j hj => hqm j (by omega)
   refine call (zbQ s.kind) (by simp) (fun _ => rfl) ?_
   simp [ziu, h4, h2]
end Go.Lb.LK
namespace Go.Lb.LK
open Go Go.Lb Go.Proofs Go.RowKit
def zlz : Sec := ⟨0, ⟨0, 0⟩, ⟨0, 0⟩, ⟨0, 0⟩, ⟨0, 0⟩, 0, 0⟩
def zhD (l : Lay) (p : Port) : Sec := if hasP l p = true then (l.secs[p.s.toNat]?).getD zlz else zlz
theorem zl3 (l : Lay) (p : Port) : C f_lockbarref06_At [l.av, p.av] (.tup [(zhD l p).av, .bool (hasP l p)]) := by
 refine ctr (l.cells ++ p.cells) run_lockbarref06_At rfl (by simp [zac]) (by simp [AV.pure, AV.pureAll]) ?_ rfl
 unfold rt_lockbarref06_At
 simp [Lay.cells, Port.cells]
 by_cases hc : 0 ≤ p.s ∧ p.s < l.secs.length
 ·obtain ⟨n, hn, hlt, he⟩ := zbs hc.1 hc.2
  have hls : hasP l p = (decide (0 ≤ p.p) && decide (p.p < zaT l.secs[n].kind)) := by simp [hasP, he]
  have h1 : ¬ ((n : Int) < 0) := by omega
  have h2 : ¬ (l.secs.length ≤ n) := by omega
  simp [hn, hlt, h1, h2, Sec.cells]
  refine zai (avs := [U l.secs[n].kind]) (I (zaT l.secs[n].kind)) rfl (fun _ => ⟨by simp [hlt, Sec.cells], zbQ _⟩) (fun _ => rfl) ?_
  by_cases h0 : p.p < 0
  ·have hx : hasP l p = false := by rw [hls]; simp [show ¬ 0 ≤ p.p by omega]
   simp [h0, hlt, hx, zhD, zlz, Sec.cells]
  ·by_cases h3 : zaT l.secs[n].kind ≤ p.p
   ·have hx : hasP l p = false := by rw [hls]; simp [show ¬ p.p < zaT l.secs[n].kind by omega]
    simp [h0, h3, hlt, hx, zhD, zlz, Sec.cells]
   ·have hx : hasP l p = true := by rw [hls]; simp [show 0 ≤ p.p by omega, show p.p < zaT l.secs[n].kind by omega]
    simp [h0, h3, hlt, hx, zhD, hn, Sec.cells]
 ·have hls : hasP l p = false := by simp [hasP, zbI hc]
  have hbad : p.s < 0 ∨ (l.secs.length : Int) ≤ p.s := by omega
  refine ⟨fun a b => absurd ⟨a, b⟩ hc, fun a b => absurd ⟨a, b⟩ hc, ?_⟩
  refine zai (avs := []) (I 0) rfl (fun hh => ?_) (fun _ => rfl) ?_
  ·simp at hh; omega
  ·by_cases h0 : p.s < 0
   ·simp [h0, hls, zhD, zlz, Sec.cells]
   ·have h1 := hbad.resolve_left h0
    simp [h0, h1, hls, zhD, zlz, Sec.cells]
theorem zed (l : Lay) (p : Port) : C f_lockbarref06_there [l.av, p.av] (.bool (hasP l p)) := by
 refine ctr (l.cells ++ p.cells) run_lockbarref06_there rfl (by simp [zac]) rfl ?_ rfl
 unfold rt_lockbarref06_there
 simp [Lay.cells, Port.cells]
 refine call (zl3 l p) (by simp [Lay.cells, Port.cells]) (by simp) ?_
 simp [Sec.cells]
def zje (l : Lay) (s : Sec) (j : Nat) : Bool := !decide (0 ≤ (s.join j).s) || hasP l (s.join j)
def zlK (l : Lay) (s : Sec) : Bool := (List.range 4).all (zje l s) && ziu s
theorem zhS (l : Lay) (s : Sec) : C f_lockbarref06_section [l.av, s.av] (.bool (zlK l s)) := by
 refine ctr (l.cells ++ s.cells) run_lockbarref06_section rfl (by simp [zac]) rfl ?_ rfl
 unfold rt_lockbarref06_section
 simp [Lay.cells, Sec.cells, -zad]
 refine zaa rfl (fun vs => ∃ i : Nat, i ≤ 4 ∧ vs = [I i] ∧ ∀ j, j < i → zje l s j = true) (fun vs => match vs with | [.int _ j] => 4 - j.toNat | _ => 0) ⟨0, by omega, by simp, fun j hj => by omega⟩ ?_
 rintro vs - ⟨i, hi, rfl, hq⟩
 simp [-zad]
 refine ⟨fun hlt => ?_, fun hge => ?_⟩
 ·have hw := zab (i := i) (by omega)
  have hi4 : i < 4 := by omega
  have hJ := zog s (i := i) (z := (i : Int)) rfl hi4
  have hJs := zpt s (i := i) (z := (i : Int)) rfl hi4
  simp only [Sec.cells] at hJ hJs
  simp [hJ, hJs, -zad]
  repeat refine And.intro (by intros; omega) ?_
  refine zai (avs := [l.av, (s.join i).av]) (.bool (hasP l (s.join i))) rfl (fun _ => ⟨by simp [hJ, Lay.cells, -zad], zed _ _⟩) (fun _ => rfl) ?_
  simp [hJ, hJs, -zad]
  repeat refine And.intro (by intros; omega) ?_
  have hje : zje l s i = (!decide (0 ≤ (s.join i).s) || hasP l (s.join i)) := rfl
  refine ⟨fun h1 h2 => ?_, fun h1 => ⟨⟨i + 1, by omega, hw, fun j hj => ?_⟩, by omega⟩⟩
  ·have : zje l s i = false := by rw [hje]; simp [h1, h2]
   simp [zlK, zbc hi4 this]
  ·by_cases hji : j = i
   ·subst hji
    rw [hje]
    by_cases h0 : 0 ≤ (s.join j).s
    ·simp [h1 h0]
    ·simp [h0]
   ·exact hq j (by omega)
 ·have h4 : (List.range 4).all (zje l s) = true := zaU fun j hj => hq j (by omega)
  refine call (zgf s) (by simp [Sec.cells]) (fun _ => rfl) ?_
  simp [zlK, h4]
def zhm (l : Lay) (x : Exi) : Bool := x.over.all (fun t => (zbl l t).2) && (hasP l x.a && decide (x.over.length ≤ 2))
theorem zlh (l : Lay) (x : Exi) (hx : x.over.length ≤ 1000) : C f_lockbarref06_exit [l.av, x.av] (.bool (zhm l x)) := by
 refine ctr (l.cells ++ x.cells) run_lockbarref06_exit rfl (by simp [zac]) rfl ?_ rfl
 unfold rt_lockbarref06_exit
 simp [Lay.cells, Exi.cells]
 refine zaa rfl (fun vs => ∃ i : Nat, i ≤ x.over.length ∧ vs = [I i] ∧ zaj (fun t => !(zbl l t).2) (x.over.take i)) (fun vs => match vs with | [.int _ j] => x.over.length - j.toNat | _ => 0) ⟨0, by omega, by simp, rfl⟩ ?_
 rintro vs - ⟨i, hi, rfl, hq⟩
 simp
 refine ⟨fun hlt => ?_, fun hge => ?_⟩
 ·have hw := zab (i := i) (by omega)
  simp [hlt, Step.cells]
  refine call (zcT l x.over[i]) (by simp [Lay.cells, hlt, Step.cells]) (by simp) ?_
  cases hs : (zbl l x.over[i]).2
  ·have : x.over.all (fun t => (zbl l t).2) = false := by
    rw [List.all_eq_false]
    exact ⟨x.over[i], List.getElem_mem hlt, by rw [hs]; simp⟩
   simp [hs, zhm, this]
  ·simp [hs, hw]
   exact ⟨⟨i + 1, by omega, by omega, zah hlt hq (by simp [hs])⟩, by omega⟩
 ·have ht : x.over.take i = x.over := List.take_of_length_le (by omega)
  rw [ht] at hq
  have hall : x.over.all (fun t => (zbl l t).2) = true := by
   rw [List.all_eq_true]
   intro t ht
   have := List.any_eq_false.1 hq t ht
   simpa using this
  refine call (zed l x.a) (by simp [Lay.cells, Port.cells]) (fun _ => rfl) ?_
  simp [zhm, hall]
  have e : decide ((x.over.length : Int) ≤ 2) = decide (x.over.length ≤ 2) := decide_eq_decide.2 (by omega)
  simp [e]
def zc8 (l : Lay) (f : Flank) : Bool := match zgL l f.s, zgL l f.point with
 | some a, some b => (!decide (f.s = f.point) && decide (0 ≤ f.pos ∧ f.pos ≤ 1)) && (decide (0 ≤ f.way) && (decide (f.way < ways a.kind) && decide (b.kind = 2)))
 | _, _ => false
theorem zj2 (l : Lay) (f : Flank) : C f_lockbarref06_flank [l.av, f.av] (.bool (zc8 l f)) := by
 refine ctr (l.cells ++ f.cells) run_lockbarref06_flank rfl (by simp [zac]) rfl ?_ rfl
 unfold rt_lockbarref06_flank
 simp [Lay.cells, Flank.cells]
 have hout : ¬ ((0 ≤ f.s ∧ f.s < l.secs.length) ∧ (0 ≤ f.point ∧ f.point < l.secs.length)) → zc8 l f = false := fun h => by
  unfold zc8
  by_cases h1 : 0 ≤ f.s ∧ f.s < l.secs.length
  ·have h2 : zgL l f.point = none := zbI fun h2 => h ⟨h1, h2⟩
   rw [h2]
   split
   ·rename_i hb; cases hb
   ·rfl
  ·rw [zbI h1]
 refine ⟨fun hb => ?_, fun h1 h2 h3 h4 h5 h6 h7 => ?_⟩
 ·by_cases hin : (0 ≤ f.s ∧ f.s < l.secs.length) ∧ (0 ≤ f.point ∧ f.point < l.secs.length)
  ·obtain ⟨n, hn, hlt, he⟩ := zbs hin.1.1 hin.1.2
   obtain ⟨m, hm, hlm, hf⟩ := zbs hin.2.1 hin.2.2
   have hx : f.s = f.point ∨ ¬ (0 ≤ f.pos ∧ f.pos ≤ 1) := by omega
   unfold zc8
   rw [he, hf]
   rcases hx with hx | hx
   ·simp [hx]
   ·simp [hx]
  ·exact hout hin
 ·obtain ⟨n, hn, hlt, he⟩ := zbs h1 h2
  obtain ⟨m, hm, hlm, hf⟩ := zbs h3 h4
  have hval : zc8 l f = (decide (0 ≤ f.way) && (decide (f.way < ways l.secs[n].kind) && decide (l.secs[m].kind = 2))) := by
   unfold zc8
   rw [he, hf]
   simp [h5, h6, h7]
  simp [hn, hm, hlt, hlm, Sec.cells]
  refine zai (avs := [U l.secs[n].kind]) (I (ways l.secs[n].kind)) rfl (fun _ => ⟨by simp [hlt, Sec.cells], zdR _⟩) (fun _ => rfl) ?_
  simp [hlm, Sec.cells, hval, Bool.and_assoc]
  by_cases hk : l.secs[m].kind = 2 <;> simp [hk]
def Lay.time (l : Lay) (i : Nat) : Int := if i = 0 then l.clear else if i = 1 then l.drive else if i = 2 then l.stale else if i = 3 then l.approach else if i = 4 then l.over else if i = 5 then l.press else l.link
def zla (l : Lay) (i : Nat) : Bool := decide (1 ≤ l.time i) && decide (l.time i ≤ 1000)
def zkA (l : Lay) : Bool := (List.range 7).all (zla l)
def zbD (l : Lay) : List AV := [I l.clear, I l.drive, I l.stale, I l.approach, I l.over, I l.press, I l.link]
theorem aidxT (l : Lay) {i : Nat} {z : Int} (hz : z = i) (h : i < 7) : pv (.aidx 7 1 0 1 false) [.agg (zbD l), I z] = I (l.time i) := by
 subst hz
 match i, h with
 | 0, _ => rfl
 | 1, _ => rfl
 | 2, _ => rfl
 | 3, _ => rfl
 | 4, _ => rfl
 | 5, _ => rfl
 | 6, _ => rfl
theorem zj3 (l : Lay) : C f_lockbarref06_times [.agg (zbD l)] (.bool (zkA l)) := by
 refine ctr (zbD l) run_lockbarref06_times rfl (by simp [zbD, AV.pureAll, AV.pure]) rfl ?_ rfl
 unfold rt_lockbarref06_times
 simp [zbD, -zad]
 refine zaa rfl (fun vs => ∃ i : Nat, i ≤ 7 ∧ vs = [I i] ∧ ∀ j, j < i → zla l j = true) (fun vs => match vs with | [.int _ j] => 7 - j.toNat | _ => 0) ⟨0, by omega, by simp, fun j hj => by omega⟩ ?_
 rintro vs - ⟨i, hi, rfl, hq⟩
 simp [-zad]
 refine ⟨fun hlt => ?_, fun hge => ?_⟩
 ·have hw := zab (i := i) (by omega)
  have hi7 : i < 7 := by omega
  have hT := aidxT l (i := i) (z := (i : Int)) rfl hi7
  simp only [zbD] at hT
  simp [hT, -zad]
  repeat refine And.intro (by intros; omega) ?_
  have hte : zla l i = (decide (1 ≤ l.time i) && decide (l.time i ≤ 1000)) := rfl
  by_cases hb : 1 ≤ l.time i ∧ l.time i ≤ 1000
  ·left
   refine ⟨hb, ⟨i + 1, by omega, hw, fun j hj => ?_⟩, by omega⟩
   by_cases hji : j = i
   ·subst hji; rw [hte]; simp [hb.1, hb.2]
   ·exact hq j (by omega)
  ·right
   refine ⟨by omega, ?_⟩
   have : zla l i = false := by
    rw [hte]
    by_cases h1 : 1 ≤ l.time i
    ·simp [show ¬ l.time i ≤ 1000 by omega]
    ·simp [h1]
   exact zbc hi7 this
 ·exact zaU fun j hj => hq j (by omega)
structure Lay.lens (l : Lay) : Prop where
 secs : l.secs.length ≤ 1000
 sigs : l.sigs.length ≤ 1000
 exits : l.exits.length ≤ 1000
 flanks : l.flanks.length ≤ 1000
 over : ∀ e ∈ l.exits, e.over.length ≤ 1000
def zgv (l : Lay) : Bool := l.secs.all (zlK l) && (l.sigs.all (hasP l) && (l.exits.all (zhm l) && (l.flanks.all (zc8 l) &&
 (decide (l.secs.length ≤ 24) && (decide (l.sigs.length ≤ 12) && (decide (l.exits.length ≤ 12) && (decide (l.flanks.length ≤ 16) && zkA l)))))))
theorem zhO {α : Type} {q : α → Bool} {l : List α} {i : Nat} (hi : i < l.length) (hq : q l[i] = false) : l.all q = false := by
 rw [List.all_eq_false]
 exact ⟨l[i], List.getElem_mem hi, by rw [hq]; simp⟩
theorem zfZ {α : Type} {q : α → Bool} {l : List α} (h : zaj (fun x => !q x) l) : l.all q = true := by
 rw [List.all_eq_true]
 intro x hx
 have := List.any_eq_false.1 h x hx
 simpa using this
theorem zgh (l : Lay) (hl : l.lens) : C f_lockbarref06_Right [l.av] (.bool (zgv l)) := by
 obtain ⟨b1, b2, b3, b4, b5⟩ := hl
 refine ctr l.cells run_lockbarref06_Right rfl (by simp) rfl ?_ rfl
 unfold rt_lockbarref06_Right
 simp [Lay.cells]
 refine zaa rfl (fun vs => ∃ i : Nat, i ≤ l.secs.length ∧ vs = [I i] ∧ zaj (fun t => !zlK l t) (l.secs.take i)) (fun vs => match vs with | [.int _ j] => l.secs.length - j.toNat | _ => 0) ⟨0, by omega, by simp, rfl⟩ ?_
 rintro vs - ⟨i, hi, rfl, hq1⟩
 simp
 refine ⟨fun hlt => ?_, fun hge => ?_⟩
 ·have hw := zab (i := i) (by omega)
  simp [hlt, Sec.cells]
  refine call (zhS l l.secs[i]) (by simp [Lay.cells, hlt, Sec.cells]) (fun _ => rfl) ?_
  cases hs : zlK l l.secs[i]
  ·simp [zgv, zhO hlt hs]
  ·simp [hw]
   exact ⟨⟨i + 1, by omega, by omega, zah hlt hq1 (by simp [hs])⟩, by omega⟩
 rw [List.take_of_length_le (by omega)] at hq1
 refine zaa rfl (fun vs => ∃ i : Nat, i ≤ l.sigs.length ∧ vs = [I i] ∧ zaj (fun t => !hasP l t) (l.sigs.take i)) (fun vs => match vs with | [.int _ j] => l.sigs.length - j.toNat | _ => 0) ⟨0, by omega, by simp, rfl⟩ ?_
 rintro vs - ⟨i, hi, rfl, hq2⟩
 simp
 refine ⟨fun hlt => ?_, fun hge => ?_⟩
 ·have hw := zab (i := i) (by omega)
  simp [hlt, Port.cells]
  refine call (zed l l.sigs[i]) (by simp [Lay.cells, hlt, Port.cells]) (fun _ => rfl) ?_
  cases hs : hasP l l.sigs[i]
  ·simp [zgv, zhO hlt hs]
  ·simp [hw]
   exact ⟨⟨i + 1, by omega, by omega, zah hlt hq2 (by simp [hs])⟩, by omega⟩
 rw [List.take_of_length_le (by omega)] at hq2
 refine zaa rfl (fun vs => ∃ i : Nat, i ≤ l.exits.length ∧ vs = [I i] ∧ zaj (fun t => !zhm l t) (l.exits.take i)) (fun vs => match vs with | [.int _ j] => l.exits.length - j.toNat | _ => 0) ⟨0, by omega, by simp, rfl⟩ ?_
 rintro vs - ⟨i, hi, rfl, hq3⟩
 simp
 refine ⟨fun hlt => ?_, fun hge => ?_⟩
 ·have hw := zab (i := i) (by omega)
  simp [hlt, Exi.cells]
  refine call (zlh l l.exits[i] (b5 _ (List.getElem_mem hlt))) (by simp [Lay.cells, hlt, Exi.cells]) (fun _ => rfl) ?_
  cases hs : zhm l l.exits[i]
  ·simp [zgv, zhO hlt hs]
  ·simp [hw]
   exact ⟨⟨i + 1, by omega, by omega, zah hlt hq3 (by simp [hs])⟩, by omega⟩
 rw [List.take_of_length_le (by omega)] at hq3
 refine zaa rfl (fun vs => ∃ i : Nat, i ≤ l.flanks.length ∧ vs = [I i] ∧ zaj (fun t => !zc8 l t) (l.flanks.take i)) (fun vs => match vs with | [.int _ j] => l.flanks.length - j.toNat | _ => 0) ⟨0, by omega, by simp, rfl⟩ ?_
 rintro vs - ⟨i, hi, rfl, hq4⟩
 simp
 refine ⟨fun hlt => ?_, fun hge => ?_⟩
 ·have hw := zab (i := i) (by omega)
  simp [hlt, Flank.cells]
  refine call (zj2 l l.flanks[i]) (by simp [Lay.cells, hlt, Flank.cells]) (fun _ => rfl) ?_
  cases hs : zc8 l l.flanks[i]
  ·simp [zgv, zhO hlt hs]
  ·simp [hw]
   exact ⟨⟨i + 1, by omega, by omega, zah hlt hq4 (by simp [hs])⟩, by omega⟩
 rw [List.take_of_length_le (by omega)] at hq4
 have e1 : decide ((l.secs.length : Int) ≤ 24) = decide (l.secs.length ≤ 24) := decide_eq_decide.2 (by omega)
 have e2 : decide ((l.sigs.length : Int) ≤ 12) = decide (l.sigs.length ≤ 12) := decide_eq_decide.2 (by omega)
 have e3 : decide ((l.exits.length : Int) ≤ 12) = decide (l.exits.length ≤ 12) := decide_eq_decide.2 (by omega)
 have e4 : decide ((l.flanks.length : Int) ≤ 16) = decide (l.flanks.length ≤ 16) := decide_eq_decide.2 (by omega)
 refine zai (avs := [.agg (zbD l)]) (.bool (zkA l)) rfl (fun _ => ⟨by simp [zbD], zj3 l⟩) (fun _ => rfl) ?_
 have a1 := zfZ hq1
 have a2 := zfZ hq2
 have a3 := zfZ hq3
 have a4 := zfZ hq4
 simp only [zgv, a1, a2, a3, a4, Bool.true_and]
 simp [e1, e2, e3, e4, Bool.and_assoc]
end Go.Lb.LK
namespace Go.Lb.LK
open Go Go.Lb Go.Proofs Go.RowKit
def zcI (l : Lay) (i : Nat) (s : Sec) (m : Nat) : Bool := decide (s.join m = noP) || (hasP l (s.join m) && (!decide ((s.join m).s = i) && decide (zaM l (s.join m) = ⟨i, m⟩)))
def zcA (l : Lay) (i : Nat) : Bool := match l.secs[i]? with
 | some s => ziu s && (List.range (zaT s.kind).toNat).all (zcI l i s)
 | none => true
def zc9 (l : Lay) : Bool := (List.range (min l.secs.length 24)).all (zcA l) && decide (l.secs.length ≤ 24)
theorem zjB {l : Lay} {i : Nat} (h : i < l.secs.length) : zcA l i = (ziu l.secs[i] && (List.range (zaT l.secs[i].kind).toNat).all (zcI l i l.secs[i])) := by
 simp [zcA, List.getElem?_eq_getElem h]
theorem zf4 {a b : Port} (h1 : a.s = b.s) (h2 : a.p = b.p) : a = b := by cases a; cases b; simp_all
set_option maxHeartbeats 2000000 in
theorem ziU (l : Lay) (hl : l.secs.length ≤ 1000) : C f_lockbarref07_Joined [l.av] (.bool (zc9 l)) := by
 refine ctr l.cells run_lockbarref07_Joined rfl (by simp) rfl ?_ rfl
 unfold rt_lockbarref07_Joined
 simp [Lay.cells, -zad]
 refine zaa rfl (fun vs => ∃ i : Nat, i ≤ l.secs.length ∧ i ≤ 24 ∧ vs = [I i] ∧ ∀ j, j < i → zcA l j = true) (fun vs => match vs with | [.int _ j] => l.secs.length - j.toNat | _ => 0) ⟨0, by omega, by omega, by simp, fun j hj => by omega⟩ ?_
 rintro vs - ⟨i, hi, hi24, rfl, hq⟩
 simp [-zad]
 refine ⟨fun hlt h24 => ?_, fun hge => ?_⟩
 ·have hw := zab (i := i) (by omega)
  have hsj := zjB hlt
  have hbad : zcA l i = false → zc9 l = false := fun hk => by
   have : (List.range (min l.secs.length 24)).all (zcA l) = false := zbc (i := i) (by omega) hk
   simp [zc9, this]
  simp [hlt, Sec.cells, -zad]
  refine call (zgf l.secs[i]) (by simp [hlt, Sec.cells]) (fun _ => rfl) ?_
  cases hs : ziu l.secs[i]
  ·have := hbad (by rw [hsj, hs]; rfl)
   simp [this, -zad]
  have hpk := zju l.secs[i].kind
  simp [-zad]
  refine zaa rfl (fun vs => ∃ m : Nat, m ≤ (zaT l.secs[i].kind).toNat ∧ vs = [I m] ∧ ∀ j, j < m → zcI l i l.secs[i] j = true) (fun vs => match vs with | [.int _ j] => (zaT l.secs[i].kind).toNat - j.toNat | _ => 0) ⟨0, by omega, by simp, fun j hj => by omega⟩ ?_
  rintro vs - ⟨m, hm, rfl, hqm⟩
  simp [hlt, Sec.cells, -zad]
  refine call (zbQ l.secs[i].kind) (by simp [hlt, Sec.cells]) (fun _ => rfl) ?_
  simp [-zad]
  refine ⟨fun hlm => ?_, fun hgm => ?_⟩
  ·have hwm := zab (i := m) (by omega)
   have hm4 : m < 4 := by omega
   have hJ := zog l.secs[i] (i := m) (z := (m : Int)) rfl hm4
   simp only [Sec.cells] at hJ
   simp [hlt, Sec.cells, hJ, -zad]
   refine ⟨by omega, ⟨by omega, by omega⟩, ⟨by simp [Port.cells], by simp [Port.cells]⟩, ?_⟩
   have hje : zcI l i l.secs[i] m = (decide (l.secs[i].join m = noP) || (hasP l (l.secs[i].join m) && (!decide ((l.secs[i].join m).s = i) && decide (zaM l (l.secs[i].join m) = ⟨i, m⟩)))) := rfl
   have hgood : zcI l i l.secs[i] m = true → ∀ j, j < m + 1 → zcI l i l.secs[i] j = true := fun hk j hj => by
    by_cases hjm : j = m
    ·subst hjm; exact hk
    ·exact hqm j (by omega)
   have hbad2 : zcI l i l.secs[i] m = false → zc9 l = false := fun hk => hbad (by rw [hsj, zbc (i := m) (by omega) hk]; simp)
   refine call zhc rfl (by simp) ?_
   generalize l.secs[i].join m = q at hje hJ ⊢
   simp [Port.cells, hlt, Sec.cells, hJ, -zad]
   refine zai (avs := [l.av, q.av]) (.bool (hasP l q)) rfl (fun _ => ⟨by simp [Lay.cells, Port.cells, hlt, Sec.cells, hJ, -zad], ziT l q⟩) (fun _ => rfl) ?_
   simp [Port.cells, hlt, Sec.cells, hJ, -zad]
   refine zai (avs := [l.av, q.av]) (zaM l q).av (by simp [AV.pure]) (fun _ => ⟨by simp [Lay.cells, Port.cells, hlt, Sec.cells, hJ, -zad], zdq l q⟩) (by simp) ?_
   simp [Port.cells, hlt, Sec.cells, hJ, -zad]
   have hne : ¬ q = noP ↔ (¬ q.s = noP.s ∨ ¬ q.p = noP.p) := by
    constructor
    ·intro h
     by_cases h1 : q.s = noP.s
     ·exact .inr fun h2 => h (zf4 h1 h2)
     ·exact .inl h1
    ·rintro (h | h) rfl <;> exact h rfl
   have hbe : zaM l q = ⟨(i : Int), (m : Int)⟩ ↔ (zaM l q).s = i ∧ (zaM l q).p = m := by
    constructor
    ·intro h; rw [h]; exact ⟨rfl, rfl⟩
    ·rintro ⟨h1, h2⟩; exact zf4 h1 h2
   rw [← hne]
   refine ⟨fun h1 h2 => hbad2 ?_, fun h1 => ⟨⟨m + 1, by omega, hwm, hgood ?_⟩, by rw [hwm]; omega⟩⟩
   ·rw [hje]
    rcases h2 with (h2 | h2) | h2
    ·simp [h1, h2]
    ·simp [h1, h2]
    ·have : ¬ zaM l q = ⟨(i : Int), (m : Int)⟩ := fun h => by
      rw [hbe] at h
      rcases h2 with h2 | h2
      ·exact h2 h.1
      ·exact h2 h.2
     simp [h1, this]
   ·rw [hje]
    by_cases hq0 : q = noP
    ·simp [hq0]
    ·obtain ⟨⟨h2, h3⟩, h4⟩ := h1 hq0
     rw [decide_eq_true (hbe.2 h4)]
     simp [h2, h3]
  ·have hall : (List.range (zaT l.secs[i].kind).toNat).all (zcI l i l.secs[i]) = true := zaU fun j hj => hqm j (by omega)
   simp [hw, -zad]
   refine ⟨⟨i + 1, by omega, by omega, by omega, fun j hj => ?_⟩, by omega⟩
   by_cases hji : j = i
   ·subst hji; rw [hsj, hs, hall]; rfl
   ·exact hq j (by omega)
 ·have e : decide ((l.secs.length : Int) ≤ 24) = decide (l.secs.length ≤ 24) := decide_eq_decide.2 (by omega)
  have hall : (List.range (min l.secs.length 24)).all (zcA l) = true := zaU fun j hj => hq j (by
   by_cases h : i < l.secs.length
   ·have := hge h; omega
   ·omega)
  simp [zc9, hall, e]
end Go.Lb.LK
namespace Go.Lb.LK
open Go Go.Lb Go.Proofs Go.RowKit
def zdu {α : Type} (same : α → α → Bool) (l : List α) (k : Nat) : Bool := match l[k]? with
 | some x => (l.take k).any fun y => same y x
 | none => false
def zap {α : Type} (same : α → α → Bool) (l : List α) : Int := match (List.range l.length).find? (zdu same l) with
 | some k => k
 | none => -1
theorem zh3 {α : Type} {same : α → α → Bool} {l : List α} {k : Nat} (h : k < l.length) : zdu same l k = (l.take k).any fun y => same y l[k] := by
 simp [zdu, List.getElem?_eq_getElem h]
theorem zdz {α : Type} {same : α → α → Bool} {l : List α} {k : Nat} (h : k < l.length) (hq : ∀ j, j < k → zdu same l j = false) (hk : zdu same l k = true) : zap same l = k := by
 have hr : k < (List.range l.length).length := by simpa using h
 have : (List.range l.length).find? (zdu same l) = some ((List.range l.length)[k]) := zcG hr (by
  refine List.any_eq_false.2 fun x hx => ?_
  obtain ⟨j, hj, rfl⟩ := List.mem_take_iff_getElem.1 hx
  simp only [List.getElem_range]
  rw [hq j (by omega)]; simp) (by simpa using hk)
 simp [zap, this]
theorem zc7 {α : Type} {same : α → α → Bool} {l : List α} (hq : ∀ j, j < l.length → zdu same l j = false) : zap same l = -1 := by
 have : (List.range l.length).find? (zdu same l) = none := by
  rw [List.find?_eq_none]
  intro x hx
  rw [hq x (List.mem_range.1 hx)]; simp
 simp [zap, this]
def zb3 (a b : Port) : Bool := decide (a = b)
def zdM (a b : Exi) : Bool := decide (a.a = b.a)
def zdL (a b : Flank) : Bool := decide (a.s = b.s ∧ a.way = b.way ∧ a.point = b.point)
theorem zhT (l : Lay) (hl : l.sigs.length ≤ 1000) : C f_lockbarref09_signals [l.av] (I (zap zb3 l.sigs)) := by
 refine ctr l.cells run_lockbarref09_signals rfl (by simp) rfl ?_ rfl
 unfold rt_lockbarref09_signals
 simp [Lay.cells]
 refine zaa rfl (fun vs => ∃ i : Nat, i ≤ l.sigs.length ∧ vs = [I i] ∧ ∀ j, j < i → zdu zb3 l.sigs j = false) (fun vs => match vs with | [.int _ j] => l.sigs.length - j.toNat | _ => 0) ⟨0, by omega, by simp, fun j hj => by omega⟩ ?_
 rintro vs - ⟨i, hi, rfl, hq⟩
 simp
 refine ⟨fun hlt => ?_, fun hge => ?_⟩
 ·have hw := zab (i := i) (by omega)
  have hdl := zh3 (same := zb3) hlt
  refine zaa rfl (fun vs => ∃ m : Nat, m ≤ i ∧ vs = [I m] ∧ zaj (fun y => zb3 y l.sigs[i]) (l.sigs.take m)) (fun vs => match vs with | [.int _ j] => i - j.toNat | _ => 0) ⟨0, by omega, by simp, rfl⟩ ?_
  rintro vs - ⟨m, hm, rfl, hp⟩
  simp
  refine ⟨fun hlm => ?_, fun hgm => ?_⟩
  ·have hml : m < l.sigs.length := by omega
   have hwm := zab (i := m) (by omega)
   have hpe := zdX l.sigs[m] l.sigs[i]
   simp only [Port.cells] at hpe
   simp [hlt, hml, Port.cells, hpe, hwm]
   cases hs : zb3 l.sigs[m] l.sigs[i]
   ·have hs2 : ¬ (l.sigs[m] = l.sigs[i]) := by simpa [zb3] using hs
    have hx := zah hml hp hs
    simp [hs2]
    try exact ⟨⟨m + 1, by omega, by omega, hx⟩, by omega⟩
   ·have hs2 : l.sigs[m] = l.sigs[i] := by simpa [zb3] using hs
    have hd : zdu zb3 l.sigs i = true := by rw [hdl]; exact zbO (i := m) (by rw [List.length_take]; omega) (by simpa using hs)
    simp [hs2, zdz hlt hq hd]
  ·have hmi : m = i := by omega
   subst hmi
   have hd : zdu zb3 l.sigs m = false := by rw [hdl]; exact hp
   simp [hw]
   refine ⟨⟨m + 1, by omega, by omega, fun j hj => ?_⟩, by omega⟩
   by_cases hjm : j = m
   ·subst hjm; exact hd
   ·exact hq j (by omega)
 ·rw [zc7 fun j hj => hq j (by omega)]
theorem zj6 (l : Lay) (hl : l.exits.length ≤ 1000) : C f_lockbarref09_exits [l.av] (I (zap zdM l.exits)) := by
 refine ctr l.cells run_lockbarref09_exits rfl (by simp) rfl ?_ rfl
 unfold rt_lockbarref09_exits
 simp [Lay.cells]
 refine zaa rfl (fun vs => ∃ i : Nat, i ≤ l.exits.length ∧ vs = [I i] ∧ ∀ j, j < i → zdu zdM l.exits j = false) (fun vs => match vs with | [.int _ j] => l.exits.length - j.toNat | _ => 0) ⟨0, by omega, by simp, fun j hj => by omega⟩ ?_
 rintro vs - ⟨i, hi, rfl, hq⟩
 simp
 refine ⟨fun hlt => ?_, fun hge => ?_⟩
 ·have hw := zab (i := i) (by omega)
  have hdl := zh3 (same := zdM) hlt
  refine zaa rfl (fun vs => ∃ m : Nat, m ≤ i ∧ vs = [I m] ∧ zaj (fun y => zdM y l.exits[i]) (l.exits.take m)) (fun vs => match vs with | [.int _ j] => i - j.toNat | _ => 0) ⟨0, by omega, by simp, rfl⟩ ?_
  rintro vs - ⟨m, hm, rfl, hp⟩
  simp
  refine ⟨fun hlm => ?_, fun hgm => ?_⟩
  ·have hml : m < l.exits.length := by omega
   have hwm := zab (i := m) (by omega)
   have hpe := zdX l.exits[m].a l.exits[i].a
   simp only [Port.cells] at hpe
   simp [hlt, hml, Exi.cells, hpe, hwm]
   cases hs : zdM l.exits[m] l.exits[i]
   ·have hs2 : ¬ (l.exits[m].a = l.exits[i].a) := by simpa [zdM] using hs
    have hx := zah hml hp hs
    simp [hs2]
    try exact ⟨⟨m + 1, by omega, by omega, hx⟩, by omega⟩
   ·have hs2 : l.exits[m].a = l.exits[i].a := by simpa [zdM] using hs
    have hd : zdu zdM l.exits i = true := by rw [hdl]; exact zbO (i := m) (by rw [List.length_take]; omega) (by simpa using hs)
    simp [hs2, zdz hlt hq hd]
  ·have hmi : m = i := by omega
   subst hmi
   have hd : zdu zdM l.exits m = false := by rw [hdl]; exact hp
   simp [hw]
   refine ⟨⟨m + 1, by omega, by omega, fun j hj => ?_⟩, by omega⟩
   by_cases hjm : j = m
   ·subst hjm; exact hd
   ·exact hq j (by omega)
 ·rw [zc7 fun j hj => hq j (by omega)]
theorem ziV (l : Lay) (hl : l.flanks.length ≤ 1000) : C f_lockbarref09_flanks [l.av] (I (zap zdL l.flanks)) := by
 refine ctr l.cells run_lockbarref09_flanks rfl (by simp) rfl ?_ rfl
 unfold rt_lockbarref09_flanks
 simp [Lay.cells]
 refine zaa rfl (fun vs => ∃ i : Nat, i ≤ l.flanks.length ∧ vs = [I i] ∧ ∀ j, j < i → zdu zdL l.flanks j = false) (fun vs => match vs with | [.int _ j] => l.flanks.length - j.toNat | _ => 0) ⟨0, by omega, by simp, fun j hj => by omega⟩ ?_
 rintro vs - ⟨i, hi, rfl, hq⟩
 simp
 refine ⟨fun hlt => ?_, fun hge => ?_⟩
 ·have hw := zab (i := i) (by omega)
  have hdl := zh3 (same := zdL) hlt
  refine zaa rfl (fun vs => ∃ m : Nat, m ≤ i ∧ vs = [I m] ∧ zaj (fun y => zdL y l.flanks[i]) (l.flanks.take m)) (fun vs => match vs with | [.int _ j] => i - j.toNat | _ => 0) ⟨0, by omega, by simp, rfl⟩ ?_
  rintro vs - ⟨m, hm, rfl, hp⟩
  simp
  refine ⟨fun hlm => ?_, fun hgm => ?_⟩
  ·have hml : m < l.flanks.length := by omega
   have hwm := zab (i := m) (by omega)
   simp [hlt, hml, Flank.cells, hwm]
   cases hs : zdL l.flanks[m] l.flanks[i]
   ·have hs2 : ¬ (l.flanks[m].s = l.flanks[i].s ∧ l.flanks[m].way = l.flanks[i].way ∧ l.flanks[m].point = l.flanks[i].point) := by simpa [zdL] using hs
    have hx := zah hml hp hs
    exact .inl ⟨fun h1 h2 h3 => hs2 ⟨h1, h2, h3⟩, ⟨m + 1, by omega, by omega, hx⟩, by omega⟩
   ·have hs2 : l.flanks[m].s = l.flanks[i].s ∧ l.flanks[m].way = l.flanks[i].way ∧ l.flanks[m].point = l.flanks[i].point := by simpa [zdL] using hs
    have hd : zdu zdL l.flanks i = true := by rw [hdl]; exact zbO (i := m) (by rw [List.length_take]; omega) (by simpa using hs)
    simp [hs2, zdz hlt hq hd]
  ·have hmi : m = i := by omega
   subst hmi
   have hd : zdu zdL l.flanks m = false := by rw [hdl]; exact hp
   simp [hw]
   refine ⟨⟨m + 1, by omega, by omega, fun j hj => ?_⟩, by omega⟩
   by_cases hjm : j = m
   ·subst hjm; exact hd
   ·exact hq j (by omega)
 ·rw [zc7 fun j hj => hq j (by omega)]
end Go.Lb.LK
namespace Go.Lb.LK
open Go Go.Lb Go.Proofs Go.RowKit
def zbr (x : Exi) (k : Nat) : Port := if k = 0 then x.a else match x.over[k - 1]? with
 | some t => ⟨t.s, t.o⟩
 | none => noP
def zfH (l : Lay) (x : Exi) (k : Nat) : Bool := match x.over[k]? with
 | some t => decide (zaM l (zbr x k) = ⟨t.s, t.i⟩) && (!decide (t.s = x.a.s) && !(x.over.take k).any fun u => decide (u.s = t.s))
 | none => true
def zk1 (l : Lay) (x : Exi) : Bool := (List.range x.over.length).all (zfH l x)
theorem zmR {l : Lay} {x : Exi} {k : Nat} (h : k < x.over.length) : zfH l x k = (decide (zaM l (zbr x k) = ⟨x.over[k].s, x.over[k].i⟩) && (!decide (x.over[k].s = x.a.s) && !(x.over.take k).any fun u => decide (u.s = x.over[k].s))) := by
 simp [zfH, List.getElem?_eq_getElem h]
def zgE (l : Lay) (x : Int) : Bool := zgv l && (match zhl l x with
 | some e => zk1 l e
 | none => false)
set_option maxHeartbeats 2000000 in
theorem zli (l : Lay) (hl : l.lens) (x : Int) : C f_lockbarref09_Over [l.av, I x] (.bool (zgE l x)) := by
 refine ctr (l.cells ++ [I x]) run_lockbarref09_Over rfl (by simp [zac, AV.pureAll, AV.pure]) rfl ?_ rfl
 unfold rt_lockbarref09_Over
 simp [Lay.cells]
 refine call (zgh l hl) (by simp [Lay.cells]) (fun _ => rfl) ?_
 simp
 refine ⟨fun hb => ?_, fun h1 h2 h3 => ?_⟩
 ·rcases hb with (hb | hb) | hb
  ·simp [zgE, hb]
  ·simp [zgE, zcp (l := l) (s := x) (by omega)]
  ·simp [zgE, zcp (l := l) (s := x) (by omega)]
 ·obtain ⟨n, hn, hlt, he⟩ := zdv h2 h3
  have hk := hl.over _ (List.getElem_mem hlt)
  have hval : zgE l x = zk1 l l.exits[n] := by simp [zgE, h1, he]
  rw [hval]
  have hbad : ∀ i, i < l.exits[n].over.length → zfH l l.exits[n] i = false → zk1 l l.exits[n] = false := fun i hi hk => zbc hi hk
  simp [hn, hlt, Exi.cells]
  refine zaa rfl (fun vs => ∃ i : Nat, i ≤ l.exits[n].over.length ∧ vs = [I i, I (zbr l.exits[n] i).s, I (zbr l.exits[n] i).p] ∧ ∀ j, j < i → zfH l l.exits[n] j = true) (fun vs => match vs with | [.int _ j, _, _] => l.exits[n].over.length - j.toNat | _ => 0) ⟨0, by omega, by simp [hn, hlt, Exi.cells, zbr], fun j hj => by omega⟩ ?_
  rintro vs - ⟨i, hi, rfl, hq⟩
  simp [hlt, Exi.cells]
  refine ⟨fun hli => ?_, fun hge => ?_⟩
  ·have hw := zab (i := i) (by omega)
   have ho := zmR (l := l) hli
   have hgood : zfH l l.exits[n] i = true → ∀ j, j < i + 1 → zfH l l.exits[n] j = true := fun hk j hj => by
    by_cases hji : j = i
    ·subst hji; exact hk
    ·exact hq j (by omega)
   have hfrom : zbr l.exits[n] (i + 1) = ⟨l.exits[n].over[i].s, l.exits[n].over[i].o⟩ := by
    simp [zbr, List.getElem?_eq_getElem hli]
   refine call (zdq l (zbr l.exits[n] i)) (by simp [Lay.cells, Port.cells]) (by simp) ?_
   simp [hlt, hli, Exi.cells, Step.cells, Port.cells]
   have hbe : zaM l (zbr l.exits[n] i) = ⟨l.exits[n].over[i].s, l.exits[n].over[i].i⟩ ↔ (zaM l (zbr l.exits[n] i)).s = l.exits[n].over[i].s ∧ (zaM l (zbr l.exits[n] i)).p = l.exits[n].over[i].i := by
    constructor
    ·intro h; rw [h]; exact ⟨rfl, rfl⟩
    ·rintro ⟨h1, h2⟩; exact zf4 h1 h2
   refine ⟨fun hb => hbad i hli ?_, fun g1 g2 g3 => ?_⟩
   ·rw [ho]
    rcases hb with (hb | hb) | hb
    ·have : ¬ zaM l (zbr l.exits[n] i) = ⟨l.exits[n].over[i].s, l.exits[n].over[i].i⟩ := fun h => hb (hbe.1 h).1
     simp [this]
    ·have : ¬ zaM l (zbr l.exits[n] i) = ⟨l.exits[n].over[i].s, l.exits[n].over[i].i⟩ := fun h => hb (hbe.1 h).2
     simp [this]
    ·simp [hb]
   ·have g0 := hbe.2 ⟨g1, g2⟩
    refine zaa rfl (fun vs => ∃ m : Nat, m ≤ i ∧ vs = [I m] ∧ zaj (fun u => decide (u.s = l.exits[n].over[i].s)) (l.exits[n].over.take m)) (fun vs => match vs with | [.int _ j] => i - j.toNat | _ => 0) ⟨0, by omega, by simp, rfl⟩ ?_
    rintro vs - ⟨m, hm, rfl, hp⟩
    simp
    refine ⟨fun hlm => ?_, fun hgm => ?_⟩
    ·have hml : m < l.exits[n].over.length := by omega
     have hwm := zab (i := m) (by omega)
     simp [hlt, hli, hml, Exi.cells, Step.cells, hwm]
     by_cases he2 : l.exits[n].over[m].s = l.exits[n].over[i].s
     ·right
      refine ⟨he2, hbad i hli ?_⟩
      have : ((l.exits[n].over.take i).any fun u => decide (u.s = l.exits[n].over[i].s)) = true := zbO (i := m) (by rw [List.length_take]; omega) (by simpa using he2)
      rw [ho, this]; simp
     ·left
      exact ⟨he2, ⟨m + 1, by omega, by omega, zah hml hp (by simpa using he2)⟩, by omega⟩
    ·have hmi : m = i := by omega
     subst hmi
     have hk : zfH l l.exits[n] m = true := by
      rw [ho, g0, decide_eq_true rfl, hp]
      simp [g3]
     simp [hlt, hli, Exi.cells, Step.cells, hw]
     exact ⟨⟨m + 1, by omega, ⟨by omega, by rw [hfrom], by rw [hfrom]⟩, hgood hk⟩, by omega⟩
  ·have : zk1 l l.exits[n] = true := zaU fun j hj => hq j (by omega)
   simp [this]
def zbH (l : Lay) : Int := match (List.range l.exits.length).find? (fun i : Nat => !zgE l i) with
 | some k => k
 | none => -1
theorem zj7 (l : Lay) (hl : l.lens) : C f_lockbarref09_overs [l.av] (I (zbH l)) := by
 have hb := hl.exits
 refine ctr l.cells run_lockbarref09_overs rfl (by simp) rfl ?_ rfl
 unfold rt_lockbarref09_overs
 simp [Lay.cells]
 refine zaa rfl (fun vs => ∃ i : Nat, i ≤ l.exits.length ∧ vs = [I i] ∧ ∀ j, j < i → zgE l j = true) (fun vs => match vs with | [.int _ j] => l.exits.length - j.toNat | _ => 0) ⟨0, by omega, by simp, fun j hj => by omega⟩ ?_
 rintro vs - ⟨i, hi, rfl, hq⟩
 simp
 refine ⟨fun hlt => ?_, fun hge => ?_⟩
 ·have hw := zab (i := i) (by omega)
  refine call (zli l hl i) (by simp [Lay.cells]) (fun _ => rfl) ?_
  cases ho : zgE l i
  ·have hr : i < (List.range l.exits.length).length := by simpa using hlt
   have : (List.range l.exits.length).find? (fun i : Nat => !zgE l i) = some ((List.range l.exits.length)[i]) := zcG hr (by
    refine List.any_eq_false.2 fun x hx => ?_
    obtain ⟨j, hj, rfl⟩ := List.mem_take_iff_getElem.1 hx
    simp only [List.getElem_range]
    rw [hq j (by omega)]; simp) (by simp [ho])
   simp [zbH, this]
  ·simp [hw]
   refine ⟨⟨i + 1, by omega, by omega, fun j hj => ?_⟩, by omega⟩
   by_cases hji : j = i
   ·subst hji; exact ho
   ·exact hq j (by omega)
 ·have : (List.range l.exits.length).find? (fun i : Nat => !zgE l i) = none := by
   rw [List.find?_eq_none]
   intro x hx
   rw [hq x (by have := List.mem_range.1 hx; omega)]; simp
  simp [zbH, this]
def zgU (l : Lay) : Bool := zgv l && (zc9 l && (decide (zap zb3 l.sigs < 0) && (decide (zap zdM l.exits < 0) && (decide (zbH l < 0) && decide (zap zdL l.flanks < 0)))))
def zde (a b c d : Int) (i : Nat) : Int := if i = 0 then a else if i = 1 then b else if i = 2 then c else d
theorem aidx4 (a b c d : Int) {i : Nat} {z : Int} (hz : z = i) (h : i < 4) : pv (.aidx 4 1 0 1 false) [.agg [I a, I b, I c, I d], I z] = I (zde a b c d i) := by
 subst hz
 match i, h with
 | 0, _ => rfl
 | 1, _ => rfl
 | 2, _ => rfl
 | 3, _ => rfl
def ziB (l : Lay) : Int × Int × Int :=
 if zgv l = false then (0, 0, 60) else if zc9 l = false then (1, 0, 90) else
 match (List.range 4).find? (fun i => decide (0 ≤ zde (zap zb3 l.sigs) (zap zdM l.exits) (zbH l) (zap zdL l.flanks) i)) with
 | some i => (i + 2, zde (zap zb3 l.sigs) (zap zdM l.exits) (zbH l) (zap zdL l.flanks) i, 90)
 | none => (0, 0, 0)
set_option maxHeartbeats 2000000 in
theorem zj4 (l : Lay) (hl : l.lens) : C f_lockbarref09_Check [l.av] (.tup [I (ziB l).1, I (ziB l).2.1, I (ziB l).2.2]) := by
 refine ctr l.cells run_lockbarref09_Check rfl (by simp) rfl ?_ rfl
 unfold rt_lockbarref09_Check
 simp [Lay.cells, -zad]
 refine call (zgh l hl) (by simp [Lay.cells]) (fun _ => rfl) ?_
 cases h1 : zgv l
 ·simp [ziB, h1, -zad]
 simp [-zad]
 refine call (ziU l hl.secs) (by simp [Lay.cells]) (fun _ => rfl) ?_
 cases h2 : zc9 l
 ·simp [ziB, h1, h2, -zad]
 simp [-zad]
 refine call (zhT l hl.sigs) (by simp [Lay.cells]) (fun _ => rfl) ?_
 simp [-zad]
 refine call (zj6 l hl.exits) (by simp [Lay.cells]) (fun _ => rfl) ?_
 simp [-zad]
 refine call (zj7 l hl) (by simp [Lay.cells]) (fun _ => rfl) ?_
 simp [-zad]
 refine call (ziV l hl.flanks) (by simp [Lay.cells]) (fun _ => rfl) ?_
 simp [-zad]
 have hA := fun (i : Nat) (h : i < 4) => aidx4 (zap zb3 l.sigs) (zap zdM l.exits) (zbH l) (zap zdL l.flanks) (i := i) rfl h
 have hval : ziB l = match (List.range 4).find? (fun i => decide (0 ≤ zde (zap zb3 l.sigs) (zap zdM l.exits) (zbH l) (zap zdL l.flanks) i)) with
  | some i => ((i : Int) + 2, zde (zap zb3 l.sigs) (zap zdM l.exits) (zbH l) (zap zdL l.flanks) i, 90)
  | none => (0, 0, 0) := by simp [ziB, h1, h2]
 rw [hval]
 generalize zap zb3 l.sigs = a at *
 generalize zap zdM l.exits = b at *
 generalize zbH l = c at *
 generalize zap zdL l.flanks = d at *
 refine zaa rfl (fun vs => ∃ i : Nat, i ≤ 4 ∧ vs = [I i] ∧ ∀ j, j < i → ¬ 0 ≤ zde a b c d j) (fun vs => match vs with | [.int _ j] => 4 - j.toNat | _ => 0) ⟨0, by omega, by simp, fun j hj => by omega⟩ ?_
 rintro vs - ⟨i, hi, rfl, hq⟩
 simp [-zad]
 refine ⟨fun hlt => ?_, fun hge => ?_⟩
 ·have hi4 : i < 4 := by omega
  have hw := zab (i := i) (by omega)
  have hw2 : IntKind.i64.wrap ((i : Int) + 2) = (i : Int) + 2 := by rw [zeb] <;> omega
  simp [hA i hi4, hw2, hw, -zad]
  repeat refine And.intro (by intros; omega) ?_
  by_cases h0 : 0 ≤ zde a b c d i
  ·right
   have hr : i < (List.range 4).length := by simpa using hi4
   have : (List.range 4).find? (fun i => decide (0 ≤ zde a b c d i)) = some ((List.range 4)[i]) := zcG hr (by
    refine List.any_eq_false.2 fun x hx => ?_
    obtain ⟨j, hj, rfl⟩ := List.mem_take_iff_getElem.1 hx
    simp only [List.getElem_range]
    simpa using hq j (by omega)) (by simpa using h0)
   simp [this, h0]
   omega
  ·left
   refine ⟨by omega, ⟨i + 1, by omega, by omega, fun j hj => ?_⟩, by omega⟩
   by_cases hji : j = i
   ·subst hji; omega
   ·have := hq j (by omega); omega
 ·have : (List.range 4).find? (fun i => decide (0 ≤ zde a b c d i)) = none := by
   rw [List.find?_eq_none]
   intro x hx
   simpa using hq x (by have := List.mem_range.1 hx; omega)
  simp [this]
theorem zoW (l : Lay) : ((ziB l).2.2 = 0) ↔ zgU l = true := by
 unfold ziB zgU
 cases zgv l
 ·simp
 cases zc9 l
 ·simp
 simp only [Bool.true_eq_false, if_false, Bool.true_and]
 generalize zap zb3 l.sigs = a
 generalize zap zdM l.exits = b
 generalize zbH l = c
 generalize zap zdL l.flanks = d
 cases hf : (List.range 4).find? (fun i => decide (0 ≤ zde a b c d i)) with
 | none =>
  rw [List.find?_eq_none] at hf
  have h0 := hf 0 (by simp)
  have h1 := hf 1 (by simp)
  have h2 := hf 2 (by simp)
  have h3 := hf 3 (by simp)
  simp [zde] at h0 h1 h2 h3
  simp [h0, h1, h2, h3]
 | some i =>
  have hi := List.mem_range.1 (List.mem_of_find?_eq_some hf)
  have hq := List.find?_some hf
  simp only [decide_eq_true_eq] at hq
  simp only [Bool.and_eq_true, decide_eq_true_eq]
  constructor
  ·intro h; simp at h
  ·rintro ⟨h0, h1, h2, h3⟩
   exfalso
   have : i = 0 ∨ i = 1 ∨ i = 2 ∨ i = 3 := by omega
   rcases this with rfl | rfl | rfl | rfl <;> simp [zde] at hq <;> omega
theorem zj5 (l : Lay) (hl : l.lens) : C f_lockbarref09_Right [l.av] (.bool (zgU l)) := by
 refine ctr l.cells run_lockbarref09_Right rfl (by simp) rfl ?_ rfl
 unfold rt_lockbarref09_Right
 simp [Lay.cells]
 refine call (zj4 l hl) (by simp [Lay.cells]) (by simp) ?_
 simp
 have := zoW l
 by_cases h : zgU l = true
 ·rw [h, this.2 h]; rfl
 ·rw [Bool.eq_false_iff.2 h]
  rw [beq_eq_false_iff_ne]
  exact fun h2 => h (this.1 h2)
end Go.Lb.LK
namespace Go.Lb.LK
open Go Go.Lb Go.Proofs Go.RowKit
def zeJ (l : Lay) (ss : List Step) (k : Nat) : Bool := match ss[k]? with
 | some t => (zbl l t).2 && (if 0 < k then (match ss[k - 1]? with
   | some u => decide (zaM l ⟨u.s, u.o⟩ = ⟨t.s, t.i⟩)
   | none => false) else true)
 | none => true
def zmu (l : Lay) (ss : List Step) : Bool := (List.range ss.length).all (zeJ l ss)
theorem zf0 {a : Port} {x y : Int} : a = ⟨x, y⟩ ↔ a.s = x ∧ a.p = y := by
 constructor
 ·intro h; rw [h]; exact ⟨rfl, rfl⟩
 ·rintro ⟨h1, h2⟩; exact zf4 h1 h2
set_option maxHeartbeats 2000000 in
theorem zlj (l : Lay) (ss : List Step) (hs : ss.length ≤ 1000) : C f_lockbarref11_Goes [l.av, steps ss] (.bool (zmu l ss)) := by
 refine ctr (l.cells ++ [steps ss]) run_lockbarref11_Goes rfl (by simp [zac, AV.pureAll, AV.pure]) rfl ?_ rfl
 unfold rt_lockbarref11_Goes
 simp [Lay.cells]
 refine zaa rfl (fun vs => ∃ i : Nat, i ≤ ss.length ∧ vs = [I i] ∧ ∀ j, j < i → zeJ l ss j = true) (fun vs => match vs with | [.int _ j] => ss.length - j.toNat | _ => 0) ⟨0, by omega, by simp, fun j hj => by omega⟩ ?_
 rintro vs - ⟨i, hi, rfl, hq⟩
 simp
 refine ⟨fun hlt => ?_, fun hge => ?_⟩
 ·have hw := zab (i := i) (by omega)
  have hgood : zeJ l ss i = true → ∀ j, j < i + 1 → zeJ l ss j = true := fun hk j hj => by
   by_cases hji : j = i
   ·subst hji; exact hk
   ·exact hq j (by omega)
  have hbad : zeJ l ss i = false → zmu l ss = false := fun hk => zbc hlt hk
  simp [hlt, Step.cells]
  refine call (zcT l ss[i]) (by simp [Lay.cells, hlt, Step.cells]) (by simp) ?_
  by_cases hi0 : 0 < i
  ·have hw0 : IntKind.i64.wrap ((i : Int) - 1) = (i : Int) - 1 := by rw [zeb] <;> omega
   have hi1 : ((i : Int) - 1).toNat = i - 1 := by omega
   have hlt1 : i - 1 < ss.length := by omega
   have hge' : zeJ l ss i = ((zbl l ss[i]).2 && decide (zaM l ⟨ss[i - 1].s, ss[i - 1].o⟩ = ⟨ss[i].s, ss[i].i⟩)) := by
    simp [zeJ, List.getElem?_eq_getElem hlt, List.getElem?_eq_getElem hlt1, hi0]
   simp [hi0, hw0, hi1, hlt, hlt1, Step.cells]
   repeat refine And.intro (by intros; omega) ?_
   refine zai (avs := [l.av, (Port.mk ss[i - 1].s ss[i - 1].o).av]) (zaM l ⟨ss[i - 1].s, ss[i - 1].o⟩).av (by simp [AV.pure]) (fun _ => ⟨by simp [Lay.cells, hi0, hw0, hi1, hlt1, Step.cells, Port.cells], zdq _ _⟩) (by simp) ?_
   simp [hi0, hw0, hi1, hlt, hlt1, Step.cells, Port.cells, hw]
   refine ⟨fun hb => hbad ?_, fun h1 h2 h3 => ⟨⟨i + 1, by omega, by omega, hgood ?_⟩, by omega⟩⟩
   ·rw [hge']
    rcases hb with hb | hb
    ·simp [hb]
    ·have : ¬ zaM l ⟨ss[i - 1].s, ss[i - 1].o⟩ = ⟨ss[i].s, ss[i].i⟩ := fun h => by
      rw [zf0] at h
      rcases hb with hb | hb
      ·exact hb h.1
      ·exact hb h.2
     simp [this]
   ·rw [hge', h1, decide_eq_true (zf0.2 ⟨h2, h3⟩)]; rfl
  ·have hi0' : i = 0 := by omega
   have hge' : zeJ l ss i = (zbl l ss[i]).2 := by
    simp [zeJ, List.getElem?_eq_getElem hlt, hi0]
   simp [hi0, hlt, Step.cells]
   refine zai (avs := []) noP.av (by simp [AV.pure]) (fun hh => ?_) (by simp) ?_
   ·simp [hi0] at hh
   simp [hi0, hlt, Step.cells, noP, Port.cells, hw]
   cases hs2 : (zbl l ss[i]).2
   ·simp [hs2, hbad (by rw [hge', hs2])]
   ·simp [hs2]
    exact ⟨⟨i + 1, by omega, by omega, hgood (by rw [hge', hs2])⟩, by omega⟩
 ·have : zmu l ss = true := zaU fun j hj => hq j (by omega)
  simp [this]
def zdZ (ss ov : List Step) (k : Nat) : Bool := match ss[k]? with
 | some t => !((ss.take k).any fun u => decide (u.s = t.s)) && !(ov.any fun u => decide (u.s = t.s))
 | none => true
def zgP (ss ov : List Step) : Bool := (List.range ss.length).all (zdZ ss ov)
set_option maxHeartbeats 2000000 in
theorem ziW (ss ov : List Step) (hs : ss.length ≤ 1000) (ho : ov.length ≤ 1000) : C f_lockbarref11_simple [steps ss, steps ov] (.bool (zgP ss ov)) := by
 refine ctr [steps ss, steps ov] run_lockbarref11_simple rfl (by simp [AV.pureAll, AV.pure]) rfl ?_ rfl
 unfold rt_lockbarref11_simple
 refine zaa rfl (fun vs => ∃ i : Nat, i ≤ ss.length ∧ vs = [I i] ∧ ∀ j, j < i → zdZ ss ov j = true) (fun vs => match vs with | [.int _ j] => ss.length - j.toNat | _ => 0) ⟨0, by omega, by simp, fun j hj => by omega⟩ ?_
 rintro vs - ⟨i, hi, rfl, hq⟩
 simp
 refine ⟨fun hlt => ?_, fun hge => ?_⟩
 ·have hw := zab (i := i) (by omega)
  have hbad : zdZ ss ov i = false → zgP ss ov = false := fun hk => zbc hlt hk
  have hse : zdZ ss ov i = (!((ss.take i).any fun u => decide (u.s = ss[i].s)) && !(ov.any fun u => decide (u.s = ss[i].s))) := by
   simp [zdZ, List.getElem?_eq_getElem hlt]
  refine zaa rfl (fun vs => ∃ m : Nat, m ≤ i ∧ vs = [I m] ∧ zaj (fun u => decide (u.s = ss[i].s)) (ss.take m)) (fun vs => match vs with | [.int _ j] => i - j.toNat | _ => 0) ⟨0, by omega, by simp, rfl⟩ ?_
  rintro vs - ⟨m, hm, rfl, hp⟩
  simp
  refine ⟨fun hlm => ?_, fun hgm => ?_⟩
  ·have hml : m < ss.length := by omega
   have hwm := zab (i := m) (by omega)
   simp [hlt, hml, Step.cells, hwm]
   by_cases he : ss[m].s = ss[i].s
   ·have : ((ss.take i).any fun u => decide (u.s = ss[i].s)) = true := zbO (i := m) (by rw [List.length_take]; omega) (by simpa using he)
    have hf := hbad (by rw [hse, this]; simp)
    simp [he, hf]
   ·simp [he]
    exact ⟨⟨m + 1, by omega, by omega, zah hml hp (by simpa using he)⟩, by omega⟩
  ·have hmi : m = i := by omega
   subst hmi
   refine zaa rfl (fun vs => ∃ q : Nat, q ≤ ov.length ∧ vs = [I q] ∧ zaj (fun u => decide (u.s = ss[m].s)) (ov.take q)) (fun vs => match vs with | [.int _ j] => ov.length - j.toNat | _ => 0) ⟨0, by omega, by simp, rfl⟩ ?_
   rintro vs - ⟨q, hq2, rfl, hp2⟩
   simp
   refine ⟨fun hlq => ?_, fun hgq => ?_⟩
   ·have hwq := zab (i := q) (by omega)
    simp [hlt, hlq, Step.cells, hwq]
    by_cases he : ov[q].s = ss[m].s
    ·have : (ov.any fun u => decide (u.s = ss[m].s)) = true := zbO hlq (by simpa using he)
     have hf := hbad (by rw [hse, this]; simp)
     simp [he, hf]
    ·simp [he]
     exact ⟨⟨q + 1, by omega, by omega, zah hlq hp2 (by simpa using he)⟩, by omega⟩
   ·have ht : ov.take q = ov := List.take_of_length_le (by omega)
    rw [ht] at hp2
    have hk : zdZ ss ov m = true := by
     rw [hse]
     unfold zaj at hp hp2
     rw [hp, hp2]; rfl
    simp [hlt, hw]
    refine ⟨⟨m + 1, by omega, by omega, fun j hj => ?_⟩, by omega⟩
    by_cases hjm : j = m
    ·subst hjm; exact hk
    ·exact hq j (by omega)
 ·have : zgP ss ov = true := zaU fun j hj => hq j (by omega)
  simp [this]
theorem zhU (p : Path) : C f_lockbarref11_Through [p.av, .sl []] (.bool true) := by
 refine ctr (p.cells ++ [.sl []]) run_lockbarref11_Through rfl (by simp [zac, AV.pureAll, AV.pure]) rfl ?_ rfl
 unfold rt_lockbarref11_Through
 simp [Path.cells]
 refine zaa rfl (fun vs => vs = [I 0, I 0]) (fun _ => 0) rfl ?_
 rintro vs - rfl
 simp
def zm0 (l : Lay) (p : Port) : Int := match (List.range l.sigs.length).find? (fun i => decide (l.sigs[i]? = some p)) with
 | some i => i
 | none => -1
theorem ziS (l : Lay) (hl : l.sigs.length ≤ 1000) (p : Port) : C f_lockbarref06_Signal [l.av, p.av] (I (zm0 l p)) := by
 refine ctr (l.cells ++ p.cells) run_lockbarref06_Signal rfl (by simp [zac]) rfl ?_ rfl
 unfold rt_lockbarref06_Signal
 simp [Lay.cells, Port.cells]
 refine zaa rfl (fun vs => ∃ i : Nat, i ≤ l.sigs.length ∧ vs = [I i] ∧ ∀ j, j < i → ¬ l.sigs[j]? = some p) (fun vs => match vs with | [.int _ j] => l.sigs.length - j.toNat | _ => 0) ⟨0, by omega, by simp, fun j hj => by omega⟩ ?_
 rintro vs - ⟨i, hi, rfl, hq⟩
 simp
 refine ⟨fun hlt => ?_, fun hge => ?_⟩
 ·have hw := zab (i := i) (by omega)
  have hpe := zdX l.sigs[i] p
  simp only [Port.cells] at hpe
  simp [hlt, Port.cells, hpe, hw]
  by_cases he : l.sigs[i] = p
  ·have hr : i < (List.range l.sigs.length).length := by simpa using hlt
   have : (List.range l.sigs.length).find? (fun i => decide (l.sigs[i]? = some p)) = some ((List.range l.sigs.length)[i]) := zcG hr (by
    refine List.any_eq_false.2 fun x hx => ?_
    obtain ⟨j, hj, rfl⟩ := List.mem_take_iff_getElem.1 hx
    simp only [List.getElem_range]
    simpa using hq j (by omega)) (by simp [List.getElem?_eq_getElem hlt, he])
   simp [he, zm0, this]
  ·simp [he]
   refine ⟨⟨i + 1, by omega, by omega, fun j hj => ?_⟩, by omega⟩
   by_cases hji : j = i
   ·subst hji; simpa [List.getElem?_eq_getElem hlt] using he
   ·exact hq j (by omega)
 ·have : (List.range l.sigs.length).find? (fun i => decide (l.sigs[i]? = some p)) = none := by
   rw [List.find?_eq_none]
   intro x hx
   have := hq x (by have := List.mem_range.1 hx; omega)
   simpa using this
  simp [zm0, this]
end Go.Lb.LK
namespace Go.Lb.LK
open Go Go.Lb Go.Proofs Go.RowKit
def zh6 (sg : Port) (ss : List Step) : Bool := match ss[0]? with
 | some t => decide (sg = ⟨t.s, t.i⟩)
 | none => false
def zkW (e : Port) (ss : List Step) : Bool := match ss[ss.length - 1]? with
 | some t => decide (e = ⟨t.s, t.o⟩)
 | none => false
def zmJ (l : Lay) (ss : List Step) (k : Nat) : Bool := match ss[k]? with
 | some t => decide (k = 0) || decide (zm0 l ⟨t.s, t.i⟩ < 0)
 | none => true
def znJ (l : Lay) (ss : List Step) : Bool := (List.range ss.length).all (zmJ l ss)
def zgF (l : Lay) (p : Path) (sg : Port) (e : Exi) : Bool := decide (1 ≤ p.steps.length ∧ p.steps.length ≤ 12) && (zmu l p.steps && (zgP p.steps e.over && (zh6 sg p.steps && (zkW e.a p.steps && znJ l p.steps))))
def zdr (l : Lay) (p : Path) : Int :=
 if zgU l = true ∧ (0 ≤ p.sig ∧ p.sig < l.sigs.length) ∧ (0 ≤ p.exit ∧ p.exit < l.exits.length) then
  (match l.sigs[p.sig.toNat]?, l.exits[p.exit.toNat]? with
   | some sg, some e => if zgF l p sg e = true then 0 else 110
   | _, _ => 110) else 2
set_option maxRecDepth 100000 in
set_option maxHeartbeats 4000000 in
theorem zka (l : Lay) (hl : l.lens) (p : Path) : C f_lockbarref11_Check [l.av, p.av, .sl []] (I (zdr l p)) := by
 refine ctr (l.cells ++ p.cells ++ [.sl []]) run_lockbarref11_Check rfl (by simp [zac, AV.pureAll, AV.pure]) rfl ?_ rfl
 unfold rt_lockbarref11_Check
 simp [Lay.cells, Path.cells]
 refine call (zj5 l hl) (by simp [Lay.cells]) (fun _ => rfl) ?_
 by_cases hg : zgU l = true ∧ (0 ≤ p.sig ∧ p.sig < l.sigs.length) ∧ (0 ≤ p.exit ∧ p.exit < l.exits.length)
 case neg =>
  have hv : zdr l p = 2 := by unfold zdr; rw [if_neg hg]
  rw [hv]
  cases ht : zgU l
  ·simp
  ·rw [ht] at hg
   have : p.sig < 0 ∨ (l.sigs.length : Int) ≤ p.sig ∨ p.exit < 0 ∨ (l.exits.length : Int) ≤ p.exit := by
    simp only [true_and] at hg; omega
   simp
   intro g1 g2 g3 g4
   omega
 obtain ⟨ht, ⟨h1, h2⟩, h3, h4⟩ := hg
 obtain ⟨n, hn⟩ : ∃ n : Nat, p.sig = n := ⟨p.sig.toNat, by omega⟩
 obtain ⟨m, hm⟩ : ∃ m : Nat, p.exit = m := ⟨p.exit.toNat, by omega⟩
 have hln : n < l.sigs.length := by omega
 have hlm : m < l.exits.length := by omega
 have hv : zdr l p = if zgF l p l.sigs[n] l.exits[m] = true then 0 else 110 := by
  unfold zdr
  rw [if_pos ⟨ht, ⟨h1, h2⟩, h3, h4⟩, hn, hm]
  simp [List.getElem?_eq_getElem hln, List.getElem?_eq_getElem hlm]
 rw [hv]
 have hov := hl.over _ (List.getElem_mem hlm)
 have c1 : ¬ ((n : Int) < 0) := by omega
 have c2 : ¬ ((l.sigs.length : Nat) ≤ n) := by omega
 have c3 : ¬ ((m : Int) < 0) := by omega
 have c4 : ¬ ((l.exits.length : Nat) ≤ m) := by omega
 simp [ht, hn, hm, c1, c2, c3, c4]
 refine zaa rfl (fun vs => vs = [I 0]) (fun _ => 0) rfl ?_
 rintro vs - rfl
 simp
 refine zai (avs := [l.av, steps p.steps]) (.bool (zmu l p.steps)) rfl (fun hh => ⟨by simp [Lay.cells], zlj l p.steps (by simp at hh; omega)⟩) (fun _ => rfl) ?_
 simp [hlm, Exi.cells]
 refine zai (avs := [steps p.steps, steps l.exits[m].over]) (.bool (zgP p.steps l.exits[m].over)) rfl (fun hh => ⟨by simp [hlm, hm, Exi.cells], ziW p.steps l.exits[m].over (by simp at hh; omega) hov⟩) (fun _ => rfl) ?_
 simp [hlm, Exi.cells]
 refine zai (avs := [p.av, .sl []]) (.bool true) rfl (fun hh => ⟨by simp [Path.cells, hn, hm], zhU p⟩) (fun _ => rfl) ?_
 simp [hlm, Exi.cells]
 refine ⟨fun hb => ?_, fun g1 g2 g3 g4 => ?_⟩
 ·have : zgF l p l.sigs[n] l.exits[m] = false := by
   unfold zgF
   rcases hb with (hb | hb) | hb
   ·have : ¬ (1 ≤ p.steps.length ∧ p.steps.length ≤ 12) := by omega
    rw [decide_eq_false this]; rfl
   ·simp [hb]
   ·simp [hb]
  exact this
 have h0 : 0 < p.steps.length := by omega
 have hq : p.steps.length - 1 < p.steps.length := by omega
 have hw1 : IntKind.i64.wrap ((p.steps.length : Int) - 1) = (p.steps.length : Int) - 1 := by rw [zeb] <;> omega
 have hw2 : ((p.steps.length : Int) - 1).toNat = p.steps.length - 1 := by omega
 have hd : decide (1 ≤ p.steps.length ∧ p.steps.length ≤ 12) = true := decide_eq_true (by omega)
 have hpo : zgF l p l.sigs[n] l.exits[m] = (zh6 l.sigs[n] p.steps && (zkW l.exits[m].a p.steps && znJ l p.steps)) := by
  unfold zgF; rw [hd, g3, g4]; rfl
 have hf : zh6 l.sigs[n] p.steps = decide (l.sigs[n] = ⟨p.steps[0].s, p.steps[0].i⟩) := by
  simp [zh6, List.getElem?_eq_getElem h0]
 have hl2 : zkW l.exits[m].a p.steps = decide (l.exits[m].a = ⟨p.steps[p.steps.length - 1].s, p.steps[p.steps.length - 1].o⟩) := by
  simp [zkW, List.getElem?_eq_getElem hq]
 have e1 := zdX l.sigs[n] ⟨p.steps[0].s, p.steps[0].i⟩
 have e2 := zdX l.exits[m].a ⟨p.steps[p.steps.length - 1].s, p.steps[p.steps.length - 1].o⟩
 simp only [Port.cells] at e1 e2
 rw [hpo, hf, hl2]
 simp [hln, hlm, h0, hq, hw1, hw2, Port.cells, Step.cells, Exi.cells, e1, e2]
 refine ⟨fun _ => by omega, fun hb hx hy => ?_, fun hx hy1 hy2 => ?_⟩
 ·exfalso
  rcases hb with hb | hb
  ·exact hb hx
  ·have := zf0.1 hy
   rcases hb with hb | hb
   ·exact hb this.1
   ·exact hb this.2
 have hy := zf0.2 ⟨hy1, hy2⟩
 simp only [hx, hy, true_and]
 refine zaa rfl (fun vs => ∃ i : Nat, 1 ≤ i ∧ i ≤ p.steps.length ∧ vs = [I i] ∧ ∀ j, j < i → zmJ l p.steps j = true) (fun vs => match vs with | [.int _ j] => p.steps.length - j.toNat | _ => 0) ⟨1, by omega, by omega, by simp, fun j hj => by
  have : j = 0 := by omega
  subst this
  simp [zmJ, List.getElem?_eq_getElem h0]⟩ ?_
 rintro vs - ⟨i, hi1, hi, rfl, hqi⟩
 simp
 refine ⟨fun hlt => ?_, fun hge => ?_⟩
 ·have hw := zab (i := i) (by omega)
  have hme : zmJ l p.steps i = decide (zm0 l ⟨p.steps[i].s, p.steps[i].i⟩ < 0) := by
   simp [zmJ, List.getElem?_eq_getElem hlt, show ¬ i = 0 by omega]
  simp [hlt, Step.cells]
  refine call (ziS l hl.sigs ⟨p.steps[i].s, p.steps[i].i⟩) (by simp [Lay.cells, Port.cells, hlt, Step.cells]) (fun _ => rfl) ?_
  simp [hw]
  refine ⟨fun hs => ?_, fun hs => ⟨⟨i + 1, by omega, by omega, by omega, fun j hj => ?_⟩, by omega⟩⟩
  ·have : znJ l p.steps = false := zbc hlt (by rw [hme]; exact decide_eq_false (by omega))
   simp [this]
  ·by_cases hji : j = i
   ·subst hji; rw [hme]; exact decide_eq_true hs
   ·exact hqi j (by omega)
 ·have : znJ l p.steps = true := zaU fun j hj => hqi j (by omega)
  simp [this]
theorem znl (l : Lay) (hl : l.lens) (p : Path) : C f_lockbarref11_Is [l.av, p.av, .sl []] (.bool (decide (zdr l p = 0))) := by
 refine ctr (l.cells ++ p.cells ++ [.sl []]) run_lockbarref11_Is rfl (by simp [zac, AV.pureAll, AV.pure]) rfl ?_ rfl
 unfold rt_lockbarref11_Is
 simp [Lay.cells, Path.cells]
 refine call (zka l hl p) (by simp [Lay.cells, Path.cells]) (fun _ => rfl) ?_
 simp
 by_cases h : zdr l p = 0 <;> simp [h]
def zgj (l : List Need) (k : Nat) : Bool := match l[k]? with
 | some x => (l.take k).any fun y => both x y
 | none => false
def ze6 (l : List Need) : Bool := (List.range l.length).any (zgj l)
theorem zni {q : Nat → Bool} {n i : Nat} (h : i < n) (hb : q i = true) : (List.range n).any q = true := List.any_eq_true.2 ⟨i, List.mem_range.2 h, hb⟩
theorem zlT {q : Nat → Bool} {n : Nat} (h : ∀ i, i < n → q i = false) : (List.range n).any q = false := by
 refine List.any_eq_false.2 fun x hx => ?_
 rw [h x (List.mem_range.1 hx)]; simp
theorem zkb (a : List Need) (ha : a.length ≤ 1000000000) : C f_lockbarref13_Clash [needs a, .sl []] (.bool (ze6 a)) := by
 refine ctr [needs a, .sl []] run_lockbarref13_Clash rfl (by simp [AV.pureAll, AV.pure]) rfl ?_ rfl
 unfold rt_lockbarref13_Clash
 simp
 first
 | refine ⟨fun x _ => by simp [Need.cells], by omega, ?_⟩
 | refine ⟨by omega, ?_⟩
 refine zaa rfl (fun vs => ∃ i : Nat, i ≤ a.length ∧ vs = [I i] ∧ ∀ j, j < i → zgj a j = false) (fun vs => match vs with | [.int _ j] => a.length - j.toNat | _ => 0) ⟨0, by omega, by simp, fun j hj => by omega⟩ ?_
 rintro vs - ⟨i, hi, rfl, hq⟩
 simp
 refine ⟨fun hlt => ?_, fun hge => ?_⟩
 ·have hw := zab (i := i) (by omega)
  have hce : zgj a i = (a.take i).any fun y => both a[i] y := by simp [zgj, List.getElem?_eq_getElem hlt]
  refine zaa rfl (fun vs => ∃ m : Nat, m ≤ i ∧ vs = [I m] ∧ zaj (fun y => both a[i] y) (a.take m)) (fun vs => match vs with | [.int _ j] => i - j.toNat | _ => 0) ⟨0, by omega, by simp, rfl⟩ ?_
  rintro vs - ⟨m, hm, rfl, hp⟩
  simp
  refine ⟨fun hlm => ?_, fun hgm => ?_⟩
  ·have hml : m < a.length := by omega
   have hwm := zab (i := m) (by omega)
   have hbe : both a[i] a[m] = (decide (a[i].p = a[m].p) && !decide (a[i].pos = a[m].pos)) := rfl
   simp [hlt, hml, Need.cells, hwm]
   repeat refine And.intro (by intros; omega) ?_
   by_cases hb1 : a[i].p = a[m].p
   ·by_cases hb2 : a[i].pos = a[m].pos
    ·have hb : both a[i] a[m] = false := by rw [hbe]; simp [hb2]
     simp [hb1, hb2]
     first | exact ⟨⟨m + 1, by omega, by omega, zah hml hp hb⟩, by omega⟩ | (refine ⟨by omega, ⟨m + 1, by omega, by omega, zah hml hp hb⟩, by omega⟩)
    ·have hb : both a[i] a[m] = true := by rw [hbe]; simp [hb1, hb2]
     have : ze6 a = true := zni hlt (by rw [hce]; exact zbO (i := m) (by rw [List.length_take]; omega) (by simpa using hb))
     simp [hb1, hb2, this]
   ·have hb : both a[i] a[m] = false := by rw [hbe]; simp [hb1]
    simp [hb1]
    first | exact ⟨⟨m + 1, by omega, by omega, zah hml hp hb⟩, by omega⟩ | (refine ⟨by omega, ⟨m + 1, by omega, by omega, zah hml hp hb⟩, by omega⟩)
  ·have hmi : m = i := by omega
   subst hmi
   have hk : zgj a m = false := by rw [hce]; exact hp
   simp [hw]
   refine ⟨⟨m + 1, by omega, by omega, fun j hj => ?_⟩, by omega⟩
   by_cases hjm : j = m
   ·subst hjm; exact hk
   ·exact hq j (by omega)
 ·have : ze6 a = false := zlT fun j hj => hq j (by omega)
  simp [this]
theorem zlk (l : Lay) (ho : l.ovOk) (hf : l.flanks.length ≤ 1000) (p : Path) (hp : p.steps.length ≤ 1000) (hov : (over l p.exit).length ≤ 1000) (hn : (za6 l p).length ≤ 1000000000) : C f_lockbarref13_Fine [l.av, p.av] (.bool (!ze6 (za6 l p))) := by
 refine ctr (l.cells ++ p.cells) run_lockbarref13_Fine rfl (by simp [zac]) rfl ?_ rfl
 unfold rt_lockbarref13_Fine
 simp [Lay.cells, Path.cells]
 refine call (zkI l ho hf p hp hov) (by simp [Lay.cells, Path.cells]) (by simp) ?_
 refine call (zkb (za6 l p) hn) (by simp) (fun _ => rfl) ?_
 simp
end Go.Lb.LK
namespace Go.Lb.LK
open Go Go.Lb Go.Proofs
noncomputable section
end
end Go.Lb.LK
namespace Go.Lb.LK
open Go Go.Lb Go.Proofs Go.RowKit
end Go.Lb.LK
namespace Go.Lb.LK
open Go Go.Lb Go.Proofs
noncomputable section
end
end Go.Lb.LK
namespace Go.Lb.LK
open Go Go.Lb Go.Proofs Go.RowKit
theorem zm1 {l : Lay} {im : Img} (h : stale l im = true) (s : Int) : zbf l im s = true := by simp [zbf, h]
end Go.Lb.LK
namespace Go.Lb.LK
open Go Go.Lb Go.Proofs
noncomputable section
@[simp] def qfa_0 : SE := .agg [.inp 114, .inp 115, .inp 116]
@[simp] def qfa_1 : SE := pk (.inp 117) bT (nt (.inp 118))
@[simp] def qfa_2 : SE := pk qfa_1 bT (nt (.inp 119))
@[simp] def qfa_3 : SE := bi .eql (.inp 122) (zi 190)
@[simp] def qfa_4 : SE := bi .eql (.inp 122) (zi 191)
@[simp] def qfa_5 : SE := bi .eql (ln (.inp 41)) (zi 6)
@[simp] def qfa_6 : SE := pk qfa_4 qfa_5 bF
@[simp] def qfa_7 : SE := pk qfa_3 bT qfa_6
@[simp] def qfa_8 : SE := .agg [.inp 40, .inp 114, .inp 115, .inp 116, .inp 123, .inp 124, .int .u8 1, zi 0, bF, bF, bF, bF, bF, bF, bF, bF, bF, bF, bF, bF, bF, zi 0, bF]
@[simp] def qfa_9 : SE := ei 23 (.inp 41) (.inp 125)
@[simp] def qfa_10 : SE := .app (.eoff 1) [qfa_9]
@[simp] def qfa_11 : SE := .app (.eoff 0) [qfa_10]
@[simp] def qfa_12 : SE := e1 qfa_11
@[simp] def qfa_13 : SE := bi .eql qfa_12 (.inp 114)
@[simp] def qfa_14 : SE := .app (.eoff 6) [qfa_9]
@[simp] def qfa_15 : SE := e1 qfa_14
@[simp] def qfa_16 : SE := bi .neq qfa_15 (.int .u8 3)
@[simp] def qfa_17 : SE := pk qfa_13 qfa_16 bF
@[simp] def qfa_18 : SE := ei 3 (.inp 116) (.inp 126)
@[simp] def qfa_19 : SE := .app (.eoff 0) [qfa_18]
@[simp] def qfa_20 : SE := bi .lss (ln (.inp 41)) (zi 6)
@[simp] def qfa_21 : SE := pk qfa_20 (nt (.inp 127)) bF
def rt_lockbarlaw18_FreeApart : RT :=
 ck (.isAgg 11) [.agg (ipx 0 11)] <|
 ck (.isAgg 29) [.agg (ipx 11 29)] <|
 ck (.isAgg 74) [.agg (ipx 40 74)] <|
 ck (.isAgg 3) [qfa_0] <|
.seg [.call 117 [] 8 [.agg (ipx 0 11)] false] <|
.seg [.call 118 [(.inp 117, false)] 25 [.agg (ipx 40 74)] false] <|
 ckg (.inp 117) false (.un .not) [.inp 118] <|
 ck .pick [.inp 117, bT, nt (.inp 118)] <|
.seg [.call 119 [(qfa_1, false)] 29 [.agg (ipx 0 11), qfa_0, .nils] false] <|
 ckg (qfa_1) false (.un .not) [.inp 119] <|
 ck .pick [qfa_1, bT, nt (.inp 119)] <|
.seg [.call 120 [(qfa_2, false)] 30 [.agg (ipx 0 11), qfa_0] false] <|
 ckg (qfa_2) false (.un .not) [.inp 120] <|
 ck .pick [qfa_2, bT, nt (.inp 120)] <|
.seg [.bind 121 (pk qfa_2 bT (nt (.inp 120)))] <|
.cond (.inp 121)
 (.seg [.call 122 [] 11 [] false] <|
.ret (.inp 122))
 (.seg [.call 122 [] 22 [.agg (ipx 0 11), .agg (ipx 11 29), .agg (ipx 40 74), qfa_0] false] <|
 ck (.bin .neq) [.inp 122, zi 0] <|
.cond (bi .neq (.inp 122) (zi 0))
 (ck (.bin .eql) [.inp 122, zi 190] <|
 ckg (qfa_3) false (.bin .eql) [.inp 122, zi 191] <|
.seg [.chk [(qfa_4, true), (qfa_3, false)] .len [.inp 41]] <|
.seg [.chk [(qfa_4, true), (qfa_3, false)] (.bin .eql) [ln (.inp 41), zi 6]] <|
 ckg (qfa_3) false .pick [qfa_4, qfa_5, bF] <|
 ck .pick [qfa_3, bT, qfa_6] <|
.seg [.call 123 [(qfa_7, true)] 11 [] false] <|
 ck .pick [qfa_7, .inp 123, bF] <|
.seg [.bind 124 (pk qfa_7 (.inp 123) bF),
.bind 125 (qfa_7)] <|
.ret (.inp 124))
 (.seg [.call 123 [] 31 [.agg (ipx 0 11), .inp 115] false,
.call 124 [] 32 [.agg (ipx 0 11), qfa_0] false,
.chk [] .isOne [.inp 40],
.chk [] (.isAgg 3) [qfa_0],
.chk [] .isOne [.inp 123],
.chk [] .isOne [.inp 124],
.chk [] (.isAgg 23) [qfa_8]] <|
.loop 0 125 [zi 0] <|
 ck .len [.inp 41] <|
 ck (.bin .lss) [.inp 125, ln (.inp 41)] <|
.cond (bi .lss (.inp 125) (ln (.inp 41)))
 (.seg [.chk [] (.eidx 23) [.inp 41, .inp 125],
.chk [] (.eload 23 true) [qfa_9],
.call 126 [] 33 [qfa_8, el 23 qfa_9] false,
.chk [] (.un .not) [.inp 126],
.chk [(nt (.inp 126), false)] (.eidx 23) [.inp 41, .inp 125],
.chk [(nt (.inp 126), false)] (.eoff 1) [qfa_9],
.chk [(nt (.inp 126), false)] (.eoff 0) [qfa_10],
.chk [(nt (.inp 126), false)] (.eload 1 false) [qfa_11],
.chk [(nt (.inp 126), false)] (.bin .eql) [qfa_12, .inp 114],
.chk [(qfa_13, true), (nt (.inp 126), false)] (.eidx 23) [.inp 41, .inp 125],
.chk [(qfa_13, true), (nt (.inp 126), false)] (.eoff 6) [qfa_9],
.chk [(qfa_13, true), (nt (.inp 126), false)] (.eload 1 false) [qfa_14],
.chk [(qfa_13, true), (nt (.inp 126), false)] (.bin .neq) [qfa_15, .int .u8 3],
.chk [(nt (.inp 126), false)] .pick [qfa_13, qfa_16, bF],
.chk [] .pick [nt (.inp 126), bT, qfa_17]] <|
.seg [.bind 127 (qfa_17),
.bind 128 (pk (nt (.inp 126)) bT qfa_17)] <|
.cond (.inp 128)
 (.ret (bF))
 (ck (.bin .add) [.inp 125, zi 1] <|
.again 0 [bi .add (.inp 125) (zi 1)]))
 (.loop 0 126 [zi 0] <|
 ck .len [.inp 116] <|
 ck (.bin .lss) [.inp 126, ln (.inp 116)] <|
.cond (bi .lss (.inp 126) (ln (.inp 116)))
 (.seg [.chk [] (.eidx 3) [.inp 116, .inp 126],
.chk [] (.eoff 0) [qfa_18],
.chk [] (.eload 1 false) [qfa_19],
.call 127 [] 34 [.agg (ipx 0 11), .agg (ipx 11 29), e1 qfa_19] false] <|
.cond (.inp 127)
 (.ret (bF))
 (ck (.bin .add) [.inp 126, zi 1] <|
.again 0 [bi .add (.inp 126) (zi 1)]))
 (ck .len [.inp 41] <|
 ck (.bin .lss) [ln (.inp 41), zi 6] <|
.seg [.call 127 [(qfa_20, true)] 35 [.agg (ipx 0 11), .agg (ipx 11 29)] false] <|
 ckg (qfa_20) true (.un .not) [.inp 127] <|
 ck .pick [qfa_20, nt (.inp 127), bF] <|
.seg [.call 128 [(qfa_21, true)] 11 [] false] <|
 ck .pick [qfa_21, .inp 128, bF] <|
.seg [.bind 129 (pk qfa_21 (.inp 128) bF)] <|
.ret (.inp 129)))))
theorem run_lockbarlaw18_FreeApart : runF E 4 [.agg (ips 0 11), .agg (ips 11 29), .agg (ips 40 74), .agg [.inp 114, .inp 115, .inp 116]] 117 = rt_lockbarlaw18_FreeApart := by kernel_rfl
end
end Go.Lb.LK
namespace Go.Lb.LK
open Go Go.Lb Go.Proofs Go.RowKit
theorem zoE {l : Lay} (g1 : zd6 l = false) : l.lens := by
 obtain ⟨a1, a2, a3, a4, a5⟩ := zk9 g1
 exact ⟨by omega, by omega, by omega, by omega, fun e he => by have := a5 e he; omega⟩
theorem zl9 {l : Lay} {p : Path} (h : zdr l p = 0) : 1 ≤ p.steps.length ∧ p.steps.length ≤ 12 ∧ 0 ≤ p.exit ∧ p.exit < l.exits.length := by
 unfold zdr at h
 split at h
 ·rename_i hg
  split at h
  ·rename_i sg e _ _
   split at h
   ·rename_i hp
    unfold zgF at hp
    simp only [Bool.and_eq_true, decide_eq_true_eq] at hp
    exact ⟨hp.1.1, hp.1.2, hg.2.2.1, hg.2.2.2⟩
   ·omega
  ·omega
 ·omega
theorem zjm {l : Lay} {p : Path} (g1 : zd6 l = false) (hp : p.steps.length ≤ 30) : (za6 l p).length ≤ 2100 := by
 obtain ⟨a1, a2, a3, a4, a5⟩ := zk9 g1
 have ho : (over l p.exit).length ≤ 20 := by
  unfold over
  split
  ·rename_i e he
   by_cases hc : 0 ≤ p.exit ∧ p.exit < l.exits.length
   ·obtain ⟨n, hn, hlt, h2⟩ := zdv hc.1 hc.2
    rw [h2] at he
    simp only [Option.some.injEq] at he; subst he
    have := a5 _ (List.getElem_mem hlt); omega
   ·rw [zcp hc] at he; cases he
  ·simp
 have hw1 : ∀ s k, (zcd l s k).length ≤ 41 := fun s k => by have := zeY l s k; omega
 have h1 := zeI (fun x : Int × Step => zcd l x.2 x.1) 41 (fun x => hw1 x.2 x.1) (zak l p)
 have h2 : (zak l p).length ≤ 50 := by simp [zak]; omega
 unfold za6
 omega
theorem zhy {l : Lay} (g1 : zd6 l = false) (x : Int) : (over l x).length ≤ 20 := by
 obtain ⟨a1, a2, a3, a4, a5⟩ := zk9 g1
 unfold over
 split
 ·rename_i e he
  by_cases hc : 0 ≤ x ∧ x < l.exits.length
  ·obtain ⟨n, hn, hlt, h2⟩ := zdv hc.1 hc.2
   rw [h2] at he
   simp only [Option.some.injEq] at he; subst he
   exact a5 _ (List.getElem_mem hlt)
  ·rw [zcp hc] at he; cases he
 ·simp
def newH (l : Lay) (k : Kern) (p : Path) : Hd := ⟨k.next, p, over l p.exit, za6 l p, 1, 0, fun _ => false, false, 0, false⟩
structure CanFine (l : Lay) (im : Img) (k : Kern) (p : Path) : Prop where
 sig : ∀ h ∈ k.held, zcm p h = false
 free : ∀ s ∈ p.steps ++ over l p.exit, zcN l im k s.s = true
 meets : ∀ n ∈ za6 l p, za5 l im k n = true
 room : k.held.length < 6
theorem zno {l : Lay} {im : Img} {k : Kern} {p : Path} : canN l im k p = 190 ∨ (canN l im k p = 191 ∧ 6 ≤ k.held.length) ∨ (canN l im k p = 0 ∧ CanFine l im k p) := by
 unfold canN
 split
 ·exact .inl rfl
 ·rename_i h
  simp only [Bool.not_eq_true, Bool.or_eq_false_iff] at h
  obtain ⟨h1, h2, h3⟩ := h
  split
  ·rename_i h6; exact .inr (.inl ⟨rfl, h6⟩)
  ·rename_i h6
   refine .inr (.inr ⟨rfl, ⟨fun x hx => ?_, fun x hx => ?_, fun x hx => ?_, by omega⟩⟩)
   ·have := List.any_eq_false.1 h1 x hx; simpa using this
   ·have := List.any_eq_false.1 h2 x hx; simpa using this
   ·have := List.any_eq_false.1 h3 x hx; simpa using this
theorem zmN {l : Lay} {im : Img} {k : Kern} {p : Path} (hr : zay k = true) (hc : CanFine l im k p) {i : Nat} (hi : i < k.held.length) : za8 (newH l k p) k.held[i] = true := by
 unfold za8
 rw [Bool.and_eq_true, Bool.not_eq_true', Bool.not_eq_true']
 constructor
 ·refine List.any_eq_false.2 fun s hs => ?_
  simp only [decide_eq_true_eq]
  intro hs2
  have hs3 : s ∈ (p.steps ++ over l p.exit).map (·.s) := by
   simpa [zat, newH] using hs
  obtain ⟨t, ht, rfl⟩ := List.mem_map.1 hs3
  have h1 := hc.free t ht
  have h2 := zgs hr hi hs2
  simp [zcN, h2] at h1
 ·unfold zct
  refine List.any_eq_false.2 fun x hx => ?_
  rw [Bool.not_eq_true]
  refine List.any_eq_false.2 fun y hy => ?_
  rw [Bool.not_eq_true]
  have hx2 : x ∈ za6 l p := (List.mem_filter.1 hx).1
  have hm := hc.meets x hx2
  unfold both
  by_cases hp : x.p = y.p
  ·have hw : ∃ b, zaW k.held[i] x.p = some b ∧ b = y.pos := by
    unfold zaW
    cases hf : (zaZ k.held[i]).find? fun z => decide (z.p = x.p) with
    | none =>
     rw [List.find?_eq_none] at hf
     exact absurd (by simpa using hp.symm) (hf y hy)
    | some z =>
     refine ⟨z.pos, rfl, ?_⟩
     have hz1 := List.mem_of_find?_eq_some hf
     have hz2 : z.p = x.p := by simpa using List.find?_some hf
     have hcl := (zdc (zdK hr hi).1).2.2.1
     by_cases hzy : z.pos = y.pos
     ·exact hzy
     ·exfalso
      have : zct k.held[i].needs k.held[i].needs = true := by
       unfold zct
       refine List.any_eq_true.2 ⟨z, (List.mem_filter.1 hz1).1, List.any_eq_true.2 ⟨y, (List.mem_filter.1 hy).1, ?_⟩⟩
       simp [both, hz2, hp, hzy]
      rw [this] at hcl; cases hcl
   obtain ⟨b, hb1, hb2⟩ := hw
   have h3 := zgV hr hi hb1
   unfold za5 at hm
   rw [h3] at hm
   simp only [Bool.and_eq_true, decide_eq_true_eq] at hm
   have : x.pos = y.pos := by rw [← hb2]; exact hm.2.1.symm
   simp [this]
  ·simp [hp]
set_option maxRecDepth 100000 in
set_option maxHeartbeats 4000000 in
theorem zjY (l : Lay) (hl : l.ok) (im : Img) (hi : im.ok) (k : Kern) (hkw : k.wide) (hk : k.ok) (p : Path) : C f_lockbarlaw18_FreeApart [l.av, im.av, k.av, p.av] (.bool true) := by
 refine ctr (l.cells ++ im.cells ++ k.cells ++ p.cells) run_lockbarlaw18_FreeApart rfl (likp l im k p) rfl ?_ rfl
 unfold rt_lockbarlaw18_FreeApart
 simp [Lay.cells, Img.cells, Kern.cells, Path.cells]
 refine call (zgg l) (by simp [Lay.cells]) (by simp) ?_
 simp
 refine zai (avs := [k.av]) (.bool (zay k)) rfl (fun _ => ⟨by simp [Kern.cells], zee k hkw hk⟩) (fun _ => rfl) ?_
 cases g1 : zd6 l
 case true =>
  simp
  refine zai (avs := []) (.bool true) rfl (fun hh => ?_) (fun _ => rfl) ?_
  ·simp at hh
  simp
  refine zai (avs := []) (.bool true) rfl (fun hh => ?_) (fun _ => rfl) ?_
  ·simp at hh
  simp
  exact call zaB rfl (by simp) (by simp)
 cases g2 : zay k
 case false =>
  simp
  refine zai (avs := []) (.bool true) rfl (fun hh => ?_) (fun _ => rfl) ?_
  ·simp at hh
  simp
  refine zai (avs := []) (.bool true) rfl (fun hh => ?_) (fun _ => rfl) ?_
  ·simp at hh
  simp
  exact call zaB rfl (by simp) (by simp)
 have hlen := zoE g1
 have hkl := zda hkw g2
 simp
 refine zai (avs := [l.av, p.av, .sl []]) (.bool (decide (zdr l p = 0))) rfl (fun _ => ⟨by simp [Lay.cells, Path.cells], znl l hlen p⟩) (fun _ => rfl) ?_
 by_cases g3 : zdr l p = 0
 case neg =>
  simp [g3]
  refine zai (avs := []) (.bool true) rfl (fun hh => ?_) (fun _ => rfl) ?_
  ·simp [g3] at hh
  simp [g3]
  exact call zaB rfl (by simp) (by simp)
 have hcan : CanOk l k p := by
  have := zl9 g3
  obtain ⟨a1, a2, a3, a4, a5⟩ := zk9 g1
  exact ⟨hkl, hl, fun e he => by have := a5 e he; omega, by omega, by omega, by have := zhy g1 p.exit; omega⟩
 have hsm := zjm (p := p) g1 (by have := zl9 g3; omega)
 simp [g3]
 refine zai (avs := [l.av, p.av]) (.bool (!ze6 (za6 l p))) rfl (fun _ => ⟨by simp [Lay.cells, Path.cells], zlk l hcan.ov hcan.fl p hcan.pl hcan.ol (by omega)⟩) (fun _ => rfl) ?_
 cases g4 : ze6 (za6 l p)
 case true =>
  simp [g3]
  exact call zaB rfl (by simp) (by simp)
 simp [g3]
 refine call (zdQ l im hi k p hcan) (by simp [Lay.cells, Img.cells, Kern.cells, Path.cells]) (fun _ => rfl) ?_
 have hk6 : k.held.length ≤ 6 := by
  simp only [zay, Bool.and_eq_true, decide_eq_true_eq] at g2
  exact g2.1.1
 rcases zno (l := l) (im := im) (k := k) (p := p) with hc | ⟨hc, h6⟩ | ⟨hc, hf⟩
 ·simp [hc]
  exact zai (avs := []) (.bool true) rfl (fun _ => ⟨rfl, zaB⟩) (fun _ => rfl) (by simp)
 ·have h66 : k.held.length = 6 := by omega
  have h66' : (k.held.length : Int) = 6 := by omega
  simp [hc, h66, h66']
  exact zai (avs := []) (.bool true) rfl (fun _ => ⟨rfl, zaB⟩) (fun _ => rfl) (by simp [h66'])
 simp [hc]
 refine call (zhd l hcan.ov p.exit) (by simp [Lay.cells]) (by simp) ?_
 simp
 refine call (zkI l hcan.ov hcan.fl p hcan.pl hcan.ol) (by simp [Lay.cells, Path.cells]) (by simp) ?_
 simp
 have hck := zl9 g3
 have hos := zhy g1 p.exit
 have hnl : (newH l k p).len := ⟨by simp only [newH]; omega, by simp only [newH]; omega, by simp only [newH]; omega⟩
 refine zaa rfl (fun vs => ∃ i : Nat, i ≤ k.held.length ∧ vs = [I i]) (fun vs => match vs with | [.int _ j] => k.held.length - j.toNat | _ => 0) ⟨0, by omega, by simp⟩ ?_
 rintro vs - ⟨i, hii, rfl⟩
 simp
 refine ⟨fun hlt => ?_, fun hge => ?_⟩
 ·have hw := zab (i := i) (by omega)
  have hap := zmN g2 hf hlt
  have hsg := hf.sig _ (List.getElem_mem hlt)
  simp [hlt, Hd.cells]
  refine call (ze3 (newH l k p) k.held[i] hnl (k.at hkl hlt)) (by simp [newH, Path.cells, hlt, Hd.cells]) (fun _ => rfl) ?_
  have hs2 : k.held[i].path.sig = p.sig → k.held[i].stage = 3 := by
   intro h; simpa [zcm, h] using hsg
  simp [hap, hlt, Hd.cells, hw]
  exact ⟨hs2, fun _ => ⟨⟨i + 1, by omega, by omega⟩, by omega⟩⟩
 ·refine zaa rfl (fun vs => ∃ i : Nat, i ≤ p.steps.length ∧ vs = [I i]) (fun vs => match vs with | [.int _ j] => p.steps.length - j.toNat | _ => 0) ⟨0, by omega, by simp⟩ ?_
  rintro vs - ⟨j, hj, rfl⟩
  simp
  refine ⟨fun hlt2 => ?_, fun hge2 => ?_⟩
  ·have hw := zab (i := j) (by omega)
   have hfr := hf.free _ (List.mem_append_left _ (List.getElem_mem hlt2))
   have hoc : zbf l im p.steps[j].s = false := by
    simp only [zcN, Bool.and_eq_true, Bool.not_eq_true'] at hfr
    exact hfr.2
   simp [hlt2, Step.cells]
   refine call (zhW l im hi p.steps[j].s) (by simp [Lay.cells, Img.cells, hlt2, Step.cells]) (fun _ => rfl) ?_
   simp [hoc, hw]
   exact ⟨⟨j + 1, by omega, by omega⟩, by omega⟩
  ·have hst : stale l im = false := by
    have h0 : 0 < p.steps.length := by omega
    have hfr := hf.free _ (List.mem_append_left _ (List.getElem_mem h0))
    simp only [zcN, Bool.and_eq_true, Bool.not_eq_true'] at hfr
    cases hs : stale l im
    ·rfl
    ·rw [zm1 hs] at hfr; cases hfr.2
   have hroom := hf.room
   have hroom' : (k.held.length : Int) < 6 := by omega
   refine zai (avs := [l.av, im.av]) (.bool (stale l im)) rfl (fun _ => ⟨by simp [Lay.cells, Img.cells], zco l im⟩) (fun _ => rfl) ?_
   simp [hst, hroom']
   exact zai (avs := []) (.bool true) rfl (fun _ => ⟨rfl, zaB⟩) (fun _ => rfl) (by simp [hroom'])
end Go.Lb.LK
namespace Go.Lb.LK
open Go Go.Lb Go.Proofs Go.RowKit
theorem args4 : znj Tryz.prog 8 Tryz.f4.params.toList = [(true, layT), (true, imgT), (true, zlu), (true, zlD)] := by kernel_rfl
theorem law4 {avs : List AV} (h : zgb Tryz.prog 8 Tryz.f4.params.toList avs) (hb : AV.wgts reachBytes avs) : C 4 avs (.bool true) := by
 have h := zc3 _ _ h
 rw [args4] at h
 obtain ⟨x0, q, rfl, h0a, h0b, x1, q, rfl, h1a, h1b, x2, q, rfl, h2a, h2b, x3, q, rfl, h3a, h3b, rfl⟩ := h
 obtain ⟨l, rfl, hl⟩ := zmD h0a h0b
 obtain ⟨im, rfl, him⟩ := zmx h1a h1b
 obtain ⟨k, rfl, hk⟩ := zic h2a h2b
 obtain ⟨p, rfl⟩ := znQ h3a h3b
 have hkw : k.wide := zid (zcK hb _ (by simp))
 exact zjY l hl im him k hkw hk p
end Go.Lb.LK
namespace Go.Proofs.YtmaldhbaihlmbaaGreatDoor
open Go Go.ChangeShapes Go.WideShapes Go.ChangeAt Go.RowKit Go.Lb Go.Lb.LK
theorem own4 : ownKnob Tryz.prog.godebug = none := by kernel_rfl
theorem znA : laidOutB Tryz.prog = true := by kernel_rfl
theorem zmf (os : Os) (args : Array Value) : laidMetH Tryz.prog Rows.freeApartRow.laid ((World.doorLaid Tryz.prog 400 os).forCall (fun _ _ => 0) ⟨#[], args, []⟩).memory :=
 laidMetH_of_parts3 (fuel := 8) (laidMet_of_run' 8 (by kernel_rfl) (by kernel_rfl)) (by kernel_rfl) (by kernel_rfl)
set_option maxRecDepth 100000 in
theorem freeApart_lifted (os : Os) (started : os.Started) (H : Type) (enc : TypeId × Value → H) :
  ReturnsInHanded {} Tryz.checked os 4 .any (fun w args => (Rows.freeApartSpec.pre enc Tryz.prog Tryz.f4 [] false w args ∧ laidMetH Tryz.prog Rows.freeApartRow.laid w) ∧ sizedMet enc Tryz.prog Tryz.f4 (OpenSpec.ofChange Rows.freeApartSpec) false w args)
   (Rows.freeApartSpec.post enc Tryz.prog Tryz.f4 false true false false) := by
 refine zcP (C := Tryz.checked) os started 8 H enc (G := GL) (by kernel_rfl) own4 znA (by kernel_rfl) Tryz.func4
  (ChangeSpec.witness_shaped (enc := enc) (C := Tryz.checked) (os := os) (X := fun w _ => laidMetH Tryz.prog Rows.freeApartRow.laid w) false (World.doorLaid Tryz.prog 400 os) #[.agg #[.slice none 0 0, .slice none 0 0, .slice none 0 0, .slice none 0 0, .int .i64 0, .int .i64 0, .int .i64 0, .int .i64 0, .int .i64 0, .int .i64 0, .int .i64 0], .agg #[.int .i64 0, .int .i64 0, .int .i64 0, .int .i64 0, .int .i64 0, .int .i64 0, .int .i64 0, .int .i64 0, .int .i64 0, .int .i64 0, .int .i64 0, .int .i64 0, .int .i64 0, .int .i64 0, .int .i64 0, .int .i64 0, .int .i64 0, .int .i64 0, .int .i64 0, .int .i64 0, .int .i64 0, .int .i64 0, .int .i64 0, .int .i64 0, .int .i64 0, .int .u32 0, .int .u32 0, .int .u32 0, .int .u32 0], .agg #[.int .i64 0, .slice none 0 0, .int .i64 0, .int .i64 0, .bool false, .int .i64 0, .int .i64 0, .bool false, .int .i64 0, .int .i64 0, .bool false, .int .i64 0, .int .i64 0, .bool false, .int .i64 0, .int .i64 0, .bool false, .int .i64 0, .int .i64 0, .bool false, .int .i64 0, .int .i64 0, .bool false, .int .i64 0, .int .i64 0, .bool false, .int .i64 0, .int .i64 0, .bool false, .int .i64 0, .int .i64 0, .bool false, .int .i64 0, .int .i64 0, .bool false, .int .i64 0, .int .i64 0, .bool false, .int .i64 0, .int .i64 0, .bool false, .int .i64 0, .int .i64 0, .bool false, .int .i64 0, .int .i64 0, .bool false, .int .i64 0, .int .i64 0, .bool false, .int .i64 0, .int .i64 0, .bool false, .int .i64 0, .int .i64 0, .bool false, .int .i64 0, .int .i64 0, .bool false, .int .i64 0, .int .i64 0, .bool false, .int .i64 0, .int .i64 0, .bool false, .int .i64 0, .int .i64 0, .bool false, .int .i64 0, .int .i64 0, .bool false, .int .i64 0, .int .i64 0, .bool false], .agg #[.int .i64 0, .int .i64 0, .slice none 0 0]] 8 rfl (World.shaped_of_RefB (by kernel_rfl) (by kernel_rfl)) (by kernel_rfl) (by kernel_rfl) (by kernel_rfl) (zmf os _))
  rfl rfl (by kernel_rfl) (by kernel_rfl) (fun ds h => ?_) (fun w h => zcO 8 (by kernel_rfl) (by kernel_rfl) h) (by kernel_rfl) (fun avs h hb => law4 h hb)
 have h : ds.length = 4 := h
 match ds, h with
 | [a, b, c, d], _ => exact ⟨rfl, rfl, rfl⟩
theorem freeApart_said : Rows.FreeApartSaid :=
 OpenClaim.holds_of_wide 4 Tryz.f4 rfl rfl rfl rfl rfl rfl rfl ⟨rfl, rfl, rfl, rfl, rfl⟩ rfl rfl rfl rfl rfl (by kernel_rfl) Tryz.func4 (by kernel_rfl)
  (of_decide_eq_true (by kernel_rfl)) (by unfold Func.isWrapper; first | (rw [if_pos (by decide +kernel)]; kernel_rfl) | (rw [if_neg (by decide +kernel)]; exact ⟨rfl, rfl⟩))
  (fun os started H enc _ => freeApart_lifted os started H enc)
theorem freeApart_holds : Rows.FreeApartCardSaid :=
 Claim7.holds_tied_plain_at .later [] [.data] true _ false
  freeApart_said (fun _ h => by cases h) (by kernel_rfl) (fun _ h => by cases h) freeApart_row_tie rfl ⟨rfl, rfl⟩ (by kernel_rfl) rfl
  (fun f fn hf hfn => by
   obtain rfl : f = 4 := Option.some.inj ((show Tryz.prog.funcNamed Rows.freeApartRow.func = some 4 by kernel_rfl).symm.trans hf) |>.symm
   obtain rfl : fn = Tryz.f4 := (Option.some.inj (Tryz.func4.symm.trans hfn)).symm
   exact ⟨by kernel_rfl, fun j t ht => by
    have hm : t ∈ Tryz.f4.params.toList := by simpa using Array.mem_of_getElem? ht
    have hall : (Tryz.f4.params.toList.all fun u => !Tryz.prog.wantsStandIn u) = true := by kernel_rfl
    exact (show Tryz.prog.wantsStandIn t = false by simpa using List.all_eq_true.1 hall t hm)⟩)
  (by kernel_rfl)
end Go.Proofs.YtmaldhbaihlmbaaGreatDoor
