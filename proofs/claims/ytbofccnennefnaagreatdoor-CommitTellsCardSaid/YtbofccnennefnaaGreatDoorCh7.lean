/- Which sections, exits, flanks, times may be, as the document has it. -/
import Derived.Test.YtbofccnennefnaaGreatDoorCh6
import Derived.Test.YtbofccnennefnaaGreatDoorFw11
set_option linter.unusedSimpArgs false
set_option linter.unusedVariables false
namespace Go.Lb.LK
open Go Go.Lb Go.Proofs Go.RowKit
def mayP (p : Port) : Bool := decide (p = noP) || (decide (0 ≤ p.s) && (decide (p.s < 24) && (decide (0 ≤ p.p) && decide (p.p < 4))))
theorem zhJ (a b : Int) : ((⟨a, b⟩ : Port) = noP) ↔ a = -1 ∧ b = 0 := by simp [noP]
theorem znB (p : Port) : C f_lockbarref05_May [p.av] (.bool (mayP p)) := by
 refine ctr p.cells run_lockbarref05_May rfl (by simp) rfl ?_ rfl
 unfold rt_lockbarref05_May
 obtain ⟨a, b⟩ := p
 simp [Port.cells, mayP, zhJ]
 by_cases h1 : a = -1 <;> by_cases h2 : b = 0 <;> by_cases h3 : 0 ≤ a <;> by_cases h4 : a < 24 <;> by_cases h5 : 0 ≤ b <;> by_cases h6 : b < 4 <;> simp [h1, h2, h3, h4, h5, h6, AV.eqs, AV.eq1]
def zdy (s : Sec) (i : Nat) : Bool := if (i : Int) < zaw s.kind then mayP (s.join i) else decide (s.join i = noP)
def zji (s : Sec) (i : Nat) : Bool := (decide (0 ≤ s.cls i) && decide (s.cls i ≤ 3)) && (decide ((i : Int) < ways s.kind) || decide (s.cls i = 0))
def zcx (s : Sec) : Bool := (List.range 4).all (zdy s) && ((List.range 2).all (zji s) && decide (0 < zaw s.kind))
theorem zhj (s : Sec) : C f_lockbarref05_Right [s.av] (.bool (zcx s)) := by
 refine ctr s.cells run_lockbarref05_Right rfl (by simp) rfl ?_ rfl
 unfold rt_lockbarref05_Right
 simp [Sec.cells, -zaf]
 refine zaa rfl (fun vs => ∃ i : Nat, i ≤ 4 ∧ vs = [I i] ∧ ∀ j, j < i → zdy s j = true) (fun vs => match vs with | [.int _ j] => 4 - j.toNat | _ => 0) ⟨0, by omega, by simp, fun j hj => by omega⟩ ?_
 rintro vs - ⟨i, hi, rfl, hq⟩
 simp [-zaf]
 refine ⟨fun hlt => ?_, fun hge => ?_⟩
 ·have hw := zab (i := i) (by omega)
  have hi4 : i < 4 := by omega
  have hJ := zpR s (i := i) (z := (i : Int)) rfl hi4
  simp only [Sec.cells] at hJ
  refine call (zca s.kind) (by simp) (fun _ => rfl) ?_
  simp [hJ, -zaf]
  repeat refine And.intro (by intros; omega) ?_
  refine zaj (avs := [(s.join i).av]) (.bool (mayP (s.join i))) rfl (fun _ => ⟨by simp [hJ, -zaf], znB _⟩) (fun _ => rfl) ?_
  simp [hJ, -zaf]
  refine zaj (avs := [U s.kind]) (I (zaw s.kind)) rfl (fun _ => ⟨by simp, zca _⟩) (fun _ => rfl) ?_
  have hje : zdy s i = if (i : Int) < zaw s.kind then mayP (s.join i) else decide (s.join i = noP) := rfl
  have hbad : zdy s i = false → zcx s = false := fun hk => by simp [zcx, zaB hi4 hk]
  have hgood : zdy s i = true → ∀ j, j < i + 1 → zdy s j = true := fun hk j hj => by
   by_cases hji : j = i
   ·subst hji; exact hk
   ·exact hq j (by omega)
  by_cases hp : (i : Int) < zaw s.kind
  ·rw [if_pos hp] at hje
   have hp2 : ¬ zaw s.kind ≤ (i : Int) := by omega
   cases hm : mayP (s.join i)
   ·have := hbad (by rw [hje, hm])
    simp [hp, hp2, hm, hJ, this, -zaf]
   ·have := hgood (by rw [hje, hm])
    simp [hp, hp2, hm, hJ, hw, -zaf]
    exact ⟨⟨i + 1, by omega, by omega, this⟩, by omega⟩
  ·rw [if_neg hp] at hje
   have hp2 : zaw s.kind ≤ (i : Int) := by omega
   have hpe := zdM (s.join i) noP
   by_cases hj : s.join i = noP
   ·have := hgood (by rw [hje]; simpa using hj)
    simp [hj, Port.cells, noP, AV.eqs, AV.eq1] at hpe
    simp [hp, hp2, hJ, hj, hw, noP, Port.cells, AV.eqs, AV.eq1, -zaf]
    repeat refine And.intro (by intros; omega) ?_
    exact ⟨⟨i + 1, by omega, by omega, this⟩, by omega⟩
   ·have := hbad (by rw [hje]; simpa using hj)
    have hj2 : ¬ ((s.join i).s = -1 ∧ (s.join i).p = 0) := fun h => hj (by rw [← zhJ] at h; exact h)
    simp [hp, hp2, hJ, hw, this, Port.cells, AV.eqs, AV.eq1, -zaf]
    repeat refine And.intro (by intros; omega) ?_
    exact fun h1 h2 => absurd ⟨h1, h2⟩ hj2
 ·have h4 : (List.range 4).all (zdy s) = true := zaA fun j hj => hq j (by omega)
  refine zaa rfl (fun vs => ∃ i : Nat, i ≤ 2 ∧ vs = [I i] ∧ ∀ j, j < i → zji s j = true) (fun vs => match vs with | [.int _ j] => 2 - j.toNat | _ => 0) ⟨0, by omega, by simp, fun j hj => by omega⟩ ?_
  rintro vs - ⟨m, hm, rfl, hqm⟩
  simp [-zaf]
  refine ⟨fun hlt => ?_, fun hge => ?_⟩
  ·have hw := zab (i := m) (by omega)
   have hm2 : m < 2 := by omega
   have hC := aidxC s (i := m) (z := (m : Int)) rfl hm2
   simp only [Sec.cells] at hC
   simp [hC, -zaf]
   repeat refine And.intro (by intros; omega) ?_
   refine zaj (avs := [U s.kind]) (I (ways s.kind)) rfl (fun _ => ⟨by simp, zex _⟩) (fun _ => rfl) ?_
   simp [hC, -zaf]
   repeat refine And.intro (by intros; omega) ?_
   have hce : zji s m = ((decide (0 ≤ s.cls m) && decide (s.cls m ≤ 3)) && (decide ((m : Int) < ways s.kind) || decide (s.cls m = 0))) := rfl
   refine ⟨fun hb => ?_, fun h1 h2 h3 => ⟨⟨m + 1, by omega, hw, fun j hj => ?_⟩, by omega⟩⟩
   ·have hk : zji s m = false := by
     rw [hce]
     rcases hb with (hb | hb) | ⟨hb, hb2⟩
     ·simp [show ¬ 0 ≤ s.cls m by omega]
     ·simp [show ¬ s.cls m ≤ 3 by omega]
     ·simp [show ¬ (m : Int) < ways s.kind by omega, hb2]
    simp [zcx, h4, zaB hm2 hk]
   ·by_cases hjm : j = m
    ·subst hjm
     rw [hce]
     by_cases hw2 : (j : Int) < ways s.kind
     ·simp [h1, h2, hw2]
     ·simp [h1, h2, h3 (by omega)]
    ·exact hqm j (by omega)
  ·have h2 : (List.range 2).all (zji s) = true := zaA fun j hj => hqm j (by omega)
   refine call (zca s.kind) (by simp) (fun _ => rfl) ?_
   simp [zcx, h4, h2]
end Go.Lb.LK
namespace Go.Lb.LK
open Go Go.Lb Go.Proofs Go.RowKit
def zjD : Sec := ⟨0, ⟨0, 0⟩, ⟨0, 0⟩, ⟨0, 0⟩, ⟨0, 0⟩, 0, 0⟩
def zet (l : Lay) (p : Port) : Sec := if hasP l p = true then (l.secs[p.s.toNat]?).getD zjD else zjD
theorem znD (l : Lay) (p : Port) : C f_lockbarref06_At [l.av, p.av] (.tup [(zet l p).av, .bool (hasP l p)]) := by
 refine ctr (l.cells ++ p.cells) run_lockbarref06_At rfl (by simp [zac]) (by simp [AV.pure, AV.pureAll]) ?_ rfl
 unfold rt_lockbarref06_At
 simp [Lay.cells, Port.cells]
 by_cases hc : 0 ≤ p.s ∧ p.s < l.secs.length
 ·obtain ⟨n, hn, hlt, he⟩ := zaY hc.1 hc.2
  have hls : hasP l p = (decide (0 ≤ p.p) && decide (p.p < zaw l.secs[n].kind)) := by simp [hasP, he]
  have h1 : ¬ ((n : Int) < 0) := by omega
  have h2 : ¬ (l.secs.length ≤ n) := by omega
  simp [hn, hlt, h1, h2, Sec.cells]
  refine zaj (avs := [U l.secs[n].kind]) (I (zaw l.secs[n].kind)) rfl (fun _ => ⟨by simp [hlt, Sec.cells], zca _⟩) (fun _ => rfl) ?_
  by_cases h0 : p.p < 0
  ·have hx : hasP l p = false := by rw [hls]; simp [show ¬ 0 ≤ p.p by omega]
   simp [h0, hlt, hx, zet, zjD, Sec.cells]
  ·by_cases h3 : zaw l.secs[n].kind ≤ p.p
   ·have hx : hasP l p = false := by rw [hls]; simp [show ¬ p.p < zaw l.secs[n].kind by omega]
    simp [h0, h3, hlt, hx, zet, zjD, Sec.cells]
   ·have hx : hasP l p = true := by rw [hls]; simp [show 0 ≤ p.p by omega, show p.p < zaw l.secs[n].kind by omega]
    simp [h0, h3, hlt, hx, zet, hn, Sec.cells]
 ·have hls : hasP l p = false := by simp [hasP, za2 hc]
  have hbad : p.s < 0 ∨ (l.secs.length : Int) ≤ p.s := by omega
  refine ⟨fun a b => absurd ⟨a, b⟩ hc, fun a b => absurd ⟨a, b⟩ hc, ?_⟩
  refine zaj (avs := []) (I 0) rfl (fun hh => ?_) (fun _ => rfl) ?_
  ·simp at hh; omega
  ·by_cases h0 : p.s < 0
   ·simp [h0, hls, zet, zjD, Sec.cells]
   ·have h1 := hbad.resolve_left h0
    simp [h0, h1, hls, zet, zjD, Sec.cells]
theorem zeY (l : Lay) (p : Port) : C f_lockbarref06_there [l.av, p.av] (.bool (hasP l p)) := by
 refine ctr (l.cells ++ p.cells) run_lockbarref06_there rfl (by simp [zac]) rfl ?_ rfl
 unfold rt_lockbarref06_there
 simp [Lay.cells, Port.cells]
 refine call (znD l p) (by simp [Lay.cells, Port.cells]) (by simp) ?_
 simp [Sec.cells]
def zcE (l : Lay) (s : Sec) (j : Nat) : Bool := !decide (0 ≤ (s.join j).s) || hasP l (s.join j)
def zjN (l : Lay) (s : Sec) : Bool := (List.range 4).all (zcE l s) && zcx s
theorem zi8 (l : Lay) (s : Sec) : C f_lockbarref06_section [l.av, s.av] (.bool (zjN l s)) := by
 refine ctr (l.cells ++ s.cells) run_lockbarref06_section rfl (by simp [zac]) rfl ?_ rfl
 unfold rt_lockbarref06_section
 simp [Lay.cells, Sec.cells, -zaf]
 refine zaa rfl (fun vs => ∃ i : Nat, i ≤ 4 ∧ vs = [I i] ∧ ∀ j, j < i → zcE l s j = true) (fun vs => match vs with | [.int _ j] => 4 - j.toNat | _ => 0) ⟨0, by omega, by simp, fun j hj => by omega⟩ ?_
 rintro vs - ⟨i, hi, rfl, hq⟩
 simp [-zaf]
 refine ⟨fun hlt => ?_, fun hge => ?_⟩
 ·have hw := zab (i := i) (by omega)
  have hi4 : i < 4 := by omega
  have hJ := zpR s (i := i) (z := (i : Int)) rfl hi4
  have hJs := zq8 s (i := i) (z := (i : Int)) rfl hi4
  simp only [Sec.cells] at hJ hJs
  simp [hJ, hJs, -zaf]
  repeat refine And.intro (by intros; omega) ?_
  refine zaj (avs := [l.av, (s.join i).av]) (.bool (hasP l (s.join i))) rfl (fun _ => ⟨by simp [hJ, Lay.cells, -zaf], zeY _ _⟩) (fun _ => rfl) ?_
  simp [hJ, hJs, -zaf]
  repeat refine And.intro (by intros; omega) ?_
  have hje : zcE l s i = (!decide (0 ≤ (s.join i).s) || hasP l (s.join i)) := rfl
  refine ⟨fun h1 h2 => ?_, fun h1 => ⟨⟨i + 1, by omega, hw, fun j hj => ?_⟩, by omega⟩⟩
  ·have : zcE l s i = false := by rw [hje]; simp [h1, h2]
   simp [zjN, zaB hi4 this]
  ·by_cases hji : j = i
   ·subst hji
    rw [hje]
    by_cases h0 : 0 ≤ (s.join j).s
    ·simp [h1 h0]
    ·simp [h0]
   ·exact hq j (by omega)
 ·have h4 : (List.range 4).all (zcE l s) = true := zaA fun j hj => hq j (by omega)
  refine call (zhj s) (by simp [Sec.cells]) (fun _ => rfl) ?_
  simp [zjN, h4]
def zbJ (l : Lay) (x : Exi) : Bool := x.over.all (fun t => (za5 l t).2) && (hasP l x.a && decide (x.over.length ≤ 2))
theorem zmL (l : Lay) (x : Exi) (hx : x.over.length ≤ 1000) : C f_lockbarref06_exit [l.av, x.av] (.bool (zbJ l x)) := by
 refine ctr (l.cells ++ x.cells) run_lockbarref06_exit rfl (by simp [zac]) rfl ?_ rfl
 unfold rt_lockbarref06_exit
 simp [Lay.cells, Exi.cells]
 refine zaa rfl (fun vs => ∃ i : Nat, i ≤ x.over.length ∧ vs = [I i] ∧ zal (fun t => !(za5 l t).2) (x.over.take i)) (fun vs => match vs with | [.int _ j] => x.over.length - j.toNat | _ => 0) ⟨0, by omega, by simp, rfl⟩ ?_
 rintro vs - ⟨i, hi, rfl, hq⟩
 simp
 refine ⟨fun hlt => ?_, fun hge => ?_⟩
 ·have hw := zab (i := i) (by omega)
  simp [hlt, Step.cells]
  refine call (zdq l x.over[i]) (by simp [Lay.cells, hlt, Step.cells]) (by simp) ?_
  cases hs : (za5 l x.over[i]).2
  ·have : x.over.all (fun t => (za5 l t).2) = false := by
    rw [List.all_eq_false]
    exact ⟨x.over[i], List.getElem_mem hlt, by rw [hs]; simp⟩
   simp [hs, zbJ, this]
  ·simp [hs, hw]
   exact ⟨⟨i + 1, by omega, by omega, zah hlt hq (by simp [hs])⟩, by omega⟩
 ·have ht : x.over.take i = x.over := List.take_of_length_le (by omega)
  rw [ht] at hq
  have hall : x.over.all (fun t => (za5 l t).2) = true := by
   rw [List.all_eq_true]
   intro t ht
   have := List.any_eq_false.1 hq t ht
   simpa using this
  refine call (zeY l x.a) (by simp [Lay.cells, Port.cells]) (fun _ => rfl) ?_
  simp [zbJ, hall]
  have e : decide ((x.over.length : Int) ≤ 2) = decide (x.over.length ≤ 2) := decide_eq_decide.2 (by omega)
  simp [e]
def zaX (l : Lay) (f : Flank) : Bool := match zdZ l f.s, zdZ l f.point with
 | some a, some b => (!decide (f.s = f.point) && decide (0 ≤ f.pos ∧ f.pos ≤ 1)) && (decide (0 ≤ f.way) && (decide (f.way < ways a.kind) && decide (b.kind = 2)))
 | _, _ => false
theorem zll (l : Lay) (f : Flank) : C f_lockbarref06_flank [l.av, f.av] (.bool (zaX l f)) := by
 refine ctr (l.cells ++ f.cells) run_lockbarref06_flank rfl (by simp [zac]) rfl ?_ rfl
 unfold rt_lockbarref06_flank
 simp [Lay.cells, Flank.cells]
 have hout : ¬ ((0 ≤ f.s ∧ f.s < l.secs.length) ∧ (0 ≤ f.point ∧ f.point < l.secs.length)) → zaX l f = false := fun h => by
  unfold zaX
  by_cases h1 : 0 ≤ f.s ∧ f.s < l.secs.length
  ·have h2 : zdZ l f.point = none := za2 fun h2 => h ⟨h1, h2⟩
   rw [h2]
   split
   ·rename_i hb; cases hb
   ·rfl
  ·rw [za2 h1]
 refine ⟨fun hb => ?_, fun h1 h2 h3 h4 h5 h6 h7 => ?_⟩
 ·by_cases hin : (0 ≤ f.s ∧ f.s < l.secs.length) ∧ (0 ≤ f.point ∧ f.point < l.secs.length)
  ·obtain ⟨n, hn, hlt, he⟩ := zaY hin.1.1 hin.1.2
   obtain ⟨m, hm, hlm, hf⟩ := zaY hin.2.1 hin.2.2
   have hx : f.s = f.point ∨ ¬ (0 ≤ f.pos ∧ f.pos ≤ 1) := by omega
   unfold zaX
   rw [he, hf]
   rcases hx with hx | hx
   ·simp [hx]
   ·simp [hx]
  ·exact hout hin
 ·obtain ⟨n, hn, hlt, he⟩ := zaY h1 h2
  obtain ⟨m, hm, hlm, hf⟩ := zaY h3 h4
  have hval : zaX l f = (decide (0 ≤ f.way) && (decide (f.way < ways l.secs[n].kind) && decide (l.secs[m].kind = 2))) := by
   unfold zaX
   rw [he, hf]
   simp [h5, h6, h7]
  simp [hn, hm, hlt, hlm, Sec.cells]
  refine zaj (avs := [U l.secs[n].kind]) (I (ways l.secs[n].kind)) rfl (fun _ => ⟨by simp [hlt, Sec.cells], zex _⟩) (fun _ => rfl) ?_
  simp [hlm, Sec.cells, hval, Bool.and_assoc]
  by_cases hk : l.secs[m].kind = 2 <;> simp [hk]
def Lay.time (l : Lay) (i : Nat) : Int := if i = 0 then l.clear else if i = 1 then l.drive else if i = 2 then l.stale else if i = 3 then l.approach else if i = 4 then l.over else if i = 5 then l.press else l.link
def zdV (l : Lay) (i : Nat) : Bool := decide (1 ≤ l.time i) && decide (l.time i ≤ 1000)
def zfi (l : Lay) : Bool := (List.range 7).all (zdV l)
def zbZ (l : Lay) : List AV := [I l.clear, I l.drive, I l.stale, I l.approach, I l.over, I l.press, I l.link]
theorem aidxT (l : Lay) {i : Nat} {z : Int} (hz : z = i) (h : i < 7) : pv (.aidx 7 1 0 1 false) [.agg (zbZ l), I z] = I (l.time i) := by
 subst hz
 match i, h with
 | 0, _ => rfl
 | 1, _ => rfl
 | 2, _ => rfl
 | 3, _ => rfl
 | 4, _ => rfl
 | 5, _ => rfl
 | 6, _ => rfl
theorem zlm (l : Lay) : C f_lockbarref06_times [.agg (zbZ l)] (.bool (zfi l)) := by
 refine ctr (zbZ l) run_lockbarref06_times rfl (by simp [zbZ, AV.pureAll, AV.pure]) rfl ?_ rfl
 unfold rt_lockbarref06_times
 simp [zbZ, -zaf]
 refine zaa rfl (fun vs => ∃ i : Nat, i ≤ 7 ∧ vs = [I i] ∧ ∀ j, j < i → zdV l j = true) (fun vs => match vs with | [.int _ j] => 7 - j.toNat | _ => 0) ⟨0, by omega, by simp, fun j hj => by omega⟩ ?_
 rintro vs - ⟨i, hi, rfl, hq⟩
 simp [-zaf]
 refine ⟨fun hlt => ?_, fun hge => ?_⟩
 ·have hw := zab (i := i) (by omega)
  have hi7 : i < 7 := by omega
  have hT := aidxT l (i := i) (z := (i : Int)) rfl hi7
  simp only [zbZ] at hT
  simp [hT, -zaf]
  repeat refine And.intro (by intros; omega) ?_
  have hte : zdV l i = (decide (1 ≤ l.time i) && decide (l.time i ≤ 1000)) := rfl
  by_cases hb : 1 ≤ l.time i ∧ l.time i ≤ 1000
  ·left
   refine ⟨hb, ⟨i + 1, by omega, hw, fun j hj => ?_⟩, by omega⟩
   by_cases hji : j = i
   ·subst hji; rw [hte]; simp [hb.1, hb.2]
   ·exact hq j (by omega)
  ·right
   refine ⟨by omega, ?_⟩
   have : zdV l i = false := by
    rw [hte]
    by_cases h1 : 1 ≤ l.time i
    ·simp [show ¬ l.time i ≤ 1000 by omega]
    ·simp [h1]
   exact zaB hi7 this
 ·exact zaA fun j hj => hq j (by omega)
structure Lay.lens (l : Lay) : Prop where
 secs : l.secs.length ≤ 1000
 sigs : l.sigs.length ≤ 1000
 exits : l.exits.length ≤ 1000
 flanks : l.flanks.length ≤ 1000
 over : ∀ e ∈ l.exits, e.over.length ≤ 1000
def zdj (l : Lay) : Bool := l.secs.all (zjN l) && (l.sigs.all (hasP l) && (l.exits.all (zbJ l) && (l.flanks.all (zaX l) &&
 (decide (l.secs.length ≤ 24) && (decide (l.sigs.length ≤ 12) && (decide (l.exits.length ≤ 12) && (decide (l.flanks.length ≤ 16) && zfi l)))))))
theorem zdG {α : Type} {q : α → Bool} {l : List α} {i : Nat} (hi : i < l.length) (hq : q l[i] = false) : l.all q = false := by
 rw [List.all_eq_false]
 exact ⟨l[i], List.getElem_mem hi, by rw [hq]; simp⟩
theorem zdb {α : Type} {q : α → Bool} {l : List α} (h : zal (fun x => !q x) l) : l.all q = true := by
 rw [List.all_eq_true]
 intro x hx
 have := List.any_eq_false.1 h x hx
 simpa using this
theorem zhk (l : Lay) (hl : l.lens) : C f_lockbarref06_Right [l.av] (.bool (zdj l)) := by
 obtain ⟨b1, b2, b3, b4, b5⟩ := hl
 refine ctr l.cells run_lockbarref06_Right rfl (by simp) rfl ?_ rfl
 unfold rt_lockbarref06_Right
 simp [Lay.cells]
 refine zaa rfl (fun vs => ∃ i : Nat, i ≤ l.secs.length ∧ vs = [I i] ∧ zal (fun t => !zjN l t) (l.secs.take i)) (fun vs => match vs with | [.int _ j] => l.secs.length - j.toNat | _ => 0) ⟨0, by omega, by simp, rfl⟩ ?_
 rintro vs - ⟨i, hi, rfl, hq1⟩
 simp
 refine ⟨fun hlt => ?_, fun hge => ?_⟩
 ·have hw := zab (i := i) (by omega)
  simp [hlt, Sec.cells]
  refine call (zi8 l l.secs[i]) (by simp [Lay.cells, hlt, Sec.cells]) (fun _ => rfl) ?_
  cases hs : zjN l l.secs[i]
  ·simp [zdj, zdG hlt hs]
  ·simp [hw]
   exact ⟨⟨i + 1, by omega, by omega, zah hlt hq1 (by simp [hs])⟩, by omega⟩
 rw [List.take_of_length_le (by omega)] at hq1
 refine zaa rfl (fun vs => ∃ i : Nat, i ≤ l.sigs.length ∧ vs = [I i] ∧ zal (fun t => !hasP l t) (l.sigs.take i)) (fun vs => match vs with | [.int _ j] => l.sigs.length - j.toNat | _ => 0) ⟨0, by omega, by simp, rfl⟩ ?_
 rintro vs - ⟨i, hi, rfl, hq2⟩
 simp
 refine ⟨fun hlt => ?_, fun hge => ?_⟩
 ·have hw := zab (i := i) (by omega)
  simp [hlt, Port.cells]
  refine call (zeY l l.sigs[i]) (by simp [Lay.cells, hlt, Port.cells]) (fun _ => rfl) ?_
  cases hs : hasP l l.sigs[i]
  ·simp [zdj, zdG hlt hs]
  ·simp [hw]
   exact ⟨⟨i + 1, by omega, by omega, zah hlt hq2 (by simp [hs])⟩, by omega⟩
 rw [List.take_of_length_le (by omega)] at hq2
 refine zaa rfl (fun vs => ∃ i : Nat, i ≤ l.exits.length ∧ vs = [I i] ∧ zal (fun t => !zbJ l t) (l.exits.take i)) (fun vs => match vs with | [.int _ j] => l.exits.length - j.toNat | _ => 0) ⟨0, by omega, by simp, rfl⟩ ?_
 rintro vs - ⟨i, hi, rfl, hq3⟩
 simp
 refine ⟨fun hlt => ?_, fun hge => ?_⟩
 ·have hw := zab (i := i) (by omega)
  simp [hlt, Exi.cells]
  refine call (zmL l l.exits[i] (b5 _ (List.getElem_mem hlt))) (by simp [Lay.cells, hlt, Exi.cells]) (fun _ => rfl) ?_
  cases hs : zbJ l l.exits[i]
  ·simp [zdj, zdG hlt hs]
  ·simp [hw]
   exact ⟨⟨i + 1, by omega, by omega, zah hlt hq3 (by simp [hs])⟩, by omega⟩
 rw [List.take_of_length_le (by omega)] at hq3
 refine zaa rfl (fun vs => ∃ i : Nat, i ≤ l.flanks.length ∧ vs = [I i] ∧ zal (fun t => !zaX l t) (l.flanks.take i)) (fun vs => match vs with | [.int _ j] => l.flanks.length - j.toNat | _ => 0) ⟨0, by omega, by simp, rfl⟩ ?_
 rintro vs - ⟨i, hi, rfl, hq4⟩
 simp
 refine ⟨fun hlt => ?_, fun hge => ?_⟩
 ·have hw := zab (i := i) (by omega)
  simp [hlt, Flank.cells]
  refine call (zll l l.flanks[i]) (by simp [Lay.cells, hlt, Flank.cells]) (fun _ => rfl) ?_
  cases hs : zaX l l.flanks[i]
  ·simp [zdj, zdG hlt hs]
  ·simp [hw]
   exact ⟨⟨i + 1, by omega, by omega, zah hlt hq4 (by simp [hs])⟩, by omega⟩
 rw [List.take_of_length_le (by omega)] at hq4
 have e1 : decide ((l.secs.length : Int) ≤ 24) = decide (l.secs.length ≤ 24) := decide_eq_decide.2 (by omega)
 have e2 : decide ((l.sigs.length : Int) ≤ 12) = decide (l.sigs.length ≤ 12) := decide_eq_decide.2 (by omega)
 have e3 : decide ((l.exits.length : Int) ≤ 12) = decide (l.exits.length ≤ 12) := decide_eq_decide.2 (by omega)
 have e4 : decide ((l.flanks.length : Int) ≤ 16) = decide (l.flanks.length ≤ 16) := decide_eq_decide.2 (by omega)
 refine zaj (avs := [.agg (zbZ l)]) (.bool (zfi l)) rfl (fun _ => ⟨by simp [zbZ], zlm l⟩) (fun _ => rfl) ?_
 have a1 := zdb hq1
 have a2 := zdb hq2
 have a3 := zdb hq3
 have a4 := zdb hq4
 simp only [zdj, a1, a2, a3, a4, Bool.true_and]
 simp [e1, e2, e3, e4, Bool.and_assoc]
end Go.Lb.LK
namespace Go.Lb.LK
open Go Go.Lb Go.Proofs Go.RowKit
def zbF (l : Lay) (i : Nat) (s : Sec) (m : Nat) : Bool := decide (s.join m = noP) || (hasP l (s.join m) && (!decide ((s.join m).s = i) && decide (zat l (s.join m) = ⟨i, m⟩)))
def zbg (l : Lay) (i : Nat) : Bool := match l.secs[i]? with
 | some s => zcx s && (List.range (zaw s.kind).toNat).all (zbF l i s)
 | none => true
def zbx (l : Lay) : Bool := (List.range (min l.secs.length 24)).all (zbg l) && decide (l.secs.length ≤ 24)
theorem zgJ {l : Lay} {i : Nat} (h : i < l.secs.length) : zbg l i = (zcx l.secs[i] && (List.range (zaw l.secs[i].kind).toNat).all (zbF l i l.secs[i])) := by
 simp [zbg, List.getElem?_eq_getElem h]
theorem zfE {a b : Port} (h1 : a.s = b.s) (h2 : a.p = b.p) : a = b := by cases a; cases b; simp_all
set_option maxHeartbeats 2000000 in
theorem zkg (l : Lay) (hl : l.secs.length ≤ 1000) : C f_lockbarref07_Joined [l.av] (.bool (zbx l)) := by
 refine ctr l.cells run_lockbarref07_Joined rfl (by simp) rfl ?_ rfl
 unfold rt_lockbarref07_Joined
 simp [Lay.cells, -zaf]
 refine zaa rfl (fun vs => ∃ i : Nat, i ≤ l.secs.length ∧ i ≤ 24 ∧ vs = [I i] ∧ ∀ j, j < i → zbg l j = true) (fun vs => match vs with | [.int _ j] => l.secs.length - j.toNat | _ => 0) ⟨0, by omega, by omega, by simp, fun j hj => by omega⟩ ?_
 rintro vs - ⟨i, hi, hi24, rfl, hq⟩
 simp [-zaf]
 refine ⟨fun hlt h24 => ?_, fun hge => ?_⟩
 ·have hw := zab (i := i) (by omega)
  have hsj := zgJ hlt
  have hbad : zbg l i = false → zbx l = false := fun hk => by
   have : (List.range (min l.secs.length 24)).all (zbg l) = false := zaB (i := i) (by omega) hk
   simp [zbx, this]
  simp [hlt, Sec.cells, -zaf]
  refine call (zhj l.secs[i]) (by simp [hlt, Sec.cells]) (fun _ => rfl) ?_
  cases hs : zcx l.secs[i]
  ·have := hbad (by rw [hsj, hs]; rfl)
   simp [this, -zaf]
  have hpk := zfF l.secs[i].kind
  simp [-zaf]
  refine zaa rfl (fun vs => ∃ m : Nat, m ≤ (zaw l.secs[i].kind).toNat ∧ vs = [I m] ∧ ∀ j, j < m → zbF l i l.secs[i] j = true) (fun vs => match vs with | [.int _ j] => (zaw l.secs[i].kind).toNat - j.toNat | _ => 0) ⟨0, by omega, by simp, fun j hj => by omega⟩ ?_
  rintro vs - ⟨m, hm, rfl, hqm⟩
  simp [hlt, Sec.cells, -zaf]
  refine call (zca l.secs[i].kind) (by simp [hlt, Sec.cells]) (fun _ => rfl) ?_
  simp [-zaf]
  refine ⟨fun hlm => ?_, fun hgm => ?_⟩
  ·have hwm := zab (i := m) (by omega)
   have hm4 : m < 4 := by omega
   have hJ := zpR l.secs[i] (i := m) (z := (m : Int)) rfl hm4
   simp only [Sec.cells] at hJ
   simp [hlt, Sec.cells, hJ, -zaf]
   refine ⟨by omega, ⟨by omega, by omega⟩, ⟨by simp [Port.cells], by simp [Port.cells]⟩, ?_⟩
   have hje : zbF l i l.secs[i] m = (decide (l.secs[i].join m = noP) || (hasP l (l.secs[i].join m) && (!decide ((l.secs[i].join m).s = i) && decide (zat l (l.secs[i].join m) = ⟨i, m⟩)))) := rfl
   have hgood : zbF l i l.secs[i] m = true → ∀ j, j < m + 1 → zbF l i l.secs[i] j = true := fun hk j hj => by
    by_cases hjm : j = m
    ·subst hjm; exact hk
    ·exact hqm j (by omega)
   have hbad2 : zbF l i l.secs[i] m = false → zbx l = false := fun hk => hbad (by rw [hsj, zaB (i := m) (by omega) hk]; simp)
   refine call zij rfl (by simp) ?_
   generalize l.secs[i].join m = q at hje hJ ⊢
   simp [Port.cells, hlt, Sec.cells, hJ, -zaf]
   refine zaj (avs := [l.av, q.av]) (.bool (hasP l q)) rfl (fun _ => ⟨by simp [Lay.cells, Port.cells, hlt, Sec.cells, hJ, -zaf], zkf l q⟩) (fun _ => rfl) ?_
   simp [Port.cells, hlt, Sec.cells, hJ, -zaf]
   refine zaj (avs := [l.av, q.av]) (zat l q).av (by simp [AV.pure]) (fun _ => ⟨by simp [Lay.cells, Port.cells, hlt, Sec.cells, hJ, -zaf], zd6 l q⟩) (by simp) ?_
   simp [Port.cells, hlt, Sec.cells, hJ, -zaf]
   have hne : ¬ q = noP ↔ (¬ q.s = noP.s ∨ ¬ q.p = noP.p) := by
    constructor
    ·intro h
     by_cases h1 : q.s = noP.s
     ·exact .inr fun h2 => h (zfE h1 h2)
     ·exact .inl h1
    ·rintro (h | h) rfl <;> exact h rfl
   have hbe : zat l q = ⟨(i : Int), (m : Int)⟩ ↔ (zat l q).s = i ∧ (zat l q).p = m := by
    constructor
    ·intro h; rw [h]; exact ⟨rfl, rfl⟩
    ·rintro ⟨h1, h2⟩; exact zfE h1 h2
   rw [← hne]
   refine ⟨fun h1 h2 => hbad2 ?_, fun h1 => ⟨⟨m + 1, by omega, hwm, hgood ?_⟩, by rw [hwm]; omega⟩⟩
   ·rw [hje]
    rcases h2 with (h2 | h2) | h2
    ·simp [h1, h2]
    ·simp [h1, h2]
    ·have : ¬ zat l q = ⟨(i : Int), (m : Int)⟩ := fun h => by
      rw [hbe] at h
      rcases h2 with h2 | h2
      ·exact h2 h.1
      ·exact h2 h.2
     simp [h1, this]
   ·rw [hje]
    by_cases hq0 : q = noP
    ·simp [hq0]
    ·obtain ⟨⟨h2, h3⟩, h4⟩ := h1 hq0
     rw [decide_eq_true (hbe.2 h4)]
     simp [h2, h3]
  ·have hall : (List.range (zaw l.secs[i].kind).toNat).all (zbF l i l.secs[i]) = true := zaA fun j hj => hqm j (by omega)
   simp [hw, -zaf]
   refine ⟨⟨i + 1, by omega, by omega, by omega, fun j hj => ?_⟩, by omega⟩
   by_cases hji : j = i
   ·subst hji; rw [hsj, hs, hall]; rfl
   ·exact hq j (by omega)
 ·have e : decide ((l.secs.length : Int) ≤ 24) = decide (l.secs.length ≤ 24) := decide_eq_decide.2 (by omega)
  have hall : (List.range (min l.secs.length 24)).all (zbg l) = true := zaA fun j hj => hq j (by
   by_cases h : i < l.secs.length
   ·have := hge h; omega
   ·omega)
  simp [zbx, hall, e]
end Go.Lb.LK
namespace Go.Lb.LK
open Go Go.Lb Go.Proofs Go.RowKit
def zbI {α : Type} (same : α → α → Bool) (l : List α) (k : Nat) : Bool := match l[k]? with
 | some x => (l.take k).any fun y => same y x
 | none => false
def zan {α : Type} (same : α → α → Bool) (l : List α) : Int := match (List.range l.length).find? (zbI same l) with
 | some k => k
 | none => -1
theorem zbL {α : Type} {same : α → α → Bool} {l : List α} {k : Nat} (h : k < l.length) : zbI same l k = (l.take k).any fun y => same y l[k] := by
 simp [zbI, List.getElem?_eq_getElem h]
theorem zbY {α : Type} {same : α → α → Bool} {l : List α} {k : Nat} (h : k < l.length) (hq : ∀ j, j < k → zbI same l j = false) (hk : zbI same l k = true) : zan same l = k := by
 have hr : k < (List.range l.length).length := by simpa using h
 have : (List.range l.length).find? (zbI same l) = some ((List.range l.length)[k]) := zbM hr (by
  refine List.any_eq_false.2 fun x hx => ?_
  obtain ⟨j, hj, rfl⟩ := List.mem_take_iff_getElem.1 hx
  simp only [List.getElem_range]
  rw [hq j (by omega)]; simp) (by simpa using hk)
 simp [zan, this]
theorem zbD {α : Type} {same : α → α → Bool} {l : List α} (hq : ∀ j, j < l.length → zbI same l j = false) : zan same l = -1 := by
 have : (List.range l.length).find? (zbI same l) = none := by
  rw [List.find?_eq_none]
  intro x hx
  rw [hq x (List.mem_range.1 hx)]; simp
 simp [zan, this]
def zbb (a b : Port) : Bool := decide (a = b)
def zb7 (a b : Exi) : Bool := decide (a.a = b.a)
def zb6 (a b : Flank) : Bool := decide (a.s = b.s ∧ a.way = b.way ∧ a.point = b.point)
theorem zi9 (l : Lay) (hl : l.sigs.length ≤ 1000) : C f_lockbarref09_signals [l.av] (I (zan zbb l.sigs)) := by
 refine ctr l.cells run_lockbarref09_signals rfl (by simp) rfl ?_ rfl
 unfold rt_lockbarref09_signals
 simp [Lay.cells]
 refine zaa rfl (fun vs => ∃ i : Nat, i ≤ l.sigs.length ∧ vs = [I i] ∧ ∀ j, j < i → zbI zbb l.sigs j = false) (fun vs => match vs with | [.int _ j] => l.sigs.length - j.toNat | _ => 0) ⟨0, by omega, by simp, fun j hj => by omega⟩ ?_
 rintro vs - ⟨i, hi, rfl, hq⟩
 simp
 refine ⟨fun hlt => ?_, fun hge => ?_⟩
 ·have hw := zab (i := i) (by omega)
  have hdl := zbL (same := zbb) hlt
  refine zaa rfl (fun vs => ∃ m : Nat, m ≤ i ∧ vs = [I m] ∧ zal (fun y => zbb y l.sigs[i]) (l.sigs.take m)) (fun vs => match vs with | [.int _ j] => i - j.toNat | _ => 0) ⟨0, by omega, by simp, rfl⟩ ?_
  rintro vs - ⟨m, hm, rfl, hp⟩
  simp
  refine ⟨fun hlm => ?_, fun hgm => ?_⟩
  ·have hml : m < l.sigs.length := by omega
   have hwm := zab (i := m) (by omega)
   have hpe := zdM l.sigs[m] l.sigs[i]
   simp only [Port.cells] at hpe
   simp [hlt, hml, Port.cells, hpe, hwm]
   cases hs : zbb l.sigs[m] l.sigs[i]
   ·have hs2 : ¬ (l.sigs[m] = l.sigs[i]) := by simpa [zbb] using hs
    have hx := zah hml hp hs
    simp [hs2]
    try exact ⟨⟨m + 1, by omega, by omega, hx⟩, by omega⟩
   ·have hs2 : l.sigs[m] = l.sigs[i] := by simpa [zbb] using hs
    have hd : zbI zbb l.sigs i = true := by rw [hdl]; exact zbj (i := m) (by rw [List.length_take]; omega) (by simpa using hs)
    simp [hs2, zbY hlt hq hd]
  ·have hmi : m = i := by omega
   subst hmi
   have hd : zbI zbb l.sigs m = false := by rw [hdl]; exact hp
   simp [hw]
   refine ⟨⟨m + 1, by omega, by omega, fun j hj => ?_⟩, by omega⟩
   by_cases hjm : j = m
   ·subst hjm; exact hd
   ·exact hq j (by omega)
 ·rw [zbD fun j hj => hq j (by omega)]
theorem zlp (l : Lay) (hl : l.exits.length ≤ 1000) : C f_lockbarref09_exits [l.av] (I (zan zb7 l.exits)) := by
 refine ctr l.cells run_lockbarref09_exits rfl (by simp) rfl ?_ rfl
 unfold rt_lockbarref09_exits
 simp [Lay.cells]
 refine zaa rfl (fun vs => ∃ i : Nat, i ≤ l.exits.length ∧ vs = [I i] ∧ ∀ j, j < i → zbI zb7 l.exits j = false) (fun vs => match vs with | [.int _ j] => l.exits.length - j.toNat | _ => 0) ⟨0, by omega, by simp, fun j hj => by omega⟩ ?_
 rintro vs - ⟨i, hi, rfl, hq⟩
 simp
 refine ⟨fun hlt => ?_, fun hge => ?_⟩
 ·have hw := zab (i := i) (by omega)
  have hdl := zbL (same := zb7) hlt
  refine zaa rfl (fun vs => ∃ m : Nat, m ≤ i ∧ vs = [I m] ∧ zal (fun y => zb7 y l.exits[i]) (l.exits.take m)) (fun vs => match vs with | [.int _ j] => i - j.toNat | _ => 0) ⟨0, by omega, by simp, rfl⟩ ?_
  rintro vs - ⟨m, hm, rfl, hp⟩
  simp
  refine ⟨fun hlm => ?_, fun hgm => ?_⟩
  ·have hml : m < l.exits.length := by omega
   have hwm := zab (i := m) (by omega)
   have hpe := zdM l.exits[m].a l.exits[i].a
   simp only [Port.cells] at hpe
   simp [hlt, hml, Exi.cells, hpe, hwm]
   cases hs : zb7 l.exits[m] l.exits[i]
   ·have hs2 : ¬ (l.exits[m].a = l.exits[i].a) := by simpa [zb7] using hs
    have hx := zah hml hp hs
    simp [hs2]
    try exact ⟨⟨m + 1, by omega, by omega, hx⟩, by omega⟩
   ·have hs2 : l.exits[m].a = l.exits[i].a := by simpa [zb7] using hs
    have hd : zbI zb7 l.exits i = true := by rw [hdl]; exact zbj (i := m) (by rw [List.length_take]; omega) (by simpa using hs)
    simp [hs2, zbY hlt hq hd]
  ·have hmi : m = i := by omega
   subst hmi
   have hd : zbI zb7 l.exits m = false := by rw [hdl]; exact hp
   simp [hw]
   refine ⟨⟨m + 1, by omega, by omega, fun j hj => ?_⟩, by omega⟩
   by_cases hjm : j = m
   ·subst hjm; exact hd
   ·exact hq j (by omega)
 ·rw [zbD fun j hj => hq j (by omega)]
theorem zkh (l : Lay) (hl : l.flanks.length ≤ 1000) : C f_lockbarref09_flanks [l.av] (I (zan zb6 l.flanks)) := by
 refine ctr l.cells run_lockbarref09_flanks rfl (by simp) rfl ?_ rfl
 unfold rt_lockbarref09_flanks
 simp [Lay.cells]
 refine zaa rfl (fun vs => ∃ i : Nat, i ≤ l.flanks.length ∧ vs = [I i] ∧ ∀ j, j < i → zbI zb6 l.flanks j = false) (fun vs => match vs with | [.int _ j] => l.flanks.length - j.toNat | _ => 0) ⟨0, by omega, by simp, fun j hj => by omega⟩ ?_
 rintro vs - ⟨i, hi, rfl, hq⟩
 simp
 refine ⟨fun hlt => ?_, fun hge => ?_⟩
 ·have hw := zab (i := i) (by omega)
  have hdl := zbL (same := zb6) hlt
  refine zaa rfl (fun vs => ∃ m : Nat, m ≤ i ∧ vs = [I m] ∧ zal (fun y => zb6 y l.flanks[i]) (l.flanks.take m)) (fun vs => match vs with | [.int _ j] => i - j.toNat | _ => 0) ⟨0, by omega, by simp, rfl⟩ ?_
  rintro vs - ⟨m, hm, rfl, hp⟩
  simp
  refine ⟨fun hlm => ?_, fun hgm => ?_⟩
  ·have hml : m < l.flanks.length := by omega
   have hwm := zab (i := m) (by omega)
   simp [hlt, hml, Flank.cells, hwm]
   cases hs : zb6 l.flanks[m] l.flanks[i]
   ·have hs2 : ¬ (l.flanks[m].s = l.flanks[i].s ∧ l.flanks[m].way = l.flanks[i].way ∧ l.flanks[m].point = l.flanks[i].point) := by simpa [zb6] using hs
    have hx := zah hml hp hs
    exact .inl ⟨fun h1 h2 h3 => hs2 ⟨h1, h2, h3⟩, ⟨m + 1, by omega, by omega, hx⟩, by omega⟩
   ·have hs2 : l.flanks[m].s = l.flanks[i].s ∧ l.flanks[m].way = l.flanks[i].way ∧ l.flanks[m].point = l.flanks[i].point := by simpa [zb6] using hs
    have hd : zbI zb6 l.flanks i = true := by rw [hdl]; exact zbj (i := m) (by rw [List.length_take]; omega) (by simpa using hs)
    simp [hs2, zbY hlt hq hd]
  ·have hmi : m = i := by omega
   subst hmi
   have hd : zbI zb6 l.flanks m = false := by rw [hdl]; exact hp
   simp [hw]
   refine ⟨⟨m + 1, by omega, by omega, fun j hj => ?_⟩, by omega⟩
   by_cases hjm : j = m
   ·subst hjm; exact hd
   ·exact hq j (by omega)
 ·rw [zbD fun j hj => hq j (by omega)]
end Go.Lb.LK
namespace Go.Lb.LK
open Go Go.Lb Go.Proofs Go.RowKit
def zaG (x : Exi) (k : Nat) : Port := if k = 0 then x.a else match x.over[k - 1]? with
 | some t => ⟨t.s, t.o⟩
 | none => noP
def zdS (l : Lay) (x : Exi) (k : Nat) : Bool := match x.over[k]? with
 | some t => decide (zat l (zaG x k) = ⟨t.s, t.i⟩) && (!decide (t.s = x.a.s) && !(x.over.take k).any fun u => decide (u.s = t.s))
 | none => true
def zdT (l : Lay) (x : Exi) : Bool := (List.range x.over.length).all (zdS l x)
theorem zhN {l : Lay} {x : Exi} {k : Nat} (h : k < x.over.length) : zdS l x k = (decide (zat l (zaG x k) = ⟨x.over[k].s, x.over[k].i⟩) && (!decide (x.over[k].s = x.a.s) && !(x.over.take k).any fun u => decide (u.s = x.over[k].s))) := by
 simp [zdS, List.getElem?_eq_getElem h]
def zeq (l : Lay) (x : Int) : Bool := zdj l && (match zgA l x with
 | some e => zdT l e
 | none => false)
set_option maxHeartbeats 2000000 in
theorem zmM (l : Lay) (hl : l.lens) (x : Int) : C f_lockbarref09_Over [l.av, I x] (.bool (zeq l x)) := by
 refine ctr (l.cells ++ [I x]) run_lockbarref09_Over rfl (by simp [zac, AV.pureAll, AV.pure]) rfl ?_ rfl
 unfold rt_lockbarref09_Over
 simp [Lay.cells]
 refine call (zhk l hl) (by simp [Lay.cells]) (fun _ => rfl) ?_
 simp
 refine ⟨fun hb => ?_, fun h1 h2 h3 => ?_⟩
 ·rcases hb with (hb | hb) | hb
  ·simp [zeq, hb]
  ·simp [zeq, zdu (l := l) (s := x) (by omega)]
  ·simp [zeq, zdu (l := l) (s := x) (by omega)]
 ·obtain ⟨n, hn, hlt, he⟩ := zft h2 h3
  have hk := hl.over _ (List.getElem_mem hlt)
  have hval : zeq l x = zdT l l.exits[n] := by simp [zeq, h1, he]
  rw [hval]
  have hbad : ∀ i, i < l.exits[n].over.length → zdS l l.exits[n] i = false → zdT l l.exits[n] = false := fun i hi hk => zaB hi hk
  simp [hn, hlt, Exi.cells]
  refine zaa rfl (fun vs => ∃ i : Nat, i ≤ l.exits[n].over.length ∧ vs = [I i, I (zaG l.exits[n] i).s, I (zaG l.exits[n] i).p] ∧ ∀ j, j < i → zdS l l.exits[n] j = true) (fun vs => match vs with | [.int _ j, _, _] => l.exits[n].over.length - j.toNat | _ => 0) ⟨0, by omega, by simp [hn, hlt, Exi.cells, zaG], fun j hj => by omega⟩ ?_
  rintro vs - ⟨i, hi, rfl, hq⟩
  simp [hlt, Exi.cells]
  refine ⟨fun hli => ?_, fun hge => ?_⟩
  ·have hw := zab (i := i) (by omega)
   have ho := zhN (l := l) hli
   have hgood : zdS l l.exits[n] i = true → ∀ j, j < i + 1 → zdS l l.exits[n] j = true := fun hk j hj => by
    by_cases hji : j = i
    ·subst hji; exact hk
    ·exact hq j (by omega)
   have hfrom : zaG l.exits[n] (i + 1) = ⟨l.exits[n].over[i].s, l.exits[n].over[i].o⟩ := by
    simp [zaG, List.getElem?_eq_getElem hli]
   refine call (zd6 l (zaG l.exits[n] i)) (by simp [Lay.cells, Port.cells]) (by simp) ?_
   simp [hlt, hli, Exi.cells, Step.cells, Port.cells]
   have hbe : zat l (zaG l.exits[n] i) = ⟨l.exits[n].over[i].s, l.exits[n].over[i].i⟩ ↔ (zat l (zaG l.exits[n] i)).s = l.exits[n].over[i].s ∧ (zat l (zaG l.exits[n] i)).p = l.exits[n].over[i].i := by
    constructor
    ·intro h; rw [h]; exact ⟨rfl, rfl⟩
    ·rintro ⟨h1, h2⟩; exact zfE h1 h2
   refine ⟨fun hb => hbad i hli ?_, fun g1 g2 g3 => ?_⟩
   ·rw [ho]
    rcases hb with (hb | hb) | hb
    ·have : ¬ zat l (zaG l.exits[n] i) = ⟨l.exits[n].over[i].s, l.exits[n].over[i].i⟩ := fun h => hb (hbe.1 h).1
     simp [this]
    ·have : ¬ zat l (zaG l.exits[n] i) = ⟨l.exits[n].over[i].s, l.exits[n].over[i].i⟩ := fun h => hb (hbe.1 h).2
     simp [this]
    ·simp [hb]
   ·have g0 := hbe.2 ⟨g1, g2⟩
    refine zaa rfl (fun vs => ∃ m : Nat, m ≤ i ∧ vs = [I m] ∧ zal (fun u => decide (u.s = l.exits[n].over[i].s)) (l.exits[n].over.take m)) (fun vs => match vs with | [.int _ j] => i - j.toNat | _ => 0) ⟨0, by omega, by simp, rfl⟩ ?_
    rintro vs - ⟨m, hm, rfl, hp⟩
    simp
    refine ⟨fun hlm => ?_, fun hgm => ?_⟩
    ·have hml : m < l.exits[n].over.length := by omega
     have hwm := zab (i := m) (by omega)
     simp [hlt, hli, hml, Exi.cells, Step.cells, hwm]
     by_cases he2 : l.exits[n].over[m].s = l.exits[n].over[i].s
     ·right
      refine ⟨he2, hbad i hli ?_⟩
      have : ((l.exits[n].over.take i).any fun u => decide (u.s = l.exits[n].over[i].s)) = true := zbj (i := m) (by rw [List.length_take]; omega) (by simpa using he2)
      rw [ho, this]; simp
     ·left
      exact ⟨he2, ⟨m + 1, by omega, by omega, zah hml hp (by simpa using he2)⟩, by omega⟩
    ·have hmi : m = i := by omega
     subst hmi
     have hk : zdS l l.exits[n] m = true := by
      rw [ho, g0, decide_eq_true rfl, hp]
      simp [g3]
     simp [hlt, hli, Exi.cells, Step.cells, hw]
     exact ⟨⟨m + 1, by omega, ⟨by omega, by rw [hfrom], by rw [hfrom]⟩, hgood hk⟩, by omega⟩
  ·have : zdT l l.exits[n] = true := zaA fun j hj => hq j (by omega)
   simp [this]
def zaW (l : Lay) : Int := match (List.range l.exits.length).find? (fun i : Nat => !zeq l i) with
 | some k => k
 | none => -1
theorem zlq (l : Lay) (hl : l.lens) : C f_lockbarref09_overs [l.av] (I (zaW l)) := by
 have hb := hl.exits
 refine ctr l.cells run_lockbarref09_overs rfl (by simp) rfl ?_ rfl
 unfold rt_lockbarref09_overs
 simp [Lay.cells]
 refine zaa rfl (fun vs => ∃ i : Nat, i ≤ l.exits.length ∧ vs = [I i] ∧ ∀ j, j < i → zeq l j = true) (fun vs => match vs with | [.int _ j] => l.exits.length - j.toNat | _ => 0) ⟨0, by omega, by simp, fun j hj => by omega⟩ ?_
 rintro vs - ⟨i, hi, rfl, hq⟩
 simp
 refine ⟨fun hlt => ?_, fun hge => ?_⟩
 ·have hw := zab (i := i) (by omega)
  refine call (zmM l hl i) (by simp [Lay.cells]) (fun _ => rfl) ?_
  cases ho : zeq l i
  ·have hr : i < (List.range l.exits.length).length := by simpa using hlt
   have : (List.range l.exits.length).find? (fun i : Nat => !zeq l i) = some ((List.range l.exits.length)[i]) := zbM hr (by
    refine List.any_eq_false.2 fun x hx => ?_
    obtain ⟨j, hj, rfl⟩ := List.mem_take_iff_getElem.1 hx
    simp only [List.getElem_range]
    rw [hq j (by omega)]; simp) (by simp [ho])
   simp [zaW, this]
  ·simp [hw]
   refine ⟨⟨i + 1, by omega, by omega, fun j hj => ?_⟩, by omega⟩
   by_cases hji : j = i
   ·subst hji; exact ho
   ·exact hq j (by omega)
 ·have : (List.range l.exits.length).find? (fun i : Nat => !zeq l i) = none := by
   rw [List.find?_eq_none]
   intro x hx
   rw [hq x (by have := List.mem_range.1 hx; omega)]; simp
  simp [zaW, this]
def zdg (l : Lay) : Bool := zdj l && (zbx l && (decide (zan zbb l.sigs < 0) && (decide (zan zb7 l.exits < 0) && (decide (zaW l < 0) && decide (zan zb6 l.flanks < 0)))))
def zcD (a b c d : Int) (i : Nat) : Int := if i = 0 then a else if i = 1 then b else if i = 2 then c else d
theorem aidx4 (a b c d : Int) {i : Nat} {z : Int} (hz : z = i) (h : i < 4) : pv (.aidx 4 1 0 1 false) [.agg [I a, I b, I c, I d], I z] = I (zcD a b c d i) := by
 subst hz
 match i, h with
 | 0, _ => rfl
 | 1, _ => rfl
 | 2, _ => rfl
 | 3, _ => rfl
def zeK (l : Lay) : Int × Int × Int :=
 if zdj l = false then (0, 0, 60) else if zbx l = false then (1, 0, 90) else
 match (List.range 4).find? (fun i => decide (0 ≤ zcD (zan zbb l.sigs) (zan zb7 l.exits) (zaW l) (zan zb6 l.flanks) i)) with
 | some i => (i + 2, zcD (zan zbb l.sigs) (zan zb7 l.exits) (zaW l) (zan zb6 l.flanks) i, 90)
 | none => (0, 0, 0)
set_option maxHeartbeats 2000000 in
theorem zln (l : Lay) (hl : l.lens) : C f_lockbarref09_Check [l.av] (.tup [I (zeK l).1, I (zeK l).2.1, I (zeK l).2.2]) := by
 refine ctr l.cells run_lockbarref09_Check rfl (by simp) rfl ?_ rfl
 unfold rt_lockbarref09_Check
 simp [Lay.cells, -zaf]
 refine call (zhk l hl) (by simp [Lay.cells]) (fun _ => rfl) ?_
 cases h1 : zdj l
 ·simp [zeK, h1, -zaf]
 simp [-zaf]
 refine call (zkg l hl.secs) (by simp [Lay.cells]) (fun _ => rfl) ?_
 cases h2 : zbx l
 ·simp [zeK, h1, h2, -zaf]
 simp [-zaf]
 refine call (zi9 l hl.sigs) (by simp [Lay.cells]) (fun _ => rfl) ?_
 simp [-zaf]
 refine call (zlp l hl.exits) (by simp [Lay.cells]) (fun _ => rfl) ?_
 simp [-zaf]
 refine call (zlq l hl) (by simp [Lay.cells]) (fun _ => rfl) ?_
 simp [-zaf]
 refine call (zkh l hl.flanks) (by simp [Lay.cells]) (fun _ => rfl) ?_
 simp [-zaf]
 have hA := fun (i : Nat) (h : i < 4) => aidx4 (zan zbb l.sigs) (zan zb7 l.exits) (zaW l) (zan zb6 l.flanks) (i := i) rfl h
 have hval : zeK l = match (List.range 4).find? (fun i => decide (0 ≤ zcD (zan zbb l.sigs) (zan zb7 l.exits) (zaW l) (zan zb6 l.flanks) i)) with
  | some i => ((i : Int) + 2, zcD (zan zbb l.sigs) (zan zb7 l.exits) (zaW l) (zan zb6 l.flanks) i, 90)
  | none => (0, 0, 0) := by simp [zeK, h1, h2]
 rw [hval]
 generalize zan zbb l.sigs = a at *
 generalize zan zb7 l.exits = b at *
 generalize zaW l = c at *
 generalize zan zb6 l.flanks = d at *
 refine zaa rfl (fun vs => ∃ i : Nat, i ≤ 4 ∧ vs = [I i] ∧ ∀ j, j < i → ¬ 0 ≤ zcD a b c d j) (fun vs => match vs with | [.int _ j] => 4 - j.toNat | _ => 0) ⟨0, by omega, by simp, fun j hj => by omega⟩ ?_
 rintro vs - ⟨i, hi, rfl, hq⟩
 simp [-zaf]
 refine ⟨fun hlt => ?_, fun hge => ?_⟩
 ·have hi4 : i < 4 := by omega
  have hw := zab (i := i) (by omega)
  have hw2 : IntKind.i64.wrap ((i : Int) + 2) = (i : Int) + 2 := by rw [zbB] <;> omega
  simp [hA i hi4, hw2, hw, -zaf]
  repeat refine And.intro (by intros; omega) ?_
  by_cases h0 : 0 ≤ zcD a b c d i
  ·right
   have hr : i < (List.range 4).length := by simpa using hi4
   have : (List.range 4).find? (fun i => decide (0 ≤ zcD a b c d i)) = some ((List.range 4)[i]) := zbM hr (by
    refine List.any_eq_false.2 fun x hx => ?_
    obtain ⟨j, hj, rfl⟩ := List.mem_take_iff_getElem.1 hx
    simp only [List.getElem_range]
    simpa using hq j (by omega)) (by simpa using h0)
   simp [this, h0]
   omega
  ·left
   refine ⟨by omega, ⟨i + 1, by omega, by omega, fun j hj => ?_⟩, by omega⟩
   by_cases hji : j = i
   ·subst hji; omega
   ·have := hq j (by omega); omega
 ·have : (List.range 4).find? (fun i => decide (0 ≤ zcD a b c d i)) = none := by
   rw [List.find?_eq_none]
   intro x hx
   simpa using hq x (by have := List.mem_range.1 hx; omega)
  simp [this]
theorem zoK (l : Lay) : ((zeK l).2.2 = 0) ↔ zdg l = true := by
 unfold zeK zdg
 cases zdj l
 ·simp
 cases zbx l
 ·simp
 simp only [Bool.true_eq_false, if_false, Bool.true_and]
 generalize zan zbb l.sigs = a
 generalize zan zb7 l.exits = b
 generalize zaW l = c
 generalize zan zb6 l.flanks = d
 cases hf : (List.range 4).find? (fun i => decide (0 ≤ zcD a b c d i)) with
 | none =>
  rw [List.find?_eq_none] at hf
  have h0 := hf 0 (by simp)
  have h1 := hf 1 (by simp)
  have h2 := hf 2 (by simp)
  have h3 := hf 3 (by simp)
  simp [zcD] at h0 h1 h2 h3
  simp [h0, h1, h2, h3]
 | some i =>
  have hi := List.mem_range.1 (List.mem_of_find?_eq_some hf)
  have hq := List.find?_some hf
  simp only [decide_eq_true_eq] at hq
  simp only [Bool.and_eq_true, decide_eq_true_eq]
  constructor
  ·intro h; simp at h
  ·rintro ⟨h0, h1, h2, h3⟩
   exfalso
   have : i = 0 ∨ i = 1 ∨ i = 2 ∨ i = 3 := by omega
   rcases this with rfl | rfl | rfl | rfl <;> simp [zcD] at hq <;> omega
theorem zlo (l : Lay) (hl : l.lens) : C f_lockbarref09_Right [l.av] (.bool (zdg l)) := by
 refine ctr l.cells run_lockbarref09_Right rfl (by simp) rfl ?_ rfl
 unfold rt_lockbarref09_Right
 simp [Lay.cells]
 refine call (zln l hl) (by simp [Lay.cells]) (by simp) ?_
 simp
 have := zoK l
 by_cases h : zdg l = true
 ·rw [h, this.2 h]; rfl
 ·rw [Bool.eq_false_iff.2 h]
  rw [beq_eq_false_iff_ne]
  exact fun h2 => h (this.1 h2)
end Go.Lb.LK
namespace Go.Lb.LK
open Go Go.Lb Go.Proofs Go.RowKit
def zc0 (l : Lay) (ss : List Step) (k : Nat) : Bool := match ss[k]? with
 | some t => (za5 l t).2 && (if 0 < k then (match ss[k - 1]? with
   | some u => decide (zat l ⟨u.s, u.o⟩ = ⟨t.s, t.i⟩)
   | none => false) else true)
 | none => true
def zhw (l : Lay) (ss : List Step) : Bool := (List.range ss.length).all (zc0 l ss)
theorem zb0 {a : Port} {x y : Int} : a = ⟨x, y⟩ ↔ a.s = x ∧ a.p = y := by
 constructor
 ·intro h; rw [h]; exact ⟨rfl, rfl⟩
 ·rintro ⟨h1, h2⟩; exact zfE h1 h2
set_option maxHeartbeats 2000000 in
theorem zmN (l : Lay) (ss : List Step) (hs : ss.length ≤ 1000) : C f_lockbarref11_Goes [l.av, steps ss] (.bool (zhw l ss)) := by
 refine ctr (l.cells ++ [steps ss]) run_lockbarref11_Goes rfl (by simp [zac, AV.pureAll, AV.pure]) rfl ?_ rfl
 unfold rt_lockbarref11_Goes
 simp [Lay.cells]
 refine zaa rfl (fun vs => ∃ i : Nat, i ≤ ss.length ∧ vs = [I i] ∧ ∀ j, j < i → zc0 l ss j = true) (fun vs => match vs with | [.int _ j] => ss.length - j.toNat | _ => 0) ⟨0, by omega, by simp, fun j hj => by omega⟩ ?_
 rintro vs - ⟨i, hi, rfl, hq⟩
 simp
 refine ⟨fun hlt => ?_, fun hge => ?_⟩
 ·have hw := zab (i := i) (by omega)
  have hgood : zc0 l ss i = true → ∀ j, j < i + 1 → zc0 l ss j = true := fun hk j hj => by
   by_cases hji : j = i
   ·subst hji; exact hk
   ·exact hq j (by omega)
  have hbad : zc0 l ss i = false → zhw l ss = false := fun hk => zaB hlt hk
  simp [hlt, Step.cells]
  refine call (zdq l ss[i]) (by simp [Lay.cells, hlt, Step.cells]) (by simp) ?_
  by_cases hi0 : 0 < i
  ·have hw0 : IntKind.i64.wrap ((i : Int) - 1) = (i : Int) - 1 := by rw [zbB] <;> omega
   have hi1 : ((i : Int) - 1).toNat = i - 1 := by omega
   have hlt1 : i - 1 < ss.length := by omega
   have hge' : zc0 l ss i = ((za5 l ss[i]).2 && decide (zat l ⟨ss[i - 1].s, ss[i - 1].o⟩ = ⟨ss[i].s, ss[i].i⟩)) := by
    simp [zc0, List.getElem?_eq_getElem hlt, List.getElem?_eq_getElem hlt1, hi0]
   simp [hi0, hw0, hi1, hlt, hlt1, Step.cells]
   repeat refine And.intro (by intros; omega) ?_
   refine zaj (avs := [l.av, (Port.mk ss[i - 1].s ss[i - 1].o).av]) (zat l ⟨ss[i - 1].s, ss[i - 1].o⟩).av (by simp [AV.pure]) (fun _ => ⟨by simp [Lay.cells, hi0, hw0, hi1, hlt1, Step.cells, Port.cells], zd6 _ _⟩) (by simp) ?_
   simp [hi0, hw0, hi1, hlt, hlt1, Step.cells, Port.cells, hw]
   refine ⟨fun hb => hbad ?_, fun h1 h2 h3 => ⟨⟨i + 1, by omega, by omega, hgood ?_⟩, by omega⟩⟩
   ·rw [hge']
    rcases hb with hb | hb
    ·simp [hb]
    ·have : ¬ zat l ⟨ss[i - 1].s, ss[i - 1].o⟩ = ⟨ss[i].s, ss[i].i⟩ := fun h => by
      rw [zb0] at h
      rcases hb with hb | hb
      ·exact hb h.1
      ·exact hb h.2
     simp [this]
   ·rw [hge', h1, decide_eq_true (zb0.2 ⟨h2, h3⟩)]; rfl
  ·have hi0' : i = 0 := by omega
   have hge' : zc0 l ss i = (za5 l ss[i]).2 := by
    simp [zc0, List.getElem?_eq_getElem hlt, hi0]
   simp [hi0, hlt, Step.cells]
   refine zaj (avs := []) noP.av (by simp [AV.pure]) (fun hh => ?_) (by simp) ?_
   ·simp [hi0] at hh
   simp [hi0, hlt, Step.cells, noP, Port.cells, hw]
   cases hs2 : (za5 l ss[i]).2
   ·simp [hs2, hbad (by rw [hge', hs2])]
   ·simp [hs2]
    exact ⟨⟨i + 1, by omega, by omega, hgood (by rw [hge', hs2])⟩, by omega⟩
 ·have : zhw l ss = true := zaA fun j hj => hq j (by omega)
  simp [this]
def zdf (ss ov : List Step) (k : Nat) : Bool := match ss[k]? with
 | some t => !((ss.take k).any fun u => decide (u.s = t.s)) && !(ov.any fun u => decide (u.s = t.s))
 | none => true
def zcy (ss ov : List Step) : Bool := (List.range ss.length).all (zdf ss ov)
set_option maxHeartbeats 2000000 in
theorem zki (ss ov : List Step) (hs : ss.length ≤ 1000) (ho : ov.length ≤ 1000) : C f_lockbarref11_simple [steps ss, steps ov] (.bool (zcy ss ov)) := by
 refine ctr [steps ss, steps ov] run_lockbarref11_simple rfl (by simp [AV.pureAll, AV.pure]) rfl ?_ rfl
 unfold rt_lockbarref11_simple
 refine zaa rfl (fun vs => ∃ i : Nat, i ≤ ss.length ∧ vs = [I i] ∧ ∀ j, j < i → zdf ss ov j = true) (fun vs => match vs with | [.int _ j] => ss.length - j.toNat | _ => 0) ⟨0, by omega, by simp, fun j hj => by omega⟩ ?_
 rintro vs - ⟨i, hi, rfl, hq⟩
 simp
 refine ⟨fun hlt => ?_, fun hge => ?_⟩
 ·have hw := zab (i := i) (by omega)
  have hbad : zdf ss ov i = false → zcy ss ov = false := fun hk => zaB hlt hk
  have hse : zdf ss ov i = (!((ss.take i).any fun u => decide (u.s = ss[i].s)) && !(ov.any fun u => decide (u.s = ss[i].s))) := by
   simp [zdf, List.getElem?_eq_getElem hlt]
  refine zaa rfl (fun vs => ∃ m : Nat, m ≤ i ∧ vs = [I m] ∧ zal (fun u => decide (u.s = ss[i].s)) (ss.take m)) (fun vs => match vs with | [.int _ j] => i - j.toNat | _ => 0) ⟨0, by omega, by simp, rfl⟩ ?_
  rintro vs - ⟨m, hm, rfl, hp⟩
  simp
  refine ⟨fun hlm => ?_, fun hgm => ?_⟩
  ·have hml : m < ss.length := by omega
   have hwm := zab (i := m) (by omega)
   simp [hlt, hml, Step.cells, hwm]
   by_cases he : ss[m].s = ss[i].s
   ·have : ((ss.take i).any fun u => decide (u.s = ss[i].s)) = true := zbj (i := m) (by rw [List.length_take]; omega) (by simpa using he)
    have hf := hbad (by rw [hse, this]; simp)
    simp [he, hf]
   ·simp [he]
    exact ⟨⟨m + 1, by omega, by omega, zah hml hp (by simpa using he)⟩, by omega⟩
  ·have hmi : m = i := by omega
   subst hmi
   refine zaa rfl (fun vs => ∃ q : Nat, q ≤ ov.length ∧ vs = [I q] ∧ zal (fun u => decide (u.s = ss[m].s)) (ov.take q)) (fun vs => match vs with | [.int _ j] => ov.length - j.toNat | _ => 0) ⟨0, by omega, by simp, rfl⟩ ?_
   rintro vs - ⟨q, hq2, rfl, hp2⟩
   simp
   refine ⟨fun hlq => ?_, fun hgq => ?_⟩
   ·have hwq := zab (i := q) (by omega)
    simp [hlt, hlq, Step.cells, hwq]
    by_cases he : ov[q].s = ss[m].s
    ·have : (ov.any fun u => decide (u.s = ss[m].s)) = true := zbj hlq (by simpa using he)
     have hf := hbad (by rw [hse, this]; simp)
     simp [he, hf]
    ·simp [he]
     exact ⟨⟨q + 1, by omega, by omega, zah hlq hp2 (by simpa using he)⟩, by omega⟩
   ·have ht : ov.take q = ov := List.take_of_length_le (by omega)
    rw [ht] at hp2
    have hk : zdf ss ov m = true := by
     rw [hse]
     unfold zal at hp hp2
     rw [hp, hp2]; rfl
    simp [hlt, hw]
    refine ⟨⟨m + 1, by omega, by omega, fun j hj => ?_⟩, by omega⟩
    by_cases hjm : j = m
    ·subst hjm; exact hk
    ·exact hq j (by omega)
 ·have : zcy ss ov = true := zaA fun j hj => hq j (by omega)
  simp [this]
theorem zja (p : Path) : C f_lockbarref11_Through [p.av, .sl []] (.bool true) := by
 refine ctr (p.cells ++ [.sl []]) run_lockbarref11_Through rfl (by simp [zac, AV.pureAll, AV.pure]) rfl ?_ rfl
 unfold rt_lockbarref11_Through
 simp [Path.cells]
 refine zaa rfl (fun vs => vs = [I 0, I 0]) (fun _ => 0) rfl ?_
 rintro vs - rfl
 simp
def zjP (l : Lay) (p : Port) : Int := match (List.range l.sigs.length).find? (fun i => decide (l.sigs[i]? = some p)) with
 | some i => i
 | none => -1
theorem zke (l : Lay) (hl : l.sigs.length ≤ 1000) (p : Port) : C f_lockbarref06_Signal [l.av, p.av] (I (zjP l p)) := by
 refine ctr (l.cells ++ p.cells) run_lockbarref06_Signal rfl (by simp [zac]) rfl ?_ rfl
 unfold rt_lockbarref06_Signal
 simp [Lay.cells, Port.cells]
 refine zaa rfl (fun vs => ∃ i : Nat, i ≤ l.sigs.length ∧ vs = [I i] ∧ ∀ j, j < i → ¬ l.sigs[j]? = some p) (fun vs => match vs with | [.int _ j] => l.sigs.length - j.toNat | _ => 0) ⟨0, by omega, by simp, fun j hj => by omega⟩ ?_
 rintro vs - ⟨i, hi, rfl, hq⟩
 simp
 refine ⟨fun hlt => ?_, fun hge => ?_⟩
 ·have hw := zab (i := i) (by omega)
  have hpe := zdM l.sigs[i] p
  simp only [Port.cells] at hpe
  simp [hlt, Port.cells, hpe, hw]
  by_cases he : l.sigs[i] = p
  ·have hr : i < (List.range l.sigs.length).length := by simpa using hlt
   have : (List.range l.sigs.length).find? (fun i => decide (l.sigs[i]? = some p)) = some ((List.range l.sigs.length)[i]) := zbM hr (by
    refine List.any_eq_false.2 fun x hx => ?_
    obtain ⟨j, hj, rfl⟩ := List.mem_take_iff_getElem.1 hx
    simp only [List.getElem_range]
    simpa using hq j (by omega)) (by simp [List.getElem?_eq_getElem hlt, he])
   simp [he, zjP, this]
  ·simp [he]
   refine ⟨⟨i + 1, by omega, by omega, fun j hj => ?_⟩, by omega⟩
   by_cases hji : j = i
   ·subst hji; simpa [List.getElem?_eq_getElem hlt] using he
   ·exact hq j (by omega)
 ·have : (List.range l.sigs.length).find? (fun i => decide (l.sigs[i]? = some p)) = none := by
   rw [List.find?_eq_none]
   intro x hx
   have := hq x (by have := List.mem_range.1 hx; omega)
   simpa using this
  simp [zjP, this]
end Go.Lb.LK
namespace Go.Lb.LK
open Go Go.Lb Go.Proofs Go.RowKit
theorem zlj (k : Int) (h0 : 0 ≤ k) (h1 : k ≤ 255) : C f_port_Ways [U k] (I (ways k)) := by
 refine ctr [U k] run_port_Ways rfl rfl rfl ?_ rfl
 unfold rt_port_Ways
 refine call (zdp k h0 h1) (by simp) (by simp) ?_
 rcases zcR h0 h1 with rfl | rfl | rfl | rfl | h
 ·simp [zau, ways]
 ·simp [zau, ways]
 ·simp [zau, ways]
 ·simp [zau, ways]
 ·simp [zau, ways, show k ≠ 1 by omega, show k ≠ 2 by omega, show k ≠ 3 by omega]
theorem zmI (p : Port) : C f_port_May [p.av] (.bool (mayP p)) := by
 refine ctr p.cells run_port_May rfl (by simp) rfl ?_ rfl
 unfold rt_port_May
 obtain ⟨a, b⟩ := p
 simp [Port.cells, mayP, zhJ]
 by_cases h1 : a = -1 <;> by_cases h2 : b = 0 <;> by_cases h3 : 0 ≤ a <;> by_cases h4 : a < 24 <;> by_cases h5 : 0 ≤ b <;> by_cases h6 : b < 4 <;> simp [h1, h2, h3, h4, h5, h6, AV.eqs, AV.eq1] <;> omega
def zhA (s : Sec) : List AV := [I s.j0.s, I s.j0.p, I s.j1.s, I s.j1.p, I s.j2.s, I s.j2.p, I s.j3.s, I s.j3.p]
theorem zpB (s : Sec) {i : Nat} {z : Int} (hz : z = i) (h : i < 4) : pv (.aidx 4 2 0 2 true) [.agg (zhA s), I z] = (s.join i).av := by
 subst hz
 match i, h with
 | 0, _ => rfl
 | 1, _ => rfl
 | 2, _ => rfl
 | 3, _ => rfl
theorem zq6 (s : Sec) {i : Nat} {z : Int} (hz : z = i) (h : i < 2) : pv (.aidx 2 1 0 1 false) [.agg [I s.c0, I s.c1], I z] = I (s.cls i) := by
 subst hz
 match i, h with
 | 0, _ => rfl
 | 1, _ => rfl
theorem zpd {k : Int} (h0 : 0 ≤ k) (h1 : k ≤ 255) : ∃ (a b c d : Int) (e : Bool), zau k = [I (zaw k), I a, I b, I c, I d, I (ways k), .bool e] := by
 rcases zcR h0 h1 with rfl | rfl | rfl | rfl | h
 ·exact ⟨_, _, _, _, _, rfl⟩
 ·exact ⟨_, _, _, _, _, rfl⟩
 ·exact ⟨_, _, _, _, _, rfl⟩
 ·exact ⟨_, _, _, _, _, rfl⟩
 ·refine ⟨0, 0, 0, 0, false, ?_⟩
  simp [zau, zaw, ways, show k ≠ 1 by omega, show k ≠ 2 by omega, show k ≠ 3 by omega]
theorem zgv (s : Sec) (h0 : 0 ≤ s.kind) (h1 : s.kind ≤ 255) : C f_port_Right [s.av] (.bool (zcx s)) := by
 refine ctr s.cells run_port_Right rfl (by simp) rfl ?_ rfl
 unfold rt_port_Right
 simp [Sec.cells, -zaf]
 refine call (zdp s.kind h0 h1) (by simp) (by simp) ?_
 obtain ⟨a, b, c, d, e, hk⟩ := zpd h0 h1
 rw [hk]
 simp [-zaf]
 refine ⟨fun hz => by simp [zcx, hz], fun hz => ?_⟩
 have hpk := zfF s.kind
 refine zaa (by simp) (fun vs => ∃ i : Nat, i ≤ 4 ∧ vs = [I i] ∧ ∀ j, j < i → zdy s j = true) (fun vs => match vs with | [.int _ j] => 4 - j.toNat | _ => 0) ⟨0, by omega, by simp, fun j hj => by omega⟩ ?_
 rintro vs - ⟨i, hi, rfl, hq⟩
 simp [-zaf]
 refine ⟨fun hlt => ?_, fun hge => ?_⟩
 ·have hw := zab (i := i) (by omega)
  have hi4 : i < 4 := by omega
  have hJ := zpB s (i := i) (z := (i : Int)) rfl hi4
  simp only [zhA] at hJ
  simp [hJ, -zaf]
  repeat refine And.intro (by intros; omega) ?_
  generalize hjn : s.join i = q at hJ
  simp [hJ, Port.cells, -zaf]
  refine zaj (avs := [q.av]) (.bool (mayP q)) rfl (fun _ => ⟨by simp [Port.cells], zmI _⟩) (fun _ => rfl) ?_
  have hje : zdy s i = if (i : Int) < zaw s.kind then mayP q else decide (q = noP) := by rw [← hjn]; rfl
  have hbad : zdy s i = false → zcx s = false := fun hk => by simp [zcx, zaB hi4 hk]
  have hgood : zdy s i = true → ∀ j, j < i + 1 → zdy s j = true := fun hk j hj => by
   by_cases hji : j = i
   ·subst hji; exact hk
   ·exact hq j (by omega)
  have hne : q = noP ↔ q.s = -1 ∧ q.p = 0 := by obtain ⟨a, b⟩ := q; exact zhJ a b
  by_cases hp : (i : Int) < zaw s.kind
  ·rw [if_pos hp] at hje
   have hp2 : ¬ zaw s.kind ≤ (i : Int) := by omega
   cases hm : mayP q
   ·have := hbad (by rw [hje, hm])
    simp [hp, hp2, this]
   ·have := hgood (by rw [hje, hm])
    simp [hp, hp2, hw]
    exact ⟨⟨i + 1, by omega, by omega, this⟩, by omega⟩
  ·rw [if_neg hp] at hje
   have hp2 : zaw s.kind ≤ (i : Int) := by omega
   by_cases hj : q = noP
   ·have := hgood (by rw [hje]; simpa using hj)
    have hj2 := hne.1 hj
    simp [hp, hp2, hj2, hw, AV.eqs, AV.eq1]
    exact ⟨⟨i + 1, by omega, by omega, this⟩, by omega⟩
   ·have := hbad (by rw [hje]; simpa using hj)
    have hj2 : ¬ (q.s = -1 ∧ q.p = 0) := fun h => hj (hne.2 h)
    simp [hp, hp2, hw, this, AV.eqs, AV.eq1]
    exact fun h1 h2 => absurd ⟨h1, h2⟩ hj2
 ·have h4 : (List.range 4).all (zdy s) = true := zaA fun j hj => hq j (by omega)
  refine zaa (by simp) (fun vs => ∃ i : Nat, i ≤ 2 ∧ vs = [I i] ∧ ∀ j, j < i → zji s j = true) (fun vs => match vs with | [.int _ j] => 2 - j.toNat | _ => 0) ⟨0, by omega, by simp, fun j hj => by omega⟩ ?_
  rintro vs - ⟨m, hm, rfl, hqm⟩
  simp [-zaf]
  refine ⟨fun hlt => ?_, fun hge => ?_⟩
  ·have hw := zab (i := m) (by omega)
   have hm2 : m < 2 := by omega
   have hC := zq6 s (i := m) (z := (m : Int)) rfl hm2
   simp [hC, hw, -zaf]
   repeat refine And.intro (by intros; omega) ?_
   have hce : zji s m = ((decide (0 ≤ s.cls m) && decide (s.cls m ≤ 3)) && (decide ((m : Int) < ways s.kind) || decide (s.cls m = 0))) := rfl
   by_cases hg : (0 ≤ s.cls m ∧ s.cls m ≤ 3) ∧ (0 < s.cls m → (m : Int) < ways s.kind)
   ·refine .inl ⟨hg, ⟨m + 1, by omega, by omega, fun j hj => ?_⟩, by omega⟩
    obtain ⟨⟨h1, h2⟩, h3⟩ := hg
    by_cases hjm : j = m
    ·subst hjm
     rw [hce]
     by_cases hw2 : (j : Int) < ways s.kind
     ·simp [h1, h2, hw2]
     ·simp [h1, h2, hw2]; omega
    ·exact hqm j (by omega)
   ·refine .inr ⟨by omega, ?_⟩
    have hk : zji s m = false := by
     rw [hce]
     by_cases h1 : 0 ≤ s.cls m
     ·by_cases h2 : s.cls m ≤ 3
      ·have : 0 < s.cls m ∧ ¬ (m : Int) < ways s.kind := by omega
       simp [this.2, show ¬ s.cls m = 0 by omega]
      ·simp [h2]
     ·simp [h1]
    simp [zcx, h4, zaB hm2 hk]
  ·have h2 : (List.range 2).all (zji s) = true := zaA fun j hj => hqm j (by omega)
   simp [zcx, h4, h2]
   omega
theorem zgR (l : Lay) (s : Int) : C f_layout_section [l.av, I s] (.bool (decide (0 ≤ s) && decide (s < l.secs.length))) := by
 refine ctr (l.cells ++ [I s]) run_layout_section rfl (by simp [zac, AV.pureAll, AV.pure]) rfl ?_ rfl
 unfold rt_layout_section
 simp [Lay.cells]
theorem zeX (l : Lay) (hl : l.ok) (p : Port) : C f_layout_At [l.av, p.av] (.tup [(zet l p).av, .bool (hasP l p)]) := by
 refine ctr (l.cells ++ p.cells) run_layout_At rfl (by simp [zac]) (by simp [AV.pure, AV.pureAll]) ?_ rfl
 unfold rt_layout_At
 simp [Lay.cells, Port.cells]
 refine call (zgR l p.s) (by simp [Lay.cells, Port.cells]) (by simp) ?_
 by_cases hc : 0 ≤ p.s ∧ p.s < l.secs.length
 ·obtain ⟨n, hn, hlt, he⟩ := zaY hc.1 hc.2
  have hls : hasP l p = (decide (0 ≤ p.p) && decide (p.p < zaw l.secs[n].kind)) := by simp [hasP, he]
  have hkd := hl _ (List.getElem_mem hlt)
  have h1 : (0 : Int) ≤ n := by omega
  simp [hn, hlt, Sec.cells]
  refine zaj (avs := [U l.secs[n].kind]) (I (zaw l.secs[n].kind)) rfl (fun _ => ⟨by simp [hlt, Sec.cells], zgu _ hkd.1 hkd.2⟩) (fun _ => rfl) ?_
  by_cases h0 : p.p < 0
  ·have hx : hasP l p = false := by rw [hls]; simp [show ¬ 0 ≤ p.p by omega]
   simp [h0, hlt, hx, zet, zjD, Sec.cells]
  ·by_cases h3 : zaw l.secs[n].kind ≤ p.p
   ·have hx : hasP l p = false := by rw [hls]; simp [show ¬ p.p < zaw l.secs[n].kind by omega]
    simp [h0, h3, hlt, hx, zet, zjD, Sec.cells]
   ·have hx : hasP l p = true := by rw [hls]; simp [show 0 ≤ p.p by omega, show p.p < zaw l.secs[n].kind by omega]
    simp [h0, h3, hlt, hx, zet, hn, Sec.cells]
 ·have hls : hasP l p = false := by simp [hasP, za2 hc]
  have hb : (decide (0 ≤ p.s) && decide (p.s < (l.secs.length : Int))) = false := by
   by_cases h : 0 ≤ p.s
   ·have : ¬ p.s < l.secs.length := fun h2 => hc ⟨h, h2⟩
    simp [this]
   ·simp [h]
  rw [hb]
  simp
  refine zaj (avs := []) (I 0) rfl (fun hh => ?_) (fun _ => rfl) ?_
  ·simp at hh
  ·simp [hls, zet, zjD, Sec.cells]
theorem zhi (l : Lay) (hl : l.sigs.length ≤ 1000) (p : Port) : C f_layout_Signal [l.av, p.av] (I (zjP l p)) := by
 refine ctr (l.cells ++ p.cells) run_layout_Signal rfl (by simp [zac]) rfl ?_ rfl
 unfold rt_layout_Signal
 simp [Lay.cells, Port.cells]
 refine zaa (by simp) (fun vs => ∃ i : Nat, i ≤ l.sigs.length ∧ vs = [I i] ∧ ∀ j, j < i → ¬ l.sigs[j]? = some p) (fun vs => match vs with | [.int _ j] => l.sigs.length - j.toNat | _ => 0) ⟨0, by omega, by simp, fun j hj => by omega⟩ ?_
 rintro vs - ⟨i, hi, rfl, hq⟩
 simp
 refine ⟨fun hlt => ?_, fun hge => ?_⟩
 ·have hw := zab (i := i) (by omega)
  have hpe := zdM l.sigs[i] p
  simp only [Port.cells] at hpe
  simp [hlt, Port.cells, hpe, hw]
  by_cases he : l.sigs[i] = p
  ·have hr : i < (List.range l.sigs.length).length := by simpa using hlt
   have : (List.range l.sigs.length).find? (fun i => decide (l.sigs[i]? = some p)) = some ((List.range l.sigs.length)[i]) := zbM hr (by
    refine List.any_eq_false.2 fun x hx => ?_
    obtain ⟨j, hj, rfl⟩ := List.mem_take_iff_getElem.1 hx
    simp only [List.getElem_range]
    simpa using hq j (by omega)) (by simp [List.getElem?_eq_getElem hlt, he])
   simp [he, zjP, this]
  ·refine ⟨fun h1 h2 => absurd (zfE h1 h2) he, fun _ => ⟨⟨i + 1, by omega, by omega, fun j hj => ?_⟩, by omega⟩⟩
   by_cases hji : j = i
   ·subst hji; simpa [List.getElem?_eq_getElem hlt] using he
   ·exact hq j (by omega)
 ·have : (List.range l.sigs.length).find? (fun i => decide (l.sigs[i]? = some p)) = none := by
   rw [List.find?_eq_none]
   intro x hx
   have := hq x (by have := List.mem_range.1 hx; omega)
   simpa using this
  simp [zjP, this]
end Go.Lb.LK
namespace Go.Lb.LK
open Go Go.Lb Go.Proofs Go.RowKit
theorem zk8 {α β : Type} (f : β → α → β) (b : β) (l : List α) {i : Nat} (h : i < l.length) : (l.take (i + 1)).foldl f b = f ((l.take i).foldl f b) l[i] := by
 rw [List.take_succ_eq_append_getElem h, List.foldl_append]; rfl
theorem zgT (x : Int) (xs : List Int) (hl : xs.length ≤ 1000) : C f_slices_Min_int [ints (x :: xs)] (I (xs.foldl min x)) := by
 obtain ⟨c, hc⟩ : ∃ c, c = x :: xs := ⟨_, rfl⟩
 have h0 : c.length = xs.length + 1 := by rw [hc]; rfl
 have h1 : c[0]'(by omega) = x := by subst hc; rfl
 have h2 : ∀ (m : Nat) (hm : m < xs.length), c[m + 1]'(by omega) = xs[m] := fun m hm => by subst hc; rfl
 rw [← hc]
 clear hc
 refine ctr [ints c] run_slices_Min_int rfl (by simp only [AV.pureAll, Bool.and_true]; exact ziA _) rfl ?_ rfl
 unfold rt_slices_Min_int
 have hn : ¬ c.length = 0 := by omega
 have hn1 : 0 < c.length := by omega
 have hn2 : ¬ ((c.length : Int) < 1) := by omega
 simp [hn, hn1, hn2, h1]
 refine zaa (by simp) (fun vs => ∃ m : Nat, m ≤ xs.length ∧ vs = [I ((xs.take m).foldl min x), I ((m + 1 : Nat) : Int)]) (fun vs => match vs with | [_, .int _ j] => xs.length + 1 - j.toNat | _ => 0) ⟨0, by omega, by simp [h1, hn1]⟩ ?_
 rintro vs - ⟨m, hm, rfl⟩
 by_cases hlt : m < xs.length
 ·have hw : IntKind.i64.wrap ((m : Int) + 1 + 1) = (m : Int) + 1 + 1 := by rw [zbB] <;> omega
  have h3 := h2 m hlt
  have h4 : m + 1 < c.length := by omega
  have ht := zk8 min x xs hlt
  generalize (xs.take m).foldl min x = y at ht ⊢
  simp [h3, h4, hw]
  exact ⟨fun _ => ⟨⟨by omega, by omega⟩, ⟨m + 1, by omega, by rw [ht], by omega⟩, by omega⟩, fun h => by omega⟩
 ·have h4 : ¬ m + 1 < c.length := by omega
  have ht : xs.take m = xs := List.take_of_length_le (by omega)
  rw [ht]
  simp [h4]
  omega
theorem zgS (x : Int) (xs : List Int) (hl : xs.length ≤ 1000) : C f_slices_Max_int [ints (x :: xs)] (I (xs.foldl max x)) := by
 obtain ⟨c, hc⟩ : ∃ c, c = x :: xs := ⟨_, rfl⟩
 have h0 : c.length = xs.length + 1 := by rw [hc]; rfl
 have h1 : c[0]'(by omega) = x := by subst hc; rfl
 have h2 : ∀ (m : Nat) (hm : m < xs.length), c[m + 1]'(by omega) = xs[m] := fun m hm => by subst hc; rfl
 rw [← hc]
 clear hc
 refine ctr [ints c] run_slices_Max_int rfl (by simp only [AV.pureAll, Bool.and_true]; exact ziA _) rfl ?_ rfl
 unfold rt_slices_Max_int
 have hn : ¬ c.length = 0 := by omega
 have hn1 : 0 < c.length := by omega
 have hn2 : ¬ ((c.length : Int) < 1) := by omega
 simp [hn, hn1, hn2, h1]
 refine zaa (by simp) (fun vs => ∃ m : Nat, m ≤ xs.length ∧ vs = [I ((xs.take m).foldl max x), I ((m + 1 : Nat) : Int)]) (fun vs => match vs with | [_, .int _ j] => xs.length + 1 - j.toNat | _ => 0) ⟨0, by omega, by simp [h1, hn1]⟩ ?_
 rintro vs - ⟨m, hm, rfl⟩
 by_cases hlt : m < xs.length
 ·have hw : IntKind.i64.wrap ((m : Int) + 1 + 1) = (m : Int) + 1 + 1 := by rw [zbB] <;> omega
  have h3 := h2 m hlt
  have h4 : m + 1 < c.length := by omega
  have ht := zk8 max x xs hlt
  generalize (xs.take m).foldl max x = y at ht ⊢
  simp [h3, h4, hw]
  exact ⟨fun _ => ⟨⟨by omega, by omega⟩, ⟨m + 1, by omega, by rw [ht], by omega⟩, by omega⟩, fun h => by omega⟩
 ·have h4 : ¬ m + 1 < c.length := by omega
  have ht : xs.take m = xs := List.take_of_length_le (by omega)
  rw [ht]
  simp [h4]
  omega
theorem zdX (ss : List Sec) (hs : ss.length ≤ 1000) (hk : ∀ s ∈ ss, 0 ≤ s.kind ∧ s.kind ≤ 255) : C f_slices_ContainsFunc_Section [.sl (ss.map Sec.av), .clo f_layout_Right_1 [] []] (.bool (ss.any fun s => !zcx s)) := by
 refine ctr [.sl (ss.map Sec.av)] run_slices_ContainsFunc_Section rfl (by simp [AV.pureAll, AV.pure, zaV Sec.av (fun x => by simp [AV.pure])]) rfl ?_ rfl
 unfold rt_slices_ContainsFunc_Section
 simp
 refine zaa (by simp) (fun vs => ∃ i : Nat, i ≤ ss.length ∧ vs = [I i] ∧ zal (fun s => !zcx s) (ss.take i)) (fun vs => match vs with | [.int _ j] => ss.length - j.toNat | _ => 0) ⟨0, by omega, by simp, rfl⟩ ?_
 rintro vs - ⟨i, hi, rfl, hq⟩
 by_cases hlt : i < ss.length
 ·have hw := zab (i := i) (by omega)
  have hkd := hk _ (List.getElem_mem hlt)
  simp [hlt, Sec.cells]
  refine call (zgv ss[i] hkd.1 hkd.2) (by simp [hlt, Sec.cells]) (by simp) ?_
  cases hx : zcx ss[i]
  ·have : (ss.any fun s => !zcx s) = true := List.any_eq_true.2 ⟨_, List.getElem_mem hlt, by rw [hx]; rfl⟩
   simp [this]
  ·simp [hw]
   exact ⟨⟨i + 1, by omega, by omega, zah hlt hq (by simp [hx])⟩, by omega⟩
 ·rw [List.take_of_length_le (by omega)] at hq
  have : (ss.any fun s => !zcx s) = false := hq
  simp [hlt, this]
theorem zeH (l : Lay) (hl : l.ok) (fs : List Flank) (hs : fs.length ≤ 1000) : C f_slices_ContainsFunc_Flank [.sl (fs.map Flank.av), .clo f_layout_Right_3 [] [.ref l.cells 0]] (.bool (fs.any fun f => !zaX l f)) := by
 refine ctr (.sl (fs.map Flank.av) :: l.cells) run_slices_ContainsFunc_Flank rfl (by simp [AV.pureAll, AV.pure, zaV Flank.av (fun x => by simp [AV.pure])]) rfl ?_ rfl
 unfold rt_slices_ContainsFunc_Flank
 simp [Lay.cells]
 refine zaa (by simp) (fun vs => ∃ i : Nat, i ≤ fs.length ∧ vs = [I i] ∧ zal (fun f => !zaX l f) (fs.take i)) (fun vs => match vs with | [.int _ j] => fs.length - j.toNat | _ => 0) ⟨0, by omega, by simp, rfl⟩ ?_
 rintro vs - ⟨i, hi, rfl, hq⟩
 by_cases hlt : i < fs.length
 ·have hw := zab (i := i) (by omega)
  have hbad : zaX l fs[i] = false → (fs.any fun f => !zaX l f) = true := fun h => List.any_eq_true.2 ⟨_, List.getElem_mem hlt, by rw [h]; rfl⟩
  have hgood : zaX l fs[i] = true → zal (fun f => !zaX l f) (fs.take (i + 1)) := fun h => zah hlt hq (by simp [h])
  have hfe : zaX l fs[i] = match zdZ l fs[i].s, zdZ l fs[i].point with
   | some a, some b => (!decide (fs[i].s = fs[i].point) && decide (0 ≤ fs[i].pos ∧ fs[i].pos ≤ 1)) && (decide (0 ≤ fs[i].way) && (decide (fs[i].way < ways a.kind) && decide (b.kind = 2)))
   | _, _ => false := rfl
  generalize hf : fs[i] = f at hbad hgood hfe
  have hex : zaX l f = false → ∃ x, x ∈ fs ∧ zaX l x = false := fun h => ⟨f, by rw [← hf]; exact List.getElem_mem hlt, h⟩
  have hout : ¬ ((0 ≤ f.s ∧ f.s < l.secs.length) ∧ (0 ≤ f.point ∧ f.point < l.secs.length)) → zaX l f = false := fun h => by
   rw [hfe]
   by_cases h1 : 0 ≤ f.s ∧ f.s < l.secs.length
   ·have h2 : zdZ l f.point = none := za2 fun h2 => h ⟨h1, h2⟩
    rw [h2]
    split
    ·rename_i hb; cases hb
    ·rfl
   ·rw [za2 h1]
  simp [hlt, hf, Flank.cells]
  refine ⟨fun h1 h2 => ⟨fun hb => hex ?_, fun h3 h4 h5 h6 h7 h8 => ?_⟩, fun h1 => hex (hout fun h2 => by have := h1 h2.1.1; omega)⟩
  ·by_cases hin : (0 ≤ f.s ∧ f.s < l.secs.length) ∧ (0 ≤ f.point ∧ f.point < l.secs.length)
   ·obtain ⟨n, hn, hltn, he⟩ := zaY hin.1.1 hin.1.2
    obtain ⟨m, hm, hlm, hfm⟩ := zaY hin.2.1 hin.2.2
    rw [hfe, he, hfm]
    have hx : f.s = f.point ∨ ¬ (0 ≤ f.pos ∧ f.pos ≤ 1) ∨ ¬ 0 ≤ f.way := by omega
    rcases hx with hx | hx | hx
    ·simp [hx]
    ·simp [hx]
    ·simp [hx]
   ·exact hout hin
  ·obtain ⟨n, hn, hltn, he⟩ := zaY h1 h2
   obtain ⟨m, hm, hlm, hfm⟩ := zaY h3 h4
   have hkd := hl _ (List.getElem_mem hltn)
   have hval : zaX l f = (decide (f.way < ways l.secs[n].kind) && decide (l.secs[m].kind = 2)) := by
    rw [hfe, he, hfm]
    simp [h5, h6, h7, h8]
   simp [hn, hm, hltn, hlm, Sec.cells]
   refine call (zlj l.secs[n].kind hkd.1 hkd.2) (by simp [hlt, hf, Flank.cells, hn, hltn, Sec.cells]) (by simp) ?_
   simp [hlt, hf, Flank.cells, hn, hm, hltn, hlm, Sec.cells, hw]
   refine ⟨fun hb => hex ?_, fun h9 h10 => ⟨⟨i + 1, by omega, by omega, hgood ?_⟩, by omega⟩⟩
   ·rw [hval]
    rcases hb with hb | hb
    ·simp [show ¬ f.way < ways l.secs[n].kind by omega]
    ·simp [hb]
   ·rw [hval]; simp [h9, h10]
 ·rw [List.take_of_length_le (by omega)] at hq
  have : (fs.any fun s => !zaX l s) = false := hq
  simp [hlt, this]
theorem zqj (a b c d e f g : Int) : (1 ≤ [b, c, d, e, f, g].foldl min a) ↔ (1 ≤ a ∧ 1 ≤ b ∧ 1 ≤ c ∧ 1 ≤ d ∧ 1 ≤ e ∧ 1 ≤ f ∧ 1 ≤ g) := by
 simp only [List.foldl, Int.le_min, and_assoc]
theorem zqh (a b c d e f g : Int) : ([b, c, d, e, f, g].foldl max a ≤ 1000) ↔ (a ≤ 1000 ∧ b ≤ 1000 ∧ c ≤ 1000 ∧ d ≤ 1000 ∧ e ≤ 1000 ∧ f ≤ 1000 ∧ g ≤ 1000) := by
 simp only [List.foldl, Int.max_le, and_assoc]
theorem zoI (l : Lay) : zfi l = true ↔ (1 ≤ [l.drive, l.stale, l.approach, l.over, l.press, l.link].foldl min l.clear ∧ [l.drive, l.stale, l.approach, l.over, l.press, l.link].foldl max l.clear ≤ 1000) := by
 rw [zqj, zqh]
 have e : zfi l = (zdV l 0 && (zdV l 1 && (zdV l 2 && (zdV l 3 && (zdV l 4 && (zdV l 5 && (zdV l 6 && true))))))) := rfl
 rw [e]
 simp only [Bool.and_eq_true, and_true, zdV, decide_eq_true_eq]
 show ((1 ≤ l.clear ∧ l.clear ≤ 1000) ∧ (1 ≤ l.drive ∧ l.drive ≤ 1000) ∧ (1 ≤ l.stale ∧ l.stale ≤ 1000) ∧ (1 ≤ l.approach ∧ l.approach ≤ 1000) ∧ (1 ≤ l.over ∧ l.over ≤ 1000) ∧ (1 ≤ l.press ∧ l.press ≤ 1000) ∧ (1 ≤ l.link ∧ l.link ≤ 1000)) ↔ _
 constructor
 ·rintro ⟨⟨a1, a2⟩, ⟨b1, b2⟩, ⟨c1, c2⟩, ⟨d1, d2⟩, ⟨e1, e2⟩, ⟨f1, f2⟩, g1, g2⟩
  exact ⟨⟨a1, b1, c1, d1, e1, f1, g1⟩, a2, b2, c2, d2, e2, f2, g2⟩
 ·rintro ⟨⟨a1, b1, c1, d1, e1, f1, g1⟩, a2, b2, c2, d2, e2, f2, g2⟩
  exact ⟨⟨a1, a2⟩, ⟨b1, b2⟩, ⟨c1, c2⟩, ⟨d1, d2⟩, ⟨e1, e2⟩, ⟨f1, f2⟩, g1, g2⟩
theorem zns {α : Type} (q : α → Bool) (l : List α) : (l.any fun x => !q x) = !l.all q := by
 induction l with
 | nil => rfl
 | cons a l ih => simp [ih, Bool.not_and]
set_option maxHeartbeats 2000000 in
theorem zh8 (l : Lay) (hl : l.ok) (hb : l.lens) : C f_layout_Right [l.av] (.bool (zdj l)) := by
 obtain ⟨b1, b2, b3, b4, b5⟩ := hb
 refine ctr l.cells run_layout_Right rfl (by simp) rfl ?_ rfl
 unfold rt_layout_Right
 simp [Lay.cells]
 have ht := zoI l
 refine ⟨fun hbig => ?_, fun hs1 hs2 hs3 hs4 => ?_⟩
 ·unfold zdj
  rcases hbig with ((h | h) | h) | h
  ·simp [show ¬ l.secs.length ≤ 24 by omega]
  ·simp [show ¬ l.sigs.length ≤ 12 by omega]
  ·simp [show ¬ l.exits.length ≤ 12 by omega]
  ·simp [show ¬ l.flanks.length ≤ 16 by omega]
 refine call (zgT l.clear [l.drive, l.stale, l.approach, l.over, l.press, l.link] (by simp)) (by simp) (fun _ => rfl) ?_
 generalize [l.drive, l.stale, l.approach, l.over, l.press, l.link].foldl min l.clear = mn at ht ⊢
 simp
 refine zaj (avs := [ints [l.clear, l.drive, l.stale, l.approach, l.over, l.press, l.link]]) (I ([l.drive, l.stale, l.approach, l.over, l.press, l.link].foldl max l.clear)) rfl (fun _ => ⟨by simp, zgS _ _ (by simp)⟩) (fun _ => rfl) ?_
 generalize [l.drive, l.stale, l.approach, l.over, l.press, l.link].foldl max l.clear = mx at ht ⊢
 simp
 refine zaj (avs := [.sl (l.secs.map Sec.av), .clo f_layout_Right_1 [] []]) (.bool (l.secs.any fun s => !zcx s)) rfl (fun _ => ⟨by simp, zdX l.secs b1 hl⟩) (fun _ => rfl) ?_
 simp
 refine zaj (avs := [.sl (l.flanks.map Flank.av), .clo f_layout_Right_3 [] [.ref l.cells 0]]) (.bool (l.flanks.any fun f => !zaX l f)) rfl (fun _ => ⟨by simp [Lay.cells], zeH l hl l.flanks b4⟩) (fun _ => rfl) ?_
 rw [zns, zns]
 have hlay : zdj l = (l.secs.all (zjN l) && (l.sigs.all (hasP l) && (l.exits.all (zbJ l) && (l.flanks.all (zaX l) && zfi l)))) := by
  unfold zdj
  simp [show l.secs.length ≤ 24 by omega, show l.sigs.length ≤ 12 by omega, show l.exits.length ≤ 12 by omega, show l.flanks.length ≤ 16 by omega]
 have hsec : l.secs.all (zjN l) = (l.secs.all zcx && l.secs.all fun s => (List.range 4).all (zcE l s)) := by
  unfold zjN
  induction l.secs with
  | nil => rfl
  | cons a r ih => simp only [List.all_cons, ih]; cases (List.range 4).all (zcE l a) <;> cases zcx a <;> simp
 rw [hlay, hsec]
 generalize hA : l.secs.all zcx = A
 generalize hF : l.flanks.all (zaX l) = F
 generalize zfi l = T at ht
 simp
 refine ⟨fun hb => ?_, fun g1 g2 g3 g4 => ?_⟩
 ·rcases hb with ((hb | hb) | hb) | hb
  ·have : T = false := by cases T; rfl; have := ht.1 rfl; omega
   simp [this]
  ·have : T = false := by cases T; rfl; have := ht.1 rfl; omega
   simp [this]
  ·simp [hb]
  ·simp [hb]
 have hT : T = true := ht.2 ⟨g1, g2⟩
 subst hT g3 g4
 refine zaa (by simp) (fun vs => ∃ i : Nat, i ≤ l.secs.length ∧ vs = [I i] ∧ zal (fun s => !(List.range 4).all (zcE l s)) (l.secs.take i)) (fun vs => match vs with | [.int _ j] => l.secs.length - j.toNat | _ => 0) ⟨0, by omega, by simp, rfl⟩ ?_
 rintro vs - ⟨i, hi, rfl, hq⟩
 by_cases hlt : i < l.secs.length
 ·have hw := zab (i := i) (by omega)
  simp [hlt, Sec.cells, -zaf]
  refine zaa (by simp) (fun vs => ∃ m : Nat, m ≤ 4 ∧ vs = [I m] ∧ ∀ j, j < m → zcE l l.secs[i] j = true) (fun vs => match vs with | [.int _ j] => 4 - j.toNat | _ => 0) ⟨0, by omega, by simp, fun j hj => by omega⟩ ?_
  rintro vs - ⟨m, hm, rfl, hqm⟩
  by_cases hlm : m < 4
  ·have hwm := zab (i := m) (by omega)
   have hmi : (m : Int) < 4 := by omega
   have hJ := zpB l.secs[i] (i := m) (z := (m : Int)) rfl hlm
   simp only [zhA] at hJ
   have hje : zcE l l.secs[i] m = (!decide (0 ≤ (l.secs[i].join m).s) || hasP l (l.secs[i].join m)) := rfl
   have hgood : zcE l l.secs[i] m = true → ∀ j, j < m + 1 → zcE l l.secs[i] j = true := fun hk j hj => by
    by_cases hji : j = m
    ·subst hji; exact hk
    ·exact hqm j (by omega)
   have hbad : zcE l l.secs[i] m = false → (l.secs.all fun s => (List.range 4).all (zcE l s)) = false := fun hk => zdG hlt (zaB hlm hk)
   generalize l.secs[i].join m = q at hJ hje
   by_cases h0 : 0 ≤ q.s
   ·simp [hmi, hlt, Sec.cells, hJ, Port.cells, h0, -zaf]
    refine ⟨by omega, ?_⟩
    refine call (zeX l hl q) (by simp [Lay.cells, Port.cells]) (by simp) ?_
    cases hh : hasP l q
    ·have := hbad (by rw [hje, hh]; simp [h0])
     simp [Sec.cells, this]
    ·simp [Sec.cells, hwm]
     exact ⟨⟨m + 1, by omega, by omega, hgood (by rw [hje, hh]; simp)⟩, by omega⟩
   ·simp [hmi, hlt, Sec.cells, hJ, Port.cells, h0, hwm, -zaf]
    exact ⟨by omega, ⟨m + 1, by omega, by omega, hgood (by rw [hje]; simp [h0])⟩, by omega⟩
  ·have : m = 4 := by omega
   subst this
   simp [hw]
   refine ⟨⟨i + 1, by omega, by omega, zah hlt hq ?_⟩, by omega⟩
   have : (List.range 4).all (zcE l l.secs[i]) = true := zaA fun j hj => hqm j (by omega)
   simp [this]
 rw [List.take_of_length_le (by omega)] at hq
 have hS : (l.secs.all fun s => (List.range 4).all (zcE l s)) = true := zdb hq
 rw [hS]
 simp [hlt]
 refine zaa (by simp) (fun vs => ∃ i : Nat, i ≤ l.sigs.length ∧ vs = [I i] ∧ zal (fun t => !hasP l t) (l.sigs.take i)) (fun vs => match vs with | [.int _ j] => l.sigs.length - j.toNat | _ => 0) ⟨0, by omega, by simp, rfl⟩ ?_
 rintro vs - ⟨i2, hi2, rfl, hq2⟩
 by_cases hlt2 : i2 < l.sigs.length
 ·have hw := zab (i := i2) (by omega)
  simp [hlt2, Port.cells]
  refine call (zeX l hl l.sigs[i2]) (by simp [Lay.cells, hlt2, Port.cells]) (by simp) ?_
  cases hs : hasP l l.sigs[i2]
  ·simp [Sec.cells, zdG hlt2 hs]
  ·simp [Sec.cells, hw]
   exact ⟨⟨i2 + 1, by omega, by omega, zah hlt2 hq2 (by simp [hs])⟩, by omega⟩
 rw [List.take_of_length_le (by omega)] at hq2
 rw [zdb hq2]
 simp [hlt2]
 refine zaa (by simp) (fun vs => ∃ i : Nat, i ≤ l.exits.length ∧ vs = [I i] ∧ zal (fun t : Exi => !hasP l t.a) (l.exits.take i)) (fun vs => match vs with | [.int _ j] => l.exits.length - j.toNat | _ => 0) ⟨0, by omega, by simp, rfl⟩ ?_
 rintro vs - ⟨i3, hi3, rfl, hq3⟩
 by_cases hlt3 : i3 < l.exits.length
 ·have hw := zab (i := i3) (by omega)
  simp [hlt3, Exi.cells]
  refine call (zeX l hl l.exits[i3].a) (by simp [Lay.cells, hlt3, Exi.cells, Port.cells]) (by simp) ?_
  cases hs : hasP l l.exits[i3].a
  ·have : l.exits.all (zbJ l) = false := zdG hlt3 (by simp [zbJ, hs])
   simp [Sec.cells, this]
  ·simp [Sec.cells, hw]
   exact ⟨⟨i3 + 1, by omega, by omega, zah hlt3 hq3 (by simp [hs])⟩, by omega⟩
 rw [List.take_of_length_le (by omega)] at hq3
 simp [hlt3]
 refine zaa (by simp) (fun vs => ∃ i : Nat, i ≤ l.exits.length ∧ vs = [I i] ∧ zal (fun t : Exi => !zbJ l t) (l.exits.take i)) (fun vs => match vs with | [.int _ j] => l.exits.length - j.toNat | _ => 0) ⟨0, by omega, by simp, rfl⟩ ?_
 rintro vs - ⟨i4, hi4, rfl, hq4⟩
 by_cases hlt4 : i4 < l.exits.length
 ·have hw := zab (i := i4) (by omega)
  have hha : hasP l l.exits[i4].a = true := by
   have := List.any_eq_false.1 hq3 _ (List.getElem_mem hlt4)
   simpa using this
  have hee : zbJ l l.exits[i4] = (l.exits[i4].over.all (fun t => (za5 l t).2) && (hasP l l.exits[i4].a && decide (l.exits[i4].over.length ≤ 2))) := rfl
  rw [hha] at hee
  have hbad : zbJ l l.exits[i4] = false → l.exits.all (zbJ l) = false := fun h => zdG hlt4 h
  have hgood : zbJ l l.exits[i4] = true → zal (fun t : Exi => !zbJ l t) (l.exits.take (i4 + 1)) := fun h => zah hlt4 hq4 (by simp [h])
  have hol := b5 _ (List.getElem_mem hlt4)
  generalize hX : l.exits[i4] = X at hee hbad hgood hol
  simp [hlt4, hX, Exi.cells]
  refine ⟨fun h2 => ?_, fun h2 => ?_⟩
  ·exact ⟨X, by rw [← hX]; exact List.getElem_mem hlt4, by rw [hee]; simp [show ¬ X.over.length ≤ 2 by omega]⟩
  refine zaa (by simp) (fun vs => ∃ j : Nat, j ≤ X.over.length ∧ vs = [I j] ∧ zal (fun t => !(za5 l t).2) (X.over.take j)) (fun vs => match vs with | [.int _ j] => X.over.length - j.toNat | _ => 0) ⟨0, by omega, by simp, rfl⟩ ?_
  rintro vs - ⟨j, hj, rfl, hqj⟩
  by_cases hlj : j < X.over.length
  ·have hwj := zab (i := j) (by omega)
   simp [hlt4, hX, Exi.cells, hlj, Step.cells]
   refine call (zcM l hl X.over[j]) (by simp [Lay.cells, hlt4, hX, Exi.cells, hlj, Step.cells]) (by simp) ?_
   cases hs : (za5 l X.over[j]).2
   ·have : zbJ l X = false := by rw [hee, zdG (q := fun t => (za5 l t).2) hlj hs]; rfl
    simp [hs, hbad this]
   ·simp [hs, hwj]
    exact ⟨⟨j + 1, by omega, by omega, zah hlj hqj (by simp [hs])⟩, by omega⟩
  ·rw [List.take_of_length_le (by omega)] at hqj
   have : zbJ l X = true := by rw [hee, zdb hqj]; simp; omega
   simp [hlt4, hX, Exi.cells, hlj, hw]
   exact ⟨⟨i4 + 1, by omega, by omega, hgood this⟩, by omega⟩
 rw [List.take_of_length_le (by omega)] at hq4
 have : l.exits.all (zbJ l) = true := zdb hq4
 simp [hlt4, this]
end Go.Lb.LK
namespace Go.Lb.LK
open Go Go.Lb Go.Proofs Go.RowKit
def tab (g : Nat → Int) : List Int := (List.range 24).map g
@[simp] theorem tab_len (g : Nat → Int) : (tab g).length = 24 := by simp [tab]
end Go.Lb.LK
