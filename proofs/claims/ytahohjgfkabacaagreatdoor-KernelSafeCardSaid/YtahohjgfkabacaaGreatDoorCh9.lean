/- Overlaps; which layouts may be, by their topology: the document. -/
import Derived.Test.YtahohjgfkabacaaGreatDoorCh8
import Derived.Test.YtahohjgfkabacaaGreatDoorCh6
import Derived.Test.YtahohjgfkabacaaGreatDoorCh7
import Derived.Test.YtahohjgfkabacaaGreatDoorCh1
set_option linter.unusedSimpArgs false
set_option linter.unusedVariables false
namespace Go.Lb.LK
open Go Go.Lb Go.Proofs Go.RowKit
def zbT (x : Exi) (k : Nat) : Port := if k = 0 then x.a else match x.over[k - 1]? with
 | some t => ⟨t.s, t.o⟩
 | none => noP
def zg0 (l : Lay) (x : Exi) (k : Nat) : Bool := match x.over[k]? with
 | some t => decide (za5 l (zbT x k) = ⟨t.s, t.i⟩) && (!decide (t.s = x.a.s) && !(x.over.take k).any fun u => decide (u.s = t.s))
 | none => true
def znd (l : Lay) (x : Exi) : Bool := (List.range x.over.length).all (zg0 l x)
theorem zp4 {l : Lay} {x : Exi} {k : Nat} (h : k < x.over.length) : zg0 l x k = (decide (za5 l (zbT x k) = ⟨x.over[k].s, x.over[k].i⟩) && (!decide (x.over[k].s = x.a.s) && !(x.over.take k).any fun u => decide (u.s = x.over[k].s))) := by
 simp [zg0, List.getElem?_eq_getElem h]
def zhA (l : Lay) (x : Int) : Bool := ziq l && (match zja l x with
 | some e => znd l e
 | none => false)
set_option maxHeartbeats 2000000 in
theorem znS (l : Lay) (hl : l.lens) (x : Int) : C f_lockbarref09_Over [l.av, I x] (.bool (zhA l x)) := by
 refine ctr (l.cells ++ [I x]) run_lockbarref09_Over rfl (by simp [zaf, AV.pureAll, AV.pure]) rfl ?_ rfl
 unfold rt_lockbarref09_Over
 simp [Lay.cells]
 refine call (zh9 l hl) (by simp [Lay.cells]) (fun _ => rfl) ?_
 simp
 refine ⟨fun hb => ?_, fun h1 h2 h3 => ?_⟩
 ·rcases hb with (hb | hb) | hb
  ·simp [zhA, hb]
  ·simp [zhA, zgn (l := l) (s := x) (by omega)]
  ·simp [zhA, zgn (l := l) (s := x) (by omega)]
 ·obtain ⟨n, hn, hlt, he⟩ := zlL h2 h3
  have hk := hl.over _ (List.getElem_mem hlt)
  have hval : zhA l x = znd l l.exits[n] := by simp [zhA, h1, he]
  rw [hval]
  have hbad : ∀ i, i < l.exits[n].over.length → zg0 l l.exits[n] i = false → znd l l.exits[n] = false := fun i hi hk => zbv hi hk
  simp [hn, hlt, Exi.cells]
  refine zac rfl (fun vs => ∃ i : Nat, i ≤ l.exits[n].over.length ∧ vs = [I i, I (zbT l.exits[n] i).s, I (zbT l.exits[n] i).p] ∧ ∀ j, j < i → zg0 l l.exits[n] j = true) (fun vs => match vs with | [.int _ j, _, _] => l.exits[n].over.length - j.toNat | _ => 0) ⟨0, by omega, by simp [hn, hlt, Exi.cells, zbT], fun j hj => by omega⟩ ?_
  rintro vs - ⟨i, hi, rfl, hq⟩
  simp [hlt, Exi.cells]
  refine ⟨fun hli => ?_, fun hge => ?_⟩
  ·have hw := zad (i := i) (by omega)
   have ho := zp4 (l := l) hli
   have hgood : zg0 l l.exits[n] i = true → ∀ j, j < i + 1 → zg0 l l.exits[n] j = true := fun hk j hj => by
    by_cases hji : j = i
    ·subst hji; exact hk
    ·exact hq j (by omega)
   have hfrom : zbT l.exits[n] (i + 1) = ⟨l.exits[n].over[i].s, l.exits[n].over[i].o⟩ := by
    simp [zbT, List.getElem?_eq_getElem hli]
   refine call (zet l (zbT l.exits[n] i)) (by simp [Lay.cells, Port.cells]) (by simp) ?_
   simp [hlt, hli, Exi.cells, Step.cells, Port.cells]
   have hbe : za5 l (zbT l.exits[n] i) = ⟨l.exits[n].over[i].s, l.exits[n].over[i].i⟩ ↔ (za5 l (zbT l.exits[n] i)).s = l.exits[n].over[i].s ∧ (za5 l (zbT l.exits[n] i)).p = l.exits[n].over[i].i := by
    constructor
    ·intro h; rw [h]; exact ⟨rfl, rfl⟩
    ·rintro ⟨h1, h2⟩; exact zhp h1 h2
   refine ⟨fun hb => hbad i hli ?_, fun g1 g2 g3 => ?_⟩
   ·rw [ho]
    rcases hb with (hb | hb) | hb
    ·have : ¬ za5 l (zbT l.exits[n] i) = ⟨l.exits[n].over[i].s, l.exits[n].over[i].i⟩ := fun h => hb (hbe.1 h).1
     simp [this]
    ·have : ¬ za5 l (zbT l.exits[n] i) = ⟨l.exits[n].over[i].s, l.exits[n].over[i].i⟩ := fun h => hb (hbe.1 h).2
     simp [this]
    ·simp [hb]
   ·have g0 := hbe.2 ⟨g1, g2⟩
    refine zac rfl (fun vs => ∃ m : Nat, m ≤ i ∧ vs = [I m] ∧ zar (fun u => decide (u.s = l.exits[n].over[i].s)) (l.exits[n].over.take m)) (fun vs => match vs with | [.int _ j] => i - j.toNat | _ => 0) ⟨0, by omega, by simp, rfl⟩ ?_
    rintro vs - ⟨m, hm, rfl, hp⟩
    simp
    refine ⟨fun hlm => ?_, fun hgm => ?_⟩
    ·have hml : m < l.exits[n].over.length := by omega
     have hwm := zad (i := m) (by omega)
     simp [hlt, hli, hml, Exi.cells, Step.cells, hwm]
     by_cases he2 : l.exits[n].over[m].s = l.exits[n].over[i].s
     ·right
      refine ⟨he2, hbad i hli ?_⟩
      have : ((l.exits[n].over.take i).any fun u => decide (u.s = l.exits[n].over[i].s)) = true := zcc (i := m) (by rw [List.length_take]; omega) (by simpa using he2)
      rw [ho, this]; simp
     ·left
      exact ⟨he2, ⟨m + 1, by omega, by omega, zao hml hp (by simpa using he2)⟩, by omega⟩
    ·have hmi : m = i := by omega
     subst hmi
     have hk : zg0 l l.exits[n] m = true := by
      rw [ho, g0, decide_eq_true rfl, hp]
      simp [g3]
     simp [hlt, hli, Exi.cells, Step.cells, hw]
     exact ⟨⟨m + 1, by omega, ⟨by omega, by rw [hfrom], by rw [hfrom]⟩, hgood hk⟩, by omega⟩
  ·have : znd l l.exits[n] = true := za6 fun j hj => hq j (by omega)
   simp [this]
def zcn (l : Lay) : Int := match (List.range l.exits.length).find? (fun i : Nat => !zhA l i) with
 | some k => k
 | none => -1
theorem zmE (l : Lay) (hl : l.lens) : C f_lockbarref09_overs [l.av] (I (zcn l)) := by
 have hb := hl.exits
 refine ctr l.cells run_lockbarref09_overs rfl (by simp) rfl ?_ rfl
 unfold rt_lockbarref09_overs
 simp [Lay.cells]
 refine zac rfl (fun vs => ∃ i : Nat, i ≤ l.exits.length ∧ vs = [I i] ∧ ∀ j, j < i → zhA l j = true) (fun vs => match vs with | [.int _ j] => l.exits.length - j.toNat | _ => 0) ⟨0, by omega, by simp, fun j hj => by omega⟩ ?_
 rintro vs - ⟨i, hi, rfl, hq⟩
 simp
 refine ⟨fun hlt => ?_, fun hge => ?_⟩
 ·have hw := zad (i := i) (by omega)
  refine call (znS l hl i) (by simp [Lay.cells]) (fun _ => rfl) ?_
  cases ho : zhA l i
  ·have hr : i < (List.range l.exits.length).length := by simpa using hlt
   have : (List.range l.exits.length).find? (fun i : Nat => !zhA l i) = some ((List.range l.exits.length)[i]) := zdn hr (by
    refine List.any_eq_false.2 fun x hx => ?_
    obtain ⟨j, hj, rfl⟩ := List.mem_take_iff_getElem.1 hx
    simp only [List.getElem_range]
    rw [hq j (by omega)]; simp) (by simp [ho])
   simp [zcn, this]
  ·simp [hw]
   refine ⟨⟨i + 1, by omega, by omega, fun j hj => ?_⟩, by omega⟩
   by_cases hji : j = i
   ·subst hji; exact ho
   ·exact hq j (by omega)
 ·have : (List.range l.exits.length).find? (fun i : Nat => !zhA l i) = none := by
   rw [List.find?_eq_none]
   intro x hx
   rw [hq x (by have := List.mem_range.1 hx; omega)]; simp
  simp [zcn, this]
def zhC (l : Lay) : Bool := ziq l && (zd6 l && (decide (zax zcC l.sigs < 0) && (decide (zax zes l.exits < 0) && (decide (zcn l < 0) && decide (zax zeq l.flanks < 0)))))
def zea (a b c d : Int) (i : Nat) : Int := if i = 0 then a else if i = 1 then b else if i = 2 then c else d
theorem aidx4 (a b c d : Int) {i : Nat} {z : Int} (hz : z = i) (h : i < 4) : pv (.aidx 4 1 0 1 false) [.agg [I a, I b, I c, I d], I z] = I (zea a b c d i) := by
 subst hz
 match i, h with
 | 0, _ => rfl
 | 1, _ => rfl
 | 2, _ => rfl
 | 3, _ => rfl
def zjt (l : Lay) : Int × Int × Int :=
 if ziq l = false then (0, 0, 60) else if zd6 l = false then (1, 0, 90) else
 match (List.range 4).find? (fun i => decide (0 ≤ zea (zax zcC l.sigs) (zax zes l.exits) (zcn l) (zax zeq l.flanks) i)) with
 | some i => (i + 2, zea (zax zcC l.sigs) (zax zes l.exits) (zcn l) (zax zeq l.flanks) i, 90)
 | none => (0, 0, 0)
set_option maxHeartbeats 2000000 in
theorem zmF (l : Lay) (hl : l.lens) : C f_lockbarref09_Check [l.av] (.tup [I (zjt l).1, I (zjt l).2.1, I (zjt l).2.2]) := by
 refine ctr l.cells run_lockbarref09_Check rfl (by simp) rfl ?_ rfl
 unfold rt_lockbarref09_Check
 simp [Lay.cells, -zab]
 refine call (zh9 l hl) (by simp [Lay.cells]) (fun _ => rfl) ?_
 cases h1 : ziq l
 ·simp [zjt, h1, -zab]
 simp [-zab]
 refine call (zlJ l hl.secs) (by simp [Lay.cells]) (fun _ => rfl) ?_
 cases h2 : zd6 l
 ·simp [zjt, h1, h2, -zab]
 simp [-zab]
 refine call (zkq l hl.sigs) (by simp [Lay.cells]) (fun _ => rfl) ?_
 simp [-zab]
 refine call (zmT l hl.exits) (by simp [Lay.cells]) (fun _ => rfl) ?_
 simp [-zab]
 refine call (zmE l hl) (by simp [Lay.cells]) (fun _ => rfl) ?_
 simp [-zab]
 refine call (zld l hl.flanks) (by simp [Lay.cells]) (fun _ => rfl) ?_
 simp [-zab]
 have hA := fun (i : Nat) (h : i < 4) => aidx4 (zax zcC l.sigs) (zax zes l.exits) (zcn l) (zax zeq l.flanks) (i := i) rfl h
 have hval : zjt l = match (List.range 4).find? (fun i => decide (0 ≤ zea (zax zcC l.sigs) (zax zes l.exits) (zcn l) (zax zeq l.flanks) i)) with
  | some i => ((i : Int) + 2, zea (zax zcC l.sigs) (zax zes l.exits) (zcn l) (zax zeq l.flanks) i, 90)
  | none => (0, 0, 0) := by simp [zjt, h1, h2]
 rw [hval]
 generalize zax zcC l.sigs = a at *
 generalize zax zes l.exits = b at *
 generalize zcn l = c at *
 generalize zax zeq l.flanks = d at *
 refine zac rfl (fun vs => ∃ i : Nat, i ≤ 4 ∧ vs = [I i] ∧ ∀ j, j < i → ¬ 0 ≤ zea a b c d j) (fun vs => match vs with | [.int _ j] => 4 - j.toNat | _ => 0) ⟨0, by omega, by simp, fun j hj => by omega⟩ ?_
 rintro vs - ⟨i, hi, rfl, hq⟩
 simp [-zab]
 refine ⟨fun hlt => ?_, fun hge => ?_⟩
 ·have hi4 : i < 4 := by omega
  have hw := zad (i := i) (by omega)
  have hw2 : IntKind.i64.wrap ((i : Int) + 2) = (i : Int) + 2 := by rw [zaI] <;> omega
  simp [hA i hi4, hw2, hw, -zab]
  repeat refine And.intro (by intros; omega) ?_
  by_cases h0 : 0 ≤ zea a b c d i
  ·right
   have hr : i < (List.range 4).length := by simpa using hi4
   have : (List.range 4).find? (fun i => decide (0 ≤ zea a b c d i)) = some ((List.range 4)[i]) := zdn hr (by
    refine List.any_eq_false.2 fun x hx => ?_
    obtain ⟨j, hj, rfl⟩ := List.mem_take_iff_getElem.1 hx
    simp only [List.getElem_range]
    simpa using hq j (by omega)) (by simpa using h0)
   simp [this, h0]
   omega
  ·left
   refine ⟨by omega, ⟨i + 1, by omega, by omega, fun j hj => ?_⟩, by omega⟩
   by_cases hji : j = i
   ·subst hji; omega
   ·have := hq j (by omega); omega
 ·have : (List.range 4).find? (fun i => decide (0 ≤ zea a b c d i)) = none := by
   rw [List.find?_eq_none]
   intro x hx
   simpa using hq x (by have := List.mem_range.1 hx; omega)
  simp [this]
theorem zrj (l : Lay) : ((zjt l).2.2 = 0) ↔ zhC l = true := by
 unfold zjt zhC
 cases ziq l
 ·simp
 cases zd6 l
 ·simp
 simp only [Bool.true_eq_false, if_false, Bool.true_and]
 generalize zax zcC l.sigs = a
 generalize zax zes l.exits = b
 generalize zcn l = c
 generalize zax zeq l.flanks = d
 cases hf : (List.range 4).find? (fun i => decide (0 ≤ zea a b c d i)) with
 | none =>
  rw [List.find?_eq_none] at hf
  have h0 := hf 0 (by simp)
  have h1 := hf 1 (by simp)
  have h2 := hf 2 (by simp)
  have h3 := hf 3 (by simp)
  simp [zea] at h0 h1 h2 h3
  simp [h0, h1, h2, h3]
 | some i =>
  have hi := List.mem_range.1 (List.mem_of_find?_eq_some hf)
  have hq := List.find?_some hf
  simp only [decide_eq_true_eq] at hq
  simp only [Bool.and_eq_true, decide_eq_true_eq]
  constructor
  ·intro h; simp at h
  ·rintro ⟨h0, h1, h2, h3⟩
   exfalso
   have : i = 0 ∨ i = 1 ∨ i = 2 ∨ i = 3 := by omega
   rcases this with rfl | rfl | rfl | rfl <;> simp [zea] at hq <;> omega
theorem zmM (l : Lay) (hl : l.lens) : C f_lockbarref09_Right [l.av] (.bool (zhC l)) := by
 refine ctr l.cells run_lockbarref09_Right rfl (by simp) rfl ?_ rfl
 unfold rt_lockbarref09_Right
 simp [Lay.cells]
 refine call (zmF l hl) (by simp [Lay.cells]) (by simp) ?_
 simp
 have := zrj l
 by_cases h : zhC l = true
 ·rw [h, this.2 h]; rfl
 ·rw [Bool.eq_false_iff.2 h]
  rw [beq_eq_false_iff_ne]
  exact fun h2 => h (this.1 h2)
end Go.Lb.LK
namespace Go.Lb.LK
open Go Go.Lb Go.Proofs Go.RowKit
def zf6 (l : Lay) (ss : List Step) (k : Nat) : Bool := match ss[k]? with
 | some t => (zcN l t).2 && (if 0 < k then (match ss[k - 1]? with
   | some u => decide (za5 l ⟨u.s, u.o⟩ = ⟨t.s, t.i⟩)
   | none => false) else true)
 | none => true
def zoM (l : Lay) (ss : List Step) : Bool := (List.range ss.length).all (zf6 l ss)
theorem zhn {a : Port} {x y : Int} : a = ⟨x, y⟩ ↔ a.s = x ∧ a.p = y := by
 constructor
 ·intro h; rw [h]; exact ⟨rfl, rfl⟩
 ·rintro ⟨h1, h2⟩; exact zhp h1 h2
set_option maxHeartbeats 2000000 in
theorem zop (l : Lay) (ss : List Step) (hs : ss.length ≤ 1000) : C f_lockbarref11_Goes [l.av, steps ss] (.bool (zoM l ss)) := by
 refine ctr (l.cells ++ [steps ss]) run_lockbarref11_Goes rfl (by simp [zaf, AV.pureAll, AV.pure]) rfl ?_ rfl
 unfold rt_lockbarref11_Goes
 simp [Lay.cells]
 refine zac rfl (fun vs => ∃ i : Nat, i ≤ ss.length ∧ vs = [I i] ∧ ∀ j, j < i → zf6 l ss j = true) (fun vs => match vs with | [.int _ j] => ss.length - j.toNat | _ => 0) ⟨0, by omega, by simp, fun j hj => by omega⟩ ?_
 rintro vs - ⟨i, hi, rfl, hq⟩
 simp
 refine ⟨fun hlt => ?_, fun hge => ?_⟩
 ·have hw := zad (i := i) (by omega)
  have hgood : zf6 l ss i = true → ∀ j, j < i + 1 → zf6 l ss j = true := fun hk j hj => by
   by_cases hji : j = i
   ·subst hji; exact hk
   ·exact hq j (by omega)
  have hbad : zf6 l ss i = false → zoM l ss = false := fun hk => zbv hlt hk
  simp [hlt, Step.cells]
  refine call (zdE l ss[i]) (by simp [Lay.cells, hlt, Step.cells]) (by simp) ?_
  by_cases hi0 : 0 < i
  ·have hw0 : IntKind.i64.wrap ((i : Int) - 1) = (i : Int) - 1 := by rw [zaI] <;> omega
   have hi1 : ((i : Int) - 1).toNat = i - 1 := by omega
   have hlt1 : i - 1 < ss.length := by omega
   have hge' : zf6 l ss i = ((zcN l ss[i]).2 && decide (za5 l ⟨ss[i - 1].s, ss[i - 1].o⟩ = ⟨ss[i].s, ss[i].i⟩)) := by
    simp [zf6, List.getElem?_eq_getElem hlt, List.getElem?_eq_getElem hlt1, hi0]
   simp [hi0, hw0, hi1, hlt, hlt1, Step.cells]
   repeat refine And.intro (by intros; omega) ?_
   refine zak (avs := [l.av, (Port.mk ss[i - 1].s ss[i - 1].o).av]) (za5 l ⟨ss[i - 1].s, ss[i - 1].o⟩).av (by simp [AV.pure]) (fun _ => ⟨by simp [Lay.cells, hi0, hw0, hi1, hlt1, Step.cells, Port.cells], zet _ _⟩) (by simp) ?_
   simp [hi0, hw0, hi1, hlt, hlt1, Step.cells, Port.cells, hw]
   refine ⟨fun hb => hbad ?_, fun h1 h2 h3 => ⟨⟨i + 1, by omega, by omega, hgood ?_⟩, by omega⟩⟩
   ·rw [hge']
    rcases hb with hb | hb
    ·simp [hb]
    ·have : ¬ za5 l ⟨ss[i - 1].s, ss[i - 1].o⟩ = ⟨ss[i].s, ss[i].i⟩ := fun h => by
      rw [zhn] at h
      rcases hb with hb | hb
      ·exact hb h.1
      ·exact hb h.2
     simp [this]
   ·rw [hge', h1, decide_eq_true (zhn.2 ⟨h2, h3⟩)]; rfl
  ·have hi0' : i = 0 := by omega
   have hge' : zf6 l ss i = (zcN l ss[i]).2 := by
    simp [zf6, List.getElem?_eq_getElem hlt, hi0]
   simp [hi0, hlt, Step.cells]
   refine zak (avs := []) noP.av (by simp [AV.pure]) (fun hh => ?_) (by simp) ?_
   ·simp [hi0] at hh
   simp [hi0, hlt, Step.cells, noP, Port.cells, hw]
   cases hs2 : (zcN l ss[i]).2
   ·simp [hs2, hbad (by rw [hge', hs2])]
   ·simp [hs2]
    exact ⟨⟨i + 1, by omega, by omega, hgood (by rw [hge', hs2])⟩, by omega⟩
 ·have : zoM l ss = true := za6 fun j hj => hq j (by omega)
  simp [this]
def zeO (ss ov : List Step) (k : Nat) : Bool := match ss[k]? with
 | some t => !((ss.take k).any fun u => decide (u.s = t.s)) && !(ov.any fun u => decide (u.s = t.s))
 | none => true
def zhD (ss ov : List Step) : Bool := (List.range ss.length).all (zeO ss ov)
set_option maxHeartbeats 2000000 in
theorem zkI (ss ov : List Step) (hs : ss.length ≤ 1000) (ho : ov.length ≤ 1000) : C f_lockbarref11_simple [steps ss, steps ov] (.bool (zhD ss ov)) := by
 refine ctr [steps ss, steps ov] run_lockbarref11_simple rfl (by simp [AV.pureAll, AV.pure]) rfl ?_ rfl
 unfold rt_lockbarref11_simple
 refine zac rfl (fun vs => ∃ i : Nat, i ≤ ss.length ∧ vs = [I i] ∧ ∀ j, j < i → zeO ss ov j = true) (fun vs => match vs with | [.int _ j] => ss.length - j.toNat | _ => 0) ⟨0, by omega, by simp, fun j hj => by omega⟩ ?_
 rintro vs - ⟨i, hi, rfl, hq⟩
 simp
 refine ⟨fun hlt => ?_, fun hge => ?_⟩
 ·have hw := zad (i := i) (by omega)
  have hbad : zeO ss ov i = false → zhD ss ov = false := fun hk => zbv hlt hk
  have hse : zeO ss ov i = (!((ss.take i).any fun u => decide (u.s = ss[i].s)) && !(ov.any fun u => decide (u.s = ss[i].s))) := by
   simp [zeO, List.getElem?_eq_getElem hlt]
  refine zac rfl (fun vs => ∃ m : Nat, m ≤ i ∧ vs = [I m] ∧ zar (fun u => decide (u.s = ss[i].s)) (ss.take m)) (fun vs => match vs with | [.int _ j] => i - j.toNat | _ => 0) ⟨0, by omega, by simp, rfl⟩ ?_
  rintro vs - ⟨m, hm, rfl, hp⟩
  simp
  refine ⟨fun hlm => ?_, fun hgm => ?_⟩
  ·have hml : m < ss.length := by omega
   have hwm := zad (i := m) (by omega)
   simp [hlt, hml, Step.cells, hwm]
   by_cases he : ss[m].s = ss[i].s
   ·have : ((ss.take i).any fun u => decide (u.s = ss[i].s)) = true := zcc (i := m) (by rw [List.length_take]; omega) (by simpa using he)
    have hf := hbad (by rw [hse, this]; simp)
    simp [he, hf]
   ·simp [he]
    exact ⟨⟨m + 1, by omega, by omega, zao hml hp (by simpa using he)⟩, by omega⟩
  ·have hmi : m = i := by omega
   subst hmi
   refine zac rfl (fun vs => ∃ q : Nat, q ≤ ov.length ∧ vs = [I q] ∧ zar (fun u => decide (u.s = ss[m].s)) (ov.take q)) (fun vs => match vs with | [.int _ j] => ov.length - j.toNat | _ => 0) ⟨0, by omega, by simp, rfl⟩ ?_
   rintro vs - ⟨q, hq2, rfl, hp2⟩
   simp
   refine ⟨fun hlq => ?_, fun hgq => ?_⟩
   ·have hwq := zad (i := q) (by omega)
    simp [hlt, hlq, Step.cells, hwq]
    by_cases he : ov[q].s = ss[m].s
    ·have : (ov.any fun u => decide (u.s = ss[m].s)) = true := zcc hlq (by simpa using he)
     have hf := hbad (by rw [hse, this]; simp)
     simp [he, hf]
    ·simp [he]
     exact ⟨⟨q + 1, by omega, by omega, zao hlq hp2 (by simpa using he)⟩, by omega⟩
   ·have ht : ov.take q = ov := List.take_of_length_le (by omega)
    rw [ht] at hp2
    have hk : zeO ss ov m = true := by
     rw [hse]
     unfold zar at hp hp2
     rw [hp, hp2]; rfl
    simp [hlt, hw]
    refine ⟨⟨m + 1, by omega, by omega, fun j hj => ?_⟩, by omega⟩
    by_cases hjm : j = m
    ·subst hjm; exact hk
    ·exact hq j (by omega)
 ·have : zhD ss ov = true := za6 fun j hj => hq j (by omega)
  simp [this]
theorem zks (p : Path) : C f_lockbarref11_Through [p.av, .sl []] (.bool true) := by
 refine ctr (p.cells ++ [.sl []]) run_lockbarref11_Through rfl (by simp [zaf, AV.pureAll, AV.pure]) rfl ?_ rfl
 unfold rt_lockbarref11_Through
 simp [Path.cells]
 refine zac rfl (fun vs => vs = [I 0, I 0]) (fun _ => 0) rfl ?_
 rintro vs - rfl
 simp
def zp1 (l : Lay) (p : Port) : Int := match (List.range l.sigs.length).find? (fun i => decide (l.sigs[i]? = some p)) with
 | some i => i
 | none => -1
theorem zli (l : Lay) (hl : l.sigs.length ≤ 1000) (p : Port) : C f_lockbarref06_Signal [l.av, p.av] (I (zp1 l p)) := by
 refine ctr (l.cells ++ p.cells) run_lockbarref06_Signal rfl (by simp [zaf]) rfl ?_ rfl
 unfold rt_lockbarref06_Signal
 simp [Lay.cells, Port.cells]
 refine zac rfl (fun vs => ∃ i : Nat, i ≤ l.sigs.length ∧ vs = [I i] ∧ ∀ j, j < i → ¬ l.sigs[j]? = some p) (fun vs => match vs with | [.int _ j] => l.sigs.length - j.toNat | _ => 0) ⟨0, by omega, by simp, fun j hj => by omega⟩ ?_
 rintro vs - ⟨i, hi, rfl, hq⟩
 simp
 refine ⟨fun hlt => ?_, fun hge => ?_⟩
 ·have hw := zad (i := i) (by omega)
  have hpe := zeU l.sigs[i] p
  simp only [Port.cells] at hpe
  simp [hlt, Port.cells, hpe, hw]
  by_cases he : l.sigs[i] = p
  ·have hr : i < (List.range l.sigs.length).length := by simpa using hlt
   have : (List.range l.sigs.length).find? (fun i => decide (l.sigs[i]? = some p)) = some ((List.range l.sigs.length)[i]) := zdn hr (by
    refine List.any_eq_false.2 fun x hx => ?_
    obtain ⟨j, hj, rfl⟩ := List.mem_take_iff_getElem.1 hx
    simp only [List.getElem_range]
    simpa using hq j (by omega)) (by simp [List.getElem?_eq_getElem hlt, he])
   simp [he, zp1, this]
  ·simp [he]
   refine ⟨⟨i + 1, by omega, by omega, fun j hj => ?_⟩, by omega⟩
   by_cases hji : j = i
   ·subst hji; simpa [List.getElem?_eq_getElem hlt] using he
   ·exact hq j (by omega)
 ·have : (List.range l.sigs.length).find? (fun i => decide (l.sigs[i]? = some p)) = none := by
   rw [List.find?_eq_none]
   intro x hx
   have := hq x (by have := List.mem_range.1 hx; omega)
   simpa using this
  simp [zp1, this]
end Go.Lb.LK
namespace Go.Lb.LK
open Go Go.Lb Go.Proofs Go.RowKit
def zjL (sg : Port) (ss : List Step) : Bool := match ss[0]? with
 | some t => decide (sg = ⟨t.s, t.i⟩)
 | none => false
def zm3 (e : Port) (ss : List Step) : Bool := match ss[ss.length - 1]? with
 | some t => decide (e = ⟨t.s, t.o⟩)
 | none => false
def zoZ (l : Lay) (ss : List Step) (k : Nat) : Bool := match ss[k]? with
 | some t => decide (k = 0) || decide (zp1 l ⟨t.s, t.i⟩ < 0)
 | none => true
def zqI (l : Lay) (ss : List Step) : Bool := (List.range ss.length).all (zoZ l ss)
def zjp (l : Lay) (p : Path) (sg : Port) (e : Exi) : Bool := decide (1 ≤ p.steps.length ∧ p.steps.length ≤ 12) && (zoM l p.steps && (zhD p.steps e.over && (zjL sg p.steps && (zm3 e.a p.steps && zqI l p.steps))))
def zgW (l : Lay) (p : Path) : Int :=
 if zhC l = true ∧ (0 ≤ p.sig ∧ p.sig < l.sigs.length) ∧ (0 ≤ p.exit ∧ p.exit < l.exits.length) then
  (match l.sigs[p.sig.toNat]?, l.exits[p.exit.toNat]? with
   | some sg, some e => if zjp l p sg e = true then 0 else 110
   | _, _ => 110) else 2
set_option maxRecDepth 100000 in
set_option maxHeartbeats 4000000 in
theorem zmS (l : Lay) (hl : l.lens) (p : Path) : C f_lockbarref11_Check [l.av, p.av, .sl []] (I (zgW l p)) := by
 refine ctr (l.cells ++ p.cells ++ [.sl []]) run_lockbarref11_Check rfl (by simp [zaf, AV.pureAll, AV.pure]) rfl ?_ rfl
 unfold rt_lockbarref11_Check
 simp [Lay.cells, Path.cells]
 refine call (zmM l hl) (by simp [Lay.cells]) (fun _ => rfl) ?_
 by_cases hg : zhC l = true ∧ (0 ≤ p.sig ∧ p.sig < l.sigs.length) ∧ (0 ≤ p.exit ∧ p.exit < l.exits.length)
 case neg =>
  have hv : zgW l p = 2 := by unfold zgW; rw [if_neg hg]
  rw [hv]
  cases ht : zhC l
  ·simp
  ·rw [ht] at hg
   have : p.sig < 0 ∨ (l.sigs.length : Int) ≤ p.sig ∨ p.exit < 0 ∨ (l.exits.length : Int) ≤ p.exit := by
    simp only [true_and] at hg; omega
   simp
   intro g1 g2 g3 g4
   omega
 obtain ⟨ht, ⟨h1, h2⟩, h3, h4⟩ := hg
 obtain ⟨n, hn⟩ : ∃ n : Nat, p.sig = n := ⟨p.sig.toNat, by omega⟩
 obtain ⟨m, hm⟩ : ∃ m : Nat, p.exit = m := ⟨p.exit.toNat, by omega⟩
 have hln : n < l.sigs.length := by omega
 have hlm : m < l.exits.length := by omega
 have hv : zgW l p = if zjp l p l.sigs[n] l.exits[m] = true then 0 else 110 := by
  unfold zgW
  rw [if_pos ⟨ht, ⟨h1, h2⟩, h3, h4⟩, hn, hm]
  simp [List.getElem?_eq_getElem hln, List.getElem?_eq_getElem hlm]
 rw [hv]
 have hov := hl.over _ (List.getElem_mem hlm)
 have c1 : ¬ ((n : Int) < 0) := by omega
 have c2 : ¬ ((l.sigs.length : Nat) ≤ n) := by omega
 have c3 : ¬ ((m : Int) < 0) := by omega
 have c4 : ¬ ((l.exits.length : Nat) ≤ m) := by omega
 simp [ht, hn, hm, c1, c2, c3, c4]
 refine zac rfl (fun vs => vs = [I 0]) (fun _ => 0) rfl ?_
 rintro vs - rfl
 simp
 refine zak (avs := [l.av, steps p.steps]) (.bool (zoM l p.steps)) rfl (fun hh => ⟨by simp [Lay.cells], zop l p.steps (by simp at hh; omega)⟩) (fun _ => rfl) ?_
 simp [hlm, Exi.cells]
 refine zak (avs := [steps p.steps, steps l.exits[m].over]) (.bool (zhD p.steps l.exits[m].over)) rfl (fun hh => ⟨by simp [hlm, hm, Exi.cells], zkI p.steps l.exits[m].over (by simp at hh; omega) hov⟩) (fun _ => rfl) ?_
 simp [hlm, Exi.cells]
 refine zak (avs := [p.av, .sl []]) (.bool true) rfl (fun hh => ⟨by simp [Path.cells, hn, hm], zks p⟩) (fun _ => rfl) ?_
 simp [hlm, Exi.cells]
 refine ⟨fun hb => ?_, fun g1 g2 g3 g4 => ?_⟩
 ·have : zjp l p l.sigs[n] l.exits[m] = false := by
   unfold zjp
   rcases hb with (hb | hb) | hb
   ·have : ¬ (1 ≤ p.steps.length ∧ p.steps.length ≤ 12) := by omega
    rw [decide_eq_false this]; rfl
   ·simp [hb]
   ·simp [hb]
  exact this
 have h0 : 0 < p.steps.length := by omega
 have hq : p.steps.length - 1 < p.steps.length := by omega
 have hw1 : IntKind.i64.wrap ((p.steps.length : Int) - 1) = (p.steps.length : Int) - 1 := by rw [zaI] <;> omega
 have hw2 : ((p.steps.length : Int) - 1).toNat = p.steps.length - 1 := by omega
 have hd : decide (1 ≤ p.steps.length ∧ p.steps.length ≤ 12) = true := decide_eq_true (by omega)
 have hpo : zjp l p l.sigs[n] l.exits[m] = (zjL l.sigs[n] p.steps && (zm3 l.exits[m].a p.steps && zqI l p.steps)) := by
  unfold zjp; rw [hd, g3, g4]; rfl
 have hf : zjL l.sigs[n] p.steps = decide (l.sigs[n] = ⟨p.steps[0].s, p.steps[0].i⟩) := by
  simp [zjL, List.getElem?_eq_getElem h0]
 have hl2 : zm3 l.exits[m].a p.steps = decide (l.exits[m].a = ⟨p.steps[p.steps.length - 1].s, p.steps[p.steps.length - 1].o⟩) := by
  simp [zm3, List.getElem?_eq_getElem hq]
 have e1 := zeU l.sigs[n] ⟨p.steps[0].s, p.steps[0].i⟩
 have e2 := zeU l.exits[m].a ⟨p.steps[p.steps.length - 1].s, p.steps[p.steps.length - 1].o⟩
 simp only [Port.cells] at e1 e2
 rw [hpo, hf, hl2]
 simp [hln, hlm, h0, hq, hw1, hw2, Port.cells, Step.cells, Exi.cells, e1, e2]
 refine ⟨fun _ => by omega, fun hb hx hy => ?_, fun hx hy1 hy2 => ?_⟩
 ·exfalso
  rcases hb with hb | hb
  ·exact hb hx
  ·have := zhn.1 hy
   rcases hb with hb | hb
   ·exact hb this.1
   ·exact hb this.2
 have hy := zhn.2 ⟨hy1, hy2⟩
 simp only [hx, hy, true_and]
 refine zac rfl (fun vs => ∃ i : Nat, 1 ≤ i ∧ i ≤ p.steps.length ∧ vs = [I i] ∧ ∀ j, j < i → zoZ l p.steps j = true) (fun vs => match vs with | [.int _ j] => p.steps.length - j.toNat | _ => 0) ⟨1, by omega, by omega, by simp, fun j hj => by
  have : j = 0 := by omega
  subst this
  simp [zoZ, List.getElem?_eq_getElem h0]⟩ ?_
 rintro vs - ⟨i, hi1, hi, rfl, hqi⟩
 simp
 refine ⟨fun hlt => ?_, fun hge => ?_⟩
 ·have hw := zad (i := i) (by omega)
  have hme : zoZ l p.steps i = decide (zp1 l ⟨p.steps[i].s, p.steps[i].i⟩ < 0) := by
   simp [zoZ, List.getElem?_eq_getElem hlt, show ¬ i = 0 by omega]
  simp [hlt, Step.cells]
  refine call (zli l hl.sigs ⟨p.steps[i].s, p.steps[i].i⟩) (by simp [Lay.cells, Port.cells, hlt, Step.cells]) (fun _ => rfl) ?_
  simp [hw]
  refine ⟨fun hs => ?_, fun hs => ⟨⟨i + 1, by omega, by omega, by omega, fun j hj => ?_⟩, by omega⟩⟩
  ·have : zqI l p.steps = false := zbv hlt (by rw [hme]; exact decide_eq_false (by omega))
   simp [this]
  ·by_cases hji : j = i
   ·subst hji; rw [hme]; exact decide_eq_true hs
   ·exact hqi j (by omega)
 ·have : zqI l p.steps = true := za6 fun j hj => hqi j (by omega)
  simp [this]
def zii (l : List Need) (k : Nat) : Bool := match l[k]? with
 | some x => (l.take k).any fun y => both x y
 | none => false
def zfp (l : List Need) : Bool := (List.range l.length).any (zii l)
theorem zq2 {q : Nat → Bool} {n i : Nat} (h : i < n) (hb : q i = true) : (List.range n).any q = true := List.any_eq_true.2 ⟨i, List.mem_range.2 h, hb⟩
theorem zoH {q : Nat → Bool} {n : Nat} (h : ∀ i, i < n → q i = false) : (List.range n).any q = false := by
 refine List.any_eq_false.2 fun x hx => ?_
 rw [h x (List.mem_range.1 hx)]; simp
theorem zmD (a : List Need) (ha : a.length ≤ 1000000000) : C f_lockbarref13_Clash [needs a, .sl []] (.bool (zfp a)) := by
 refine ctr [needs a, .sl []] run_lockbarref13_Clash rfl (by simp [AV.pureAll, AV.pure]) rfl ?_ rfl
 unfold rt_lockbarref13_Clash
 simp
 first
 | refine ⟨fun x _ => by simp [Need.cells], by omega, ?_⟩
 | refine ⟨by omega, ?_⟩
 refine zac rfl (fun vs => ∃ i : Nat, i ≤ a.length ∧ vs = [I i] ∧ ∀ j, j < i → zii a j = false) (fun vs => match vs with | [.int _ j] => a.length - j.toNat | _ => 0) ⟨0, by omega, by simp, fun j hj => by omega⟩ ?_
 rintro vs - ⟨i, hi, rfl, hq⟩
 simp
 refine ⟨fun hlt => ?_, fun hge => ?_⟩
 ·have hw := zad (i := i) (by omega)
  have hce : zii a i = (a.take i).any fun y => both a[i] y := by simp [zii, List.getElem?_eq_getElem hlt]
  refine zac rfl (fun vs => ∃ m : Nat, m ≤ i ∧ vs = [I m] ∧ zar (fun y => both a[i] y) (a.take m)) (fun vs => match vs with | [.int _ j] => i - j.toNat | _ => 0) ⟨0, by omega, by simp, rfl⟩ ?_
  rintro vs - ⟨m, hm, rfl, hp⟩
  simp
  refine ⟨fun hlm => ?_, fun hgm => ?_⟩
  ·have hml : m < a.length := by omega
   have hwm := zad (i := m) (by omega)
   have hbe : both a[i] a[m] = (decide (a[i].p = a[m].p) && !decide (a[i].pos = a[m].pos)) := rfl
   simp [hlt, hml, Need.cells, hwm]
   repeat refine And.intro (by intros; omega) ?_
   by_cases hb1 : a[i].p = a[m].p
   ·by_cases hb2 : a[i].pos = a[m].pos
    ·have hb : both a[i] a[m] = false := by rw [hbe]; simp [hb2]
     simp [hb1, hb2]
     first | exact ⟨⟨m + 1, by omega, by omega, zao hml hp hb⟩, by omega⟩ | (refine ⟨by omega, ⟨m + 1, by omega, by omega, zao hml hp hb⟩, by omega⟩)
    ·have hb : both a[i] a[m] = true := by rw [hbe]; simp [hb1, hb2]
     have : zfp a = true := zq2 hlt (by rw [hce]; exact zcc (i := m) (by rw [List.length_take]; omega) (by simpa using hb))
     simp [hb1, hb2, this]
   ·have hb : both a[i] a[m] = false := by rw [hbe]; simp [hb1]
    simp [hb1]
    first | exact ⟨⟨m + 1, by omega, by omega, zao hml hp hb⟩, by omega⟩ | (refine ⟨by omega, ⟨m + 1, by omega, by omega, zao hml hp hb⟩, by omega⟩)
  ·have hmi : m = i := by omega
   subst hmi
   have hk : zii a m = false := by rw [hce]; exact hp
   simp [hw]
   refine ⟨⟨m + 1, by omega, by omega, fun j hj => ?_⟩, by omega⟩
   by_cases hjm : j = m
   ·subst hjm; exact hk
   ·exact hq j (by omega)
 ·have : zfp a = false := zoH fun j hj => hq j (by omega)
  simp [this]
theorem zn3 (l : Lay) (ho : l.ovOk) (hf : l.flanks.length ≤ 1000) (p : Path) (hp : p.steps.length ≤ 1000) (hov : (over l p.exit).length ≤ 1000) (hn : (zaB l p).length ≤ 1000000000) : C f_lockbarref13_Fine [l.av, p.av] (.bool (!zfp (zaB l p))) := by
 refine ctr (l.cells ++ p.cells) run_lockbarref13_Fine rfl (by simp [zaf]) rfl ?_ rfl
 unfold rt_lockbarref13_Fine
 simp [Lay.cells, Path.cells]
 refine call (zj9 l ho hf p hp hov) (by simp [Lay.cells, Path.cells]) (by simp) ?_
 refine call (zmD (zaB l p) hn) (by simp) (fun _ => rfl) ?_
 simp
end Go.Lb.LK
namespace Go.Lb.LK
open Go Go.Lb Go.Proofs Go.RowKit
def newR (l : Lay) (k : Kern) (p : Path) : Hd := ⟨k.next, p, over l p.exit, zaB l p, 1, 0, fun _ => false, false, 0, false⟩
def zg7 (l : Lay) (im : Img) (k : Kern) (p : Path) : Int :=
 if ¬ zgW l p = 0 then zgW l p
 else if zfp (zaB l p) = true then 110
 else if zas k = false ∨ 1073741824 ≤ k.next then 2
 else canN l im k p
def zbD (l : Lay) (im : Img) (k : Kern) (x : Need) : Kern := k.put x.p.toNat (if atP l im x.p = x.pos then zdl else zbS (k.mach x.p.toNat) x.pos)
def zcP (l : Lay) (im : Img) (k : Kern) (p : Path) : Kern × Int × Int :=
 if zg7 l im k p = 0 then ((zaB l p).foldl (zbD l im) { k with held := k.held ++ [newR l k p], next := k.next + 1 }, k.next, 0)
 else (k, 0, zg7 l im k p)
def zbA : Kern := ⟨1, [], fun i => if i < 24 then -1 else 0, fun _ => 0, fun _ => false⟩
end Go.Lb.LK
namespace Go.Lb.LK
open Go Go.Lb Go.Proofs Go.RowKit
theorem zjJ : C f_lockbarref19_New [] zbA.av := by
 refine ctr [] run_lockbarref19_New rfl rfl (by simp [AV.pure]) ?_ rfl
 unfold rt_lockbarref19_New
 refine zac rfl (fun vs => ∃ i : Nat, i ≤ 24 ∧ vs = I i :: zau (fun j => if j < i then -1 else 0) (fun _ => 0) (fun _ => false)) (fun vs => match vs with | .int _ j :: _ => 24 - j.toNat | _ => 0) ⟨0, by omega, rfl⟩ ?_
 rintro vs - ⟨i, hi, rfl⟩
 by_cases hlt : i < 24
 ·have hw := zad (i := i) (by omega)
  have hpi : (i : Int) < 24 := by omega
  simp [hpi]
  refine call zdL rfl (by simp) ?_
  simp [hpi]
  refine zdy (.inr rfl) i zdl (fun j => if j < i then -1 else 0) (fun _ => 0) (fun _ => false) (by omega) rfl rfl (by simp) (by simp [Mach.cells, zdl]) (by simp [zaa]) ?_
  simp [zaa, hw]
  refine ⟨⟨i + 1, by omega, by omega, ?_⟩, by omega⟩
  congr 1
  ·funext j
   by_cases h : j = i
   ·subst h; simp [upd, zdl]
   ·by_cases h2 : j < i
    ·simp [upd, h, h2, show j < i + 1 by omega]
    ·simp [upd, h, h2, show ¬ j < i + 1 by omega]
  ·funext j; simp [upd, zdl]
  ·funext j; simp [upd, zdl]
 ·have : i = 24 := by omega
  subst this
  simp [zaa]
  rfl
def noHd : Hd := ⟨0, ⟨0, 0, []⟩, [], [], 0, 0, fun _ => false, false, 0, false⟩
def ztm (hs : List Hd) (n : Int) : Hd × Bool := match ztn hs n with
 | some h => (h, true)
 | none => (noHd, false)
theorem ztq (k : Kern) (hk : k.len) (n : Int) : C f_lockbarref19_Find [k.av, I n] (.tup [(ztm k.held n).1.av, .bool (ztm k.held n).2]) := by
 have h1 := hk.1
 refine ctr (k.cells ++ [I n]) run_lockbarref19_Find rfl (by simp [zaf, AV.pureAll, AV.pure]) (by simp [AV.pure, AV.pureAll]) ?_ rfl
 unfold rt_lockbarref19_Find
 simp [zam, zaa]
 refine zac rfl (fun vs => ∃ i : Nat, i ≤ k.held.length ∧ vs = [I i] ∧ zar (fun x : Hd => decide (x.id = n)) (k.held.take i)) (fun vs => match vs with | [.int _ j] => k.held.length - j.toNat | _ => 0) ⟨0, by omega, by simp, rfl⟩ ?_
 rintro vs - ⟨i, hi2, rfl, hq⟩
 by_cases hlt : i < k.held.length
 ·have hw := zad (i := i) (by omega)
  have h0 : ∀ h : Hd, h.cells[0]? = some (I h.id) := fun _ => rfl
  by_cases hid : k.held[i].id = n
  ·have e : ztm k.held n = (k.held[i], true) := by
    unfold ztm ztn
    rw [zdn hlt hq (by simpa using hid)]
   rw [e]
   simp [hlt, h0, hid]
   refine call (zeT k.held[i] (k.at hk hlt)) (by simp [hlt]) (by simp) ?_
   simp [zae]
  ·simp [hlt, h0, hid, hw]
   exact ⟨⟨i + 1, by omega, by omega, zao hlt hq (by simpa using hid)⟩, by omega⟩
 ·have ht : k.held.take i = k.held := List.take_of_length_le (by omega)
  rw [ht] at hq
  have e : ztm k.held n = (noHd, false) := by
   unfold ztm ztn
   rw [zfF hq]
  rw [e]
  simp [hlt]
  rfl
theorem zoA (l : Lay) (im : Img) (hi : im.ok) (k : Kern) (hko : k.ok) (p : Path) (hc : CanOk l k p) (hl : l.lens) : C f_lockbarref19_Look [l.av, im.av, k.av, p.av] (I (zg7 l im k p)) := by
 refine ctr (l.cells ++ im.cells ++ k.cells ++ p.cells) run_lockbarref19_Look rfl (likp l im k p) rfl ?_ rfl
 unfold rt_lockbarref19_Look
 simp [zam, Path.cells, zaa]
 refine call (zmS l hl p) (by simp [zaa, Path.cells]) (by simp) ?_
 simp
 refine ⟨fun h0 => by simp [zg7, h0], fun h0 => ?_⟩
 have hnl := zgx hc
 refine call (zn3 l hc.ov hc.fl p hc.pl hc.ol (by omega)) (by simp [zaa, Path.cells]) (by simp) ?_
 cases h2 : zfp (zaB l p)
 ·simp
  refine call (zcv k hc.kl hko) (by simp [zaa, zam]) (by simp) ?_
  cases h3 : zas k
  ·simp [zg7, h0, h2, h3]
  ·simp
   refine ⟨fun h4 => by simp [zg7, h0, h2, h4], fun h4 => ?_⟩
   refine call (zqC l im hi k p hc) (by simp [zaa, zam, Path.cells]) (by simp) ?_
   have : ¬ 1073741824 ≤ k.next := by omega
   simp [zg7, h0, h2, h3, this]
 ·simp [zg7, h0, h2]
theorem zoQ {l : Lay} {im : Img} {k : Kern} {p : Path} (h : zg7 l im k p = 0) : zgW l p = 0 ∧ zfp (zaB l p) = false ∧ zas k = true ∧ k.next < 1073741824 ∧ canN l im k p = 0 := by
 unfold zg7 at h
 split at h
 ·rename_i h1; exact absurd h h1
 ·rename_i h1
  split at h
  ·cases h
  ·rename_i h2
   split at h
   ·cases h
   ·rename_i h3
    simp only [not_or, Bool.not_eq_false] at h3
    exact ⟨by omega, by simpa using h2, h3.1, by omega, h⟩
theorem zrF {l : Lay} {im : Img} {k : Kern} {p : Path} (h : canN l im k p = 0) : ∀ n ∈ zaB l p, zcT l im k n = true := by
 intro n hn
 cases hm : zcT l im k n
 ·rw [znx hn hm] at h; cases h
 ·rfl
theorem zpf {l : Lay} {im : Img} {k : Kern} {n : Need} (h : zcT l im k n = true) : 0 ≤ n.p ∧ n.p < 24 := by
 unfold zcT at h
 rw [Bool.and_eq_true, decide_eq_true_eq] at h
 exact h.1
theorem zcM {l : Lay} {im : Img} : ∀ (xs : List Need) (k : Kern), (xs.foldl (zbD l im) k).held = k.held ∧ (xs.foldl (zbD l im) k).next = k.next
 | [], _ => ⟨rfl, rfl⟩
 | x :: xs, k => by
  have := zcM (l := l) (im := im) xs (zbD l im k x)
  exact this
theorem zlQ (l : Lay) (im : Img) (hi : im.ok) (k : Kern) (hko : k.ok) (p : Path) (hc : CanOk l k p) (hl : l.lens) : C f_lockbarref19_Commit [l.av, im.av, k.av, p.av] (.tup [(zcP l im k p).1.av, I (zcP l im k p).2.1, I (zcP l im k p).2.2]) := by
 have hk := hc.kl
 have h1 := hk.1
 refine ctr (l.cells ++ im.cells ++ k.cells ++ p.cells) run_lockbarref19_Commit rfl (likp l im k p) (by simp [AV.pure, AV.pureAll]) ?_ rfl
 unfold rt_lockbarref19_Commit
 simp [zam, Path.cells, zaa]
 refine zac rfl (fun vs => ∃ i : Nat, i ≤ k.held.length ∧ vs = [I i, zig (k.held.take i)]) (fun vs => match vs with | [.int _ j, _] => k.held.length - j.toNat | _ => 0) ⟨0, by omega, by simp⟩ ?_
 rintro vs - ⟨i, hi2, rfl⟩
 by_cases hlt : i < k.held.length
 ·have hw := zad (i := i) (by omega)
  have hmt := map_take Hd.av k.held hlt
  simp [hlt, zaa]
  refine call (zeT k.held[i] (k.at hk hlt)) (by simp [hlt]) (by simp) ?_
  simp [hw, zae]
  exact ⟨by omega, ⟨i + 1, by omega, by omega, by simpa using hmt.symm⟩, by omega⟩
 have ht : k.held.take i = k.held := List.take_of_length_le (by omega)
 rw [ht]
 simp [hlt, zaa]
 refine call (zoA l im hi k hko p hc hl) (by simp [zaa, zam, Path.cells]) (fun _ => rfl) ?_
 by_cases h0 : zg7 l im k p = 0
 ·have e : zcP l im k p = ((zaB l p).foldl (zbD l im) { k with held := k.held ++ [newR l k p], next := k.next + 1 }, k.next, 0) := by simp [zcP, h0]
  rw [e]
  simp [h0]
  refine call (znz p (by have := hc.pl; omega)) (by simp [Path.cells]) (by simp) ?_
  simp
  refine call (zgb l hc.ov p.exit) (by simp [zaa]) (by simp) ?_
  simp
  refine call (zj9 l hc.ov hc.fl p hc.pl hc.ol) (by simp [zaa, Path.cells]) (by simp) ?_
  simp [Path.cells, zaa]
  refine ⟨by omega, ?_⟩
  obtain ⟨z1, z2, z3, z4, z5⟩ := zoQ h0
  have hnx : IntKind.i64.wrap (k.next + 1) = k.next + 1 := by
   have := (zmp z3).2.1
   rw [zaI] <;> omega
  have hnl := zgx hc
  have hrg := fun n hn => zpf (zrF z5 n hn)
  obtain ⟨K0, hK0⟩ : ∃ K0 : Kern, K0 = { k with held := k.held ++ [newR l k p], next := k.next + 1 } := ⟨_, rfl⟩
  have e0 : zau k.want k.run k.fail = zau K0.want K0.run K0.fail := by rw [hK0]
  rw [← hK0]
  refine zac (by simp) (fun vs => ∃ i : Nat, i ≤ (zaB l p).length ∧ vs = I i :: zau (((zaB l p).take i).foldl (zbD l im) K0).want (((zaB l p).take i).foldl (zbD l im) K0).run (((zaB l p).take i).foldl (zbD l im) K0).fail) (fun vs => match vs with | .int _ j :: _ => (zaB l p).length - j.toNat | _ => 0) ⟨0, by omega, by simp [zaa, e0]⟩ ?_
  rintro vs - ⟨q, hq, rfl⟩
  by_cases hlt3 : q < (zaB l p).length
  ·have hw := zad (i := q) (by omega)
   obtain ⟨b1, b2⟩ := hrg _ (List.getElem_mem hlt3)
   have hfs : ((zaB l p).take (q + 1)).foldl (zbD l im) K0 = zbD l im (((zaB l p).take q).foldl (zbD l im) K0) (zaB l p)[q] := by
    rw [List.take_add_one, List.getElem?_eq_getElem hlt3, List.foldl_append]; rfl
   generalize hT : ((zaB l p).take q).foldl (zbD l im) K0 = T at hfs
   simp [hlt3, Need.cells, zaa]
   refine call (zfi l im hi (zaB l p)[q].p) (by simp [hlt3, Need.cells, zaa]) (by simp) ?_
   by_cases ha : atP l im (zaB l p)[q].p = (zaB l p)[q].pos
   ·simp [hlt3, Need.cells, ha, zaa]
    refine call zdL rfl (by simp) ?_
    simp [hlt3, Need.cells, b1, b2]
    refine zdy (.inr rfl) (zaB l p)[q].p zdl T.want T.run T.fail b1 (by simp) rfl (by simp [hlt3, Need.cells]) (by simp [Mach.cells, zdl]) (by simp [zaa]) ?_
    simp [zaa, hw]
    exact ⟨⟨q + 1, by omega, by omega, by rw [hfs]; simp [zbD, ha, Kern.put]⟩, by omega⟩
   ·simp [hlt3, Need.cells, ha, b1, b2, zaa]
    refine ⟨by omega, ?_⟩
    refine call (zfP (T.mach (zaB l p)[q].p.toNat) (zaB l p)[q].pos) (by simp [hlt3, Need.cells, zaa, zaN, b1, b2, -zab, Kern.mach]) (by simp) ?_
    simp [hlt3, Need.cells, b1, b2]
    refine zdy (.inr rfl) (zaB l p)[q].p (zbS (T.mach (zaB l p)[q].p.toNat) (zaB l p)[q].pos) T.want T.run T.fail b1 (by simp) rfl (by simp [hlt3, Need.cells]) (by simp [Mach.cells]) (by simp [zaa]) ?_
    simp [zaa, hw]
    exact ⟨⟨q + 1, by omega, by omega, by rw [hfs]; simp [zbD, ha, Kern.put]⟩, by omega⟩
  have : q = (zaB l p).length := by omega
  subst this
  have hfh := zcM (l := l) (im := im) (zaB l p) K0
  have f1 : K0.held = k.held ++ [newR l k p] := by rw [hK0]
  have f2 : K0.next = k.next + 1 := by rw [hK0]
  simp [zaa, hnx]
  rw [zam, hfh.1, hfh.2, f1, f2]
  show _ :: AV.sl _ :: _ = _ :: AV.sl ((k.held ++ [newR l k p]).map Hd.av) :: _
  rw [List.map_append]; rfl
 ·have e : zcP l im k p = (k, 0, zg7 l im k p) := by simp [zcP, h0]
  rw [e]
  simp [h0, zaa, zam]
end Go.Lb.LK
namespace Go.Lb.LK
open Go Go.Lb Go.Proofs Go.RowKit
theorem ze1 {α β : Type} (f : α → Option β) (l : List α) {i : Nat} (h : i < l.length) : (l.take (i + 1)).filterMap f = (l.take i).filterMap f ++ (f l[i]).toList := by
 rw [List.take_add_one, List.getElem?_eq_getElem h, List.filterMap_append]
 cases h2 : f l[i] <;> simp [h2]
theorem znV {l : Lay} {im : Img} {h : Hd} (hl : h.len) : (zc7 l im h).1.len := by
 unfold zc7
 split
 ·split
  ·exact zpk (h := { h with stage := 3, timer := 0 }) hl
  ·split <;> exact hl
 ·exact hl
theorem zoW {l : Lay} {im : Img} {h : Hd} (hl : h.len) : (zgm l im h).1.len := by
 unfold zgm
 split
 ·exact znV hl
 ·exact znY hl
theorem zkr {l : Lay} {im : Img} {k K : Kern} (hk : k.len) : ∀ h ∈ k.held.filterMap (zbi l im K), h.len := by
 intro h hh
 obtain ⟨o, ho, he⟩ := List.mem_filterMap.1 hh
 obtain ⟨rfl, _⟩ := ziO he
 exact zoW (hk.2 o ho)
theorem zgh (l : Lay) (im : Img) (k : Kern) (p : Nat) : zbq l im k (p + 1) = if isPt l p = true then (zbq l im k p).put p (zel (k.mach p) (atP l im p) (zag l im p) (zaA k p) l.drive) else zbq l im k p := rfl
theorem zjg (l : Lay) (im : Img) (k : Kern) (p : Nat) : (zbq l im k p).mach p = k.mach p := by
 rw [ziV, if_neg (by omega)]
theorem zoI {l : Lay} {im : Img} {K : Kern} {h : Hd} (hf : za0 l im K h = true) : zbi l im K h = none := by simp [zbi, hf]
theorem zo7 {l : Lay} {im : Img} {K : Kern} {h : Hd} (hf : za0 l im K h = false) (h4 : h.stage = 4) : zbi l im K h = if ((zc7 l im h).2 || zfB (zc7 l im h).1) = true then none else some (zc7 l im h).1 := by simp [zbi, hf, zgm, h4]
theorem zqd {l : Lay} {im : Img} {K : Kern} {h : Hd} (hf : za0 l im K h = false) (h4 : ¬ h.stage = 4) : zbi l im K h = if zfB (zbW l im h) = true then none else some (zbW l im h) := by simp [zbi, hf, zgm, h4]
end Go.Lb.LK
namespace Go.Lb.LK
open Go Go.Lb Go.Proofs Go.RowKit
theorem zkx (l : Lay) (im : Img) (k : Kern) {N : Nat} (hN : N = min l.secs.length 24) : ∀ n, N ≤ n → n ≤ 24 → zbq l im k n = zbq l im k N
 | 0, h, _ => by rw [show N = 0 by omega]
 | n + 1, h, h2 => by
  by_cases he : N = n + 1
  ·rw [he]
  ·rw [zgh, if_neg, zkx l im k hN n (by omega) (by omega)]
   intro hc
   have := zmP hc
   omega
theorem zsV (w r : Nat → Int) (f : Nat → Bool) (w' r' : Nat → Int) (f' : Nat → Bool) (h : AV.eqs (zau w r f) (zau w' r' f') = true) : zau w r f = zau w' r' f' := by
 simp [zau] at h
 simp [zau, h]
theorem zhv (k : Kern) : k.cells[0]? = some (I k.next) := rfl
theorem zaR (k : Kern) : k.cells[1]? = some (zig k.held) := rfl
theorem zr4 (h : Hd) : h.cells[0]? = some (I h.id) := rfl
theorem zge (h : Hd) : h.cells[6]? = some (U h.stage) := rfl
theorem zhG {h : Hd} (hr : zay h = true) : h.stage = 1 ∨ h.stage = 2 ∨ h.stage = 3 ∨ h.stage = 4 := by
 obtain ⟨_, ⟨d1, d2, _⟩, _⟩ := zaM hr
 omega
set_option maxHeartbeats 2000000 in
theorem zcl (l : Lay) (im : Img) (hi : im.ok) (k : Kern) (hk : k.len) (hko : k.ok) : C f_kernel_Tick [l.av, im.av, k.av] (.tup [(zc1 l im k).1.av, ints (zc1 l im k).2]) := by
 have h1 := hk.1
 refine ctr (l.cells ++ im.cells ++ k.cells) run_kernel_Tick rfl (lik3 l im k) (by simp [AV.pure, AV.pureAll, zdN]) ?_ rfl
 unfold rt_kernel_Tick
 simp [zam, zaa]
 refine call (zgu k hk) (by simp [zaa, zam]) (by simp) ?_
 simp
 refine call (zdm k hk hko) (by simp [zaa, zam]) (by simp) ?_
 simp
 refine zak (avs := [l.av, im.av]) (.bool (stale l im)) rfl (fun _ => ⟨by simp [zaa], zbe l im⟩) (by simp) ?_
 cases hr : zas k
 ·rw [zb6 (.inl hr)]
  simp [zae]
 cases hst : stale l im
 case true =>
  rw [zb6 (.inr hst)]
  simp [zae]
 rw [zdO hr hst]
 simp [zaa, zae]
 refine ⟨fun a _ => ⟨rfl, rfl⟩, by omega, ?_⟩
 obtain ⟨N, hN⟩ : ∃ N, N = min l.secs.length 24 := ⟨_, rfl⟩
 have hmin : min (l.secs.length : Int) 24 = (N : Int) := by omega
 have hNl : min N l.secs.length = N := by omega
 refine zac rfl (fun vs => ∃ p : Nat, p ≤ N ∧ vs = I p :: zau (zbq l im k p).want (zbq l im k p).run (zbq l im k p).fail) (fun vs => match vs with | .int _ j :: _ => 24 - j.toNat | _ => 0) ⟨0, by omega, by simp [zbq, zae]⟩ ?_
 rintro vs - ⟨p, hp, rfl⟩
 by_cases hlt : p < N
 ·have hw := zad (i := p) (by omega)
  have hl1 : p < l.secs.length := by omega
  have hl2 : p < 24 := by omega
  have hpi : (p : Int) < 24 := by omega
  have hT : ((l.secs.map Sec.av).take N)[p]? = some l.secs[p].av := by rw [List.getElem?_take, if_pos hlt]; simp [hl1]
  have hpt : isPt l p = decide (l.secs[p].kind = 2) := by simp [isPt, hl1]
  obtain ⟨w, r, f, hP⟩ : ∃ w r f, zbq l im k p = { k with want := w, run := r, fail := f } := by
   obtain ⟨a, b⟩ := zby l im k p
   exact ⟨(zbq l im k p).want, (zbq l im k p).run, (zbq l im k p).fail, by rw [← a, ← b]⟩
  have hm : (⟨w p, r p, f p⟩ : Mach) = k.mach p := by
   have := zjg l im k p
   rw [hP] at this; exact this
  have hs := zgh l im k p
  rw [hP] at hs ⊢
  simp [hmin, hNl, hT, hlt, Sec.cells]
  refine zak (avs := [l.av, im.av, I p]) (I (atP l im p)) rfl (fun _ => ⟨by simp [zaa], zc5 l im hi p⟩) (by simp) ?_
  simp
  refine zak (avs := [l.av, im.av, I p]) (.bool (zag l im p)) rfl (fun _ => ⟨by simp [zaa], zaq l im hi p⟩) (by simp) ?_
  simp
  refine zak (avs := [k.av, I p]) (.bool (zaA k p)) rfl (fun _ => ⟨by simp [zaa, zam], zd3 k hk p⟩) (by simp) ?_
  rw [hpt] at hs
  by_cases h2 : l.secs[p].kind = 2
  ·simp [h2, hpi, zaa, -zab]
   refine ⟨by omega, ?_⟩
   refine call (zlf (k.mach p) (atP l im p) (zag l im p) (zaA k p) l.drive) (by simp [zaa, zoy, hpi, hm, -zab]) (by simp) ?_
   simp [hpi]
   refine zdy (.inl rfl) p (zel (k.mach p) (atP l im p) (zag l im p) (zaA k p) l.drive) w r f (by omega) rfl rfl (by simp) (by simp [Mach.cells]) (by simp [zaa]) ?_
   simp [zaa, hw]
   exact ⟨⟨p + 1, by omega, by omega, by rw [hs]; simp [h2, Kern.put]⟩, by omega⟩
  ·simp [h2, hw, zaa]
   exact ⟨⟨p + 1, by omega, by omega, by rw [hs]; simp [h2]⟩, by omega⟩
 have : p = N := by omega
 subst this
 have hPU : zbq l im k p = zbX l im k := (zkx l im k hN 24 (by omega) (by omega)).symm
 have hKh : (zbX l im k).held = k.held := (zby l im k 24).1
 have hKn : (zbX l im k).next = k.next := (zby l im k 24).2
 have hW : zlR l im k = (zbr l im (k.held.filterMap (zbi l im (zbX l im k)))).foldl za8 { zbX l im k with held := k.held.filterMap (zbi l im (zbX l im k)) } := rfl
 rw [hPU, hW]
 generalize zbX l im k = K at hKh hKn ⊢
 have hKl : K.len := by unfold Kern.len; rw [hKh]; exact hk
 simp [hmin, hNl, zaa, zae]
 refine ⟨⟨?_, ?_⟩, ?_⟩
 ·simp [zau]
 ·simp [zau]
 have hKc : K.cells = I k.next :: zig k.held :: zau K.want K.run K.fail := by rw [zam, hKh, hKn]
 have hEqs := zsV K.want K.run K.fail k.want k.run k.fail
 cases hb : AV.eqs (zau K.want K.run K.fail) (zau k.want k.run k.fail)
 all_goals
  first
   | refine Or.inr ⟨rfl, ?_⟩
   | (refine Or.inl ⟨rfl, ?_⟩; rw [show k.av = K.av by show AV.agg k.cells = AV.agg K.cells; rw [zam, zam, hKh, hKn, hEqs hb]])
  try simp [zaa, zae, zhv, zaR]
  refine call (zgu k hk) (by simp [zaa, zam]) (by simp) ?_
  simp [zaR]
  refine zac rfl (fun vs => ∃ i : Nat, i ≤ k.held.length ∧ vs = [ints (((k.held.take i).filter (za0 l im K)).map (·.id)), I i, zig ((k.held.take i).filterMap (zbi l im K))]) (fun vs => match vs with | [_, .int _ j, _] => k.held.length - j.toNat | _ => 0) ⟨0, by omega, by simp⟩ ?_
  rintro vs - ⟨m, hm2, rfl⟩
  by_cases hlt2 : m < k.held.length
  ·have hw := zad (i := m) (by omega)
   have hR := (zdG hr hlt2).1
   have hst2 := hko _ (List.getElem_mem hlt2)
   have hlen := k.at hk hlt2
   have hf1 := zbN (za0 l im K) k.held hlt2
   have hf2 := ze1 (zbi l im K) k.held hlt2
   have hfl := zcj (za0 l im K) k.held m
   have hfl2 : ((k.held.take m).filterMap (zbi l im K)).length ≤ k.held.length := Nat.le_trans (List.length_filterMap_le _ _) (by simp; omega)
   have hgo : ∀ (a b : List AV), a = ((k.held.take (m + 1)).filter (za0 l im K)).map (I ∘ fun x => x.id) → b = ((k.held.take (m + 1)).filterMap (zbi l im K)).map Hd.av → ∃ i, i ≤ k.held.length ∧ a = ((k.held.take i).filter (za0 l im K)).map (I ∘ fun x => x.id) ∧ (m : Int) + 1 = (i : Int) ∧ b = ((k.held.take i).filterMap (zbi l im K)).map Hd.av := fun a b ha hb => ⟨m + 1, by omega, ha, by omega, hb⟩
   rw [hf1, hf2] at hgo
   simp [zaR, hlt2, zae, zge]
   have hS : ¬ k.held[m].stage = 4 → za0 l im K k.held[m] = false → ∃ i, i ≤ k.held.length ∧ ((k.held.take m).filter (za0 l im K)).map (I ∘ fun x => x.id) = ((k.held.take i).filter (za0 l im K)).map (I ∘ fun x => x.id) ∧ (m : Int) + 1 = (i : Int) ∧ (if zfB (zbW l im k.held[m]) = true then ((k.held.take m).filterMap (zbi l im K)).map Hd.av else ((k.held.take m).filterMap (zbi l im K)).map Hd.av ++ [(zbW l im k.held[m]).av]) = ((k.held.take i).filterMap (zbi l im K)).map Hd.av := by
    intro h4 hf
    rw [hf, zqd hf h4] at hgo
    refine hgo _ _ (by simp) ?_
    cases g : zfB (zbW l im k.held[m]) <;> simp
   have hP := fun (h4 : ¬ k.held[m].stage = 4) => zmX l im hi k.held[m] hlen hst2
   rcases zhG hR with hs | hs | hs | hs
   ·simp [hs, zaR, hlt2]
    refine call (ziy l im hi K k.held[m] hlen hR) (by simp [zaa, zae, hKc, hKh, hKn, zhv, zaR, hlt2]) (by simp) ?_
    have hfe : za0 l im K k.held[m] = (zkZ l im k.held[m]).any fun x => K.fail x.p.toNat := by simp [za0, hs]
    rw [← hfe]
    cases hf : za0 l im K k.held[m]
    ·have hS := hS (by omega) hf
     simp
     refine call (hP (by omega)) (by simp [zaa, zae, zaR, hlt2]) (by simp) ?_
     simp
     refine call (zdY (zbW l im k.held[m])) (by simp [zae]) (by simp) ?_
     cases g : zfB (zbW l im k.held[m]) <;> rw [g] at hS <;> simp [hw, zae] at hS ⊢
     ·exact ⟨by omega, hS, by omega⟩
     ·exact ⟨hS, by omega⟩
    ·rw [hf, zoI hf] at hgo
     simp [zaR, hlt2, hw, zr4]
     exact ⟨by omega, hgo _ _ (by simp) (by simp), by omega⟩
   ·have hS := hS (by omega) (by simp [za0, hs])
    simp [hs, zaR, hlt2]
    refine call (hP (by omega)) (by simp [zaa, zae, zaR, hlt2]) (by simp) ?_
    simp
    refine call (zdY (zbW l im k.held[m])) (by simp [zae]) (by simp) ?_
    cases g : zfB (zbW l im k.held[m]) <;> rw [g] at hS <;> simp [hw, zae] at hS ⊢
    ·exact ⟨by omega, hS, by omega⟩
    ·exact ⟨hS, by omega⟩
   ·have hS := hS (by omega) (by simp [za0, hs])
    simp [hs, zaR, hlt2]
    refine call (hP (by omega)) (by simp [zaa, zae, zaR, hlt2]) (by simp) ?_
    simp
    refine call (zdY (zbW l im k.held[m])) (by simp [zae]) (by simp) ?_
    cases g : zfB (zbW l im k.held[m]) <;> rw [g] at hS <;> simp [hw, zae] at hS ⊢
    ·exact ⟨by omega, hS, by omega⟩
    ·exact ⟨hS, by omega⟩
   ·have hf : za0 l im K k.held[m] = false := by simp [za0, hs]
    rw [hf, zo7 hf hs] at hgo
    simp [hs, zaR, hlt2]
    refine call (zlT l im hi k.held[m] hlen) (by simp [zaa, zae, zaR, hlt2]) (by simp) ?_
    simp [zae]
    refine zak (avs := [(zc7 l im k.held[m]).1.av]) (.bool (zfB (zc7 l im k.held[m]).1)) rfl (fun _ => ⟨by simp [zae], zdY _⟩) (by simp) ?_
    simp [hw, zae]
    refine ⟨fun g1 => ⟨hgo _ _ (by simp) ?_, by omega⟩, fun g1 g2 => ⟨by omega, hgo _ _ (by simp) (by simp [g1, g2]), by omega⟩⟩
    rcases g1 with g1 | g1 <;> simp [g1]
  have : m = k.held.length := by omega
  subst this
  simp [zaR]
  have hg : GoodL k.next (k.held.filterMap (zbi l im K)) := zhK (zga hr)
  have hXl : ∀ h ∈ k.held.filterMap (zbi l im K), h.len := zkr hk
  have hXn : (k.held.filterMap (zbi l im K)).length ≤ 1048576 := Nat.le_trans (List.length_filterMap_le _ _) h1
  generalize k.held.filterMap (zbi l im K) = X at hg hXl hXn ⊢
  obtain ⟨K0, hK0⟩ : ∃ K0 : Kern, K0 = { K with held := X } := ⟨_, rfl⟩
  have e0 : zau K.want K.run K.fail = zau K0.want K0.run K0.fail := by rw [hK0]
  rw [← hK0]
  refine zac (by simp) (fun vs => ∃ i : Nat, i ≤ X.length ∧ vs = I i :: zau ((zbr l im (X.take i)).foldl za8 K0).want ((zbr l im (X.take i)).foldl za8 K0).run ((zbr l im (X.take i)).foldl za8 K0).fail) (fun vs => match vs with | .int _ j :: _ => X.length - j.toNat | _ => 0) ⟨0, by omega, by simp [zbr, zaa, zae, e0]⟩ ?_
  rintro vs - ⟨q, hq, rfl⟩
  by_cases hlt3 : q < X.length
  ·have hw := zad (i := q) (by omega)
   have hR := hg.right _ (List.getElem_mem hlt3)
   have hlen := hXl _ (List.getElem_mem hlt3)
   have hnn := zbb X[q]
   have hl3 := hlen.2.2
   have hct : zbr l im (X.take (q + 1)) = zbr l im (X.take q) ++ (if X[q].stage = 1 then zkZ l im X[q] else []) := by
    unfold zbr
    exact zds _ X hlt3
   generalize hS : (zbr l im (X.take q)).foldl za8 K0 = S
   by_cases h11 : X[q].stage = 1
   ·rw [if_pos h11] at hct
    simp [hlt3, zae, zge, h11]
    refine call (zb8 X[q] hlen) (by simp [zae, hlt3]) (by simp) ?_
    simp
    refine call (zfO l im (zai X[q])) (by simp [zaa]) (by simp) ?_
    simp [zaa]
    refine zac (by simp) (fun vs => ∃ j : Nat, j ≤ (zai X[q]).length ∧ vs = I j :: zau ((((zai X[q]).take j).filter fun x => !decide (atP l im x.p = x.pos)).foldl za8 S).want ((((zai X[q]).take j).filter fun x => !decide (atP l im x.p = x.pos)).foldl za8 S).run ((((zai X[q]).take j).filter fun x => !decide (atP l im x.p = x.pos)).foldl za8 S).fail) (fun vs => match vs with | .int _ j :: _ => (zai X[q]).length - j.toNat | _ => 0) ⟨0, by omega, by simp [zaa]⟩ ?_
    rintro vs - ⟨j, hj, rfl⟩
    have hft := fun hlt : j < (zai X[q]).length => zbN (fun x : Need => !decide (atP l im x.p = x.pos)) (zai X[q]) hlt
    generalize hT : (((zai X[q]).take j).filter fun x => !decide (atP l im x.p = x.pos)).foldl za8 S = T
    by_cases hlt4 : j < (zai X[q]).length
    ·have hw4 := zad (i := j) (by omega)
     obtain ⟨b1, b2, b3⟩ := zhm hR (List.getElem_mem hlt4)
     have hft := hft hlt4
     simp [hlt4, Need.cells, zaa]
     refine call (zc5 l im hi (zai X[q])[j].p) (by simp [hlt4, Need.cells, zaa]) (by simp) ?_
     by_cases ha : atP l im (zai X[q])[j].p = (zai X[q])[j].pos
     ·simp [hlt4, Need.cells, ha, hw4, zaa]
      exact ⟨⟨j + 1, by omega, by omega, by rw [hft]; simp [ha, hT]⟩, by omega⟩
     ·simp [hlt4, Need.cells, ha, b1, b2, zaa]
      refine ⟨by omega, ?_⟩
      refine call (zgY (T.mach (zai X[q])[j].p.toNat) (zai X[q])[j].pos) (by simp [hlt4, Need.cells, zaa, zaN, b1, b2, -zab, Kern.mach]) (by simp) ?_
      simp [hlt4, Need.cells, b1, b2]
      refine zdy (.inr rfl) (zai X[q])[j].p (zbS (T.mach (zai X[q])[j].p.toNat) (zai X[q])[j].pos) T.want T.run T.fail b1 (by simp) rfl (by simp [hlt4, Need.cells]) (by simp [Mach.cells]) (by simp [zaa]) ?_
      simp [zaa, hw4]
      exact ⟨⟨j + 1, by omega, by omega, by rw [hft]; simp [ha, List.foldl_append, hT, za8, Kern.put]⟩, by omega⟩
    ·have hTS : (zbr l im (X.take (q + 1))).foldl za8 K0 = T := by
      rw [hct, List.foldl_append, hS, ← hT, List.take_of_length_le (by omega)]; rfl
     simp [hlt4, hw, zaa]
     exact ⟨⟨q + 1, by omega, by omega, by rw [hTS]⟩, by omega⟩
   ·rw [if_neg h11] at hct
    have hTS : (zbr l im (X.take (q + 1))).foldl za8 K0 = S := by
     rw [hct, List.foldl_append, hS]; rfl
    simp [hlt3, zae, zge, h11, hw, zaa]
    exact ⟨⟨q + 1, by omega, by omega, by rw [hTS]⟩, by omega⟩
  have : q = X.length := by omega
  subst this
  have hfh := zcy (zbr l im X) K0
  have f1 : K0.held = X := by rw [hK0]
  have f2 : K0.next = k.next := by rw [hK0]; exact hKn
  simp [zaa, zae, zhv, hKn]
  rw [zam, hfh.1, hfh.2, f1, f2]
end Go.Lb.LK
namespace Go.Lb.LK
open Go Go.Lb Go.Proofs Go.RowKit
@[simp] theorem prts_lay (l : Lay) : prts l.av 0 11 = l.cells := by rw [zfZ _ _ _ (by simp)]; simp
@[simp] theorem prts_img (l : Img) : prts l.av 0 29 = l.cells := by rw [zfZ _ _ _ (by simp)]; simp
theorem zj5 {x : AV} (h : iT.fits x.cells) (h2 : zgg false x) : ∃ n, x = I n ∧ -9223372036854775808 ≤ n ∧ n ≤ 9223372036854775807 := by
 obtain ⟨n, h1, hb⟩ := zhs.1 h
 have : x = I n := by
  cases x <;> simp_all [AV.cells, zgg]
 exact ⟨n, this, by simpa using hb⟩
theorem zbL {k : Kern} (h : zas k = true) : k.ok := by
 intro x hx
 have := zhG ((zga h).right x hx)
 omega
theorem zhO {l : Lay} {im : Img} {k : Kern} (hk : k.len) : (zc1 l im k).1.len := by
 by_cases h : zas k = true ∧ stale l im = false
 ·rw [zdO h.1 h.2]
  unfold Kern.len
  rw [(zje l im k).1]
  exact ⟨Nat.le_trans (List.length_filterMap_le _ _) hk.1, zkr hk⟩
 ·rw [zb6]
  ·exact hk
  ·cases h1 : zas k
   ·exact .inl rfl
   ·right
    cases h2 : stale l im
    ·exact absurd ⟨h1, h2⟩ h
    ·rfl
theorem znB {l : Lay} {im : Img} {k : Kern} {p pos : Int} (hk : k.len) : (keyK l im k p pos).1.len := by
 unfold keyK
 split
 ·exact hk
 ·exact hk
def zaS : Lay := ⟨[⟨2, noP, noP, noP, noP, 0, 0⟩], [⟨0, 0⟩], [⟨⟨0, 2⟩, []⟩], [], 1, 2, 1, 1, 1, 1, 1⟩
def im23 : Img := zmd zaS zk7 0 1 0 0
def p23 : Path := ⟨0, 0, [⟨0, 0, 2⟩]⟩
def k23 : Kern := (zcP zaS im23 zbA p23).1
def zgq : Kern := (zc1 zaS im23 k23).1
def zs0 : Kern := (zc1 zaS im23 zgq).1
def th23 : Img := zmd zaS im23 0 0 1 0
def zo6 : Kern := (zc1 zaS th23 zgq).1
def x23 : Kern := (keyK zaS im23 zbA 0 1).1
theorem zdT : im23.ok := ⟨⟨by decide, by decide⟩, ⟨by decide, by decide⟩, ⟨by decide, by decide⟩, ⟨by decide, by decide⟩⟩
theorem zrk : th23.ok := ⟨⟨by decide, by decide⟩, ⟨by decide, by decide⟩, ⟨by decide, by decide⟩, ⟨by decide, by decide⟩⟩
theorem w23a : (zcP zaS im23 zbA p23).2.2 = 0 := by decide +kernel
theorem w23b : norN zaS im23 zbA = 0 ∧ revN zaS im23 zbA = 0 ∧ norN zaS im23 k23 = 0 ∧ revN zaS im23 k23 = 1 := by decide +kernel
theorem w23c : (zc1 zaS im23 k23).2 = [] ∧ zgq.held.length = 1 ∧ zgq.run 0 = 1 := by decide +kernel
theorem w23d : (zc1 zaS im23 zgq).2 = [1] ∧ zs0.held.length = 0 := by decide +kernel
theorem w23e : zo6.held.length = 1 ∧ (zo6.held.map fun h => h.stage) = [2] ∧ zo6.want 0 = -1 := by decide +kernel
theorem w23f : (keyK zaS im23 zbA 0 1).2 = true ∧ x23.want 0 = 1 ∧ (keyK zaS im23 k23 0 0).2 = false := by decide +kernel
theorem w23g : zas zbA = true ∧ zas k23 = true ∧ zas zgq = true ∧ zas zmo = false := by decide +kernel
theorem zqg : zaS.ok := by
 intro s hs
 simp only [zaS, List.mem_cons, List.not_mem_nil, or_false] at hs
 rcases hs with rfl; decide
theorem zjr : zbA.len := ⟨by decide, fun h hh => by simp [zbA] at hh⟩
theorem zqA : zaS.ovOk := by
 intro e he
 simp only [zaS, List.mem_cons, List.not_mem_nil, or_false] at he
 subst he; decide
theorem can23 : CanOk zaS zbA p23 := ⟨zjr, zqg, zqA, by decide, by decide, by decide +kernel⟩
theorem zov {l : Lay} {im : Img} {k : Kern} {p : Path} (hk : k.len) (hk2 : k.held.length ≤ 1000000) (hp : p.steps.length ≤ 1048576) (ho : (over l p.exit).length ≤ 1048576) (hn : (zaB l p).length ≤ 1048576) : (zcP l im k p).1.len := by
 unfold zcP
 split
 ·have := (zcM (l := l) (im := im) (zaB l p) { k with held := k.held ++ [newR l k p], next := k.next + 1 }).1
  unfold Kern.len
  rw [this]
  refine ⟨by simp; omega, fun h hh => ?_⟩
  rcases List.mem_append.1 hh with hh | hh
  ·exact hk.2 h hh
  ·rw [List.mem_singleton] at hh
   subst hh
   exact ⟨hp, ho, hn⟩
 ·exact hk
theorem zit : k23.len := zov zjr (by decide) (by decide) (by decide +kernel) (by decide +kernel)
theorem zkP : zgq.len := zhO zit
theorem zpz : C f_lockbarlaw23_point [] zaS.av := by
 refine ctr [] run_lockbarlaw23_point rfl rfl (by simp [AV.pure]) ?_ rfl
 unfold rt_lockbarlaw23_point
 simp
 rfl
def zd9 (l : Lay) (k : Kern) : Bool := (k.held.take 11).any zdZ || (znc l || decide (10 < k.held.length))
theorem zhF (l : Lay) (k : Kern) : C f_lockbarlaw23_great [l.av, k.av] (.bool (zd9 l k)) := by
 refine ctr (l.cells ++ k.cells) run_lockbarlaw23_great rfl (by simp [zaf]) rfl ?_ rfl
 unfold rt_lockbarlaw23_great
 simp [zam, zaa]
 refine zac rfl (fun vs => ∃ i : Nat, i ≤ k.held.length ∧ i ≤ 11 ∧ vs = [I i] ∧ zar zdZ (k.held.take i)) (fun vs => match vs with | [.int _ j] => 11 - j.toNat | _ => 0) ⟨0, by omega, by omega, by simp, rfl⟩ ?_
 rintro vs - ⟨i, hi, hi2, rfl, hq⟩
 by_cases hlt : i < k.held.length ∧ i < 11
 ·obtain ⟨hl1, hl2⟩ := hlt
  have hw := zad (i := i) (by omega)
  have hl3 : (i : Int) ≤ 10 := by omega
  simp [hl1, hl3]
  refine call (zoe k.held[i]) (by simp [hl1]) (by simp) ?_
  cases hg : zdZ k.held[i]
  ·simp [hw]
   exact ⟨⟨i + 1, by omega, by omega, by omega, zao hl1 hq hg⟩, by omega⟩
  ·have : (k.held.take 11).any zdZ = true := List.any_eq_true.2 ⟨k.held[i], List.mem_take_iff_getElem.2 ⟨i, by omega, rfl⟩, hg⟩
   simp [zd9, this]
 ·have ht : k.held.take 11 = k.held.take i := by
   by_cases h11 : i = 11
   ·rw [h11]
   ·rw [List.take_of_length_le (by omega), List.take_of_length_le (by omega)]
  have hq : (k.held.take 11).any zdZ = false := by rw [ht]; exact hq
  by_cases h1 : i < k.held.length
  ·have h2 : ¬ (i : Int) ≤ 10 := by omega
   have h3 : 10 < k.held.length := by omega
   simp [h1, h2, zaa]
   refine call (zif l) (by simp [zaa]) (by simp) ?_
   simp [zd9, hq, h3]
   omega
  ·simp [h1, zaa]
   refine call (zif l) (by simp [zaa]) (by simp) ?_
   have e : decide ((10 : Int) < k.held.length) = decide (10 < k.held.length) := decide_eq_decide.2 (by omega)
   simp [zd9, hq, e]
end Go.Lb.LK
namespace Go.Lb.LK
open Go Go.Lb Go.Proofs Go.RowKit
theorem y23a : C f_lockbarref19_Commit [zaS.av, im23.av, zbA.av, p23.av] (.tup [k23.av, I (zcP zaS im23 zbA p23).2.1, I 0]) := by
 have := zlQ zaS im23 zdT zbA (zbL w23g.1) p23 can23 ⟨by decide, by decide, by decide, by decide, fun e he => by simp only [zaS, List.mem_cons, List.not_mem_nil, or_false] at he; subst he; decide⟩
 rw [w23a] at this; exact this
theorem y23b : C f_kernel_Drives [zaS.av, im23.av, zbA.av] (.tup [W 0, W 0]) := by
 have := zck zaS im23 zdT zbA zjr
 rw [w23b.1, w23b.2.1] at this; exact this
theorem y23c : C f_kernel_Drives [zaS.av, im23.av, k23.av] (.tup [W 0, W 1]) := by
 have := zck zaS im23 zdT k23 zit
 rw [w23b.2.2.1, w23b.2.2.2] at this; exact this
theorem y23d : C f_kernel_Tick [zaS.av, im23.av, k23.av] (.tup [zgq.av, ints []]) := by
 have := zcl zaS im23 zdT k23 zit (zbL w23g.2.1)
 rw [w23c.1] at this; exact this
theorem y23e : C f_kernel_Tick [zaS.av, im23.av, zgq.av] (.tup [zs0.av, ints [1]]) := by
 have := zcl zaS im23 zdT zgq zkP (zbL w23g.2.2.1)
 rw [w23d.1] at this; exact this
theorem y23f : C f_kernel_Tick [zaS.av, th23.av, zgq.av] (.tup [zo6.av, ints (zc1 zaS th23 zgq).2]) := zcl zaS th23 zrk zgq zkP (zbL w23g.2.2.1)
theorem y23g : C f_kernel_Key [zaS.av, im23.av, zbA.av, I 0, I 1] (.tup [x23.av, .bool true]) := by
 have := zcG zaS im23 zdT zbA zjr (zbL w23g.1) 0 1 (by decide) (by decide)
 rw [w23f.1] at this; exact this
theorem y23h : C f_kernel_Key [zaS.av, im23.av, k23.av, I 0, I 0] (.tup [(keyK zaS im23 k23 0 0).1.av, .bool false]) := by
 have := zcG zaS im23 zdT k23 zit (zbL w23g.2.1) 0 0 (by decide) (by decide)
 rw [w23f.2.2] at this; exact this
theorem y23i : C f_kernel_Safe [zaS.av, im23.av, k23.av] (.bool true) := by
 have := zc3 zaS im23 zdT k23 zit (zbL w23g.2.1)
 rw [w23g.2.1] at this; exact this
theorem y23j : C f_kernel_Safe [zaS.av, im23.av, zmo.av] (.bool false) := by
 have := zc3 zaS im23 zdT zmo ⟨by decide, fun h hh => by simp [zmo] at hh⟩ (fun h hh => by simp [zmo] at hh)
 rw [w23g.2.2.2] at this; exact this
theorem zh0 (k : Kern) : k.cells[2]? = some (I (k.want 0)) := rfl
theorem zhE (k : Kern) : k.cells[3]? = some (I (k.run 0)) := rfl
theorem w23s : ∃ h, zo6.held = [h] ∧ h.stage = 2 := by
 obtain ⟨h1, h2, _⟩ := w23e
 obtain ⟨h, hh⟩ := List.length_eq_one_iff.1 h1
 rw [hh] at h2
 exact ⟨h, hh, by simpa using h2⟩
set_option maxHeartbeats 2000000 in
theorem zaQ : C f_lockbarlaw23_wakes [] (.bool true) := by
 refine ctr [] run_lockbarlaw23_wakes rfl rfl rfl ?_ rfl
 unfold rt_lockbarlaw23_wakes
 refine call zpz rfl (by simp) ?_
 simp [zae]
 refine call zqy rfl (by simp) ?_
 simp [zae]
 refine call (zk4 zaS zk7 0 1 0 0 (by omega) (by omega) (by omega) (by omega) (by omega) (by omega) (by omega) (by omega)) (by simp [zae]) (by simp) ?_
 simp [zae, show (zmd zaS zk7 0 1 0 0) = im23 from rfl]
 refine call zjJ rfl (by simp) ?_
 simp [zae]
 refine call y23a (by simp [zae, Path.cells, p23, Step.cells]) (by simp) ?_
 simp [zae]
 refine call zjJ rfl (by simp) ?_
 simp [zae]
 refine call y23b (by simp [zae]) (fun _ => rfl) ?_
 simp [zae]
 refine call y23c (by simp [zae]) (fun _ => rfl) ?_
 simp [zae]
 refine call y23d (by simp [zae]) (by simp) ?_
 simp [zae]
 refine call y23e (by simp [zae]) (by simp) ?_
 simp [zae]
 refine call (zk4 zaS im23 0 0 1 0 (by omega) (by omega) (by omega) (by omega) (by omega) (by omega) (by omega) (by omega)) (by simp [zae]) (by simp) ?_
 simp [zae, show (zmd zaS im23 0 0 1 0) = th23 from rfl]
 refine call y23f (by simp [zae]) (by simp) ?_
 simp [zae]
 refine call zjJ rfl (by simp) ?_
 simp [zae]
 refine call y23g (by simp [zae]) (by simp) ?_
 simp [zae]
 refine call y23h (by simp [zae]) (by simp) ?_
 obtain ⟨hs, s1, s2⟩ := w23s
 have f1 := w23c.2.1
 have f2 := w23c.2.2
 have f3 := w23d.2
 have f4 := w23e.2.2
 have f5 := w23f.2.1
 simp [zae, zaR, zh0, zhE, f1, f2, f3, f4, f5, s1, s2, zge]
 refine zak (avs := [zaS.av, im23.av, k23.av]) (.bool true) rfl (fun _ => ⟨by simp [zae], y23i⟩) (by simp) ?_
 simp [zae, zaR, zh0, zhE, f1, f2, f3, f4, f5, s1, s2, zge]
 refine zak (avs := [zaS.av, im23.av, zmo.av]) (.bool false) rfl (fun _ => ⟨by simp [zae]; rfl, y23j⟩) (by simp) ?_
 simp [zae, zaR, zh0, zhE, f1, f2, f3, f4, f5, s1, s2, zge]
end Go.Lb.LK
namespace Go.Lb.LK
open Go Go.Lb Go.Proofs
noncomputable section
end
end Go.Lb.LK
namespace Go.Lb.LK
open Go Go.Lb Go.Proofs Go.RowKit
theorem zmx {l : Lay} {k : Kern} (h : zd9 l k = false) : k.len ∧ k.held.length ≤ 10 := by
 simp only [zd9, Bool.or_eq_false_iff, decide_eq_false_iff_not] at h
 obtain ⟨h1, _, h2⟩ := h
 rw [List.take_of_length_le (by omega)] at h1
 refine ⟨⟨by omega, fun x hx => ?_⟩, by omega⟩
 have := List.any_eq_false.1 h1 x hx
 exact (zrr (by simpa using this)).1
theorem zqx (l : Lay) (im : Img) (k : Kern) (hk : k.len) : (zc1 l im k).2.length ≤ 1048576 := by
 by_cases h : zas k = true ∧ stale l im = false
 ·rw [zdO h.1 h.2]
  have := List.length_filter_le (za0 l im (zbX l im k)) k.held
  have := hk.1
  simp; omega
 ·rw [zb6]
  ·simp
  ·cases h1 : zas k
   ·exact .inl rfl
   ·right
    cases h2 : stale l im
    ·exact absurd ⟨h1, h2⟩ h
    ·rfl
end Go.Lb.LK
