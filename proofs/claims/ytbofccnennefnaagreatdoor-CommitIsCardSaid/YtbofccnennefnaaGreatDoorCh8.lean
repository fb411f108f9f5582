/- Which layouts are joined; overlaps: the program. -/
import Derived.Test.YtbofccnennefnaaGreatDoorCh7
import Derived.Test.YtbofccnennefnaaGreatDoorCh6
set_option linter.unusedSimpArgs false
set_option linter.unusedVariables false
namespace Go.Lb.LK
open Go Go.Lb Go.Proofs Go.RowKit
theorem zrg {l : Lay} {i : Nat} (h : i < l.secs.length) (m : Nat) : hasP l ⟨i, m⟩ = decide ((m : Int) < zaw l.secs[i].kind) := by
 have : zdZ l (i : Int) = some l.secs[i] := by simp [zdZ, List.getElem?_eq_getElem h]
 simp [hasP, this]
theorem znu {l : Lay} {i : Nat} (h : i < l.secs.length) {m : Nat} (hm : (m : Int) < zaw l.secs[i].kind) : zat l ⟨i, m⟩ = l.secs[i].join m := by
 have : zdZ l (i : Int) = some l.secs[i] := by simp [zdZ, List.getElem?_eq_getElem h]
 simp [zat, this, hm]
set_option maxHeartbeats 2000000 in
theorem zi7 (l : Lay) (hl : l.ok) (hb : l.secs.length ≤ 1000) : C f_join_Joined [l.av] (.bool (zbx l)) := by
 refine ctr l.cells run_join_Joined rfl (by simp) rfl ?_ rfl
 unfold rt_join_Joined
 simp [Lay.cells]
 refine ⟨fun h => by simp [zbx, show ¬ l.secs.length ≤ 24 by omega], fun h24 => ?_⟩
 have hje : zbx l = (List.range l.secs.length).all (zbg l) := by
  simp [zbx, show l.secs.length ≤ 24 by omega, Nat.min_eq_left (show l.secs.length ≤ 24 by omega)]
 rw [hje]
 refine zaa (by simp) (fun vs => ∃ i : Nat, i ≤ l.secs.length ∧ vs = [I i] ∧ ∀ j, j < i → zbg l j = true) (fun vs => match vs with | [.int _ j] => l.secs.length - j.toNat | _ => 0) ⟨0, by omega, by simp, fun j hj => by omega⟩ ?_
 rintro vs - ⟨i, hi, rfl, hq⟩
 by_cases hlt : i < l.secs.length
 case neg =>
  have : (List.range l.secs.length).all (zbg l) = true := zaA fun j hj => hq j (by omega)
  simp [hlt, this]
 have hw := zab (i := i) (by omega)
 have hsj := zgJ hlt
 have hkd := hl _ (List.getElem_mem hlt)
 have hbad : zbg l i = false → (List.range l.secs.length).all (zbg l) = false := fun hk => zaB hlt hk
 simp [hlt, Sec.cells]
 refine call (zgv l.secs[i] hkd.1 hkd.2) (by simp [hlt, Sec.cells]) (fun _ => rfl) ?_
 cases hs : zcx l.secs[i]
 ·simp [hbad (by rw [hsj, hs]; rfl)]
 simp
 have hpk := zfF l.secs[i].kind
 refine zaa (by simp) (fun vs => ∃ m : Nat, m ≤ 4 ∧ vs = [I m] ∧ ∀ j : Nat, j < m → (j : Int) < zaw l.secs[i].kind → zbF l i l.secs[i] j = true) (fun vs => match vs with | [.int _ j] => 4 - j.toNat | _ => 0) ⟨0, by omega, by simp, fun j hj => by omega⟩ ?_
 rintro vs - ⟨m, hm, rfl, hqm⟩
 by_cases hlm : m < 4
 case neg =>
  have hm4 : m = 4 := by omega
  subst hm4
  simp [hw]
  refine ⟨⟨i + 1, by omega, by omega, fun j hj => ?_⟩, by omega⟩
  by_cases hji : j = i
  ·subst hji
   rw [hsj, hs, zaA fun j2 hj2 => hqm j2 (by omega) (by omega)]; rfl
  ·exact hq j (by omega)
 have hwm := zab (i := m) (by omega)
 have hmi : (m : Int) < 4 := by omega
 have hh := zrg hlt m
 simp [hmi]
 refine call (zfW l hl ⟨i, m⟩) (by simp [Lay.cells, Port.cells]) (fun _ => rfl) ?_
 by_cases hp : (m : Int) < zaw l.secs[i].kind
 case neg =>
  rw [hh, decide_eq_false hp]
  simp
  refine zaj (avs := []) noP.av (by simp [AV.pure]) (fun hh => by simp at hh) (fun h => by cases h) ?_
  simp [hwm]
  refine ⟨⟨m + 1, by omega, by omega, fun j hj hjp => ?_⟩, by omega⟩
  by_cases hjm : j = m
  ·subst hjm; exact absurd hjp hp
  ·exact hqm j (by omega) hjp
 rw [hh, decide_eq_true hp]
 simp
 refine zaj (avs := [l.av, (Port.mk i m).av]) (zat l ⟨i, m⟩).av (by simp [AV.pure]) (fun _ => ⟨by simp [Lay.cells, Port.cells], zcL l hl _⟩) (fun h => by cases h) ?_
 rw [znu hlt hp]
 have hjo : zbF l i l.secs[i] m = (decide (l.secs[i].join m = noP) || (hasP l (l.secs[i].join m) && (!decide ((l.secs[i].join m).s = i) && decide (zat l (l.secs[i].join m) = ⟨i, m⟩)))) := rfl
 have hgood : zbF l i l.secs[i] m = true → ∀ j : Nat, j < m + 1 → (j : Int) < zaw l.secs[i].kind → zbF l i l.secs[i] j = true := fun hk j hj hjp => by
  by_cases hjm : j = m
  ·subst hjm; exact hk
  ·exact hqm j (by omega) hjp
 have hbad2 : zbF l i l.secs[i] m = false → (List.range l.secs.length).all (zbg l) = false := fun hk => hbad (by rw [hsj, zaB (i := m) (by omega) hk]; simp)
 generalize l.secs[i].join m = q at hjo ⊢
 simp [Port.cells]
 refine zaj (avs := [l.av, q.av]) (.bool (hasP l q)) rfl (fun _ => ⟨by simp [Lay.cells, Port.cells], zfW l hl q⟩) (fun _ => rfl) ?_
 simp [Port.cells]
 refine zaj (avs := [l.av, q.av]) (zat l q).av (by simp [AV.pure]) (fun _ => ⟨by simp [Lay.cells, Port.cells], zcL l hl q⟩) (fun h => by cases h) ?_
 have hne : q = noP ↔ q.s = -1 ∧ q.p = 0 := by obtain ⟨a, b⟩ := q; exact zhJ a b
 have hbe : zat l q = ⟨(i : Int), (m : Int)⟩ ↔ (zat l q).s = i ∧ (zat l q).p = m := zb0
 simp [Port.cells, AV.eqs, AV.eq1, hwm]
 refine ⟨fun h1 h2 => ⟨i, hlt, ?_⟩, fun h1 => ⟨⟨m + 1, by omega, by omega, hgood ?_⟩, by omega⟩⟩
 ·rw [hsj, zaB (i := m) (by omega)]
  ·simp
  rw [hjo]
  have h3 : ¬ q = noP := fun e => by have := hne.1 e; omega
  rcases h2 with (h2 | h2) | h2
  ·simp [h3, h2]
  ·simp [h3, h2]
  ·have : ¬ zat l q = ⟨(i : Int), (m : Int)⟩ := fun e => by have := hbe.1 e; omega
   simp [h3, this]
 ·rw [hjo]
  by_cases h3 : q = noP
  ·simp [h3]
  ·have h4 := h1 (by rw [hne] at h3; omega)
   rw [decide_eq_true (hbe.2 h4.2)]
   simp [h4.1.1, h4.1.2]
def c24 (g : Nat → Int) : List AV := [I (g 0), I (g 1), I (g 2), I (g 3), I (g 4), I (g 5), I (g 6), I (g 7), I (g 8), I (g 9), I (g 10), I (g 11), I (g 12), I (g 13), I (g 14), I (g 15), I (g 16), I (g 17), I (g 18), I (g 19), I (g 20), I (g 21), I (g 22), I (g 23)]
theorem znr (g : Nat → Int) {n : Nat} (h : n < 24) : pv (.aidx 24 1 0 1 false) [.agg (c24 g), I n] = I (g n) := by
 have e : c24 g = (List.range 24).map fun i => I (g i) := rfl
 rw [e]
 show ((List.range 24).map fun i => I (g i)).getD (n * 1 + 0) .undef = _
 simp [h]
theorem cs1 (n k : Nat) (u v : Int) : pv (.cellset 0 24 1 0 1 k) [I n, I u, .agg [I v]] = I (if n = k then v else u) := by
 simp only [pv, AV.cells, Int.toNat_natCast]
 by_cases h : n = k
 ·subst h
  rw [if_pos (by omega), if_pos rfl]
  simp
 ·rw [if_neg (by omega), if_neg h]
def seen (x : Exi) (i j : Nat) : Int := if x.a.s = j ∨ (x.over.take i).any (fun t => decide (t.s = (j : Int))) = true then 1 else 0
theorem zoo {l : Lay} {t : Step} (h : (za5 l t).2 = true) : 0 ≤ t.s ∧ t.s < l.secs.length := by
 by_cases hc : 0 ≤ t.s ∧ t.s < l.secs.length
 ·exact hc
 ·rw [za5, za2 hc] at h; cases h
theorem zpb {l : Lay} {p : Port} (h : hasP l p = true) : 0 ≤ p.s ∧ p.s < l.secs.length := by
 by_cases hc : 0 ≤ p.s ∧ p.s < l.secs.length
 ·exact hc
 ·rw [hasP, za2 hc] at h; cases h
set_option maxHeartbeats 2000000 in
theorem zlA (l : Lay) (hl : l.ok) (hn : l.secs.length ≤ 24) (x : Exi) (hx : zbJ l x = true) : C f_topo_over [l.av, x.av] (.bool (zdT l x)) := by
 simp only [zbJ, Bool.and_eq_true, decide_eq_true_eq] at hx
 obtain ⟨hall, hxa, hlen⟩ := hx
 have hr := zpb hxa
 obtain ⟨n, hns⟩ : ∃ n : Nat, x.a.s = n := ⟨x.a.s.toNat, by omega⟩
 have hn24 : n < 24 := by omega
 refine ctr (l.cells ++ x.cells) run_topo_over rfl (by simp [zac]) rfl ?_ rfl
 unfold rt_topo_over
 have hz := znr (fun _ => 0) hn24
 simp only [c24] at hz
 simp [Lay.cells, Exi.cells, hns, hz, cs1, -zaf]
 have hs0 : seen x 0 = fun j => if j = n then 1 else 0 := by
  funext j
  have e : ((n : Int) = (j : Int)) ↔ j = n := by omega
  simp [seen, hns, e]
 have hw1 : IntKind.i64.wrap 1 = 1 := by decide
 refine ⟨by omega, ⟨by omega, hn24⟩, by omega, ?_⟩
 refine zaa (by simp) (fun vs => ∃ i : Nat, i ≤ x.over.length ∧ vs = I i :: (c24 (seen x i) ++ [I (zaG x i).s, I (zaG x i).p]) ∧ ∀ j, j < i → zdS l x j = true) (fun vs => match vs with | .int _ j :: _ => x.over.length - j.toNat | _ => 0) ⟨0, by omega, by rw [hs0]; simp [c24, zaG, hns, hw1], fun j hj => by omega⟩ ?_
 rintro vs - ⟨i, hi, rfl, hq⟩
 by_cases hlt : i < x.over.length
 case neg =>
  have : zdT l x = true := zaA fun j hj => hq j (by omega)
  simp [c24, hlt, this]
 have hw := zab (i := i) (by omega)
 have hls := List.all_eq_true.1 hall _ (List.getElem_mem hlt)
 have htr := zoo hls
 have ho := zhN (l := l) hlt
 have hbad : zdS l x i = false → zdT l x = false := fun hk => zaB hlt hk
 have hgood : zdS l x i = true → ∀ j, j < i + 1 → zdS l x j = true := fun hk j hj => by
  by_cases hji : j = i
  ·subst hji; exact hk
  ·exact hq j (by omega)
 have hfrom : zaG x (i + 1) = ⟨x.over[i].s, x.over[i].o⟩ := by simp [zaG, List.getElem?_eq_getElem hlt]
 have hsn : ∀ j : Nat, seen x (i + 1) j = if x.over[i].s = (j : Int) ∨ seen x i j = 1 then 1 else 0 := by
  intro j
  unfold seen
  rw [List.take_succ_eq_append_getElem hlt, List.any_append]
  by_cases h1 : x.a.s = (j : Int)
  ·simp [h1]
  ·by_cases h2 : (x.over.take i).any (fun t => decide (t.s = (j : Int))) = true
   ·simp [h2]
   ·simp only [Bool.not_eq_true] at h2
    simp [h1, h2]
 generalize hT : x.over[i] = t at hls htr ho hfrom hsn
 obtain ⟨m, hm⟩ : ∃ m : Nat, t.s = m := ⟨t.s.toNat, by omega⟩
 have hm24 : m < 24 := by omega
 have hA01 : ∀ j, seen x i j = 0 ∨ seen x i j = 1 := fun j => by unfold seen; split <;> simp
 have h01 := hA01 m
 have hseen : seen x i m = 1 ↔ (t.s = x.a.s ∨ ((x.over.take i).any fun u => decide (u.s = t.s)) = true) := by
  unfold seen
  rw [hm]
  by_cases h1 : x.a.s = (m : Int)
  ·simp [h1]
  ·have h2 : ¬ (m : Int) = x.a.s := fun e => h1 e.symm
   by_cases h3 : (x.over.take i).any (fun t => decide (t.s = (m : Int))) = true
   ·simp [h3]
   ·simp only [Bool.not_eq_true] at h3
    simp [h1, h2, h3]
 generalize hG : seen x i = g at h01 hA01 hseen hsn
 have hz2 := znr g hm24
 have hz3 := znr (fun j => if j = m then g m + 1 else g j) hm24
 have hws : IntKind.i64.wrap (g m + 1) = g m + 1 := by rw [zbB] <;> omega
 simp only [c24] at hz2 hz3
 simp [c24, hlt, hT, Exi.cells, Step.cells]
 refine call (zcL l hl (zaG x i)) (by simp [Lay.cells, Port.cells]) (fun h => by cases h) ?_
 simp [hlt, hT, Exi.cells, Step.cells, Port.cells, AV.eqs, AV.eq1, hm, hz2, hz3, hws, cs1, hw, -zaf]
 have hbe : zat l (zaG x i) = ⟨t.s, t.i⟩ ↔ (zat l (zaG x i)).s = m ∧ (zat l (zaG x i)).p = t.i := by rw [← hm]; exact zb0
 have hst : g m + 1 ≤ 1 → ∀ j, (if j = m then g m + 1 else g j) = seen x (i + 1) j := by
  intro h j
  rw [hsn, hm]
  by_cases hj : j = m
  ·subst hj
   have : g j = 0 := by omega
   simp [this]
  ·have h2 : ¬ (m : Int) = j := by omega
   rcases hA01 j with h3 | h3 <;> simp [hj, h2, h3]
 refine ⟨fun h => hbad ?_, fun e1 e2 => ⟨by omega, ⟨by omega, hm24⟩, by omega, ⟨by omega, hm24⟩, fun h => hbad ?_, fun h => ⟨⟨i + 1, by omega, ⟨by omega, hst h 0, hst h 1, hst h 2, hst h 3, hst h 4, hst h 5, hst h 6, hst h 7, hst h 8, hst h 9, hst h 10, hst h 11, hst h 12, hst h 13, hst h 14, hst h 15, hst h 16, hst h 17, hst h 18, hst h 19, hst h 20, hst h 21, hst h 22, hst h 23, by rw [hfrom]; exact hm.symm, by rw [hfrom]⟩, hgood ?_⟩, by omega⟩⟩⟩
 ·rw [ho]
  have : ¬ zat l (zaG x i) = ⟨t.s, t.i⟩ := fun e => by have := hbe.1 e; omega
  simp [this]
 ·rw [ho]
  rcases hseen.1 (by omega) with h2 | h2
  ·simp [h2]
  ·simp [h2]
 ·rw [ho, decide_eq_true (hbe.2 ⟨e1, e2⟩)]
  have h3 : ¬ (t.s = x.a.s ∨ ((x.over.take i).any fun u => decide (u.s = t.s)) = true) := fun h4 => by have := hseen.2 h4; omega
  have h4 : ¬ t.s = x.a.s := fun e => h3 (.inl e)
  have h5 : ((x.over.take i).any fun u => decide (u.s = t.s)) = false := by
   cases hc : ((x.over.take i).any fun u => decide (u.s = t.s))
   ·rfl
   ·exact absurd (.inr hc) h3
  rw [h5]
  simp [h4]
end Go.Lb.LK
namespace Go.Lb.LK
open Go Go.Lb Go.Proofs Go.RowKit
theorem znL (l : Lay) (hl : l.ok) (hb : l.secs.length ≤ 1000) : C f_topo_rules_1 [.ref l.cells 0] (I (if zbx l = true then -1 else 0)) := by
 refine ctr l.cells run_topo_rules_1 rfl (by simp) rfl ?_ rfl
 unfold rt_topo_rules_1
 simp [Lay.cells]
 refine call (zi7 l hl hb) (by simp [Lay.cells]) (fun _ => rfl) ?_
 cases zbx l <;> simp
theorem znM (l : Lay) (hl : l.sigs.length ≤ 1000) : C f_topo_rules_2 [.ref l.cells 0] (I (zan zbb l.sigs)) := by
 refine ctr l.cells run_topo_rules_2 rfl (by simp) rfl ?_ rfl
 unfold rt_topo_rules_2
 simp [Lay.cells]
 refine zaa (by simp) (fun vs => ∃ i : Nat, i ≤ l.sigs.length ∧ vs = [I i] ∧ ∀ j, j < i → zbI zbb l.sigs j = false) (fun vs => match vs with | [.int _ j] => l.sigs.length - j.toNat | _ => 0) ⟨0, by omega, by simp, fun j hj => by omega⟩ ?_
 rintro vs - ⟨i, hi, rfl, hq⟩
 by_cases hlt : i < l.sigs.length
 case neg =>
  simp [hlt, zbD fun j hj => hq j (by omega)]
 have hw := zab (i := i) (by omega)
 have hdl := zbL (same := zbb) hlt
 simp [hlt]
 refine zaa (by simp) (fun vs => ∃ m : Nat, m ≤ i ∧ vs = [I m] ∧ zal (fun y => zbb y l.sigs[i]) (l.sigs.take m)) (fun vs => match vs with | [.int _ j] => i - j.toNat | _ => 0) ⟨0, by omega, by simp, rfl⟩ ?_
 rintro vs - ⟨m, hm, rfl, hp⟩
 by_cases hlm : m < i
 ·have hml : m < l.sigs.length := by omega
  have hwm := zab (i := m) (by omega)
  have hpe : l.sigs[m] = l.sigs[i] ↔ l.sigs[m].s = l.sigs[i].s ∧ l.sigs[m].p = l.sigs[i].p := zb0
  simp [hlt, hml, hlm, Port.cells, AV.eqs, AV.eq1, hwm]
  refine ⟨fun h1 h2 => ?_, fun h => ⟨⟨m + 1, by omega, by omega, zah hml hp ?_⟩, by omega⟩⟩
  ·have hs : zbb l.sigs[m] l.sigs[i] = true := decide_eq_true (hpe.2 ⟨h1, h2⟩)
   have hd : zbI zbb l.sigs i = true := by rw [hdl]; exact zbj (i := m) (by rw [List.length_take]; omega) (by simpa using hs)
   rw [zbY hlt hq hd]
  ·exact decide_eq_false fun e => h (hpe.1 e).1 (hpe.1 e).2
 ·have hmi : m = i := by omega
  subst hmi
  have hd : zbI zbb l.sigs m = false := by rw [hdl]; exact hp
  simp [hw]
  refine ⟨⟨m + 1, by omega, by omega, fun j hj => ?_⟩, by omega⟩
  by_cases hjm : j = m
  ·subst hjm; exact hd
  ·exact hq j (by omega)
theorem znN (l : Lay) (hl : l.exits.length ≤ 1000) : C f_topo_rules_3 [.ref l.cells 0] (I (zan zb7 l.exits)) := by
 refine ctr l.cells run_topo_rules_3 rfl (by simp) rfl ?_ rfl
 unfold rt_topo_rules_3
 simp [Lay.cells]
 refine zaa (by simp) (fun vs => ∃ i : Nat, i ≤ l.exits.length ∧ vs = [I i] ∧ ∀ j, j < i → zbI zb7 l.exits j = false) (fun vs => match vs with | [.int _ j] => l.exits.length - j.toNat | _ => 0) ⟨0, by omega, by simp, fun j hj => by omega⟩ ?_
 rintro vs - ⟨i, hi, rfl, hq⟩
 by_cases hlt : i < l.exits.length
 case neg =>
  simp [hlt, zbD fun j hj => hq j (by omega)]
 have hw := zab (i := i) (by omega)
 have hdl := zbL (same := zb7) hlt
 simp [hlt]
 refine zaa (by simp) (fun vs => ∃ m : Nat, m ≤ i ∧ vs = [I m] ∧ zal (fun y => zb7 y l.exits[i]) (l.exits.take m)) (fun vs => match vs with | [.int _ j] => i - j.toNat | _ => 0) ⟨0, by omega, by simp, rfl⟩ ?_
 rintro vs - ⟨m, hm, rfl, hp⟩
 by_cases hlm : m < i
 ·have hml : m < l.exits.length := by omega
  have hwm := zab (i := m) (by omega)
  have hpe : l.exits[m].a = l.exits[i].a ↔ l.exits[m].a.s = l.exits[i].a.s ∧ l.exits[m].a.p = l.exits[i].a.p := zb0
  simp [hlt, hml, hlm, Exi.cells, Port.cells, AV.eqs, AV.eq1, hwm]
  refine ⟨fun h1 h2 => ?_, fun h => ⟨⟨m + 1, by omega, by omega, zah hml hp ?_⟩, by omega⟩⟩
  ·have hs : zb7 l.exits[m] l.exits[i] = true := decide_eq_true (hpe.2 ⟨h1, h2⟩)
   have hd : zbI zb7 l.exits i = true := by rw [hdl]; exact zbj (i := m) (by rw [List.length_take]; omega) (by simpa using hs)
   rw [zbY hlt hq hd]
  ·exact decide_eq_false fun e => h (hpe.1 e).1 (hpe.1 e).2
 ·have hmi : m = i := by omega
  subst hmi
  have hd : zbI zb7 l.exits m = false := by rw [hdl]; exact hp
  simp [hw]
  refine ⟨⟨m + 1, by omega, by omega, fun j hj => ?_⟩, by omega⟩
  by_cases hjm : j = m
  ·subst hjm; exact hd
  ·exact hq j (by omega)
theorem zhq (f : Flank) : C f_topo_rules_5_1 [f.av] (Flank.av ⟨f.s, f.way, f.point, 0⟩) := by
 refine ctr f.cells run_topo_rules_5_1 rfl (by simp) (by simp [AV.pure]) ?_ rfl
 unfold rt_topo_rules_5_1
 simp [Flank.cells]
theorem znP (l : Lay) (hl : l.flanks.length ≤ 1000) : C f_topo_rules_5 [.ref l.cells 0] (I (zan zb6 l.flanks)) := by
 refine ctr l.cells run_topo_rules_5 rfl (by simp) rfl ?_ rfl
 unfold rt_topo_rules_5
 simp [Lay.cells]
 refine zaa (by simp) (fun vs => ∃ i : Nat, i ≤ l.flanks.length ∧ vs = [I i] ∧ ∀ j, j < i → zbI zb6 l.flanks j = false) (fun vs => match vs with | [.int _ j] => l.flanks.length - j.toNat | _ => 0) ⟨0, by omega, by simp, fun j hj => by omega⟩ ?_
 rintro vs - ⟨i, hi, rfl, hq⟩
 by_cases hlt : i < l.flanks.length
 case neg =>
  simp [hlt, zbD fun j hj => hq j (by omega)]
 have hw := zab (i := i) (by omega)
 have hdl := zbL (same := zb6) hlt
 simp [hlt]
 refine zaa (by simp) (fun vs => ∃ m : Nat, m ≤ i ∧ vs = [I m] ∧ zal (fun y => zb6 y l.flanks[i]) (l.flanks.take m)) (fun vs => match vs with | [.int _ j] => i - j.toNat | _ => 0) ⟨0, by omega, by simp, rfl⟩ ?_
 rintro vs - ⟨m, hm, rfl, hp⟩
 by_cases hlm : m < i
 ·have hml : m < l.flanks.length := by omega
  have hwm := zab (i := m) (by omega)
  simp [hlt, hml, hlm, Flank.cells]
  refine call (zhq l.flanks[m]) (by simp [hlt, hml, Flank.cells]) (fun _ => rfl) ?_
  simp [hlt, hml, hlm, Flank.cells]
  refine call (zhq l.flanks[i]) (by simp [hlt, hml, Flank.cells]) (fun _ => rfl) ?_
  simp [hlt, hml, hlm, Flank.cells, AV.eqs, AV.eq1, hwm]
  refine ⟨fun h1 h2 h3 => ?_, fun h => ⟨⟨m + 1, by omega, by omega, zah hml hp ?_⟩, by omega⟩⟩
  ·have hs : zb6 l.flanks[m] l.flanks[i] = true := decide_eq_true ⟨h1, h2, h3⟩
   have hd : zbI zb6 l.flanks i = true := by rw [hdl]; exact zbj (i := m) (by rw [List.length_take]; omega) (by simpa using hs)
   rw [zbY hlt hq hd]
  ·exact decide_eq_false fun e => h e.1 e.2.1 e.2.2
 ·have hmi : m = i := by omega
  subst hmi
  have hd : zbI zb6 l.flanks m = false := by rw [hdl]; exact hp
  simp [hw]
  refine ⟨⟨m + 1, by omega, by omega, fun j hj => ?_⟩, by omega⟩
  by_cases hjm : j = m
  ·subst hjm; exact hd
  ·exact hq j (by omega)
theorem zmw {l : Lay} (hk : zdj l = true) {i : Nat} (h : i < l.exits.length) : zeq l i = zdT l l.exits[i] := by
 have : zgA l (i : Int) = some l.exits[i] := by simp [zgA, List.getElem?_eq_getElem h]
 simp [zeq, hk, this]
theorem znO (l : Lay) (hl : l.ok) (hb : l.exits.length ≤ 1000) (hk : zdj l = true) : C f_topo_rules_4 [.ref l.cells 0] (I (zaW l)) := by
 refine ctr l.cells run_topo_rules_4 rfl (by simp) rfl ?_ rfl
 unfold rt_topo_rules_4
 simp [Lay.cells]
 have hsec : l.secs.length ≤ 24 := by
  simp [zdj] at hk
  omega
 have hexo : ∀ x ∈ l.exits, zbJ l x = true := by
  simp [zdj] at hk
  exact hk.2.2.1
 refine zaa (by simp) (fun vs => ∃ i : Nat, i ≤ l.exits.length ∧ vs = [I i] ∧ ∀ j, j < i → zeq l j = true) (fun vs => match vs with | [.int _ j] => l.exits.length - j.toNat | _ => 0) ⟨0, by omega, by simp, fun j hj => by omega⟩ ?_
 rintro vs - ⟨i, hi, rfl, hq⟩
 by_cases hlt : i < l.exits.length
 ·have hw := zab (i := i) (by omega)
  have h9 := zmw hk hlt
  simp [hlt, Exi.cells]
  refine call (zlA l hl hsec l.exits[i] (hexo _ (List.getElem_mem hlt))) (by simp [Lay.cells, hlt, Exi.cells]) (fun _ => rfl) ?_
  cases ho : zdT l l.exits[i]
  ·have hr : i < (List.range l.exits.length).length := by simpa using hlt
   have : (List.range l.exits.length).find? (fun i : Nat => !zeq l i) = some ((List.range l.exits.length)[i]) := zbM hr (by
    refine List.any_eq_false.2 fun x hx => ?_
    obtain ⟨j, hj, rfl⟩ := List.mem_take_iff_getElem.1 hx
    simp only [List.getElem_range]
    rw [hq j (by omega)]; simp) (by simp [h9, ho])
   simp [zaW, this]
  ·simp [hw]
   refine ⟨⟨i + 1, by omega, by omega, fun j hj => ?_⟩, by omega⟩
   by_cases hji : j = i
   ·subst hji; rw [h9, ho]
   ·exact hq j (by omega)
 ·have : (List.range l.exits.length).find? (fun i : Nat => !zeq l i) = none := by
   rw [List.find?_eq_none]
   intro x hx
   rw [hq x (by have := List.mem_range.1 hx; omega)]; simp
  simp [hlt, zaW, this]
theorem zoJ {l : Lay} (h1 : zdj l = true) (h2 : zbx l = true) : zeK l = if 0 ≤ zan zbb l.sigs then (2, zan zbb l.sigs, 90) else if 0 ≤ zan zb7 l.exits then (3, zan zb7 l.exits, 90) else if 0 ≤ zaW l then (4, zaW l, 90) else if 0 ≤ zan zb6 l.flanks then (5, zan zb6 l.flanks, 90) else (0, 0, 0) := by
 unfold zeK
 rw [h1, h2]
 generalize zan zbb l.sigs = a
 generalize zan zb7 l.exits = b
 generalize zaW l = c
 generalize zan zb6 l.flanks = d
 simp only [Bool.true_eq_false, if_false, show List.range 4 = [0, 1, 2, 3] from rfl, List.find?]
 have e0 : zcD a b c d 0 = a := rfl
 have e1 : zcD a b c d 1 = b := rfl
 have e2 : zcD a b c d 2 = c := rfl
 have e3 : zcD a b c d 3 = d := rfl
 by_cases g0 : 0 ≤ a
 ·simp [e0, g0]
 by_cases g1 : 0 ≤ b
 ·simp [e0, e1, g0, g1]
 by_cases g2 : 0 ≤ c
 ·simp [e0, e1, e2, g0, g1, g2]
 by_cases g3 : 0 ≤ d
 ·simp [e0, e1, e2, e3, g0, g1, g2, g3]
 ·simp [e0, e1, e2, e3, g0, g1, g2, g3]
theorem zkm (l : Lay) (hl : l.ok) (hb : l.lens) : C f_topo_Check [l.av] (.tup [I (zeK l).1, I (zeK l).2.1, I (zeK l).2.2]) := by
 refine ctr l.cells run_topo_Check rfl (by simp) (by simp [AV.pure, AV.pureAll]) ?_ rfl
 unfold rt_topo_Check
 simp [Lay.cells]
 refine call (zh8 l hl hb) (by simp [Lay.cells]) (fun _ => rfl) ?_
 cases h1 : zdj l
 ·simp [zeK, h1]
 simp
 refine call (znL l hl hb.secs) (by simp [Lay.cells]) (fun _ => rfl) ?_
 cases h2 : zbx l
 ·simp [zeK, h1, h2]
 rw [zoJ h1 h2]
 simp
 refine call (znM l hb.sigs) (by simp [Lay.cells]) (fun _ => rfl) ?_
 generalize zan zbb l.sigs = a
 simp
 refine ⟨fun h => by simp [h], fun h => ?_⟩
 refine call (znN l hb.exits) (by simp [Lay.cells]) (fun _ => rfl) ?_
 generalize zan zb7 l.exits = b
 simp
 refine ⟨fun h3 => by simp [show ¬ 0 ≤ a by omega, h3], fun h3 => ?_⟩
 refine call (znO l hl hb.exits h1) (by simp [Lay.cells]) (fun _ => rfl) ?_
 generalize zaW l = c
 simp
 refine ⟨fun h4 => by simp [show ¬ 0 ≤ a by omega, show ¬ 0 ≤ b by omega, h4], fun h4 => ?_⟩
 refine call (znP l hb.flanks) (by simp [Lay.cells]) (fun _ => rfl) ?_
 generalize zan zb6 l.flanks = d
 simp
 refine ⟨fun h5 => by simp [show ¬ 0 ≤ a by omega, show ¬ 0 ≤ b by omega, show ¬ 0 ≤ c by omega, h5], fun h5 => by simp [show ¬ 0 ≤ a by omega, show ¬ 0 ≤ b by omega, show ¬ 0 ≤ c by omega, show ¬ 0 ≤ d by omega]⟩
theorem zkn (l : Lay) (hl : l.ok) (hb : l.lens) : C f_topo_Right [l.av] (.bool (zdg l)) := by
 refine ctr l.cells run_topo_Right rfl (by simp) rfl ?_ rfl
 unfold rt_topo_Right
 simp [Lay.cells]
 refine call (zkm l hl hb) (by simp [Lay.cells]) (by simp) ?_
 simp
 have := zoK l
 by_cases h : zdg l = true
 ·rw [h, this.2 h]; rfl
 ·rw [Bool.eq_false_iff.2 h]
  rw [beq_eq_false_iff_ne]
  exact fun h2 => h (this.1 h2)
end Go.Lb.LK
namespace Go.Lb.LK
open Go Go.Lb Go.Proofs Go.RowKit
def zn5 (k : Int) (f : Flank) : Need := ⟨f.point, f.pos, k⟩
theorem zpz (l : Lay) (s : Step) (k : Int) : zcA l s k = (if (point l s).2.2 = true then [⟨(point l s).1, (point l s).2.1, k⟩] else []) ++ (l.flanks.filter (zaE l s)).map (zn5 k) := rfl
theorem zhm (l : Lay) (hf : l.flanks.length ≤ 2147483648) (s : Step) (k : Int) : C f_lockbarref10_Wants [l.av, s.av, I k] (needs (zcA l s k)) := by
 refine ctr (l.cells ++ s.cells ++ [I k]) run_lockbarref10_Wants rfl (by simp [zac, AV.pureAll, AV.pure]) (by simp [AV.pure]) ?_ rfl
 unfold rt_lockbarref10_Wants
 simp [Lay.cells, Step.cells]
 refine call (zlr l s) (by simp [Lay.cells, Step.cells]) (by simp) ?_
 have hlen : ∀ i, ((l.flanks.take i).filter (zaE l s)).length ≤ 2147483648 := fun i => by
  have := List.length_filter_le (zaE l s) (l.flanks.take i)
  have : (l.flanks.take i).length ≤ l.flanks.length := by simp; omega
  omega
 rw [zpz]
 generalize hpt : point l s = pt
 obtain ⟨a, b, c⟩ := pt
 cases c
 ·simp
  refine call (zdq l s) (by simp [Lay.cells, Step.cells]) (by simp) ?_
  simp
  refine zaa rfl (fun vs => ∃ i : Nat, i ≤ l.flanks.length ∧ vs = [needs (([] : List Need) ++ ((l.flanks.take i).filter (zaE l s)).map (zn5 k)), I i]) (fun vs => match vs with | [_, .int _ j] => l.flanks.length - j.toNat | _ => 0) ⟨0, by omega, by simp [Need.cells]⟩ ?_
  rintro vs - ⟨i, hi, rfl⟩
  have hli := hlen i
  simp
  by_cases hlt : i < l.flanks.length
  ·have hw := zab (i := i) (by omega)
   have ht := zcX (zaE l s) l.flanks hlt
   cases hst : (za5 l s).2
   ·have hnone : l.flanks.filter (zaE l s) = [] := by
     rw [List.filter_eq_nil_iff]; intro f _; simp [zaE, hst]
    have hnone2 : (l.flanks.take i).filter (zaE l s) = [] := by
     rw [List.filter_eq_nil_iff]; intro f _; simp [zaE, hst]
    simp [hlt, hst, hnone, hnone2, Need.cells]
   ·simp [hlt, hst, Flank.cells, hw]
    cases hon : zaE l s l.flanks[i]
    ·have h3 : l.flanks[i].s = s.s → ¬ l.flanks[i].way = (za5 l s).1 := by
      intro h2 h3
      simp [zaE, hst, h2, h3] at hon
     left
     refine ⟨h3, ⟨i + 1, by omega, ?_, by omega⟩, by omega⟩
     rw [ht, hon]; simp
    ·have h3 : l.flanks[i].s = s.s ∧ l.flanks[i].way = (za5 l s).1 := by
      simp only [zaE, Bool.and_eq_true, decide_eq_true_eq] at hon
      exact ⟨hon.1.2, hon.2⟩
     right
     refine ⟨h3, by omega, ⟨i + 1, by omega, ?_, by omega⟩, by omega⟩
     rw [ht, hon]; simp [zn5, Need.cells]
  ·have hta : l.flanks.take i = l.flanks := List.take_of_length_le (by omega)
   simp [hlt, hta, Need.cells]
 ·simp
  refine call (zdq l s) (by simp [Lay.cells, Step.cells]) (by simp) ?_
  simp
  refine zaa rfl (fun vs => ∃ i : Nat, i ≤ l.flanks.length ∧ vs = [needs ([(⟨a, b, k⟩ : Need)] ++ ((l.flanks.take i).filter (zaE l s)).map (zn5 k)), I i]) (fun vs => match vs with | [_, .int _ j] => l.flanks.length - j.toNat | _ => 0) ⟨0, by omega, by simp [Need.cells]⟩ ?_
  rintro vs - ⟨i, hi, rfl⟩
  have hli := hlen i
  simp
  by_cases hlt : i < l.flanks.length
  ·have hw := zab (i := i) (by omega)
   have ht := zcX (zaE l s) l.flanks hlt
   cases hst : (za5 l s).2
   ·have hnone : l.flanks.filter (zaE l s) = [] := by
     rw [List.filter_eq_nil_iff]; intro f _; simp [zaE, hst]
    have hnone2 : (l.flanks.take i).filter (zaE l s) = [] := by
     rw [List.filter_eq_nil_iff]; intro f _; simp [zaE, hst]
    simp [hlt, hst, hnone, hnone2, Need.cells]
   ·simp [hlt, hst, Flank.cells, hw]
    cases hon : zaE l s l.flanks[i]
    ·have h3 : l.flanks[i].s = s.s → ¬ l.flanks[i].way = (za5 l s).1 := by
      intro h2 h3
      simp [zaE, hst, h2, h3] at hon
     left
     refine ⟨h3, ⟨i + 1, by omega, ?_, by omega⟩, by omega⟩
     rw [ht, hon]; simp
    ·have h3 : l.flanks[i].s = s.s ∧ l.flanks[i].way = (za5 l s).1 := by
      simp only [zaE, Bool.and_eq_true, decide_eq_true_eq] at hon
      exact ⟨hon.1.2, hon.2⟩
     right
     refine ⟨h3, by omega, ⟨i + 1, by omega, ?_, by omega⟩, by omega⟩
     rw [ht, hon]; simp [zn5, Need.cells]
  ·have hta : l.flanks.take i = l.flanks := List.take_of_length_le (by omega)
   simp [hlt, hta, Need.cells]
end Go.Lb.LK
namespace Go.Lb.LK
open Go Go.Lb Go.Proofs Go.RowKit
theorem zjb (l : Lay) (ho : l.ovOk) (hf : l.flanks.length ≤ 1000) (p : Path) (hp : p.steps.length ≤ 1000) (hov : (over l p.exit).length ≤ 1000) : C f_lockbarref13_Of [l.av, p.av] (needs (zak l p)) := by
 refine ctr (l.cells ++ p.cells) run_lockbarref13_Of rfl (by simp [zac, AV.pureAll, AV.pure]) (by simp [AV.pure]) ?_ rfl
 unfold rt_lockbarref13_Of
 simp [Lay.cells, Path.cells]
 have hw1 : ∀ s k, (zcA l s k).length ≤ 1001 := fun s k => by have := zfQ l s k; omega
 have hnl : (zap l p).length = p.steps.length + (over l p.exit).length := by simp [zap]
 have hN : ∀ m : Nat, (((zap l p).take m).flatMap fun x => zcA l x.2 x.1).length ≤ 2002000 := fun m => by
  have h1 := zfu (fun x : Int × Step => zcA l x.2 x.1) 1001 (fun x => hw1 x.2 x.1) ((zap l p).take m)
  have h2 : ((zap l p).take m).length ≤ 2000 := by rw [List.length_take]; omega
  omega
 have hA : ∀ (i : Nat) (h : i < p.steps.length), (zap l p)[i]'(by rw [hnl]; omega) = ((i : Int), p.steps[i]) := fun i h => by
  simp [zap, List.getElem_append_left, h]
 have hB : ∀ (i : Nat) (h : i < (over l p.exit).length), (zap l p)[p.steps.length + i]'(by rw [hnl]; omega) = ((p.steps.length : Int), (over l p.exit)[i]) := fun i h => by
  simp [zap, List.getElem_append_right]
 refine zaa rfl (fun vs => ∃ i : Nat, i ≤ p.steps.length ∧ vs = [needs (((zap l p).take i).flatMap fun x => zcA l x.2 x.1), I i]) (fun vs => match vs with | [_, .int _ j] => p.steps.length - j.toNat | _ => 0) ⟨0, by simp, by simp⟩ ?_
 rintro vs - ⟨i, hi, rfl⟩
 have hNi := hN i
 simp
 refine ⟨fun hlt => ?_, fun hge => ?_⟩
 ·have hw := zab (i := i) (by omega)
  simp [hlt, Step.cells]
  have hx := zdd (fun x : Int × Step => zcA l x.2 x.1) (zap l p) (i := i) (by rw [hnl]; omega)
  rw [hA i hlt] at hx
  have hy := hw1 p.steps[i] i
  refine call (zhm l (by omega) p.steps[i] i) (by simp [hlt, Step.cells, Lay.cells]) (by simp) ?_
  simp [-List.length_flatMap]
  refine ⟨fun x _ => by simp [Need.cells], by omega, ⟨i + 1, by omega, ?_, hw⟩, by rw [hw]; omega⟩
  rw [hx]; simp
 ·have hi' : i = p.steps.length := by omega
  subst hi'
  refine call (zfX l ho p.exit) (by simp [Lay.cells]) (by simp) ?_
  simp
  refine zaa rfl (fun vs => ∃ i : Nat, i ≤ (over l p.exit).length ∧ vs = [needs (((zap l p).take (p.steps.length + i)).flatMap fun x => zcA l x.2 x.1), I i]) (fun vs => match vs with | [_, .int _ j] => (over l p.exit).length - j.toNat | _ => 0) ⟨0, by simp, by simp⟩ ?_
  rintro vs - ⟨i, hi, rfl⟩
  have hNi := hN (p.steps.length + i)
  simp
  refine ⟨fun hlt => ?_, fun hge => ?_⟩
  ·have hw := zab (i := i) (by omega)
   simp [hlt, Step.cells]
   have hx := zdd (fun x : Int × Step => zcA l x.2 x.1) (zap l p) (i := p.steps.length + i) (by rw [hnl]; omega)
   rw [hB i hlt] at hx
   have hy := hw1 (over l p.exit)[i] p.steps.length
   refine call (zhm l (by omega) (over l p.exit)[i] p.steps.length) (by simp [hlt, Step.cells, Lay.cells]) (by simp) ?_
   simp [-List.length_flatMap]
   refine ⟨fun x _ => by simp [Need.cells], by omega, ⟨i + 1, by omega, ?_, hw⟩, by rw [hw]; omega⟩
   rw [show p.steps.length + (i + 1) = p.steps.length + i + 1 from rfl, hx]; simp
  ·have : (zap l p).take (p.steps.length + i) = zap l p := List.take_of_length_le (by rw [hnl]; omega)
   simp [this, zak]
end Go.Lb.LK
namespace Go.Lb.LK
open Go Go.Lb Go.Proofs Go.RowKit
def zf5 (sg : Port) (ss : List Step) : Bool := match ss[0]? with
 | some t => decide (sg = ⟨t.s, t.i⟩)
 | none => false
def ziF (e : Port) (ss : List Step) : Bool := match ss[ss.length - 1]? with
 | some t => decide (e = ⟨t.s, t.o⟩)
 | none => false
def zjC (l : Lay) (ss : List Step) (k : Nat) : Bool := match ss[k]? with
 | some t => decide (k = 0) || decide (zjP l ⟨t.s, t.i⟩ < 0)
 | none => true
def zm5 (l : Lay) (ss : List Step) : Bool := (List.range ss.length).all (zjC l ss)
def zdU (l : Lay) (p : Path) (sg : Port) (e : Exi) : Bool := decide (1 ≤ p.steps.length ∧ p.steps.length ≤ 12) && (zhw l p.steps && (zcy p.steps e.over && (zf5 sg p.steps && (ziF e.a p.steps && zm5 l p.steps))))
def zds (l : Lay) (p : Path) : Int :=
 if zdg l = true ∧ (0 ≤ p.sig ∧ p.sig < l.sigs.length) ∧ (0 ≤ p.exit ∧ p.exit < l.exits.length) then
  (match l.sigs[p.sig.toNat]?, l.exits[p.exit.toNat]? with
   | some sg, some e => if zdU l p sg e = true then 0 else 110
   | _, _ => 110) else 2
set_option maxRecDepth 100000 in
set_option maxHeartbeats 4000000 in
theorem zlt (l : Lay) (hl : l.lens) (p : Path) : C f_lockbarref11_Check [l.av, p.av, .sl []] (I (zds l p)) := by
 refine ctr (l.cells ++ p.cells ++ [.sl []]) run_lockbarref11_Check rfl (by simp [zac, AV.pureAll, AV.pure]) rfl ?_ rfl
 unfold rt_lockbarref11_Check
 simp [Lay.cells, Path.cells]
 refine call (zlo l hl) (by simp [Lay.cells]) (fun _ => rfl) ?_
 by_cases hg : zdg l = true ∧ (0 ≤ p.sig ∧ p.sig < l.sigs.length) ∧ (0 ≤ p.exit ∧ p.exit < l.exits.length)
 case neg =>
  have hv : zds l p = 2 := by unfold zds; rw [if_neg hg]
  rw [hv]
  cases ht : zdg l
  ·simp
  ·rw [ht] at hg
   have : p.sig < 0 ∨ (l.sigs.length : Int) ≤ p.sig ∨ p.exit < 0 ∨ (l.exits.length : Int) ≤ p.exit := by
    simp only [true_and] at hg; omega
   simp
   intro g1 g2 g3 g4
   omega
 obtain ⟨ht, ⟨h1, h2⟩, h3, h4⟩ := hg
 obtain ⟨n, hn⟩ : ∃ n : Nat, p.sig = n := ⟨p.sig.toNat, by omega⟩
 obtain ⟨m, hm⟩ : ∃ m : Nat, p.exit = m := ⟨p.exit.toNat, by omega⟩
 have hln : n < l.sigs.length := by omega
 have hlm : m < l.exits.length := by omega
 have hv : zds l p = if zdU l p l.sigs[n] l.exits[m] = true then 0 else 110 := by
  unfold zds
  rw [if_pos ⟨ht, ⟨h1, h2⟩, h3, h4⟩, hn, hm]
  simp [List.getElem?_eq_getElem hln, List.getElem?_eq_getElem hlm]
 rw [hv]
 have hov := hl.over _ (List.getElem_mem hlm)
 have c1 : ¬ ((n : Int) < 0) := by omega
 have c2 : ¬ ((l.sigs.length : Nat) ≤ n) := by omega
 have c3 : ¬ ((m : Int) < 0) := by omega
 have c4 : ¬ ((l.exits.length : Nat) ≤ m) := by omega
 simp [ht, hn, hm, c1, c2, c3, c4]
 refine zaa rfl (fun vs => vs = [I 0]) (fun _ => 0) rfl ?_
 rintro vs - rfl
 simp
 refine zaj (avs := [l.av, steps p.steps]) (.bool (zhw l p.steps)) rfl (fun hh => ⟨by simp [Lay.cells], zmN l p.steps (by simp at hh; omega)⟩) (fun _ => rfl) ?_
 simp [hlm, Exi.cells]
 refine zaj (avs := [steps p.steps, steps l.exits[m].over]) (.bool (zcy p.steps l.exits[m].over)) rfl (fun hh => ⟨by simp [hlm, hm, Exi.cells], zki p.steps l.exits[m].over (by simp at hh; omega) hov⟩) (fun _ => rfl) ?_
 simp [hlm, Exi.cells]
 refine zaj (avs := [p.av, .sl []]) (.bool true) rfl (fun hh => ⟨by simp [Path.cells, hn, hm], zja p⟩) (fun _ => rfl) ?_
 simp [hlm, Exi.cells]
 refine ⟨fun hb => ?_, fun g1 g2 g3 g4 => ?_⟩
 ·have : zdU l p l.sigs[n] l.exits[m] = false := by
   unfold zdU
   rcases hb with (hb | hb) | hb
   ·have : ¬ (1 ≤ p.steps.length ∧ p.steps.length ≤ 12) := by omega
    rw [decide_eq_false this]; rfl
   ·simp [hb]
   ·simp [hb]
  exact this
 have h0 : 0 < p.steps.length := by omega
 have hq : p.steps.length - 1 < p.steps.length := by omega
 have hw1 : IntKind.i64.wrap ((p.steps.length : Int) - 1) = (p.steps.length : Int) - 1 := by rw [zbB] <;> omega
 have hw2 : ((p.steps.length : Int) - 1).toNat = p.steps.length - 1 := by omega
 have hd : decide (1 ≤ p.steps.length ∧ p.steps.length ≤ 12) = true := decide_eq_true (by omega)
 have hpo : zdU l p l.sigs[n] l.exits[m] = (zf5 l.sigs[n] p.steps && (ziF l.exits[m].a p.steps && zm5 l p.steps)) := by
  unfold zdU; rw [hd, g3, g4]; rfl
 have hf : zf5 l.sigs[n] p.steps = decide (l.sigs[n] = ⟨p.steps[0].s, p.steps[0].i⟩) := by
  simp [zf5, List.getElem?_eq_getElem h0]
 have hl2 : ziF l.exits[m].a p.steps = decide (l.exits[m].a = ⟨p.steps[p.steps.length - 1].s, p.steps[p.steps.length - 1].o⟩) := by
  simp [ziF, List.getElem?_eq_getElem hq]
 have e1 := zdM l.sigs[n] ⟨p.steps[0].s, p.steps[0].i⟩
 have e2 := zdM l.exits[m].a ⟨p.steps[p.steps.length - 1].s, p.steps[p.steps.length - 1].o⟩
 simp only [Port.cells] at e1 e2
 rw [hpo, hf, hl2]
 simp [hln, hlm, h0, hq, hw1, hw2, Port.cells, Step.cells, Exi.cells, e1, e2]
 refine ⟨fun _ => by omega, fun hb hx hy => ?_, fun hx hy1 hy2 => ?_⟩
 ·exfalso
  rcases hb with hb | hb
  ·exact hb hx
  ·have := zb0.1 hy
   rcases hb with hb | hb
   ·exact hb this.1
   ·exact hb this.2
 have hy := zb0.2 ⟨hy1, hy2⟩
 simp only [hx, hy, true_and]
 refine zaa rfl (fun vs => ∃ i : Nat, 1 ≤ i ∧ i ≤ p.steps.length ∧ vs = [I i] ∧ ∀ j, j < i → zjC l p.steps j = true) (fun vs => match vs with | [.int _ j] => p.steps.length - j.toNat | _ => 0) ⟨1, by omega, by omega, by simp, fun j hj => by
  have : j = 0 := by omega
  subst this
  simp [zjC, List.getElem?_eq_getElem h0]⟩ ?_
 rintro vs - ⟨i, hi1, hi, rfl, hqi⟩
 simp
 refine ⟨fun hlt => ?_, fun hge => ?_⟩
 ·have hw := zab (i := i) (by omega)
  have hme : zjC l p.steps i = decide (zjP l ⟨p.steps[i].s, p.steps[i].i⟩ < 0) := by
   simp [zjC, List.getElem?_eq_getElem hlt, show ¬ i = 0 by omega]
  simp [hlt, Step.cells]
  refine call (zke l hl.sigs ⟨p.steps[i].s, p.steps[i].i⟩) (by simp [Lay.cells, Port.cells, hlt, Step.cells]) (fun _ => rfl) ?_
  simp [hw]
  refine ⟨fun hs => ?_, fun hs => ⟨⟨i + 1, by omega, by omega, by omega, fun j hj => ?_⟩, by omega⟩⟩
  ·have : zm5 l p.steps = false := zaB hlt (by rw [hme]; exact decide_eq_false (by omega))
   simp [this]
  ·by_cases hji : j = i
   ·subst hji; rw [hme]; exact decide_eq_true hs
   ·exact hqi j (by omega)
 ·have : zm5 l p.steps = true := zaA fun j hj => hqi j (by omega)
  simp [this]
def ze1 (l : List Need) (k : Nat) : Bool := match l[k]? with
 | some x => (l.take k).any fun y => both x y
 | none => false
def zcq (l : List Need) : Bool := (List.range l.length).any (ze1 l)
theorem zoU {q : Nat → Bool} {n i : Nat} (h : i < n) (hb : q i = true) : (List.range n).any q = true := List.any_eq_true.2 ⟨i, List.mem_range.2 h, hb⟩
theorem znt {q : Nat → Bool} {n : Nat} (h : ∀ i, i < n → q i = false) : (List.range n).any q = false := by
 refine List.any_eq_false.2 fun x hx => ?_
 rw [h x (List.mem_range.1 hx)]; simp
theorem zlu (a : List Need) (ha : a.length ≤ 1000000000) : C f_lockbarref13_Clash [needs a, .sl []] (.bool (zcq a)) := by
 refine ctr [needs a, .sl []] run_lockbarref13_Clash rfl (by simp [AV.pureAll, AV.pure]) rfl ?_ rfl
 unfold rt_lockbarref13_Clash
 simp
 first
 | refine ⟨fun x _ => by simp [Need.cells], by omega, ?_⟩
 | refine ⟨by omega, ?_⟩
 refine zaa rfl (fun vs => ∃ i : Nat, i ≤ a.length ∧ vs = [I i] ∧ ∀ j, j < i → ze1 a j = false) (fun vs => match vs with | [.int _ j] => a.length - j.toNat | _ => 0) ⟨0, by omega, by simp, fun j hj => by omega⟩ ?_
 rintro vs - ⟨i, hi, rfl, hq⟩
 simp
 refine ⟨fun hlt => ?_, fun hge => ?_⟩
 ·have hw := zab (i := i) (by omega)
  have hce : ze1 a i = (a.take i).any fun y => both a[i] y := by simp [ze1, List.getElem?_eq_getElem hlt]
  refine zaa rfl (fun vs => ∃ m : Nat, m ≤ i ∧ vs = [I m] ∧ zal (fun y => both a[i] y) (a.take m)) (fun vs => match vs with | [.int _ j] => i - j.toNat | _ => 0) ⟨0, by omega, by simp, rfl⟩ ?_
  rintro vs - ⟨m, hm, rfl, hp⟩
  simp
  refine ⟨fun hlm => ?_, fun hgm => ?_⟩
  ·have hml : m < a.length := by omega
   have hwm := zab (i := m) (by omega)
   have hbe : both a[i] a[m] = (decide (a[i].p = a[m].p) && !decide (a[i].pos = a[m].pos)) := rfl
   simp [hlt, hml, Need.cells, hwm]
   repeat refine And.intro (by intros; omega) ?_
   by_cases hb1 : a[i].p = a[m].p
   ·by_cases hb2 : a[i].pos = a[m].pos
    ·have hb : both a[i] a[m] = false := by rw [hbe]; simp [hb2]
     simp [hb1, hb2]
     first | exact ⟨⟨m + 1, by omega, by omega, zah hml hp hb⟩, by omega⟩ | (refine ⟨by omega, ⟨m + 1, by omega, by omega, zah hml hp hb⟩, by omega⟩)
    ·have hb : both a[i] a[m] = true := by rw [hbe]; simp [hb1, hb2]
     have : zcq a = true := zoU hlt (by rw [hce]; exact zbj (i := m) (by rw [List.length_take]; omega) (by simpa using hb))
     simp [hb1, hb2, this]
   ·have hb : both a[i] a[m] = false := by rw [hbe]; simp [hb1]
    simp [hb1]
    first | exact ⟨⟨m + 1, by omega, by omega, zah hml hp hb⟩, by omega⟩ | (refine ⟨by omega, ⟨m + 1, by omega, by omega, zah hml hp hb⟩, by omega⟩)
  ·have hmi : m = i := by omega
   subst hmi
   have hk : ze1 a m = false := by rw [hce]; exact hp
   simp [hw]
   refine ⟨⟨m + 1, by omega, by omega, fun j hj => ?_⟩, by omega⟩
   by_cases hjm : j = m
   ·subst hjm; exact hk
   ·exact hq j (by omega)
 ·have : zcq a = false := znt fun j hj => hq j (by omega)
  simp [this]
theorem zmO (l : Lay) (ho : l.ovOk) (hf : l.flanks.length ≤ 1000) (p : Path) (hp : p.steps.length ≤ 1000) (hov : (over l p.exit).length ≤ 1000) (hn : (zak l p).length ≤ 1000000000) : C f_lockbarref13_Fine [l.av, p.av] (.bool (!zcq (zak l p))) := by
 refine ctr (l.cells ++ p.cells) run_lockbarref13_Fine rfl (by simp [zac]) rfl ?_ rfl
 unfold rt_lockbarref13_Fine
 simp [Lay.cells, Path.cells]
 refine call (zjb l ho hf p hp hov) (by simp [Lay.cells, Path.cells]) (by simp) ?_
 refine call (zlu (zak l p) hn) (by simp) (fun _ => rfl) ?_
 simp
end Go.Lb.LK
namespace Go.Lb.LK
open Go Go.Lb Go.Proofs Go.RowKit
theorem zfZ (t : Step) : C f_route_in [t.av] (Port.av ⟨t.s, t.i⟩) := by
 refine ctr t.cells run_route_in rfl (by simp) (by simp [AV.pure]) ?_ rfl
 unfold rt_route_in
 simp [Step.cells, Port.cells]
theorem zhp (t : Step) : C f_route_out [t.av] (Port.av ⟨t.s, t.o⟩) := by
 refine ctr t.cells run_route_out rfl (by simp) (by simp [AV.pure]) ?_ rfl
 unfold rt_route_out
 simp [Step.cells, Port.cells]
theorem zob {l : Lay} {ss : List Step} (h : zal (fun t => !(za5 l t).2) ss) {k : Nat} (hk : k < ss.length) : zc0 l ss k = if h0 : 0 < k then decide (zat l ⟨(ss[k - 1]'(by omega)).s, (ss[k - 1]'(by omega)).o⟩ = ⟨ss[k].s, ss[k].i⟩) else true := by
 have h1 : (za5 l ss[k]).2 = true := by
  have := List.any_eq_false.1 h _ (List.getElem_mem hk)
  simpa using this
 by_cases h0 : 0 < k
 ·simp [zc0, List.getElem?_eq_getElem hk, h1, h0, List.getElem?_eq_getElem (show k - 1 < ss.length by omega)]
 ·simp [zc0, List.getElem?_eq_getElem hk, h1, h0]
set_option maxHeartbeats 1000000 in
theorem zkl (l : Lay) (hl : l.ok) (ss : List Step) (hs : ss.length ≤ 1000) : C f_route_Goes [l.av, steps ss] (.bool (zhw l ss)) := by
 refine ctr (l.cells ++ [steps ss]) run_route_Goes rfl (by simp [zac, AV.pureAll, AV.pure]) rfl ?_ rfl
 unfold rt_route_Goes
 simp [Lay.cells]
 refine zaa (by simp) (fun vs => ∃ i : Nat, i ≤ ss.length ∧ vs = [I i] ∧ zal (fun t => !(za5 l t).2) (ss.take i)) (fun vs => match vs with | [.int _ j] => ss.length - j.toNat | _ => 0) ⟨0, by omega, by simp, rfl⟩ ?_
 rintro vs - ⟨i, hi, rfl, hq⟩
 by_cases hlt : i < ss.length
 ·have hw := zab (i := i) (by omega)
  simp [hlt, Step.cells]
  refine call (zcM l hl ss[i]) (by simp [Lay.cells, hlt, Step.cells]) (by simp) ?_
  cases hx : (za5 l ss[i]).2
  ·have : zhw l ss = false := zaB hlt (by simp [zc0, List.getElem?_eq_getElem hlt, hx])
   simp [hx, this]
  ·simp [hx, hw]
   exact ⟨⟨i + 1, by omega, by omega, zah hlt hq (by simp [hx])⟩, by omega⟩
 rw [List.take_of_length_le (by omega)] at hq
 simp [hlt]
 refine zaa (by simp) (fun vs => ∃ i : Nat, 1 ≤ i ∧ vs = [I i] ∧ ∀ j, j < i → j < ss.length → zc0 l ss j = true) (fun vs => match vs with | [.int _ j] => ss.length - j.toNat | _ => 0) ⟨1, by omega, by simp, fun j hj hjl => by rw [zob hq hjl]; simp [show ¬ 0 < j by omega]⟩ ?_
 rintro vs - ⟨k, hk1, rfl, hg⟩
 by_cases hlk : k < ss.length
 case neg =>
  have : zhw l ss = true := zaA fun j hj => hg j (by omega) hj
  simp [hlk, this]
 have hwk := zab (i := k) (by omega)
 have hw0 : IntKind.i64.wrap ((k : Int) - 1) = (k : Int) - 1 := by rw [zbB] <;> omega
 have hk2 : ((k : Int) - 1).toNat = k - 1 := by omega
 have hk3 : k - 1 < ss.length := by omega
 have hge := zob hq hlk
 rw [dif_pos (show 0 < k by omega)] at hge
 have hbad : zc0 l ss k = false → zhw l ss = false := fun h => zaB hlk h
 simp [hlk, hw0, hk2, hk3, Step.cells]
 refine ⟨by omega, ?_⟩
 refine call (zhp ss[k - 1]) (by simp [hlk, hw0, hk2, hk3, Step.cells]) (by simp) ?_
 refine call (zcL l hl ⟨ss[k - 1].s, ss[k - 1].o⟩) (by simp [Lay.cells]) (by simp) ?_
 refine call (zfZ ss[k]) (by simp [hlk, hw0, hk2, hk3, Step.cells]) (by simp) ?_
 have hbe : zat l ⟨ss[k - 1].s, ss[k - 1].o⟩ = ⟨ss[k].s, ss[k].i⟩ ↔ (zat l ⟨ss[k - 1].s, ss[k - 1].o⟩).s = ss[k].s ∧ (zat l ⟨ss[k - 1].s, ss[k - 1].o⟩).p = ss[k].i := zb0
 simp [Port.cells, AV.eqs, AV.eq1, hwk]
 refine ⟨fun h => hbad ?_, fun h1 h2 => ⟨⟨k + 1, by omega, by omega, fun j hj hjl => ?_⟩, by omega⟩⟩
 ·rw [hge]; exact decide_eq_false fun e => by have := hbe.1 e; omega
 ·by_cases hjk : j = k
  ·subst hjk; rw [hge]; exact decide_eq_true (hbe.2 ⟨h1, h2⟩)
  ·exact hg j (by omega) hjl
theorem zho (p : Path) (hp : p.steps.length ≤ 1000) : C f_route_Through [p.av, .sl []] (.bool true) := by
 refine ctr (p.cells ++ [.sl []]) run_route_Through rfl (by simp [zac, AV.pureAll, AV.pure]) rfl ?_ rfl
 unfold rt_route_Through
 simp [Path.cells]
 refine zaa (by simp) (fun vs => ∃ i : Nat, i ≤ p.steps.length ∧ vs = [.sl [], I i]) (fun vs => match vs with | [_, .int _ j] => p.steps.length - j.toNat | _ => 0) ⟨0, by omega, by simp⟩ ?_
 rintro vs - ⟨i, hi, rfl⟩
 by_cases hlt : i < p.steps.length
 ·have hw := zab (i := i) (by omega)
  simp [hlt, Step.cells, hw]
  exact ⟨⟨i + 1, by omega, by omega⟩, by omega⟩
 ·simp [hlt]
theorem zeV (l : Lay) : C f_slices_ContainsFunc_int [.sl [], .clo f_route_Check_1 [] [.ref l.cells 0]] (.bool false) := by
 refine ctr (.sl [] :: l.cells) run_slices_ContainsFunc_int rfl (by simp [AV.pureAll, AV.pure]) rfl ?_ rfl
 unfold rt_slices_ContainsFunc_int
 simp [Lay.cells]
 refine zaa (by simp) (fun vs => vs = [I 0]) (fun _ => 0) (by simp) ?_
 rintro vs - rfl
 simp
def zg0 (a b : Step) : Bool := decide (a.s = b.s)
theorem nodup_iff (c : List Step) : (∀ k, k < c.length → zbI zg0 c k = false) ↔ (c.map (·.s)).Nodup := by
 rw [List.Nodup, List.pairwise_iff_getElem]
 constructor
 ·intro h i j hi hj hij
  simp only [List.length_map] at hi hj
  have := h j hj
  rw [zbL hj] at this
  have h2 := List.any_eq_false.1 this c[i] (List.mem_take_iff_getElem.2 ⟨i, by omega, rfl⟩)
  simpa [zg0] using h2
 ·intro h k hk
  rw [zbL hk]
  refine List.any_eq_false.2 fun x hx => ?_
  obtain ⟨i, hi, rfl⟩ := List.mem_take_iff_getElem.1 hx
  have := h i k (by simp; omega) (by simpa using hk) (by omega)
  simpa [zg0] using this
theorem zlX (ss ov : List Step) : zcy ss ov = true ↔ (ss.map (·.s)).Nodup ∧ ∀ t ∈ ss, ∀ u ∈ ov, t.s ≠ u.s := by
 rw [← nodup_iff]
 unfold zcy
 rw [List.all_eq_true]
 constructor
 ·intro h
  have h2 : ∀ k, ∀ hk : k < ss.length, ((ss.take k).any fun u => decide (u.s = ss[k].s)) = false ∧ (ov.any fun u => decide (u.s = ss[k].s)) = false := fun k hk => by
   have := h k (List.mem_range.2 hk)
   simp only [zdf, List.getElem?_eq_getElem hk, Bool.and_eq_true, Bool.not_eq_true'] at this
   exact this
  refine ⟨fun k hk => by rw [zbL hk]; exact (h2 k hk).1, fun t ht u hu e => ?_⟩
  obtain ⟨k, hk, rfl⟩ := List.mem_iff_getElem.1 ht
  have := List.any_eq_false.1 (h2 k hk).2 u hu
  exact this (decide_eq_true e.symm)
 ·rintro ⟨h1, h2⟩ k hk
  have hk := List.mem_range.1 hk
  have h3 := h1 k hk
  rw [zbL hk] at h3
  have h4 : (ov.any fun u => decide (u.s = ss[k].s)) = false := List.any_eq_false.2 fun u hu => by
   have := h2 _ (List.getElem_mem hk) u hu
   simpa using fun e => this e.symm
  simp only [zdf, List.getElem?_eq_getElem hk, Bool.and_eq_true, Bool.not_eq_true']
  exact ⟨h3, h4⟩
theorem znb {l : Lay} {x : Exi} (h : zdT l x = true) : (x.over.map (·.s)).Nodup := by
 rw [← nodup_iff]
 intro k hk
 have := List.all_eq_true.1 h k (List.mem_range.2 hk)
 rw [zhN hk] at this
 simp only [Bool.and_eq_true, Bool.not_eq_true'] at this
 rw [zbL hk]
 exact this.2.2
theorem zpy {l : Lay} {x : Exi} (h : zdT l x = true) (ss : List Step) : zcy ss x.over = true ↔ ∀ k, k < (ss ++ x.over).length → zbI zg0 (ss ++ x.over) k = false := by
 rw [zlX, nodup_iff, List.map_append, List.nodup_append]
 have := znb h
 constructor
 ·rintro ⟨h1, h2⟩
  refine ⟨h1, this, ?_⟩
  intro a ha b hb
  obtain ⟨t, ht, rfl⟩ := List.mem_map.1 ha
  obtain ⟨u, hu, rfl⟩ := List.mem_map.1 hb
  exact h2 t ht u hu
 ·rintro ⟨h1, _, h2⟩
  exact ⟨h1, fun t ht u hu => h2 _ (List.mem_map_of_mem ht) _ (List.mem_map_of_mem hu)⟩
end Go.Lb.LK
namespace Go.Lb.LK
open Go Go.Lb Go.Proofs Go.RowKit
theorem zkT {l : Lay} (h : zdg l = true) {e : Exi} (he : e ∈ l.exits) : zdT l e = true := by
 simp only [zdg, Bool.and_eq_true, decide_eq_true_eq] at h
 obtain ⟨h1, _, _, _, h2, _⟩ := h
 obtain ⟨i, hi, rfl⟩ := List.mem_iff_getElem.1 he
 rw [← zmw h1 hi]
 unfold zaW at h2
 cases hf : (List.range l.exits.length).find? (fun i : Nat => !zeq l i) with
 | some k => rw [hf] at h2; simp at h2; omega
 | none =>
  have := List.find?_eq_none.1 hf i (List.mem_range.2 hi)
  simpa using this
set_option maxRecDepth 100000 in
set_option maxHeartbeats 4000000 in
theorem zje (l : Lay) (hl : l.ok) (hb : l.lens) (p : Path) (hps : p.steps.length ≤ 1000) : C f_route_Check [l.av, p.av, .sl []] (I (zds l p)) := by
 refine ctr (l.cells ++ p.cells ++ [.sl []]) run_route_Check rfl (by simp [zac, AV.pureAll, AV.pure]) rfl ?_ rfl
 unfold rt_route_Check
 simp [Lay.cells, Path.cells]
 refine zaj (avs := [l.av]) (.bool (zdg l)) rfl (fun _ => ⟨by simp [Lay.cells], zkn l hl hb⟩) (fun _ => rfl) ?_
 by_cases hg : zdg l = true ∧ (0 ≤ p.sig ∧ p.sig < l.sigs.length) ∧ (0 ≤ p.exit ∧ p.exit < l.exits.length)
 case neg =>
  have hv : zds l p = 2 := by unfold zds; rw [if_neg hg]
  rw [hv]
  cases ht : zdg l
  ·simp
  ·rw [ht] at hg
   have : p.sig < 0 ∨ (l.sigs.length : Int) ≤ p.sig ∨ p.exit < 0 ∨ (l.exits.length : Int) ≤ p.exit := by
    simp only [true_and] at hg; omega
   simp
   intro g1 g2 g3 g4
   omega
 obtain ⟨ht, ⟨h1, h2⟩, h3, h4⟩ := hg
 obtain ⟨n, hn⟩ : ∃ n : Nat, p.sig = n := ⟨p.sig.toNat, by omega⟩
 obtain ⟨m, hm⟩ : ∃ m : Nat, p.exit = m := ⟨p.exit.toNat, by omega⟩
 have hln : n < l.sigs.length := by omega
 have hlm : m < l.exits.length := by omega
 have hv : zds l p = if zdU l p l.sigs[n] l.exits[m] = true then 0 else 110 := by
  unfold zds
  rw [if_pos ⟨ht, ⟨h1, h2⟩, h3, h4⟩, hn, hm]
  simp [List.getElem?_eq_getElem hln, List.getElem?_eq_getElem hlm]
 rw [hv]
 have hov := hb.over _ (List.getElem_mem hlm)
 have hoo := zkT ht (List.getElem_mem hlm)
 have c1 : ¬ ((n : Int) < 0) := by omega
 have c2 : ¬ ((l.sigs.length : Nat) ≤ n) := by omega
 have c3 : ¬ ((m : Int) < 0) := by omega
 have c4 : ¬ ((l.exits.length : Nat) ≤ m) := by omega
 generalize hX : l.exits[m] = x at hov hoo
 generalize hSg : l.sigs[n] = sg
 simp [ht, hn, hm, c1, c2, c3, c4]
 refine call (zeV l) (by simp [Lay.cells]) (fun _ => rfl) ?_
 simp [hlm, hX, Exi.cells]
 by_cases hlen : 1 ≤ p.steps.length ∧ p.steps.length ≤ 12
 case neg =>
  have hpo : zdU l p sg x = false := by unfold zdU; rw [decide_eq_false hlen]; rfl
  rw [hpo]
  have hab : (p.steps.length : Int) < 1 ∨ 12 < (p.steps.length : Int) := by omega
  rcases hab with ha | ha
  ·have ha2 : ¬ 1 ≤ (p.steps.length : Int) := by omega
   simp [ha, ha2]
   refine zaj (avs := []) noP.av (by simp [AV.pure]) (fun hh => by simp [ha] at hh) (by simp) ?_
   simp [ha, ha2]
   refine zaj (avs := []) noP.av (by simp [AV.pure]) (fun hh => by simp [ha] at hh) (by simp) ?_
   simp [ha, ha2]
  ·have ha2 : ¬ (p.steps.length : Int) ≤ 12 := by omega
   simp [ha, ha2]
   refine zaj (avs := []) noP.av (by simp [AV.pure]) (fun hh => by simp [ha] at hh) (by simp) ?_
   simp [ha, ha2]
   refine zaj (avs := []) noP.av (by simp [AV.pure]) (fun hh => by simp [ha] at hh) (by simp) ?_
   simp [ha, ha2]
 have h0 : 0 < p.steps.length := by omega
 have hq : p.steps.length - 1 < p.steps.length := by omega
 have hw1 : IntKind.i64.wrap ((p.steps.length : Int) - 1) = (p.steps.length : Int) - 1 := by rw [zbB] <;> omega
 have hw2 : ((p.steps.length : Int) - 1).toNat = p.steps.length - 1 := by omega
 have d1 : ¬ ((p.steps.length : Int) < 1) := by omega
 have d2 : ¬ (12 < (p.steps.length : Int)) := by omega
 have d3 : 1 ≤ (p.steps.length : Int) := by omega
 have d4 : (p.steps.length : Int) ≤ 12 := by omega
 simp [h0, d1, d2, d3, d4, hln, hSg, Step.cells]
 refine zaj (avs := [(p.steps[0]).av]) (Port.av ⟨p.steps[0].s, p.steps[0].i⟩) (by simp [AV.pure]) (fun _ => ⟨by simp [h0, Step.cells], zfZ _⟩) (by simp) ?_
 have hse : sg = ⟨p.steps[0].s, p.steps[0].i⟩ ↔ sg.s = p.steps[0].s ∧ sg.p = p.steps[0].i := zb0
 have hxe : x.a = ⟨p.steps[p.steps.length - 1].s, p.steps[p.steps.length - 1].o⟩ ↔ x.a.s = p.steps[p.steps.length - 1].s ∧ x.a.p = p.steps[p.steps.length - 1].o := zb0
 simp [h0, hq, hw1, hw2, d1, d2, d3, d4, hln, hlm, hX, hSg, Port.cells, Step.cells, Exi.cells, AV.eqs, AV.eq1]
 refine ⟨fun _ _ => by omega, ?_⟩
 refine zaj (avs := [(p.steps[p.steps.length - 1]).av]) (Port.av ⟨p.steps[p.steps.length - 1].s, p.steps[p.steps.length - 1].o⟩) (by simp [AV.pure]) (fun _ => ⟨by simp [hq, hw1, hw2, Step.cells], zhp _⟩) (by simp) ?_
 simp [h0, hq, hw1, hw2, d1, d2, d3, d4, hln, hlm, hX, hSg, Port.cells, Step.cells, Exi.cells, AV.eqs, AV.eq1]
 have hf : zf5 sg p.steps = decide (sg = ⟨p.steps[0].s, p.steps[0].i⟩) := by simp [zf5, List.getElem?_eq_getElem h0]
 have hla : ziF x.a p.steps = decide (x.a = ⟨p.steps[p.steps.length - 1].s, p.steps[p.steps.length - 1].o⟩) := by simp [ziF, List.getElem?_eq_getElem hq]
 refine ⟨fun hbd => ?_, fun e1 e2 e3 e4 => ?_⟩
 ·unfold zdU
  rw [hf, hla]
  by_cases q1 : p.steps[0].s = sg.s ∧ p.steps[0].i = sg.p
  ·have q2 : ¬ x.a = ⟨p.steps[p.steps.length - 1].s, p.steps[p.steps.length - 1].o⟩ := fun e => by have := hxe.1 e; omega
   simp [q2]
  ·have q2 : ¬ sg = ⟨p.steps[0].s, p.steps[0].i⟩ := fun e => by have := hse.1 e; omega
   simp [q2]
 have hpo : zdU l p sg x = (zhw l p.steps && (zcy p.steps x.over && zm5 l p.steps)) := by
  unfold zdU
  rw [hf, hla, decide_eq_true hlen, decide_eq_true (hse.2 ⟨e1.symm, e2.symm⟩), decide_eq_true (hxe.2 ⟨e3.symm, e4.symm⟩)]
  simp
 rw [hpo]
 clear hf hla hse hxe hpo e1 e2 e3 e4 hv
 refine call (zkl l hl p.steps hps) (by simp [Lay.cells]) (fun _ => rfl) ?_
 cases hgo : zhw l p.steps
 ·simp
  refine zaj (avs := []) (.bool true) rfl (fun hh => by simp at hh) (fun _ => rfl) ?_
  simp
 simp
 refine zaj (avs := [p.av, .sl []]) (.bool true) rfl (fun hh => ⟨by simp [Path.cells, hn, hm], zho p hps⟩) (fun _ => rfl) ?_
 simp [hlm, hX, Exi.cells]
 refine call (zcC [p.steps, x.over] (by simp) (by simp [zcn]; omega)) (by simp [hlm, hX, Exi.cells]) (by simp) ?_
 have htw := zpy hoo p.steps
 have hcl : (p.steps ++ x.over).length ≤ 2000 := by simp; omega
 rw [show [p.steps, x.over].flatten = p.steps ++ x.over by simp]
 generalize p.steps ++ x.over = c at htw hcl
 simp
 refine zaa (by simp) (fun vs => ∃ i : Nat, i ≤ c.length ∧ vs = [I i] ∧ ∀ j, j < i → zbI zg0 c j = false) (fun vs => match vs with | [.int _ j] => c.length - j.toNat | _ => 0) ⟨0, by omega, by simp, fun j hj => by omega⟩ ?_
 rintro vs - ⟨i, hi, rfl, hq1⟩
 by_cases hlt : i < c.length
 ·have hw := zab (i := i) (by omega)
  have hbad : zbI zg0 c i = true → zcy p.steps x.over = false := fun h => by
   cases hs : zcy p.steps x.over
   ·rfl
   ·have := htw.1 hs i hlt
    rw [h] at this; cases this
  simp [hlt, Step.cells]
  refine ⟨hi, ?_⟩
  have hdl := zbL (same := zg0) hlt
  refine zaa (by simp) (fun vs => ∃ m : Nat, m ≤ i ∧ vs = [I m] ∧ zal (fun y => zg0 y c[i]) (c.take m)) (fun vs => match vs with | [.int _ j] => i - j.toNat | _ => 0) ⟨0, by omega, by simp, rfl⟩ ?_
  rintro vs - ⟨k, hk, rfl, hp⟩
  have hmin : min i c.length = i := by omega
  by_cases hlk : k < i
  ·have hkl : k < c.length := by omega
   have hwk := zab (i := k) (by omega)
   by_cases he : c[k].s = c[i].s
   ·have hd : zbI zg0 c i = true := by rw [hdl]; exact zbj (i := k) (by rw [List.length_take]; omega) (by simpa [zg0] using he)
    simp [hlt, hlk, hkl, hmin, Step.cells, he, hbad hd]
   ·simp [hlt, hlk, hkl, hmin, Step.cells, he, hwk]
    exact ⟨⟨k + 1, by omega, by omega, zah hkl hp (by simpa [zg0] using he)⟩, by omega⟩
  ·have hki : k = i := by omega
   subst hki
   have hd : zbI zg0 c k = false := by rw [hdl]; exact hp
   simp [hmin, hw]
   refine ⟨⟨k + 1, by omega, by omega, fun j hj => ?_⟩, by omega⟩
   by_cases hjk : j = k
   ·subst hjk; exact hd
   ·exact hq1 j (by omega)
 have hsi : zcy p.steps x.over = true := htw.2 fun k hk => hq1 k (by omega)
 rw [hsi]
 simp [hlt]
 refine zaa (by simp) (fun vs => ∃ i : Nat, 1 ≤ i ∧ vs = [I i] ∧ ∀ j, j < i → zjC l p.steps j = true) (fun vs => match vs with | [.int _ j] => p.steps.length - j.toNat | _ => 0) ⟨1, by omega, by simp, fun j hj => by
  have : j = 0 := by omega
  subst this
  simp [zjC, List.getElem?_eq_getElem h0]⟩ ?_
 rintro vs - ⟨k, hk1, rfl, hqk⟩
 by_cases hlk : k < p.steps.length
 case neg =>
  have : zm5 l p.steps = true := zaA fun j hj => hqk j (by omega)
  simp [hlk, this]
 have hwk := zab (i := k) (by omega)
 have hw0 : IntKind.i64.wrap ((k : Int) - 1) = (k : Int) - 1 := by rw [zbB] <;> omega
 have hk2 : ((k : Int) - 1).toNat = k - 1 := by omega
 have hk3 : k - 1 < p.steps.length := by omega
 have hme : zjC l p.steps k = decide (zjP l ⟨p.steps[k].s, p.steps[k].i⟩ < 0) := by
  simp [zjC, List.getElem?_eq_getElem hlk, show ¬ k = 0 by omega]
 simp [hlk, hw0, hk2, hk3, Step.cells]
 refine ⟨by omega, ?_⟩
 refine call (zfZ p.steps[k]) (by simp [hlk, Step.cells]) (by simp) ?_
 refine call (zhi l hb.sigs ⟨p.steps[k].s, p.steps[k].i⟩) (by simp [Lay.cells]) (fun _ => rfl) ?_
 simp [hwk]
 refine ⟨fun hs => zaB hlk (by rw [hme]; exact decide_eq_false (by omega)), fun hs => ⟨⟨k + 1, by omega, by omega, fun j hj => ?_⟩, by omega⟩⟩
 by_cases hjk : j = k
 ·subst hjk; rw [hme]; exact decide_eq_true hs
 ·exact hqk j (by omega)
end Go.Lb.LK
namespace Go.Lb.LK
open Go Go.Lb Go.Proofs Go.RowKit
def zbP (p : Path) (h : Hd) : Bool := decide (h.path.sig = p.sig) && !decide (h.stage = 3)
def canN (l : Lay) (im : Img) (k : Kern) (p : Path) : Int :=
 if (k.held.any (zbP p) || ((p.steps ++ over l p.exit).any (fun s => !zcY l im k s.s) || (zak l p).any (fun n => !zbr l im k n))) = true then 190
 else if 6 ≤ k.held.length then 191 else 0
structure CanOk (l : Lay) (k : Kern) (p : Path) : Prop where
 kl : k.len
 lo : l.ok
 ov : l.ovOk
 fl : l.flanks.length ≤ 1000
 pl : p.steps.length ≤ 1000
 ol : (over l p.exit).length ≤ 1000
theorem zcc {l : Lay} {k : Kern} {p : Path} (h : CanOk l k p) : (zak l p).length ≤ 2002000 := by
 have hw1 : ∀ s k, (zcA l s k).length ≤ 1001 := fun s k => by have := zfQ l s k; have := h.fl; omega
 have h1 := zfu (fun x : Int × Step => zcA l x.2 x.1) 1001 (fun x => hw1 x.2 x.1) (zap l p)
 have h2 : (zap l p).length ≤ 2000 := by have := h.pl; have := h.ol; simp [zap]; omega
 unfold zak
 omega
end Go.Lb.LK
namespace Go.Lb.LK
open Go Go.Lb Go.Proofs Go.RowKit
theorem likp (l : Lay) (im : Img) (k : Kern) (p : Path) : AV.pureAll (l.cells ++ im.cells ++ k.cells ++ p.cells) = true := by simp [zac]
theorem znQ {l : Lay} {im : Img} {k : Kern} {p : Path} (h : k.held.any (zbP p) = true) : canN l im k p = 190 := by simp [canN, h]
theorem zjg {l : Lay} {im : Img} {k : Kern} {p : Path} {s : Step} (hs : s ∈ p.steps ++ over l p.exit) (h : zcY l im k s.s = false) : canN l im k p = 190 := by
 have : ((p.steps ++ over l p.exit).any fun s => !zcY l im k s.s) = true := List.any_eq_true.2 ⟨s, hs, by simp [h]⟩
 simp only [canN, this, Bool.true_or, Bool.or_true, if_true]
theorem zjf {l : Lay} {im : Img} {k : Kern} {p : Path} {n : Need} (hs : n ∈ zak l p) (h : zbr l im k n = false) : canN l im k p = 190 := by
 have : ((zak l p).any fun n => !zbr l im k n) = true := List.any_eq_true.2 ⟨n, hs, by simp [h]⟩
 simp only [canN, this, Bool.or_true, if_true]
theorem zmd {l : Lay} {im : Img} {k : Kern} {p : Path} (h1 : zal (zbP p) k.held) (h2 : zal (fun s : Step => !zcY l im k s.s) p.steps) (h3 : zal (fun s : Step => !zcY l im k s.s) (over l p.exit)) (h4 : zal (fun n => !zbr l im k n) (zak l p)) : canN l im k p = if 6 ≤ k.held.length then 191 else 0 := by
 unfold zal at *
 simp only [canN, List.any_append, h1, h2, h3, h4, Bool.or_false, Bool.false_eq_true, if_false]
set_option maxHeartbeats 4000000 in
theorem zmH (l : Lay) (im : Img) (hi : im.ok) (k : Kern) (p : Path) (hc : CanOk l k p) : C f_free_Can [l.av, im.av, k.av, p.av] (I (canN l im k p)) := by
 have hk1 := hc.kl.1
 have hp1 := hc.pl
 have ho1 := hc.ol
 have hn1 := zcc hc
 refine ctr (l.cells ++ im.cells ++ k.cells ++ p.cells) run_free_Can rfl (likp l im k p) rfl ?_ rfl
 unfold rt_free_Can
 simp [Lay.cells, Img.cells, Kern.cells, Path.cells]
 refine zaa rfl (fun vs => ∃ i : Nat, i ≤ k.held.length ∧ vs = [I i] ∧ zal (zbP p) (k.held.take i)) (fun vs => match vs with | [.int _ j] => k.held.length - j.toNat | _ => 0) ⟨0, by omega, by simp, rfl⟩ ?_
 rintro vs - ⟨i, hii, rfl, hq1⟩
 simp
 refine ⟨fun hlt => ?_, fun hge => ?_⟩
 ·have hw := zab (i := i) (by omega)
  cases hs : zbP p k.held[i]
  ·have hs2 : k.held[i].path.sig = p.sig → k.held[i].stage = 3 := by
    intro h; simpa [zbP, h] using hs
   simp [hlt, Hd.cells, hw]
   left
   exact ⟨hs2, ⟨i + 1, by omega, by omega, zah hlt hq1 hs⟩, by omega⟩
  ·have hs2 : k.held[i].path.sig = p.sig ∧ ¬ k.held[i].stage = 3 := by simpa [zbP] using hs
   simp [hlt, Hd.cells, hw, hs2.1, hs2.2, znQ (l := l) (im := im) (zbj hlt hs)]
 ·have ht : k.held.take i = k.held := List.take_of_length_le (by omega)
  rw [ht] at hq1
  refine zaa rfl (fun vs => ∃ i : Nat, i ≤ p.steps.length ∧ vs = [I i] ∧ zal (fun s : Step => !zcY l im k s.s) (p.steps.take i)) (fun vs => match vs with | [.int _ j] => p.steps.length - j.toNat | _ => 0) ⟨0, by omega, by simp, rfl⟩ ?_
  rintro vs - ⟨j, hj, rfl, hq2⟩
  simp
  refine ⟨fun hlt2 => ?_, fun hge2 => ?_⟩
  ·have hw := zab (i := j) (by omega)
   simp [hlt2, Step.cells]
   refine call (zeW l im hi k hc.kl p.steps[j].s) (by simp [Lay.cells, Img.cells, Kern.cells, hlt2, Step.cells]) (by simp) ?_
   cases hf : zcY l im k p.steps[j].s
   ·simp
    refine zaj (avs := []) (steps (over l p.exit)) (by simp [AV.pure]) (fun hh => ?_) (by simp) ?_
    ·simp at hh
    ·simp [zjg (List.mem_append_left (over l p.exit) (List.getElem_mem hlt2)) hf]
   ·simp [hw]
    exact ⟨⟨j + 1, by omega, by omega, zah hlt2 hq2 (by simp [hf])⟩, by omega⟩
  ·have ht2 : p.steps.take j = p.steps := List.take_of_length_le (by omega)
   rw [ht2] at hq2
   refine call (zcI l hc.ov p.exit) (by simp [Lay.cells]) (by simp) ?_
   simp
   refine zaa rfl (fun vs => ∃ i : Nat, i ≤ (over l p.exit).length ∧ vs = [I i] ∧ zal (fun s : Step => !zcY l im k s.s) ((over l p.exit).take i)) (fun vs => match vs with | [.int _ j] => (over l p.exit).length - j.toNat | _ => 0) ⟨0, by omega, by simp, rfl⟩ ?_
   rintro vs - ⟨m, hm, rfl, hq3⟩
   simp
   refine ⟨fun hlt3 => ?_, fun hge3 => ?_⟩
   ·have hw := zab (i := m) (by omega)
    simp [hlt3, Step.cells]
    refine call (zeW l im hi k hc.kl (over l p.exit)[m].s) (by simp [Lay.cells, Img.cells, Kern.cells, hlt3, Step.cells]) (by simp) ?_
    cases hf : zcY l im k (over l p.exit)[m].s
    ·simp [zjg (List.mem_append_right p.steps (List.getElem_mem hlt3)) hf]
    ·simp [hw]
     exact ⟨⟨m + 1, by omega, by omega, zah hlt3 hq3 (by simp [hf])⟩, by omega⟩
   ·have ht3 : (over l p.exit).take m = over l p.exit := List.take_of_length_le (by omega)
    rw [ht3] at hq3
    refine call (zfp l hc.lo hc.ov hc.fl p hc.pl hc.ol) (by simp [Lay.cells, Path.cells]) (by simp) ?_
    simp
    refine zaa rfl (fun vs => ∃ i : Nat, i ≤ (zak l p).length ∧ vs = [I i] ∧ zal (fun n => !zbr l im k n) ((zak l p).take i)) (fun vs => match vs with | [.int _ j] => (zak l p).length - j.toNat | _ => 0) ⟨0, by omega, by simp, rfl⟩ ?_
    rintro vs - ⟨q, hqq, rfl, hq4⟩
    simp
    refine ⟨fun hlt4 => ?_, fun hge4 => ?_⟩
    ·have hw := zab (i := q) (by omega)
     simp [hlt4, Need.cells]
     refine call (zj7 l im hi k hc.kl (zak l p)[q]) (by simp [Lay.cells, Img.cells, Kern.cells, hlt4, Need.cells]) (by simp) ?_
     cases hf : zbr l im k (zak l p)[q]
     ·simp [zjf (List.getElem_mem hlt4) hf]
     ·simp [hw]
      exact ⟨⟨q + 1, by omega, by omega, zah hlt4 hq4 (by simp [hf])⟩, by omega⟩
    ·have ht4 : (zak l p).take q = zak l p := List.take_of_length_le (by omega)
     rw [ht4] at hq4
     rw [zmd hq1 hq2 hq3 hq4]
     by_cases h6 : 6 ≤ k.held.length
     ·have h6' : (6 : Int) ≤ k.held.length := by omega
      simp [h6, h6']
     ·have h6' : ¬ (6 : Int) ≤ k.held.length := by omega
      simp [h6, h6']
end Go.Lb.LK
namespace Go.Lb.LK
open Go Go.Lb Go.Proofs Go.RowKit
def zc7 (xs : List (List Need)) : Nat := (xs.map List.length).sum
theorem zdP (xs : List (List Need)) : xs.flatten.length = zc7 xs := by simp [zc7, List.length_flatten]
theorem zfv (xs : List (List Need)) {i : Nat} (h : i < xs.length) : (xs.take (i + 1)).flatten = (xs.take i).flatten ++ xs[i] := by
 rw [List.take_add_one, List.getElem?_eq_getElem h, List.flatten_append]; simp
theorem zh2 (xs : List (List Need)) {i : Nat} (h : i < xs.length) : zc7 (xs.take (i + 1)) = zc7 (xs.take i) + xs[i].length := by
 rw [← zdP, ← zdP, zfv xs h, List.length_append]
theorem zfP (xs : List (List Need)) (i : Nat) : zc7 (xs.take i) ≤ zc7 xs := by
 unfold zc7
 conv => rhs; rw [← List.take_append_drop i xs, List.map_append, List.sum_append]
 omega
theorem zd8 (xs : List (List Need)) (hx : xs.length ≤ 1000000) (ht : zc7 xs ≤ 1000000000) : C f_slices_Concat_Need [.sl (xs.map needs)] (needs xs.flatten) := by
 refine ctr [.sl (xs.map needs)] run_slices_Concat_Need rfl (by simp [AV.pureAll, AV.pure, zaV needs (fun x => by simp [AV.pure])]) (by simp only [AV.pure]; exact zm6 _) ?_ rfl
 unfold rt_slices_Concat_Need
 simp
 refine zaa rfl (fun vs => ∃ i : Nat, i ≤ xs.length ∧ vs = [I (zc7 (xs.take i)), I i]) (fun vs => match vs with | [_, .int _ j] => xs.length - j.toNat | _ => 0) ⟨0, by simp, by simp [zc7]⟩ ?_
 rintro vs - ⟨i, hi, rfl⟩
 have hti := zfP xs i
 simp
 refine ⟨fun hlt => ?_, fun hge => ?_⟩
 ·have hw := zab (i := i) (by omega)
  have ht1 := zh2 xs hlt
  have ht2 := zfP xs (i + 1)
  have hw2 : IntKind.i64.wrap ((zc7 (xs.take i) : Int) + xs[i].length) = (zc7 (xs.take (i + 1)) : Int) := by rw [zbB] <;> omega
  simp [hlt, hw2]
  exact ⟨⟨i + 1, by omega, rfl, hw⟩, by rw [hw]; omega⟩
 ·have hti : xs.take i = xs := List.take_of_length_le hge
  have w0 : IntKind.i64.wrap 0 = 0 := by decide
  have wt : IntKind.i64.wrap (zc7 xs : Int) = zc7 xs := by rw [zbB] <;> omega
  simp [hti, w0, wt]
  refine ⟨fun hpos => ⟨by omega, ?_⟩, fun hz => ?_⟩
  all_goals
   refine zaa rfl (fun vs => ∃ i : Nat, i ≤ xs.length ∧ vs = [needs (xs.take i).flatten, I i]) (fun vs => match vs with | [_, .int _ j] => xs.length - j.toNat | _ => 0) ⟨0, by simp, by simp⟩ ?_
   rintro vs - ⟨j, hj, rfl⟩
   have htj := zfP xs j
   rw [← zdP] at htj
   simp only [zaL, List.cons_append, List.nil_append]
   have hfl := fun h => zfv xs (i := j) h
   generalize hcur : (xs.take j).flatten = cur at htj hfl ⊢
   simp
   refine ⟨fun hlt => ?_, fun hge => ?_⟩
   ·have hw := zab (i := j) (by omega)
    have ht1 := zh2 xs hlt
    have ht2 := zfP xs (j + 1)
    rw [← zdP (xs.take j), hcur] at ht1
    simp [hlt]
    refine ⟨fun x _ => by simp [Need.cells], by omega, ⟨j + 1, by omega, ?_, hw⟩, by rw [hw]; omega⟩
    have := congrArg (List.map Need.av) (hfl hlt)
    simpa using this.symm
   ·have : xs.take j = xs := List.take_of_length_le hge
    simp [← hcur, this]
def atN (a : List Need) (p : Int) : Int × Bool := match a.find? (fun x => decide (x.p = p)) with
 | some x => (x.pos, true)
 | none => (0, false)
theorem zmY {α : Type} {q : α → Bool} {l : List α} {i : Nat} (h : ∀ x ∈ l.take i, q x = false) (hi : i < l.length) (hq : q l[i] = true) : l.find? q = some l[i] := by
 conv => lhs; rw [← List.take_append_drop i l]
 rw [List.find?_append, List.find?_eq_none.2 (fun x hx => by rw [h x hx]; simp), Option.none_or, List.drop_eq_getElem_cons hi, List.find?_cons, hq]
theorem ziJ {α : Type} {q : α → Bool} {l : List α} {i : Nat} (h : ∀ x ∈ l.take i, q x = false) (hi : i < l.length) (hq : q l[i] = false) : ∀ x ∈ l.take (i + 1), q x = false := by
 intro x hx
 rw [List.take_add_one, List.getElem?_eq_getElem hi] at hx
 rcases List.mem_append.1 hx with hx | hx
 ·exact h x hx
 ·simp at hx; subst hx; exact hq
theorem zny (a : List Need) (ha : a.length ≤ 1000000000) (p : Int) : C f_need_At [needs a, I p] (ib (atN a p)) := by
 refine ctr [needs a, I p] run_need_At rfl (by simp [AV.pureAll, AV.pure]) rfl ?_ rfl
 unfold rt_need_At
 simp
 refine zaa rfl (fun vs => ∃ i : Nat, i ≤ a.length ∧ vs = [I i] ∧ ∀ x ∈ a.take i, decide (x.p = p) = false) (fun vs => match vs with | [.int _ j] => a.length - j.toNat | _ => 0) ⟨0, by simp⟩ ?_
 rintro vs - ⟨i, hi, rfl, hno⟩
 simp
 refine ⟨fun hlt => ?_, fun hge => ?_⟩
 ·have hw := zab (i := i) (by omega)
  simp [hlt, Need.cells]
  by_cases hq : a[i].p = p
  ·have := zmY hno hlt (by simp [hq])
   refine .inr ⟨hq, ?_⟩
   simp [atN, this]
  ·refine .inl ⟨hq, ⟨i + 1, by omega, hw, ?_⟩, by rw [hw]; omega⟩
   have := ziJ hno hlt (by simp [hq])
   intro x hx
   simpa using this x hx
 ·have hti : a.take i = a := List.take_of_length_le hge
  rw [hti] at hno
  have : a.find? (fun x => decide (x.p = p)) = none := List.find?_eq_none.2 (fun x hx => by rw [hno x hx]; simp)
  simp [atN, this]
def zpC (c : List Need) : Bool := c.any fun x => decide ((atN c x.p).1 ≠ x.pos)
theorem zkc (a : List Need) (ha : a.length ≤ 100000000) : C f_need_Clash [needs a, .sl []] (.bool (zpC a)) := by
 refine ctr [needs a, .sl []] run_need_Clash rfl (by simp [AV.pureAll, AV.pure]) rfl ?_ rfl
 unfold rt_need_Clash
 simp
 refine call (zd8 [a, []] (by simp) (by simp [zc7]; omega)) (by simp) (by simp) ?_
 simp
 refine zaa rfl (fun vs => ∃ i : Nat, i ≤ a.length ∧ vs = [I i] ∧ ∀ x ∈ a.take i, decide ((atN a x.p).1 ≠ x.pos) = false) (fun vs => match vs with | [.int _ j] => a.length - j.toNat | _ => 0) ⟨0, by simp⟩ ?_
 rintro vs - ⟨i, hi, rfl, hno⟩
 simp
 refine ⟨fun hlt => ?_, fun hge => ?_⟩
 ·have hw := zab (i := i) (by omega)
  simp [hlt, Need.cells]
  refine call (zny a (by omega) a[i].p) (by simp [hlt, Need.cells]) (by simp) ?_
  simp [hlt, Need.cells]
  refine ⟨fun hne => ?_, fun heq => ⟨⟨i + 1, by omega, hw, fun x hx => ?_⟩, by rw [hw]; omega⟩⟩
  ·exact List.any_eq_true.2 ⟨a[i], List.getElem_mem hlt, decide_eq_true hne⟩
  ·have := ziJ hno hlt (by simp [heq]) x hx
   simpa using this
 ·have hti : a.take i = a := List.take_of_length_le hge
  rw [hti] at hno
  exact List.any_eq_false.2 fun x hx => by rw [hno x hx]; simp
theorem zlC (c : List Need) : zcq c = true ↔ ∃ i k, ∃ hi : i < k, ∃ hk : k < c.length, c[i].p = c[k].p ∧ c[i].pos ≠ c[k].pos := by
 unfold zcq
 rw [List.any_eq_true]
 constructor
 ·rintro ⟨k, hk, h⟩
  have hk := List.mem_range.1 hk
  simp only [ze1, List.getElem?_eq_getElem hk, List.any_eq_true] at h
  obtain ⟨y, hy, hb⟩ := h
  obtain ⟨i, hi, rfl⟩ := List.mem_iff_getElem.1 hy
  rw [List.length_take] at hi
  simp only [both, List.getElem_take, Bool.and_eq_true, decide_eq_true_eq, Bool.not_eq_true', decide_eq_false_iff_not] at hb
  exact ⟨i, k, by omega, hk, hb.1.symm, fun e => hb.2 e.symm⟩
 ·rintro ⟨i, k, hi, hk, h1, h2⟩
  refine ⟨k, List.mem_range.2 hk, ?_⟩
  simp only [ze1, List.getElem?_eq_getElem hk, List.any_eq_true]
  refine ⟨c[i], List.mem_iff_getElem.2 ⟨i, by rw [List.length_take]; omega, by simp⟩, ?_⟩
  have h3 : ¬ c[k].pos = c[i].pos := fun e => h2 e.symm
  simp [both, h1, h3]
theorem zhe {c : List Need} {x : Need} (hx : x ∈ c) : ∃ i, ∃ hi : i < c.length, c[i].p = x.p ∧ (atN c x.p).1 = c[i].pos ∧ ∀ j, ∀ hj : j < i, c[j].p ≠ x.p := by
 have hs : (c.find? (fun y => decide (y.p = x.p))).isSome := by
  rw [List.find?_isSome]; exact ⟨x, hx, by simp⟩
 obtain ⟨y, hy⟩ := Option.isSome_iff_exists.1 hs
 obtain ⟨h1, us, vs, h2, h3⟩ := List.find?_eq_some_iff_append.1 hy
 refine ⟨us.length, by rw [h2]; simp, ?_, ?_, ?_⟩
 ·simp only [h2]; simpa using h1
 ·simp only [atN, hy]; simp [h2]
 ·intro j hj
  have hm : us[j] ∈ us := List.getElem_mem hj
  have := h3 _ hm
  simp only [h2]
  rw [List.getElem_append_left hj]
  simpa using this
theorem znT (c : List Need) : zpC c = zcq c := by
 apply Bool.eq_iff_iff.2
 rw [zlC]
 constructor
 ·intro h
  obtain ⟨x, hx, hn⟩ := List.any_eq_true.1 h
  have hn := of_decide_eq_true hn
  obtain ⟨i, hi, h1, h2, h3⟩ := zhe hx
  obtain ⟨k, hk, rfl⟩ := List.mem_iff_getElem.1 hx
  rw [h2] at hn
  have hik : i < k := by
   rcases Nat.lt_trichotomy i k with h | h | h
   ·exact h
   ·subst h; exact absurd rfl hn
   ·exact absurd rfl (h3 k h)
  exact ⟨i, k, hik, hk, h1, hn⟩
 ·rintro ⟨i, k, hi, hk, h1, h2⟩
  obtain ⟨m, hm, e1, e2, _⟩ := zhe (List.getElem_mem hk)
  by_cases hp : c[m].pos = c[k].pos
  ·obtain ⟨m', hm', f1, f2, _⟩ := zhe (c := c) (x := c[i]) (List.getElem_mem (by omega))
   refine List.any_eq_true.2 ⟨c[i], List.getElem_mem (by omega), decide_eq_true ?_⟩
   have : (atN c c[i].p).1 = (atN c c[k].p).1 := by rw [h1]
   rw [this, e2, hp]; exact fun e => h2 e.symm
  ·exact List.any_eq_true.2 ⟨c[k], List.getElem_mem hk, decide_eq_true (by rw [e2]; exact hp)⟩
theorem zli (l : Lay) (hl : l.ok) (ho : l.ovOk) (hf : l.flanks.length ≤ 1000) (p : Path) (hp : p.steps.length ≤ 1000) (hov : (over l p.exit).length ≤ 1000) (hn : (zak l p).length ≤ 100000000) : C f_need_Fine [l.av, p.av] (.bool (!zcq (zak l p))) := by
 refine ctr (l.cells ++ p.cells) run_need_Fine rfl (by simp [zac, AV.pureAll, AV.pure]) rfl ?_ rfl
 unfold rt_need_Fine
 simp [Lay.cells, Path.cells]
 refine call (zfp l hl ho hf p hp hov) (by simp [Lay.cells, Path.cells]) (by simp) ?_
 simp
 refine call (zkc (zak l p) hn) (by simp) (by simp) ?_
 simp [znT]
end Go.Lb.LK
namespace Go.Lb.LK
open Go Go.Lb Go.Proofs Go.RowKit
set_option maxHeartbeats 2000000 in
theorem zoW (l : Lay) (im : Img) (hi : im.ok) (k : Kern) (p : Path) (hc : CanOk l k p) : C f_lockbarref18_Can [l.av, im.av, k.av, p.av] (I (canN l im k p)) := by
 have hk1 := hc.kl.1
 have hp1 := hc.pl
 have ho1 := hc.ol
 have hn1 := zcc hc
 refine ctr (l.cells ++ im.cells ++ k.cells ++ p.cells) run_lockbarref18_Can rfl (likp l im k p) rfl ?_ rfl
 unfold rt_lockbarref18_Can
 simp [Lay.cells, Img.cells, Kern.cells, Path.cells]
 refine zaa rfl (fun vs => ∃ i : Nat, i ≤ k.held.length ∧ vs = [I i] ∧ zal (zbP p) (k.held.take i)) (fun vs => match vs with | [.int _ j] => k.held.length - j.toNat | _ => 0) ⟨0, by omega, by simp, rfl⟩ ?_
 rintro vs - ⟨i, hii, rfl, hq1⟩
 simp
 refine ⟨fun hlt => ?_, fun hge => ?_⟩
 ·have hw := zab (i := i) (by omega)
  cases hs : zbP p k.held[i]
  ·have hs2 : k.held[i].path.sig = p.sig → k.held[i].stage = 3 := by
    intro h; simpa [zbP, h] using hs
   simp [hlt, Hd.cells, hw]
   left
   exact ⟨hs2, ⟨i + 1, by omega, by omega, zah hlt hq1 hs⟩, by omega⟩
  ·have hs2 : k.held[i].path.sig = p.sig ∧ ¬ k.held[i].stage = 3 := by simpa [zbP] using hs
   simp [hlt, Hd.cells, hw, hs2.1, hs2.2, znQ (l := l) (im := im) (zbj hlt hs)]
 ·have ht : k.held.take i = k.held := List.take_of_length_le (by omega)
  rw [ht] at hq1
  have hst : ∀ x : Step, x.cells.length = 3 ∧ AV.ones x.cells = true := fun x => by simp [Step.cells]
  refine ⟨fun x _ => hst x, by omega, ?_⟩
  refine call (zfX l hc.ov p.exit) (by simp [Lay.cells]) (by simp) ?_
  simp
  refine ⟨fun x _ => hst x, by omega, ?_⟩
  generalize hall : p.steps ++ over l p.exit = all
  have hmap : List.map Step.av p.steps ++ List.map Step.av (over l p.exit) = all.map Step.av := by rw [← hall, List.map_append]
  have hlen : all.length = p.steps.length + (over l p.exit).length := by rw [← hall]; simp
  refine zaa rfl (fun vs => ∃ i : Nat, i ≤ all.length ∧ vs = [I i] ∧ zal (fun s : Step => !zcY l im k s.s) (all.take i)) (fun vs => match vs with | [.int _ j] => all.length - j.toNat | _ => 0) ⟨0, by omega, by simp, rfl⟩ ?_
  rintro vs - ⟨j, hj, rfl, hq2⟩
  simp [hmap, ← hlen]
  refine ⟨fun hlt2 => ?_, fun hge2 => ?_⟩
  ·have hw := zab (i := j) (by omega)
   simp [hmap, hlt2, Step.cells]
   repeat refine And.intro (by omega) ?_
   refine call (zkj l im hi k hc.kl all[j].s) (by simp [Lay.cells, Img.cells, Kern.cells, hmap, hlt2, Step.cells]) (by simp) ?_
   cases hf : zcY l im k all[j].s
   ·have : canN l im k p = 190 := zjg (s := all[j]) (by rw [hall]; exact List.getElem_mem hlt2) hf
    simp [this]
   ·simp [hw]
    exact ⟨⟨j + 1, by omega, by omega, zah hlt2 hq2 (by simp [hf])⟩, by omega⟩
  ·have ht2 : all.take j = all := List.take_of_length_le (by omega)
   rw [ht2] at hq2
   have hq23 : zal (fun s : Step => !zcY l im k s.s) p.steps ∧ zal (fun s : Step => !zcY l im k s.s) (over l p.exit) := by
    unfold zal at hq2 ⊢
    rw [← hall, List.any_append, Bool.or_eq_false_iff] at hq2
    exact hq2
   refine call (zjb l hc.ov hc.fl p hc.pl hc.ol) (by simp [Lay.cells, Path.cells]) (by simp) ?_
   simp
   refine zaa rfl (fun vs => ∃ i : Nat, i ≤ (zak l p).length ∧ vs = [I i] ∧ zal (fun n => !zbr l im k n) ((zak l p).take i)) (fun vs => match vs with | [.int _ j] => (zak l p).length - j.toNat | _ => 0) ⟨0, by omega, by simp, rfl⟩ ?_
   rintro vs - ⟨q, hqq, rfl, hq4⟩
   simp
   refine ⟨fun hlt4 => ?_, fun hge4 => ?_⟩
   ·have hw := zab (i := q) (by omega)
    simp [hlt4, Need.cells]
    refine call (zmR l im hi k hc.kl (zak l p)[q]) (by simp [Lay.cells, Img.cells, Kern.cells, hlt4, Need.cells]) (by simp) ?_
    cases hf : zbr l im k (zak l p)[q]
    ·simp [zjf (List.getElem_mem hlt4) hf]
    ·simp [hw]
     exact ⟨⟨q + 1, by omega, by omega, zah hlt4 hq4 (by simp [hf])⟩, by omega⟩
   ·have ht4 : (zak l p).take q = zak l p := List.take_of_length_le (by omega)
    rw [ht4] at hq4
    rw [zmd hq1 hq23.1 hq23.2 hq4]
    by_cases h6 : 6 ≤ k.held.length
    ·have h6' : (6 : Int) ≤ k.held.length := by omega
     simp [h6, h6']
    ·have h6' : ¬ (6 : Int) ≤ k.held.length := by omega
     simp [h6, h6']
end Go.Lb.LK
namespace Go.Lb.LK
open Go Go.Lb Go.Proofs Go.RowKit
def znd : Kern := ⟨1, [], fun _ => -1, fun _ => 0, fun _ => false⟩
def zm8 : Port := ⟨-1, 0⟩
def zkG : Lay := ⟨[⟨1, zm8, ⟨1, 0⟩, zm8, zm8, 0, 0⟩, ⟨1, ⟨0, 1⟩, zm8, zm8, zm8, 0, 0⟩], [⟨0, 0⟩], [⟨⟨0, 1⟩, [⟨1, 0, 1⟩]⟩], [], 1, 1, 9, 1, 1, 1, 1⟩
def im18 : Img := zoH zkG zgW 0 0 0 0
end Go.Lb.LK
namespace Go.Lb.LK
open Go Go.Lb Go.Proofs Go.RowKit
end Go.Lb.LK
namespace Go.Lb.LK
open Go Go.Lb Go.Proofs Go.RowKit
def zg6 (a b : Kern) : Bool := AV.eqs (zaz a.want a.run a.fail) (zaz b.want b.run b.fail)
def zeU (a b : List Hd) : Bool := (List.zipWith zgl a b).all id
def zlU (a b : Kern) : Bool := decide (a.held.length = b.held.length) && (zeU a.held b.held && (decide (a.next = b.next) && zg6 a b))
theorem zjz (a : Kern) : zg6 a a = true := by
 unfold zg6 zaz
 simp [AV.eqs, AV.eq1]
theorem zj6 : ∀ l : List Hd, zeU l l = true
 | [] => rfl
 | x :: l => by simp [zeU, zgm]
theorem zni (a : Kern) : zlU a a = true := by simp [zlU, zjz, zj6]
theorem kk (a b : Kern) : AV.pureAll (a.cells ++ b.cells) = true := by simp [zac]
theorem zrO {a b : List Hd} {i : Nat} (h1 : i < a.length) (h2 : i < b.length) : (List.zipWith zgl a b)[i]'(by simp; omega) = zgl a[i] b[i] := by simp
theorem zkK (a b : Kern) : AV.eqs (zaz a.want a.run a.fail) (zaz b.want b.run b.fail) = zg6 a b := rfl
set_option maxHeartbeats 1000000 in
theorem znJ (a b : Kern) (ha : a.len) : C f_lockbarref18_Same [a.av, b.av] (.bool (zlU a b)) := by
 have h1 := ha.1
 have hm := zkK a b
 simp only [zaz] at hm
 refine ctr (a.cells ++ b.cells) run_lockbarref18_Same rfl (kk a b) rfl ?_ rfl
 unfold rt_lockbarref18_Same
 simp [Kern.cells, -AV.eqs]
 by_cases hl : a.held.length = b.held.length
 ·simp [hl, -AV.eqs]
  refine zaa rfl (fun vs => ∃ i : Nat, i ≤ a.held.length ∧ vs = [I i] ∧ zal (fun x => !x) ((List.zipWith zgl a.held b.held).take i)) (fun vs => match vs with | [.int _ j] => a.held.length - j.toNat | _ => 0) ⟨0, by simp, by simp, rfl⟩ ?_
  rintro vs - ⟨i, hi, rfl, hq⟩
  simp [-AV.eqs]
  refine ⟨fun hlt => ?_, fun hge => ?_⟩
  ·have hlt2 : i < b.held.length := by omega
   have hw := zab (i := i) (by omega)
   have hz := zrO hlt hlt2
   simp [hlt, hlt2, Hd.cells, -AV.eqs]
   refine call (zhn a.held[i] b.held[i] (a.at ha hlt)) (by simp [hlt, hlt2, Hd.cells]) (by simp) ?_
   cases hs : zgl a.held[i] b.held[i]
   ·have : zeU a.held b.held = false := by
     unfold zeU
     rw [List.all_eq_false]
     exact ⟨(List.zipWith zgl a.held b.held)[i]'(by simp; omega), List.getElem_mem _, by rw [hz, hs]; simp⟩
    simp [zlU, this, -AV.eqs]
   ·simp [hw, -AV.eqs]
    exact ⟨⟨i + 1, by omega, by omega, zah (i := i) (l := List.zipWith zgl a.held b.held) (by simp; omega) hq (by rw [hz, hs]; rfl)⟩, by omega⟩
  ·have ht : (List.zipWith zgl a.held b.held).take i = List.zipWith zgl a.held b.held := List.take_of_length_le (by simp; omega)
   rw [ht] at hq
   have hall : zeU a.held b.held = true := by
    unfold zeU
    unfold zal at hq
    rw [List.all_eq_true]
    intro x hx
    have := List.any_eq_false.1 hq x hx
    simpa using this
   simp [hm, zlU, hl, hall, -AV.eqs]
 ·have hl2 : ¬ (a.held.length : Int) = b.held.length := by omega
  simp [hl, zlU, -AV.eqs]
  exact fun h => absurd h hl2
end Go.Lb.LK
