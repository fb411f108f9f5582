/- The document's ways, sections. -/
/- The document's layout. -/
/- The document's layout, whole; great ones. -/
/- Needs: joined, where a point is wanted, whether they clash, points, the same. -/
/- Chapter 13: what the document says of 3 at 0 and 1. -/
/- Chapter 13: clashes, points: the plain law. -/
/- Chapter 13: NeedClash, of pure values. -/
import Derived.Test.YtlohmpcoffenjaaDoorCh3
set_option linter.unusedSimpArgs false
set_option linter.unusedVariables false
namespace Go.Lb.LK
open Go Go.Lb Go.Proofs Go.RowKit

def ways (k : Int) : Int := if k = 1 then 1 else if k = 2 then 2 else if k = 3 then 2 else 0
def ports (k : Int) : Int := if k = 1 then 2 else if k = 2 then 3 else if k = 3 then 4 else 0
theorem c_r05_Ways (k : Int) : C f_lockbarref05_Ways [U k] (I (ways k)) := by
  refine ctr [U k] run_lockbarref05_Ways rfl rfl rfl ?_ rfl
  unfold rt_lockbarref05_Ways
  by_cases h1 : k = 1
  · simp [h1, ways]
  · by_cases h2 : k = 2
    · simp [h2, ways]
    · by_cases h3 : k = 3
      · simp [h3, ways]
      · simp [h1, h2, h3, ways]
theorem c_r05_Ports (k : Int) : C f_lockbarref05_Ports [U k] (I (ports k)) := by
  refine ctr [U k] run_lockbarref05_Ports rfl rfl rfl ?_ rfl
  unfold rt_lockbarref05_Ports
  by_cases h1 : k = 1
  · simp [h1, ports]
  · by_cases h2 : k = 2
    · simp [h2, ports]
    · by_cases h3 : k = 3
      · simp [h3, ports]
      · simp [h1, h2, h3, ports]
def ends (k w : Int) : Int × Int × Bool := if w < 0 ∨ w ≥ ways k then (0, 0, false) else if w = 0 then (0, 1, true) else if k = 2 then (0, 2, true) else (2, 3, true)
theorem c_r05_Ends (k w : Int) : C f_lockbarref05_Ends [U k, I w] (iib (ends k w)) := by
  refine ctr [U k, I w] run_lockbarref05_Ends rfl rfl rfl ?_ rfl
  unfold rt_lockbarref05_Ends
  simp
  refine callIf (I (ways k)) rfl (fun _ => ⟨by simp, c_r05_Ways k⟩) (by simp) ?_
  by_cases h0 : w < 0
  · simp [h0, ends]
  · by_cases h1 : ways k ≤ w
    · simp [h0, h1, ends]
    · by_cases h2 : w = 0
      · subst h2; simp [h1, ends]
      · by_cases h3 : k = 2
        · subst h3; simp [h0, h1, h2, ends]
        · simp [h0, h1, h2, h3, ends]
theorem ways_le (k : Int) : 0 ≤ ways k ∧ ways k ≤ 2 := by unfold ways; split <;> (try split) <;> (try split) <;> omega

theorem c_r05_Way (k i o : Int) : C f_lockbarref05_Way [U k, I i, I o] (ib (way k i o)) := by
  refine ctr [U k, I i, I o] run_lockbarref05_Way rfl rfl rfl ?_ rfl
  unfold rt_lockbarref05_Way
  have hw := ways_le k
  refine RTwp_loop rfl (fun vs => ∃ j : Nat, (j : Int) ≤ 2 ∧ vs = [I j] ∧ (1 ≤ j → 1 ≤ ways k → ¬ (i = 0 ∧ o = 1 ∨ i = 1 ∧ o = 0)) ∧ (2 ≤ j → k = 2 → ¬ (i = 0 ∧ o = 2 ∨ i = 2 ∧ o = 0)) ∧ (2 ≤ j → k = 3 → ¬ (i = 2 ∧ o = 3 ∨ i = 3 ∧ o = 2)) ∧ (j : Int) ≤ ways k)
    (fun vs => match vs with | [.int _ j] => 3 - j.toNat | _ => 0) ⟨0, by simp, by simp, by omega, by omega, by omega, by simp; omega⟩ ?_
  rintro vs - ⟨j, hj, rfl, a1, a2, a3, a4⟩
  simp
  refine call (c_r05_Ways k) (by simp) (by simp) ?_
  simp
  refine ⟨fun hlt => ?_, fun hge => ?_⟩
  · refine call (c_r05_Ends k j) (by simp) (by simp) ?_
    simp
    have hk : k = 1 ∨ k = 2 ∨ k = 3 := by
      unfold ways at hlt
      split at hlt
      · exact .inl ‹_›
      · split at hlt
        · exact .inr (.inl ‹_›)
        · split at hlt
          · exact .inr (.inr ‹_›)
          · omega
    have hj2 : j = 0 ∨ j = 1 := by omega
    rcases hj2 with rfl | rfl
    · have he : ends k ((0 : Nat) : Int) = (0, 1, true) := by
        unfold ends
        rw [if_neg (by simp; omega)]; rfl
      rw [he]
      simp only [Int.natCast_zero, Int.zero_add, w1]
      by_cases c1 : i = 0 ∧ o = 1 ∨ i = 1 ∧ o = 0
      · have hwy : way k i o = (0, true) := by unfold way; rw [if_pos ⟨by omega, c1⟩]
        rw [hwy]
        exact ⟨fun _ => ⟨rfl, rfl⟩, fun h1 h2 => absurd c1 (by omega)⟩
      · refine ⟨fun h => absurd h (by omega), fun h1 h2 => ⟨⟨1, by omega, rfl, fun _ _ => by omega, fun h => by omega, fun h => by omega, by simp; omega⟩, by decide⟩⟩
    · have hk2 : k = 2 ∨ k = 3 := by
        rcases hk with rfl | h
        · simp [ways] at hlt
        · exact h
      have n1 := a1 (by omega) (by omega)
      have wj : IntKind.i64.wrap (((1 : Nat) : Int) + 1) = 2 := by decide
      rw [wj]
      rcases hk2 with rfl | rfl
      · have he : ends 2 ((1 : Nat) : Int) = (0, 2, true) := rfl
        rw [he]
        by_cases c1 : i = 0 ∧ o = 2 ∨ i = 2 ∧ o = 0
        · have hwy : way 2 i o = (1, true) := by unfold way; rw [if_neg (fun h => n1 h.2), if_pos ⟨rfl, c1⟩]
          rw [hwy]
          exact ⟨fun _ => ⟨rfl, rfl⟩, fun h1 h2 => absurd c1 (by dsimp only at h1 h2; omega)⟩
        · refine ⟨fun h => absurd h (by dsimp only; omega), fun h1 h2 => ⟨⟨2, by omega, rfl, fun _ _ => by omega, fun _ _ => by omega, fun _ h => by omega, by decide⟩, by decide⟩⟩
      · have he : ends 3 ((1 : Nat) : Int) = (2, 3, true) := rfl
        rw [he]
        by_cases c1 : i = 2 ∧ o = 3 ∨ i = 3 ∧ o = 2
        · have hwy : way 3 i o = (1, true) := by unfold way; rw [if_neg (fun h => n1 h.2), if_neg (fun h => by omega), if_pos ⟨rfl, c1⟩]
          rw [hwy]
          exact ⟨fun _ => ⟨rfl, rfl⟩, fun h1 h2 => absurd c1 (by dsimp only at h1 h2; omega)⟩
        · refine ⟨fun h => absurd h (by dsimp only; omega), fun h1 h2 => ⟨⟨2, by omega, rfl, fun _ _ => by omega, fun _ h => by omega, fun _ _ => by omega, by decide⟩, by decide⟩⟩
  · have hwy : way k i o = (0, false) := by
      have hjw : (j : Int) = ways k := by omega
      unfold way
      rw [if_neg, if_neg, if_neg]
      · rintro ⟨rfl, h⟩
        have : (j : Int) = 2 := hjw
        exact a3 (by omega) rfl h
      · rintro ⟨rfl, h⟩
        have : (j : Int) = 2 := hjw
        exact a2 (by omega) rfl h
      · rintro ⟨hk, h⟩
        have h1 : 1 ≤ ways k := by rcases hk with rfl | rfl | rfl <;> decide
        exact a1 (by omega) h1 h
    rw [hwy]
    exact ⟨rfl, rfl⟩

/-! ### The document's sections -/
def may (p : Port) : Bool := (decide (p.s = -1) && decide (p.p = 0)) || (decide (0 ≤ p.s) && decide (p.s < 24) && decide (0 ≤ p.p) && decide (p.p < 4))
theorem c_r05_May (p : Port) : C f_lockbarref05_May [p.av] (.bool (may p)) := by
  refine ctr p.cells run_lockbarref05_May rfl (by simp) rfl ?_ rfl
  unfold rt_lockbarref05_May
  simp [Port.cells]
  rfl

def jn (s : Sec) : Nat → Port
  | 0 => s.j0
  | 1 => s.j1
  | 2 => s.j2
  | _ => s.j3
def none7 (p : Port) : Bool := decide (p.s = -1) && decide (p.p = 0)
def badJ (s : Sec) (i : Nat) : Bool := (decide ((i : Int) < ports s.kind) && !may (jn s i)) || (decide (ports s.kind ≤ (i : Int)) && !none7 (jn s i))
def cl (s : Sec) : Nat → Int
  | 0 => s.c0
  | _ => s.c1
def badC (s : Sec) (i : Nat) : Bool := decide (cl s i < 0) || decide (3 < cl s i) || (decide (ways s.kind ≤ (i : Int)) && decide (cl s i ≠ 0))
def right5 (s : Sec) : Bool := !badJ s 0 && !badJ s 1 && !badJ s 2 && !badJ s 3 && !badC s 0 && !badC s 1 && decide (0 < ports s.kind)

theorem c_r05_Right (s : Sec) : C f_lockbarref05_Right [s.av] (.bool (right5 s)) := by
  refine ctr s.cells run_lockbarref05_Right rfl (by simp) rfl ?_ rfl
  unfold rt_lockbarref05_Right
  simp [Sec.cells]
  refine RTwp_loop rfl (fun vs => ∃ j : Nat, j ≤ 4 ∧ vs = [I j] ∧ ∀ m, m < j → badJ s m = false) (fun vs => match vs with | [.int _ j] => 4 - j.toNat | _ => 0) ⟨0, by simp⟩ ?_
  rintro vs - ⟨j, hj, rfl, hprev⟩
  simp
  refine ⟨fun hlt => ?_, fun hge => ?_⟩
  · have hlt : j < 4 := by omega
    have hw := wrap_succ (i := j) (by omega)
    have hcut : AV.cut s.cells (j * 2 + 1) 2 true = (jn s j).av := by
      rcases (show j = 0 ∨ j = 1 ∨ j = 2 ∨ j = 3 by omega) with rfl | rfl | rfl | rfl <;> simp [Sec.cells, jn, Port.cells]
    have hnext : badJ s j = false → ∀ m, m < j + 1 → badJ s m = false := fun h m hm => by
      rcases Nat.lt_or_ge m j with h2 | h2
      · exact hprev m h2
      · have : m = j := by omega
        subst this; exact h
    have hbad : badJ s j = true → right5 s = false := by
      intro h
      rcases (show j = 0 ∨ j = 1 ∨ j = 2 ∨ j = 3 by omega) with rfl | rfl | rfl | rfl <;> simp [right5, h]
    clear hprev hcut
    have hb : badJ s j = ((decide ((j : Int) < ports s.kind) && !may (jn s j)) || (decide (ports s.kind ≤ (j : Int)) && !none7 (jn s j))) := rfl
    generalize hq : jn s j = q at hb
    refine call (c_r05_Ports s.kind) (by simp) (by simp) ?_
    rcases (show j = 0 ∨ j = 1 ∨ j = 2 ∨ j = 3 by omega) with rfl | rfl | rfl | rfl
    all_goals
      simp
      refine callIf (.bool (may q)) rfl (fun _ => ⟨by simp [← hq, jn, Port.cells], c_r05_May q⟩) (by simp) ?_
      simp
      refine callIf (I (ports s.kind)) rfl (fun _ => ⟨by simp, c_r05_Ports s.kind⟩) (by simp) ?_
      simp
      simp only [jn] at hq
      subst hq
      have w3 : IntKind.i64.wrap 3 = 3 := by decide
      have w4 : IntKind.i64.wrap 4 = 4 := by decide
      refine ⟨fun h => hbad ?_, fun h1 h2 => ⟨⟨_, ?_, by first | exact w1 | exact w2 | exact w3 | exact w4, hnext ?_⟩, by simp [w1, w2, w3, w4]⟩⟩
      · rw [hb]
        simp [none7]
        exact h
      · omega
      · rw [hb]
        simp [none7]
        exact ⟨h1, h2⟩
  · have hj : j = 4 := by omega
    subst hj
    have p0 := hprev 0 (by omega)
    have p1 := hprev 1 (by omega)
    have p2 := hprev 2 (by omega)
    have p3 := hprev 3 (by omega)
    have hr : right5 s = (!badC s 0 && !badC s 1 && decide (0 < ports s.kind)) := by simp [right5, p0, p1, p2, p3]
    rw [hr]
    clear hr p0 p1 p2 p3 hprev
    refine RTwp_loop rfl (fun vs => vs = [I 0] ∨ vs = [I 1] ∧ badC s 0 = false ∨ vs = [I 2] ∧ badC s 0 = false ∧ badC s 1 = false) (fun vs => match vs with | [.int _ j] => 3 - j.toNat | _ => 0) (.inl rfl) ?_
    rintro vs - (rfl | ⟨rfl, h0⟩ | ⟨rfl, h0, h1⟩)
    · simp
      refine callIf (I (ways s.kind)) rfl (fun _ => ⟨by simp, c_r05_Ways s.kind⟩) (by simp) ?_
      simp
      refine ⟨fun h h0 => ?_, fun a b c => ⟨.inr (.inl ⟨w1, ?_⟩), by rw [w1]; decide⟩⟩
      · have : badC s 0 = true := by simp [badC, cl]; exact h
        rw [h0] at this; cases this
      · simp [badC, cl]
        exact ⟨⟨a, b⟩, c⟩
    · simp
      refine callIf (I (ways s.kind)) rfl (fun _ => ⟨by simp, c_r05_Ways s.kind⟩) (by simp) ?_
      simp
      refine ⟨fun h _ h1 => ?_, fun a b c => ⟨.inr (.inr ⟨w2, h0, ?_⟩), by rw [w2]; decide⟩⟩
      · have : badC s 1 = true := by simp [badC, cl]; exact h
        rw [h1] at this; cases this
      · simp [badC, cl]
        exact ⟨⟨a, b⟩, c⟩
    · simp
      refine call (c_r05_Ports s.kind) (by simp) (by simp) ?_
      simp [h0, h1]
end Go.Lb.LK

namespace Go.Lb.LK
open Go Go.Lb Go.Proofs Go.RowKit

def sec0 : Sec := ⟨0, ⟨0, 0⟩, ⟨0, 0⟩, ⟨0, 0⟩, ⟨0, 0⟩, 0, 0⟩
def at6 (l : Lay) (p : Port) : Option Sec := match secAt l p.s with
  | some x => if 0 ≤ p.p ∧ p.p < ports x.kind then some x else none
  | none => none
def there6 (l : Lay) (p : Port) : Bool := (at6 l p).isSome
theorem c_r06_At (l : Lay) (p : Port) : C f_lockbarref06_At [l.av, p.av] (.tup [((at6 l p).getD sec0).av, .bool (there6 l p)]) := by
  refine ctr (l.cells ++ p.cells) run_lockbarref06_At rfl (by simp [pureAll_append]) (by simp [AV.pure, AV.pureAll]) ?_ rfl
  unfold rt_lockbarref06_At
  simp [Lay.cells, Port.cells]
  by_cases hc : 0 ≤ p.s ∧ p.s < l.secs.length
  · obtain ⟨n, hn, hlt, he⟩ := secAt_in hc.1 hc.2
    have ha : at6 l p = if 0 ≤ p.p ∧ p.p < ports l.secs[n].kind then some l.secs[n] else none := by unfold at6; rw [he]
    simp [hn, hlt, Sec.cells]
    refine callIf (avs := [U l.secs[n].kind]) (I (ports l.secs[n].kind)) rfl (fun _ => ⟨by simp [hlt, Sec.cells], c_r05_Ports l.secs[n].kind⟩) (by simp) ?_
    by_cases h0 : p.p < 0
    · have h1 : ¬ (0 ≤ p.p) := by omega
      simp [h0, h1, ha, there6, sec0, Sec.cells]
    · by_cases h1 : p.p < ports l.secs[n].kind
      · have h2 : 0 ≤ p.p := by omega
        have h3 : ¬ ports l.secs[n].kind ≤ p.p := by omega
        simp [h0, h1, h2, h3, ha, there6, hlt, Sec.cells]
      · have h3 : ports l.secs[n].kind ≤ p.p := by omega
        simp [h0, h1, h3, ha, there6, sec0, Sec.cells]
  · have ha : at6 l p = none := by unfold at6; rw [secAt_out hc]
    refine ⟨fun a b => absurd ⟨a, b⟩ hc, fun a b => absurd ⟨a, b⟩ hc, ?_⟩
    refine callIf (avs := [U 0]) (I 0) rfl (fun h => ?_) (by simp) ?_
    · exfalso
      simp at h
      exact hc h.1
    · simp [ha, there6, sec0, Sec.cells]
      omega

theorem c_r06_there (l : Lay) (p : Port) : C f_lockbarref06_there [l.av, p.av] (.bool (there6 l p)) := by
  refine ctr (l.cells ++ p.cells) run_lockbarref06_there rfl (by simp [pureAll_append]) rfl ?_ rfl
  unfold rt_lockbarref06_there
  simp [Lay.cells, Port.cells]
  refine call (c_r06_At l p) (by simp [Lay.cells, Port.cells]) (by simp) ?_
  simp [Sec.cells]

theorem c_r06_Step (l : Lay) (s : Step) : C f_lockbarref06_Step [l.av, s.av] (ib (lstep l s)) := by
  refine ctr (l.cells ++ s.cells) run_lockbarref06_Step rfl (by simp [pureAll_append]) rfl ?_ rfl
  unfold rt_lockbarref06_Step
  simp [Lay.cells, Step.cells]
  by_cases hc : 0 ≤ s.s ∧ s.s < l.secs.length
  · obtain ⟨n, hn, hlt, he⟩ := secAt_in hc.1 hc.2
    have hls : lstep l s = way l.secs[n].kind s.i s.o := by simp [lstep, he]
    rw [hls]
    simp [hn, hlt, Sec.cells]
    refine ⟨fun h => by omega, ?_⟩
    refine call (c_r05_Way l.secs[n].kind s.i s.o) (by simp [hlt, Sec.cells]) (by simp) ?_
    simp
  · simp [lstep, secAt_out hc]
    exact fun a b => absurd ⟨a, b⟩ hc

def badS (l : Lay) (s : Sec) (i : Nat) : Bool := decide (0 ≤ (jn s i).s) && !there6 l (jn s i)
def section6 (l : Lay) (s : Sec) : Bool := !badS l s 0 && !badS l s 1 && !badS l s 2 && !badS l s 3 && right5 s

theorem c_r06_section (l : Lay) (s : Sec) : C f_lockbarref06_section [l.av, s.av] (.bool (section6 l s)) := by
  refine ctr (l.cells ++ s.cells) run_lockbarref06_section rfl (by simp [pureAll_append]) rfl ?_ rfl
  unfold rt_lockbarref06_section
  simp [Lay.cells, Sec.cells]
  refine RTwp_loop rfl (fun vs => ∃ j : Nat, j ≤ 4 ∧ vs = [I j] ∧ ∀ m, m < j → badS l s m = false) (fun vs => match vs with | [.int _ j] => 4 - j.toNat | _ => 0) ⟨0, by simp⟩ ?_
  rintro vs - ⟨j, hj, rfl, hprev⟩
  simp
  refine ⟨fun hlt => ?_, fun hge => ?_⟩
  · have hlt : j < 4 := by omega
    have hnext : badS l s j = false → ∀ m, m < j + 1 → badS l s m = false := fun h m hm => by
      rcases Nat.lt_or_ge m j with h2 | h2
      · exact hprev m h2
      · have : m = j := by omega
        subst this; exact h
    have hbad : badS l s j = true → section6 l s = false := by
      intro h
      rcases (show j = 0 ∨ j = 1 ∨ j = 2 ∨ j = 3 by omega) with rfl | rfl | rfl | rfl <;> simp [section6, h]
    clear hprev
    have hb : badS l s j = (decide (0 ≤ (jn s j).s) && !there6 l (jn s j)) := rfl
    generalize hq : jn s j = q at hb
    have w3 : IntKind.i64.wrap 3 = 3 := by decide
    have w4 : IntKind.i64.wrap 4 = 4 := by decide
    rcases (show j = 0 ∨ j = 1 ∨ j = 2 ∨ j = 3 by omega) with rfl | rfl | rfl | rfl
    all_goals
      simp
      refine callIf (avs := [l.av, q.av]) (.bool (there6 l q)) rfl (fun _ => ⟨by simp [← hq, jn, Port.cells, Lay.cells], c_r06_there l q⟩) (by simp) ?_
      simp only [jn] at hq
      subst hq
      simp
      refine ⟨fun h1 h2 => hbad (by rw [hb]; simp [h1, h2]), fun h => ⟨⟨_, ?_, by first | exact w1 | exact w2 | exact w3 | exact w4, hnext ?_⟩, by simp [w1, w2, w3, w4]⟩⟩
      · omega
      · rw [hb]
        simp
        exact h
  · have hj : j = 4 := by omega
    subst hj
    have p0 := hprev 0 (by omega)
    have p1 := hprev 1 (by omega)
    have p2 := hprev 2 (by omega)
    have p3 := hprev 3 (by omega)
    refine call (c_r05_Right s) (by simp [Sec.cells]) (by simp) ?_
    simp [section6, p0, p1, p2, p3]
end Go.Lb.LK

namespace Go.Lb.LK
open Go Go.Lb Go.Proofs Go.RowKit

def kindIs (l : Lay) (s k : Int) : Bool := match secAt l s with
  | some x => decide (x.kind = k)
  | none => false
def flank6 (l : Lay) (f : Flank) : Bool :=
  match secAt l f.s, secAt l f.point with
  | some a, some b => decide (f.s ≠ f.point) && decide (0 ≤ f.pos) && decide (f.pos ≤ 1) && decide (0 ≤ f.way) && decide (f.way < ways a.kind) && decide (b.kind = 2)
  | _, _ => false
theorem flank6_spec {l : Lay} {f : Flank} (h : flank6 l f = true) : ∃ b, secAt l f.point = some b ∧ b.kind = 2 := by
  unfold flank6 at h
  split at h
  · rename_i a b h1 h2
    simp only [Bool.and_eq_true, decide_eq_true_eq] at h
    exact ⟨b, h2, h.2⟩
  · cases h

theorem c_r06_flank (l : Lay) (f : Flank) : C f_lockbarref06_flank [l.av, f.av] (.bool (flank6 l f)) := by
  refine ctr (l.cells ++ f.cells) run_lockbarref06_flank rfl (by simp [pureAll_append]) rfl ?_ rfl
  unfold rt_lockbarref06_flank
  simp [Lay.cells, Flank.cells]
  by_cases hc : 0 ≤ f.s ∧ f.s < l.secs.length
  · obtain ⟨n, hn, hlt, he⟩ := secAt_in hc.1 hc.2
    by_cases hd : 0 ≤ f.point ∧ f.point < l.secs.length
    · obtain ⟨m, hm, hmt, hf⟩ := secAt_in hd.1 hd.2
      have hfl : flank6 l f = (decide (f.s ≠ f.point) && decide (0 ≤ f.pos) && decide (f.pos ≤ 1) && decide (0 ≤ f.way) && decide (f.way < ways l.secs[n].kind) && decide (l.secs[m].kind = 2)) := by simp [flank6, he, hf]
      rw [hfl]
      simp [hn, hm, hlt, hmt, Sec.cells]
      refine ⟨fun h a b c d e => by omega, fun h1 h2 h3 => ?_⟩
      refine callIf (avs := [U l.secs[n].kind]) (I (ways l.secs[n].kind)) rfl (fun _ => ⟨by simp [hlt, Sec.cells], c_r05_Ways l.secs[n].kind⟩) (by simp) ?_
      simp [h1, h2, h3, hmt, Sec.cells]
      rfl
    · have hfl : flank6 l f = false := by simp [flank6, secAt_out hd]
      rw [hfl]
      simp [hn, hlt, Sec.cells]
      exact fun a b => absurd ⟨a, b⟩ hd
  · have hfl : flank6 l f = false := by simp [flank6, secAt_out hc]
    rw [hfl]
    simp
    exact fun a b => absurd ⟨a, b⟩ hc

def okT (n : Int) : Bool := decide (1 ≤ n) && decide (n ≤ 1000)
def tm (l : Lay) : Nat → Int
  | 0 => l.clear
  | 1 => l.drive
  | 2 => l.stale
  | 3 => l.approach
  | 4 => l.over
  | 5 => l.press
  | _ => l.link
def times6 (l : Lay) : Bool := okT l.clear && okT l.drive && okT l.stale && okT l.approach && okT l.over && okT l.press && okT l.link
def timesCells (l : Lay) : List AV := [I l.clear, I l.drive, I l.stale, I l.approach, I l.over, I l.press, I l.link]
theorem c_r06_times (l : Lay) : C f_lockbarref06_times [.agg (timesCells l)] (.bool (times6 l)) := by
  refine ctr (timesCells l) run_lockbarref06_times rfl (by simp [timesCells, AV.pureAll, AV.pure]) rfl ?_ rfl
  unfold rt_lockbarref06_times
  simp [timesCells]
  refine RTwp_loop rfl (fun vs => ∃ j : Nat, j ≤ 7 ∧ vs = [I j] ∧ ∀ m, m < j → okT (tm l m) = true) (fun vs => match vs with | [.int _ j] => 7 - j.toNat | _ => 0) ⟨0, by simp⟩ ?_
  rintro vs - ⟨j, hj, rfl, hprev⟩
  simp
  refine ⟨fun hlt => ?_, fun hge => ?_⟩
  · have hlt : j < 7 := by omega
    have hw := wrap_succ (i := j) (by omega)
    have hnext : okT (tm l j) = true → ∀ m, m < j + 1 → okT (tm l m) = true := fun h m hm => by
      rcases Nat.lt_or_ge m j with h2 | h2
      · exact hprev m h2
      · have : m = j := by omega
        subst this; exact h
    have hbad : okT (tm l j) = false → times6 l = false := by
      intro h
      rcases (show j = 0 ∨ j = 1 ∨ j = 2 ∨ j = 3 ∨ j = 4 ∨ j = 5 ∨ j = 6 by omega) with rfl | rfl | rfl | rfl | rfl | rfl | rfl <;> simp only [tm] at h <;> simp [times6, h]
    clear hprev
    have hb : okT (tm l j) = (decide (1 ≤ tm l j) && decide (tm l j ≤ 1000)) := rfl
    generalize hq : tm l j = q at hb hbad hnext
    rcases (show j = 0 ∨ j = 1 ∨ j = 2 ∨ j = 3 ∨ j = 4 ∨ j = 5 ∨ j = 6 by omega) with rfl | rfl | rfl | rfl | rfl | rfl | rfl
    all_goals
      simp only [tm] at hq
      simp [hq]
      cases hv : okT q
      · rw [hv] at hb
        have hb := hb.symm
        simp only [Bool.and_eq_false_iff, decide_eq_false_iff_not] at hb
        exact .inr ⟨by omega, hbad hv⟩
      · rw [hv] at hb
        have hb := hb.symm
        simp only [Bool.and_eq_true, decide_eq_true_eq] at hb
        refine .inl ⟨hb, ⟨_, ?_, ?_, hnext hv⟩, by decide⟩
        · omega
        · decide
  · have hj : j = 7 := by omega
    subst hj
    have p0 := hprev 0 (by omega)
    have p1 := hprev 1 (by omega)
    have p2 := hprev 2 (by omega)
    have p3 := hprev 3 (by omega)
    have p4 := hprev 4 (by omega)
    have p5 := hprev 5 (by omega)
    have p6 := hprev 6 (by omega)
    simp only [tm] at p0 p1 p2 p3 p4 p5 p6
    simp [times6, p0, p1, p2, p3, p4, p5, p6]

theorem all_take {α : Type} {q : α → Bool} {l : List α} {i : Nat} (h : (l.take i).all q = true) (hi : i < l.length) (hq : q l[i] = true) : (l.take (i + 1)).all q = true := by
  rw [List.take_add_one, List.getElem?_eq_getElem hi, List.all_append, h]
  simpa using hq
theorem all_false {α : Type} {q : α → Bool} {l : List α} {i : Nat} (hi : i < l.length) (hq : q l[i] = false) : l.all q = false := by
  cases h : l.all q
  · rfl
  · rw [List.all_eq_true.1 h _ (List.getElem_mem hi)] at hq; cases hq

def exit6 (l : Lay) (x : Exi) : Bool := x.over.all (fun s => (lstep l s).2) && there6 l x.a && decide ((x.over.length : Int) ≤ 2)
theorem c_r06_exit (l : Lay) (x : Exi) (hx : x.over.length ≤ 1000) : C f_lockbarref06_exit [l.av, x.av] (.bool (exit6 l x)) := by
  refine ctr (l.cells ++ x.cells) run_lockbarref06_exit rfl (by simp [pureAll_append]) rfl ?_ rfl
  unfold rt_lockbarref06_exit
  simp [Lay.cells, Exi.cells]
  refine RTwp_loop rfl (fun vs => ∃ j : Nat, j ≤ x.over.length ∧ vs = [I j] ∧ (x.over.take j).all (fun s => (lstep l s).2) = true) (fun vs => match vs with | [.int _ j] => x.over.length - j.toNat | _ => 0) ⟨0, by simp⟩ ?_
  rintro vs - ⟨j, hj, rfl, hprev⟩
  simp
  refine ⟨fun hlt => ?_, fun hge => ?_⟩
  · have hw := wrap_succ (i := j) (by omega)
    simp [hlt, Step.cells]
    refine call (c_r06_Step l x.over[j]) (by simp [hlt, Lay.cells, Step.cells]) (by simp) ?_
    simp
    refine ⟨fun h => ⟨⟨j + 1, by omega, hw, fun y hy => List.all_eq_true.1 (all_take hprev hlt h) y hy⟩, by rw [hw]; omega⟩, fun h => ?_⟩
    simp only [exit6, all_false (q := fun s => (lstep l s).2) hlt h, Bool.false_and]
  · have : x.over.take j = x.over := List.take_of_length_le hge
    rw [this] at hprev
    refine call (c_r06_there l x.a) (by simp [Lay.cells, Port.cells]) (by simp) ?_
    simp [exit6, hprev]

def right6 (l : Lay) : Bool := l.secs.all (section6 l) && l.sigs.all (there6 l) && l.exits.all (exit6 l) && l.flanks.all (flank6 l) && decide ((l.secs.length : Int) ≤ 24) && decide ((l.sigs.length : Int) ≤ 12) && decide ((l.exits.length : Int) ≤ 12) && decide ((l.flanks.length : Int) ≤ 16) && times6 l
structure Lay.small (l : Lay) : Prop where
  secs : l.secs.length ≤ 40
  sigs : l.sigs.length ≤ 40
  exits : l.exits.length ≤ 40
  flanks : l.flanks.length ≤ 40
  over : ∀ e ∈ l.exits, e.over.length ≤ 20

theorem c_r06_Right (l : Lay) (hl : l.small) : C f_lockbarref06_Right [l.av] (.bool (right6 l)) := by
  refine ctr l.cells run_lockbarref06_Right rfl (by simp) rfl ?_ rfl
  unfold rt_lockbarref06_Right
  obtain ⟨s1, s2, s3, s4, s5⟩ := hl
  simp [Lay.cells]
  refine RTwp_loop rfl (fun vs => ∃ j : Nat, j ≤ l.secs.length ∧ vs = [I j] ∧ (l.secs.take j).all (section6 l) = true) (fun vs => match vs with | [.int _ j] => l.secs.length - j.toNat | _ => 0) ⟨0, by simp⟩ ?_
  rintro vs - ⟨j, hj, rfl, hprev⟩
  simp
  refine ⟨fun hlt => ?_, fun hge => ?_⟩
  · have hw := wrap_succ (i := j) (by omega)
    simp [hlt, Sec.cells]
    refine call (c_r06_section l l.secs[j]) (by simp [hlt, Lay.cells, Sec.cells]) (by simp) ?_
    simp
    refine ⟨fun h => ⟨⟨j + 1, by omega, hw, fun y hy => List.all_eq_true.1 (all_take hprev hlt h) y hy⟩, by rw [hw]; omega⟩, fun h => ?_⟩
    simp only [right6, all_false hlt h, Bool.false_and]
  have ht : l.secs.take j = l.secs := List.take_of_length_le hge
  rw [ht] at hprev
  have h1 := hprev
  clear hprev ht
  refine RTwp_loop rfl (fun vs => ∃ j : Nat, j ≤ l.sigs.length ∧ vs = [I j] ∧ (l.sigs.take j).all (there6 l) = true) (fun vs => match vs with | [.int _ j] => l.sigs.length - j.toNat | _ => 0) ⟨0, by simp⟩ ?_
  rintro vs - ⟨j2, hj2, rfl, hprev⟩
  simp
  refine ⟨fun hlt => ?_, fun hge => ?_⟩
  · have hw := wrap_succ (i := j2) (by omega)
    simp [hlt, Port.cells]
    refine call (c_r06_there l l.sigs[j2]) (by simp [hlt, Lay.cells, Port.cells]) (by simp) ?_
    simp
    refine ⟨fun h => ⟨⟨j2 + 1, by omega, hw, fun y hy => List.all_eq_true.1 (all_take hprev hlt h) y hy⟩, by rw [hw]; omega⟩, fun h => ?_⟩
    simp only [right6, all_false hlt h, Bool.false_and, Bool.and_false]
  have ht : l.sigs.take j2 = l.sigs := List.take_of_length_le hge
  rw [ht] at hprev
  have h2 := hprev
  clear hprev ht
  refine RTwp_loop rfl (fun vs => ∃ j : Nat, j ≤ l.exits.length ∧ vs = [I j] ∧ (l.exits.take j).all (exit6 l) = true) (fun vs => match vs with | [.int _ j] => l.exits.length - j.toNat | _ => 0) ⟨0, by simp⟩ ?_
  rintro vs - ⟨j3, hj3, rfl, hprev⟩
  simp
  refine ⟨fun hlt => ?_, fun hge => ?_⟩
  · have hw := wrap_succ (i := j3) (by omega)
    have hov := s5 _ (List.getElem_mem hlt)
    simp [hlt, Exi.cells]
    refine call (c_r06_exit l l.exits[j3] (by omega)) (by simp [hlt, Lay.cells, Exi.cells]) (by simp) ?_
    simp
    refine ⟨fun h => ⟨⟨j3 + 1, by omega, hw, fun y hy => List.all_eq_true.1 (all_take hprev hlt h) y hy⟩, by rw [hw]; omega⟩, fun h => ?_⟩
    simp only [right6, all_false hlt h, Bool.false_and, Bool.and_false]
  have ht : l.exits.take j3 = l.exits := List.take_of_length_le hge
  rw [ht] at hprev
  have h3 := hprev
  clear hprev ht
  refine RTwp_loop rfl (fun vs => ∃ j : Nat, j ≤ l.flanks.length ∧ vs = [I j] ∧ (l.flanks.take j).all (flank6 l) = true) (fun vs => match vs with | [.int _ j] => l.flanks.length - j.toNat | _ => 0) ⟨0, by simp⟩ ?_
  rintro vs - ⟨j4, hj4, rfl, hprev⟩
  simp
  refine ⟨fun hlt => ?_, fun hge => ?_⟩
  · have hw := wrap_succ (i := j4) (by omega)
    simp [hlt, Flank.cells]
    refine call (c_r06_flank l l.flanks[j4]) (by simp [hlt, Lay.cells, Flank.cells]) (by simp) ?_
    simp
    refine ⟨fun h => ⟨⟨j4 + 1, by omega, hw, fun y hy => List.all_eq_true.1 (all_take hprev hlt h) y hy⟩, by rw [hw]; omega⟩, fun h => ?_⟩
    simp only [right6, all_false hlt h, Bool.false_and, Bool.and_false]
  have ht : l.flanks.take j4 = l.flanks := List.take_of_length_le hge
  rw [ht] at hprev
  have hr : right6 l = (decide ((l.secs.length : Int) ≤ 24) && decide ((l.sigs.length : Int) ≤ 12) && decide ((l.exits.length : Int) ≤ 12) && decide ((l.flanks.length : Int) ≤ 16) && times6 l) := by
    unfold right6
    rw [h1, h2, h3, hprev]; rfl
  rw [hr]
  refine callIf (avs := [.agg (timesCells l)]) (.bool (times6 l)) rfl (fun _ => ⟨by simp [timesCells], c_r06_times l⟩) (by simp) ?_
  simp

def great7 (l : Lay) : Bool := (l.exits.take 21).any (fun e => decide ((e.over.length : Int) > 20)) || decide ((l.secs.length : Int) > 30) || decide ((l.sigs.length : Int) > 20) || decide ((l.exits.length : Int) > 20) || decide ((l.flanks.length : Int) > 30)
theorem great7_small {l : Lay} (h : great7 l = false) : l.secs.length ≤ 30 ∧ l.sigs.length ≤ 20 ∧ l.exits.length ≤ 20 ∧ l.flanks.length ≤ 30 ∧ ∀ e ∈ l.exits, e.over.length ≤ 20 := by
  simp only [great7, Bool.or_eq_false_iff, decide_eq_false_iff_not] at h
  obtain ⟨⟨⟨⟨h1, h2⟩, h3⟩, h4⟩, h5⟩ := h
  refine ⟨by omega, by omega, by omega, by omega, fun e he => ?_⟩
  rw [List.take_of_length_le (by omega)] at h1
  have := List.any_eq_false.1 h1 e he
  simp at this; omega
theorem small_of {l : Lay} (h : great7 l = false) : l.small := by
  obtain ⟨h1, h2, h3, h4, h5⟩ := great7_small h
  exact ⟨by omega, by omega, by omega, by omega, h5⟩

theorem c_r07_Great (l : Lay) : C f_lockbarref07_Great [l.av] (.bool (great7 l)) := by
  refine ctr l.cells run_lockbarref07_Great rfl (by simp) rfl ?_ rfl
  unfold rt_lockbarref07_Great
  simp [Lay.cells]
  refine RTwp_loop rfl (fun vs => ∃ j : Nat, j ≤ l.exits.length ∧ j ≤ 21 ∧ vs = [I j] ∧ (l.exits.take j).any (fun e => decide ((e.over.length : Int) > 20)) = false) (fun vs => match vs with | [.int _ j] => 22 - j.toNat | _ => 0) ⟨0, by simp⟩ ?_
  rintro vs - ⟨j, hj, hj2, rfl, hprev⟩
  simp
  refine ⟨fun hlt hle => ?_, fun hstop => ?_⟩
  · have hw := wrap_succ (i := j) (by omega)
    simp [hlt, Exi.cells]
    by_cases hbig : 20 < (l.exits[j].over.length : Int)
    · refine .inr ⟨by omega, ?_⟩
      have : (l.exits.take 21).any (fun e => decide ((e.over.length : Int) > 20)) = true := by
        refine List.any_eq_true.2 ⟨l.exits[j], List.mem_iff_getElem.2 ⟨j, by rw [List.length_take]; omega, by rw [List.getElem_take]⟩, by simpa using hbig⟩
      simp only [great7, this, Bool.true_or]
    · refine .inl ⟨by omega, ⟨j + 1, by omega, by omega, hw, fun y hy => ?_⟩, by rw [hw]; omega⟩
      rw [List.take_add_one, List.getElem?_eq_getElem hlt] at hy
      rcases List.mem_append.1 hy with hy | hy
      · have := List.any_eq_false.1 hprev y hy
        simp at this; omega
      · simp at hy; subst hy; omega
  · have hno : (l.exits.take 21).any (fun e => decide ((e.over.length : Int) > 20)) = false := by
      by_cases hlt : j < l.exits.length
      · have : j = 21 := by have := hstop hlt; omega
        rw [← this]; exact hprev
      · rw [List.take_of_length_le (show l.exits.length ≤ j by omega)] at hprev
        refine List.any_eq_false.2 fun y hy => ?_
        have := List.any_eq_false.1 hprev y (List.mem_of_mem_take hy)
        exact this
    simp only [great7, hno, Bool.false_or]

/-- Too great to be asked. -/
def great13 (l : Lay) (p : Path) : Bool := great7 l || decide ((p.steps.length : Int) > 30)
theorem c_great13 (l : Lay) (p : Path) : C f_lockbarlaw13_great [l.av, p.av] (.bool (great13 l p)) := by
  refine ctr (l.cells ++ p.cells) run_lockbarlaw13_great rfl (by simp [pureAll_append]) rfl ?_ rfl
  unfold rt_lockbarlaw13_great
  simp [Lay.cells, Path.cells]
  refine call (c_r07_Great l) (by simp [Lay.cells]) (by simp) ?_
  simp [great13]
end Go.Lb.LK

namespace Go.Lb.LK
open Go Go.Lb Go.Proofs Go.RowKit

def total (xs : List (List Need)) : Nat := (xs.map List.length).sum
theorem total_flat (xs : List (List Need)) : xs.flatten.length = total xs := by simp [total, List.length_flatten]
theorem flatten_take (xs : List (List Need)) {i : Nat} (h : i < xs.length) : (xs.take (i + 1)).flatten = (xs.take i).flatten ++ xs[i] := by
  rw [List.take_add_one, List.getElem?_eq_getElem h, List.flatten_append]; simp
theorem total_take (xs : List (List Need)) {i : Nat} (h : i < xs.length) : total (xs.take (i + 1)) = total (xs.take i) + xs[i].length := by
  rw [← total_flat, ← total_flat, flatten_take xs h, List.length_append]
theorem total_le (xs : List (List Need)) (i : Nat) : total (xs.take i) ≤ total xs := by
  unfold total
  conv => rhs; rw [← List.take_append_drop i xs, List.map_append, List.sum_append]
  omega

theorem c_slices_Concat_Need (xs : List (List Need)) (hx : xs.length ≤ 1000000) (ht : total xs ≤ 1000000000) : C f_slices_Concat_Need [.sl (xs.map needs)] (needs xs.flatten) := by
  refine ctr [.sl (xs.map needs)] run_slices_Concat_Need rfl (by simp [AV.pureAll, AV.pure, pureAll_map needs (fun x => by simp [AV.pure])]) (by simp only [AV.pure]; exact needs_pure _) ?_ rfl
  unfold rt_slices_Concat_Need
  simp
  refine RTwp_loop rfl (fun vs => ∃ i : Nat, i ≤ xs.length ∧ vs = [I (total (xs.take i)), I i]) (fun vs => match vs with | [_, .int _ j] => xs.length - j.toNat | _ => 0) ⟨0, by simp, by simp [total]⟩ ?_
  rintro vs - ⟨i, hi, rfl⟩
  have hti := total_le xs i
  simp
  refine ⟨fun hlt => ?_, fun hge => ?_⟩
  · have hw := wrap_succ (i := i) (by omega)
    have ht1 := total_take xs hlt
    have ht2 := total_le xs (i + 1)
    have hw2 : IntKind.i64.wrap ((total (xs.take i) : Int) + xs[i].length) = (total (xs.take (i + 1)) : Int) := by rw [wrap_i] <;> omega
    simp [hlt, hw2]
    exact ⟨⟨i + 1, by omega, rfl, hw⟩, by rw [hw]; omega⟩
  · have hti : xs.take i = xs := List.take_of_length_le hge
    have w0 : IntKind.i64.wrap 0 = 0 := by decide
    have wt : IntKind.i64.wrap (total xs : Int) = total xs := by rw [wrap_i] <;> omega
    simp [hti, w0, wt]
    refine ⟨fun hpos => ⟨by omega, ?_⟩, fun hz => ?_⟩
    all_goals
      refine RTwp_loop rfl (fun vs => ∃ i : Nat, i ≤ xs.length ∧ vs = [needs (xs.take i).flatten, I i]) (fun vs => match vs with | [_, .int _ j] => xs.length - j.toNat | _ => 0) ⟨0, by simp, by simp⟩ ?_
      rintro vs - ⟨j, hj, rfl⟩
      have htj := total_le xs j
      rw [← total_flat] at htj
      simp only [envOf, List.cons_append, List.nil_append]
      have hfl := fun h => flatten_take xs (i := j) h
      generalize hcur : (xs.take j).flatten = cur at htj hfl ⊢
      simp
      refine ⟨fun hlt => ?_, fun hge => ?_⟩
      · have hw := wrap_succ (i := j) (by omega)
        have ht1 := total_take xs hlt
        have ht2 := total_le xs (j + 1)
        rw [← total_flat (xs.take j), hcur] at ht1
        simp [hlt]
        refine ⟨fun x _ => by simp [Need.cells], by omega, ⟨j + 1, by omega, ?_, hw⟩, by rw [hw]; omega⟩
        have := congrArg (List.map Need.av) (hfl hlt)
        simpa using this.symm
      · have : xs.take j = xs := List.take_of_length_le hge
        simp [← hcur, this]

/-- Where a point is wanted. -/
def at' (a : List Need) (p : Int) : Int × Bool := match a.find? (fun x => decide (x.p = p)) with
  | some x => (x.pos, true)
  | none => (0, false)
theorem find_take {α : Type} {q : α → Bool} {l : List α} {i : Nat} (h : ∀ x ∈ l.take i, q x = false) (hi : i < l.length) (hq : q l[i] = true) : l.find? q = some l[i] := by
  conv => lhs; rw [← List.take_append_drop i l]
  rw [List.find?_append, List.find?_eq_none.2 (fun x hx => by rw [h x hx]; simp), Option.none_or, List.drop_eq_getElem_cons hi, List.find?_cons, hq]
theorem none_take {α : Type} {q : α → Bool} {l : List α} {i : Nat} (h : ∀ x ∈ l.take i, q x = false) (hi : i < l.length) (hq : q l[i] = false) : ∀ x ∈ l.take (i + 1), q x = false := by
  intro x hx
  rw [List.take_add_one, List.getElem?_eq_getElem hi] at hx
  rcases List.mem_append.1 hx with hx | hx
  · exact h x hx
  · simp at hx; subst hx; exact hq

theorem c_need_At (a : List Need) (ha : a.length ≤ 1000000000) (p : Int) : C f_need_At [needs a, I p] (ib (at' a p)) := by
  refine ctr [needs a, I p] run_need_At rfl (by simp [AV.pureAll, AV.pure]) rfl ?_ rfl
  unfold rt_need_At
  simp
  refine RTwp_loop rfl (fun vs => ∃ i : Nat, i ≤ a.length ∧ vs = [I i] ∧ ∀ x ∈ a.take i, decide (x.p = p) = false) (fun vs => match vs with | [.int _ j] => a.length - j.toNat | _ => 0) ⟨0, by simp⟩ ?_
  rintro vs - ⟨i, hi, rfl, hno⟩
  simp
  refine ⟨fun hlt => ?_, fun hge => ?_⟩
  · have hw := wrap_succ (i := i) (by omega)
    simp [hlt, Need.cells]
    by_cases hq : a[i].p = p
    · have := find_take hno hlt (by simp [hq])
      refine .inr ⟨hq, ?_⟩
      simp [at', this]
    · refine .inl ⟨hq, ⟨i + 1, by omega, hw, ?_⟩, by rw [hw]; omega⟩
      have := none_take hno hlt (by simp [hq])
      intro x hx
      simpa using this x hx
  · have hti : a.take i = a := List.take_of_length_le hge
    rw [hti] at hno
    have : a.find? (fun x => decide (x.p = p)) = none := List.find?_eq_none.2 (fun x hx => by rw [hno x hx]; simp)
    simp [at', this]

/-- Whether needs clash. -/
def clash (a b : List Need) : Bool := (a ++ b).any fun x => decide ((at' (a ++ b) x.p).1 ≠ x.pos)
theorem any_take {α : Type} {q : α → Bool} {l : List α} {i : Nat} (hi : i < l.length) (hq : q l[i] = true) : l.any q = true := List.any_eq_true.2 ⟨l[i], List.getElem_mem hi, hq⟩

theorem c_need_Clash (a b : List Need) (ha : a.length + b.length ≤ 1000000) : C f_need_Clash [needs a, needs b] (.bool (clash a b)) := by
  refine ctr [needs a, needs b] run_need_Clash rfl (by simp [AV.pureAll, AV.pure]) rfl ?_ rfl
  unfold rt_need_Clash
  simp
  refine call (c_slices_Concat_Need [a, b] (by simp) (by simp [total]; omega)) (by simp) (by simp) ?_
  simp
  have hl : (a ++ b).length ≤ 1000000 := by simp; omega
  have hcl : clash a b = (a ++ b).any fun x => decide ((at' (a ++ b) x.p).1 ≠ x.pos) := rfl
  generalize a ++ b = c at hl hcl ⊢
  rw [hcl]
  refine RTwp_loop rfl (fun vs => ∃ i : Nat, i ≤ c.length ∧ vs = [I i] ∧ ∀ x ∈ c.take i, decide ((at' c x.p).1 ≠ x.pos) = false) (fun vs => match vs with | [.int _ j] => c.length - j.toNat | _ => 0) ⟨0, by simp⟩ ?_
  rintro vs - ⟨i, hi, rfl, hno⟩
  simp
  refine ⟨fun hlt => ?_, fun hge => ?_⟩
  · have hw := wrap_succ (i := i) (by omega)
    simp [hlt, Need.cells]
    refine call (c_need_At c (by omega) c[i].p) (by simp [hlt, Need.cells]) (by simp) ?_
    simp [hlt, Need.cells]
    refine ⟨fun hne => ⟨c[i], List.getElem_mem hlt, hne⟩, fun heq => ⟨⟨i + 1, by omega, hw, fun x hx => ?_⟩, by rw [hw]; omega⟩⟩
    have := none_take hno hlt (by simp [heq]) x hx
    simpa using this
  · have hti : c.take i = c := List.take_of_length_le hge
    rw [hti] at hno
    exact fun x hx => by simpa using hno x hx

/-- Whether a path can be locked. -/
def fine (l : Lay) (p : Path) : Bool := !clash (needOf l p) []
theorem numbered_len (l : Lay) (p : Path) : (numbered l p).length = p.steps.length + (over l p.exit).length := by simp [numbered]
theorem needOf_len (l : Lay) (hf : l.flanks.length ≤ 30) (p : Path) (hp : p.steps.length ≤ 1000) (ho : (over l p.exit).length ≤ 1000) : (needOf l p).length ≤ 62000 := by
  have h1 := flat_len (fun x : Int × Step => wants l x.2 x.1) 31 (fun x => by have := wants_len l x.2 x.1; omega) (numbered l p)
  have := numbered_len l p
  unfold needOf; omega

theorem c_need_Fine (l : Lay) (hl : l.ok) (ho : l.ovOk) (hf : l.flanks.length ≤ 30) (p : Path) (hp : p.steps.length ≤ 1000) (hov : (over l p.exit).length ≤ 1000) : C f_need_Fine [l.av, p.av] (.bool (fine l p)) := by
  refine ctr (l.cells ++ p.cells) run_need_Fine rfl (by simp [pureAll_append, AV.pureAll, AV.pure]) rfl ?_ rfl
  unfold rt_need_Fine
  simp [Lay.cells, Path.cells]
  refine call (c_need_Of l hl ho (by omega) p hp hov) (by simp [Lay.cells, Path.cells]) (by simp) ?_
  simp
  refine call (c_need_Clash (needOf l p) [] (by have := needOf_len l hf p hp hov; simp; omega)) (by simp) (by simp) ?_
  simp [fine]

/-- The points that are wanted. -/
def points (a : List Need) : List Int := compactI (sortI (a.map Need.p))
theorem sortI_len (l : List Int) : (sortI l).length = l.length := by simp [sortI]
theorem points_len (a : List Need) : (points a).length ≤ a.length := by
  have := compactI_le (sortI (a.map Need.p))
  rw [sortI_len, List.length_map] at this
  exact this

theorem c_need_Points (a : List Need) (ha : a.length ≤ 1000000000) : C f_need_Points [needs a] (ints (points a)) := by
  refine ctr [needs a] run_need_Points rfl (by simp [AV.pureAll, AV.pure]) (ints_pure' _) ?_ rfl
  unfold rt_need_Points
  simp
  refine RTwp_loop rfl (fun vs => ∃ i : Nat, i ≤ a.length ∧ vs = [ints ((a.take i).map Need.p), I i]) (fun vs => match vs with | [_, .int _ j] => a.length - j.toNat | _ => 0) ⟨0, by simp, by simp⟩ ?_
  rintro vs - ⟨i, hi, rfl⟩
  have hti : (a.take i).length = i := by simp; omega
  simp
  refine ⟨fun hlt => ?_, fun hge => ?_⟩
  · have hw := wrap_succ (i := i) (by omega)
    have hm := map_take Need.p a hlt
    simp [hlt, Need.cells]
    refine ⟨by omega, ⟨i + 1, by omega, ?_, hw⟩, by rw [hw]; omega⟩
    have := map_take (I ∘ Need.p) a hlt
    rw [List.map_take, List.map_take] at this
    rw [this]; rfl
  · refine ⟨a.map Need.p, by simp; omega, ?_, sortI (a.map Need.p), by rw [sortI_len]; simp; omega, rfl, rfl⟩
    rw [List.take_of_length_le (by simpa using hge), List.map_map]

theorem need_eq {x y : Need} : x = y ↔ x.p = y.p ∧ x.pos = y.pos ∧ x.k = y.k := by
  cases x; cases y; simp

theorem c_slices_Equal_Need (a b : List Need) (ha : a.length ≤ 4294967296) : C f_slices_Equal_Need [needs a, needs b] (.bool (a == b)) := by
  refine ctr [needs a, needs b] run_slices_Equal_Need rfl (by simp [AV.pureAll, AV.pure]) rfl ?_ rfl
  unfold rt_slices_Equal_Need
  simp
  refine ⟨fun h hab => h (by rw [hab]), fun h => ?_⟩
  refine RTwp_loop rfl (fun vs => ∃ i : Nat, vs = [I i] ∧ i ≤ a.length ∧ a.take i = b.take i) (fun vs => match vs with | [.int _ i] => a.length - i.toNat | _ => 0) ⟨0, by simp⟩ ?_
  rintro vs - ⟨i, rfl, hi, htk⟩
  simp
  refine ⟨fun hlt => ?_, fun hge => ?_⟩
  · have hlb : i < b.length := by omega
    have hw := wrap_succ (i := i) (by omega)
    simp [hlt, hlb, Need.cells]
    by_cases hne : a[i] = b[i]
    · refine .inl ⟨need_eq.1 hne, ⟨i + 1, hw, by omega, ?_⟩, by rw [hw]; omega⟩
      rw [List.take_add_one, List.take_add_one, htk, List.getElem?_eq_getElem hlt, List.getElem?_eq_getElem hlb, hne]
    · exact .inr ⟨fun h1 h2 h3 => hne (need_eq.2 ⟨h1, h2, h3⟩), fun hab => hne (by subst hab; rfl)⟩
  · have h1 : a.take i = a := List.take_of_length_le (by omega)
    have h2 : b.take i = b := List.take_of_length_le (by omega)
    rw [← h1, ← h2, htk]

theorem c_need_Same (a b : List Need) (ha : a.length ≤ 4294967296) : C f_need_Same [needs a, needs b] (.bool (a == b)) := by
  refine ctr [needs a, needs b] run_need_Same rfl (by simp [AV.pureAll, AV.pure]) rfl ?_ rfl
  unfold rt_need_Same
  refine call (c_slices_Equal_Need a b ha) (by simp) (by simp) ?_
  simp
end Go.Lb.LK

namespace Go.Lb.LK
open Go Go.Lb Go.Proofs Go.RowKit

def lay1 : Lay := ⟨[⟨2, ⟨-1, 0⟩, ⟨-1, 0⟩, ⟨-1, 0⟩, ⟨-1, 0⟩, 0, 0⟩], [⟨0, 0⟩], [⟨⟨0, 2⟩, []⟩], [], 1, 1, 1, 1, 1, 1, 1⟩
theorem lay1_ok : lay1.ok := by intro s hs; simp [lay1] at hs; subst hs; simp
theorem lay1_ov : lay1.ovOk := by intro s hs; simp [lay1] at hs; subst hs; simp
theorem c_lockbarlaw13_point : C f_lockbarlaw13_point [] lay1.av := by
  refine ctr [] run_lockbarlaw13_point rfl rfl (by simp [AV.pure]) ?_ rfl
  unfold rt_lockbarlaw13_point
  simp [lay1, Lay.cells, Sec.cells, Port.cells, Exi.cells]

def na : List Need := [⟨3, 0, 0⟩, ⟨1, 1, 2⟩]
theorem w_of : needOf lay1 ⟨0, 0, [⟨0, 0, 2⟩]⟩ = [⟨0, 1, 0⟩] := by decide +kernel
theorem w_points : points [⟨3, 0, 0⟩, ⟨1, 1, 2⟩, ⟨3, 0, 0⟩] = [1, 3] := by
  have s1 : sortI [3, 1, 3] = [1, 3, 3] := by simp [sortI, List.mergeSort, List.MergeSort.Internal.splitInTwo, List.merge]
  have s2 : compactI [1, 3, 3] = [1, 3] := by decide +kernel
  simp [points, s1, s2]
theorem w_fine : fine lay1 ⟨0, 0, []⟩ = true := by decide +kernel

theorem c_lockbarlaw13_wakes : C f_lockbarlaw13_wakes [] (.bool true) := by
  refine ctr [] run_lockbarlaw13_wakes rfl rfl rfl ?_ rfl
  unfold rt_lockbarlaw13_wakes
  refine call c_lockbarlaw13_point (by simp) (by simp) ?_
  simp
  refine call (c_need_Of lay1 lay1_ok lay1_ov (by simp [lay1]) ⟨0, 0, [⟨0, 0, 2⟩]⟩ (by simp) (by simp [over, lay1, exitAt])) (by simp [Path.cells, Step.cells]) (by simp) ?_
  rw [w_of]
  simp
  refine call (c_need_At na (by simp [na]) 1) (by simp [na, Need.cells]) (fun _ => rfl) ?_
  simp [na, at', Need.cells]
  refine call (c_need_At na (by simp [na]) 2) (by simp [na, Need.cells]) (fun _ => rfl) ?_
  simp [na, at', Need.cells]
  refine call (c_need_Points [⟨3, 0, 0⟩, ⟨1, 1, 2⟩, ⟨3, 0, 0⟩] (by simp)) (by simp [Need.cells]) (by simp) ?_
  rw [w_points]
  simp
  refine call (c_need_Clash na [⟨3, 1, 0⟩] (by simp [na])) (by simp [na, Need.cells]) (fun _ => rfl) ?_
  rw [show clash na [⟨3, 1, 0⟩] = true by decide +kernel]
  refine callIf (.bool false) rfl (fun _ => ⟨?_, show C f_need_Clash [needs na, needs na] _ by rw [show (false : Bool) = clash na na by decide +kernel]; exact c_need_Clash na na (by simp [na])⟩) (fun _ => rfl) ?_
  · simp [na, Need.cells]
  simp [Need.cells]
  refine callIf lay1.av (by simp [AV.pure]) (fun _ => ⟨rfl, c_lockbarlaw13_point⟩) (by simp) ?_
  simp
  refine callIf (.bool true) rfl (fun _ => ⟨?_, show C f_need_Fine [lay1.av, Path.av ⟨0, 0, []⟩] _ by rw [← w_fine]; exact c_need_Fine lay1 lay1_ok lay1_ov (by simp [lay1]) _ (by simp) (by simp [over, lay1, exitAt])⟩) (fun _ => rfl) ?_
  · simp [Path.cells]
  simp
  refine callIf (.bool true) rfl (fun _ => ⟨?_, show C f_need_Same [needs na, needs na] _ by rw [show (true : Bool) = (na == na) by decide +kernel]; exact c_need_Same na na (by simp [na])⟩) (fun _ => rfl) ?_
  · simp [na, Need.cells]
  simp
  refine callIf (.bool false) rfl (fun _ => ⟨?_, show C f_need_Same [needs na, needs []] _ by rw [show (false : Bool) = (na == []) by decide +kernel]; exact c_need_Same na [] (by simp [na])⟩) (fun _ => rfl) ?_
  · simp [na, Need.cells]
  simp [Need.cells]
end Go.Lb.LK

namespace Go.Lb.LK
open Go Go.Lb Go.Proofs Go.RowKit

/-! ### Points -/
theorem sortI_mem {l : List Int} {n : Int} : n ∈ sortI l ↔ n ∈ l := by unfold sortI; exact List.mem_mergeSort
theorem sortI_sorted (l : List Int) : (sortI l).Pairwise (fun x y => x ≤ y) := by
  have := List.pairwise_mergeSort (le := fun x y : Int => decide (x ≤ y)) (fun a b c h1 h2 => by simp at *; omega) (fun a b => by simp; omega) l
  exact this.imp (fun h => by simpa using h)
theorem compact_upTo {l : List Int} (hs : l.Pairwise (fun x y => x ≤ y)) : ∀ m, m ≤ l.length → (∀ n, n ∈ Go.Lib.compactUpTo l.toArray m ↔ n ∈ l.take m) ∧ (Go.Lib.compactUpTo l.toArray m).Pairwise (fun x y => x < y)
  | 0, _ => by simp [Go.Lib.compactUpTo]
  | m + 1, h => by
    obtain ⟨h1, h2⟩ := compact_upTo hs m (by omega)
    have hm : l.toArray[m]! = l[m] := by simp [show m < l.length by omega]
    rw [Go.Lib.compactUpTo_succ, hm]
    have ht : l.take (m + 1) = l.take m ++ [l[m]] := by rw [List.take_add_one, List.getElem?_eq_getElem (by omega)]; rfl
    have hle : ∀ x ∈ l.take m, x ≤ l[m] := by
      intro x hx
      obtain ⟨j, hj, rfl⟩ := List.mem_iff_getElem.1 hx
      rw [List.getElem_take]
      rw [List.length_take] at hj
      exact List.pairwise_iff_getElem.1 hs j m (by omega) (by omega) (by omega)
    cases hk : Go.Lib.keeps l.toArray m with
    | true =>
      refine ⟨fun n => ?_, ?_⟩
      · rw [ht]; simp only [h1, if_true, List.mem_append, List.mem_singleton]
      · simp only [if_true]
        rw [List.pairwise_append]
        refine ⟨h2, by simp, fun x hx y hy => ?_⟩
        simp only [List.mem_singleton] at hy; subst hy
        have hx' := (h1 x).1 hx
        have := hle x hx'
        simp only [Go.Lib.keeps, decide_eq_true_eq] at hk
        rcases hk with h0 | hk
        · subst h0; simp at hx'
        · have hm1 : l.toArray[m - 1]! = l[m - 1] := by simp [show m - 1 < l.length by omega]
          rw [hm, hm1] at hk
          obtain ⟨j, hj, rfl⟩ := List.mem_iff_getElem.1 hx'
          rw [List.getElem_take]
          rw [List.length_take] at hj
          have a1 : l[j] ≤ l[m - 1] := by
            rcases Nat.lt_or_ge j (m - 1) with hlt | hge
            · exact List.pairwise_iff_getElem.1 hs j (m - 1) (by omega) (by omega) hlt
            · have : j = m - 1 := by omega
              subst this; exact Int.le_refl _
          have a2 : l[m - 1] ≤ l[m] := by
            rcases Nat.eq_zero_or_pos m with h0 | h0
            · subst h0; exact Int.le_refl _
            · exact List.pairwise_iff_getElem.1 hs (m - 1) m (by omega) (by omega) (by omega)
          omega
    | false =>
      refine ⟨fun n => ?_, by simpa using h2⟩
      rw [ht]
      simp only [Bool.false_eq_true, if_false, List.append_nil, List.mem_append, List.mem_singleton, h1]
      refine ⟨.inl, fun h => h.elim id ?_⟩
      rintro rfl
      have hk' : ¬ (m = 0 ∨ l.toArray[m]! ≠ l.toArray[m - 1]!) := by simpa [Go.Lib.keeps] using hk
      have hm0 : m ≠ 0 := fun h => hk' (.inl h)
      have hm1 : l.toArray[m - 1]! = l[m - 1] := by simp [show m - 1 < l.length by omega]
      rw [hm, hm1] at hk'
      have : l[m] = l[m - 1] := Classical.byContradiction fun h => hk' (.inr h)
      rw [this]
      exact List.mem_iff_getElem.2 ⟨m - 1, by rw [List.length_take]; omega, by rw [List.getElem_take]⟩
theorem compactI_spec {l : List Int} (hs : l.Pairwise (fun x y => x ≤ y)) : (∀ n, n ∈ compactI l ↔ n ∈ l) ∧ (compactI l).Pairwise (fun x y => x < y) := by
  have := compact_upTo hs l.length (Nat.le_refl _)
  rwa [List.take_length] at this
theorem points_mem {a : List Need} {n : Int} : n ∈ points a ↔ ∃ x ∈ a, x.p = n := by
  unfold points
  rw [(compactI_spec (sortI_sorted _)).1, sortI_mem, List.mem_map]
theorem points_rise (a : List Need) : (points a).Pairwise (fun x y => x < y) := (compactI_spec (sortI_sorted _)).2
theorem at_iff {a : List Need} {n : Int} : (at' a n).2 = true ↔ ∃ x ∈ a, x.p = n := by
  unfold at'
  cases h : a.find? (fun x => decide (x.p = n)) with
  | none =>
    have := List.find?_eq_none.1 h
    simp only [Bool.false_eq_true, false_iff]
    rintro ⟨x, hx, hp⟩
    exact this x hx (by simp [hp])
  | some x =>
    simp only [true_iff]
    exact ⟨x, List.mem_of_find?_eq_some h, by simpa using List.find?_some h⟩

theorem mem_take_or {l : List Int} {n : Int} {i : Nat} (h : i < l.length) : (decide (n ∈ l.take i) || l[i] == n) = decide (n ∈ l.take (i + 1)) := by
  rw [Bool.eq_iff_iff, show l.take (i + 1) = l.take i ++ [l[i]] by rw [List.take_add_one, List.getElem?_eq_getElem h]; rfl]
  simp only [Bool.or_eq_true, decide_eq_true_eq, beq_iff_eq, List.mem_append, List.mem_singleton]
  exact or_congr Iff.rfl eq_comm

theorem c_NeedPoints (a : List Need) (n : Int) : C f_lockbarlaw13_NeedPoints [needs a, I n] (.bool true) := by
  refine ctr [needs a, I n] run_lockbarlaw13_NeedPoints rfl (by simp [AV.pureAll, AV.pure]) rfl ?_ rfl
  unfold rt_lockbarlaw13_NeedPoints
  simp
  refine ⟨fun hgr => ?_, fun hsm => ?_⟩
  · refine call c_lockbarlaw13_wakes (by simp) (by simp) ?_
    simp
  refine call (c_need_Points a (by omega)) (by simp) (by simp) ?_
  have hmem := fun n => points_mem (a := a) (n := n)
  have hrise := points_rise a
  have hlen := points_len a
  generalize points a = l at hmem hrise hlen ⊢
  simp
  refine RTwp_loop rfl (fun vs => ∃ i : Nat, i ≤ l.length ∧ vs = [.bool (decide (n ∈ l.take i)), I i]) (fun vs => match vs with | [_, .int _ j] => l.length - j.toNat | _ => 0) ⟨0, by simp, by simp⟩ ?_
  rintro vs - ⟨i, hi, rfl⟩
  simp
  refine ⟨fun hlt => ?_, fun hge => ?_⟩
  · have hw := wrap_succ (i := i) (by omega)
    simp [hlt]
    refine call (c_need_At a (by omega) l[i]) (by simp [hlt]) (by simp) ?_
    have hat : (at' a l[i]).2 = true := at_iff.2 ((hmem _).1 (List.getElem_mem hlt))
    have hin := mem_take_or (n := n) hlt
    cases i with
    | zero =>
      simp [hlt, hat]
      exact ⟨⟨1, by omega, by simpa using hin, w1⟩, by rw [w1]; omega⟩
    | succ j =>
      have hj : j < l.length := by omega
      have wj : IntKind.i64.wrap ((j : Int)) = j := by rw [wrap_i] <;> omega
      have hlt2 := List.pairwise_iff_getElem.1 hrise j (j + 1) hj hlt (by omega)
      simp [hlt, hat, wj, hj]
      have hw' : IntKind.i64.wrap ((j : Int) + 1 + 1) = ((j + 1 + 1 : Nat) : Int) := by rw [wrap_i] <;> omega
      exact ⟨by omega, hlt2, fun _ => ⟨fun _ => by omega, ⟨j + 1 + 1, by omega, hin, hw'⟩, by rw [hw']; omega⟩⟩
  · have hti : l.take i = l := List.take_of_length_le hge
    simp only [hti]
    refine call (c_need_At a (by omega) n) (by simp) (by simp) ?_
    simp
    refine RTwp_loop rfl (fun vs => ∃ i : Nat, i ≤ a.length ∧ vs = [I i]) (fun vs => match vs with | [.int _ j] => a.length - j.toNat | _ => 0) ⟨0, by simp, by simp⟩ ?_
    rintro vs - ⟨j, hj, rfl⟩
    simp
    refine ⟨fun hlt => ?_, fun hge => ?_⟩
    · refine RTwp_loop rfl (fun vs => ∃ i : Nat, i ≤ l.length ∧ vs = [.bool (decide (a[j].p ∈ l.take i)), I i]) (fun vs => match vs with | [_, .int _ j] => l.length - j.toNat | _ => 0) ⟨0, by simp, by simp⟩ ?_
      rintro vs - ⟨k, hk, rfl⟩
      simp
      refine ⟨fun hk2 => ?_, fun hk2 => ?_⟩
      · have hw := wrap_succ (i := k) (by omega)
        have hin := mem_take_or (n := a[j].p) hk2
        simp [hk2, hlt, Need.cells]
        exact ⟨⟨k + 1, by omega, hin, hw⟩, by rw [hw]; omega⟩
      · have hti : l.take k = l := List.take_of_length_le hk2
        have hw := wrap_succ (i := j) (by omega)
        have : a[j].p ∈ l := (hmem _).2 ⟨a[j], List.getElem_mem hlt, rfl⟩
        simp only [hti, this, true_implies, and_true]
        exact ⟨⟨j + 1, by omega, hw⟩, by rw [hw]; omega⟩
    · have he : decide (n ∈ l) = (at' a n).2 := by
        rw [Bool.eq_iff_iff, at_iff, ← hmem, decide_eq_true_eq]
      rw [he]
      refine callIf (.bool true) rfl (fun _ => ⟨rfl, c_lockbarlaw13_wakes⟩) (by simp) ?_
      simp
end Go.Lb.LK

namespace Go.Lb.LK
open Go Go.Lb Go.Proofs Go.RowKit

/-- Two that want one point both ways. -/
def vs (x y : Need) : Bool := decide (x.p = y.p) && decide (x.pos ≠ y.pos)
def dbl (c : List Need) : Bool := c.any fun x => c.any (vs x)
theorem dbl_iff {c : List Need} : dbl c = true ↔ ∃ x ∈ c, ∃ y ∈ c, x.p = y.p ∧ x.pos ≠ y.pos := by
  simp [dbl, vs]
theorem at_some {a : List Need} {x : Need} (hx : x ∈ a) : ∃ y ∈ a, y.p = x.p ∧ (at' a x.p) = (y.pos, true) := by
  cases h : a.find? (fun y => decide (y.p = x.p)) with
  | none => exact absurd (List.find?_eq_none.1 h x hx) (by simp)
  | some y => exact ⟨y, List.mem_of_find?_eq_some h, by simpa using List.find?_some h, by simp [at', h]⟩
theorem clash_dbl (a b : List Need) : clash a b = dbl (a ++ b) := by
  rw [Bool.eq_iff_iff, dbl_iff]
  unfold clash
  generalize a ++ b = c
  simp only [List.any_eq_true, decide_eq_true_eq]
  constructor
  · rintro ⟨x, hx, hne⟩
    obtain ⟨y, hy, hp, he⟩ := at_some hx
    exact ⟨y, hy, x, hx, hp, by rw [he] at hne; exact hne⟩
  · rintro ⟨x, hx, y, hy, hp, hne⟩
    obtain ⟨z, hz, hzp, he⟩ := at_some hx
    by_cases h : z.pos = x.pos
    · refine ⟨y, hy, ?_⟩
      rw [← hp, he]; simp only; omega
    · exact ⟨x, hx, by rw [he]; exact h⟩
theorem dbl_comm (a b : List Need) : dbl (a ++ b) = dbl (b ++ a) := by
  rw [Bool.eq_iff_iff, dbl_iff, dbl_iff]
  simp only [List.mem_append]
  constructor
  · rintro ⟨x, hx, y, hy, h⟩; exact ⟨x, hx.symm, y, hy.symm, h⟩
  · rintro ⟨x, hx, y, hy, h⟩; exact ⟨x, hx.symm, y, hy.symm, h⟩
theorem dbl_more {a b : List Need} (h : dbl a = true) : dbl (a ++ b) = true := by
  rw [dbl_iff] at h ⊢
  obtain ⟨x, hx, y, hy, h⟩ := h
  exact ⟨x, List.mem_append_left _ hx, y, List.mem_append_left _ hy, h⟩

theorem any_take_or {q : Need → Bool} {l : List Need} {i : Nat} (h : i < l.length) : (l.take (i + 1)).any q = ((l.take i).any q || q l[i]) := by
  rw [List.take_add_one, List.getElem?_eq_getElem h, List.any_append]
  simp

theorem c_NeedClash (a b : List Need) : C f_lockbarlaw13_NeedClash [needs a, needs b] (.bool true) := by
  refine ctr [needs a, needs b] run_lockbarlaw13_NeedClash rfl (by simp [AV.pureAll, AV.pure]) rfl ?_ rfl
  unfold rt_lockbarlaw13_NeedClash
  simp
  refine ⟨fun hgr => ?_, fun h1 h2 => ?_⟩
  · refine call c_lockbarlaw13_wakes (by simp) (by simp) ?_
    simp
  refine ⟨fun x _ => by simp [Need.cells], by omega, fun x _ => by simp [Need.cells], by omega, ?_⟩
  have hc : List.map Need.av a ++ List.map Need.av b = List.map Need.av (a ++ b) := by simp
  have hlen : (a ++ b).length ≤ 120 := by simp; omega
  have hcl := clash_dbl a b
  have hcl2 := clash_dbl b a
  have hcl3 := clash_dbl a []
  have hcl4 := clash_dbl (a ++ b) []
  rw [← dbl_comm] at hcl2
  rw [List.append_nil] at hcl3 hcl4
  have hmore : dbl a = true → dbl (a ++ b) = true := dbl_more
  have call1 := c_need_Clash a b (by omega)
  have call2 := c_need_Clash b a (by omega)
  have call3 := c_need_Clash a [] (by simp; omega)
  have call4 := c_need_Clash (a ++ b) [] (by simp; omega)
  rw [hcl] at call1
  rw [hcl2] at call2
  rw [hcl3] at call3
  rw [hcl4] at call4
  clear hcl hcl2 hcl3 hcl4
  generalize hcc : a ++ b = c at *
  refine RTwp_loop rfl (fun us => ∃ i : Nat, i ≤ c.length ∧ us = [.bool ((c.take i).any fun x => c.any (vs x)), I i]) (fun vs => match vs with | [_, .int _ j] => c.length - j.toNat | _ => 0) ⟨0, by simp, by simp⟩ ?_
  rintro us - ⟨i, hi, rfl⟩
  simp [hc]
  refine ⟨fun hlt => ?_, fun hge => ?_⟩
  · refine RTwp_loop rfl (fun us => ∃ k : Nat, k ≤ c.length ∧ us = [.bool (((c.take i).any fun x => c.any (vs x)) || (c.take k).any (vs c[i])), I k]) (fun vs => match vs with | [_, .int _ j] => c.length - j.toNat | _ => 0) ⟨0, by simp, by simp⟩ ?_
    rintro us - ⟨k, hk, rfl⟩
    have hbi := any_take_or (q := fun x => c.any (vs x)) hlt
    generalize ((c.take i).any fun x => c.any (vs x)) = before at hbi ⊢
    have hin : ∀ h : k < c.length, (c.take (k + 1)).any (vs c[i]) = ((c.take k).any (vs c[i]) || vs c[i] c[k]) := fun h => any_take_or h
    generalize hso : (c.take k).any (vs c[i]) = so at hin ⊢
    simp [hc]
    refine ⟨fun hk2 => ?_, fun hk2 => ?_⟩
    · have hw := wrap_succ (i := k) (by omega)
      have hin := hin hk2
      simp [hk2, hlt, Need.cells]
      have hv : (decide (c[i].p = c[k].p) && c[i].pos != c[k].pos) = vs c[i] c[k] := by simp [vs, bne, BEq.beq]
      refine ⟨fun _ _ => by omega, fun _ _ => by omega, fun _ _ _ => by omega, fun _ _ _ => by omega, ⟨k + 1, by omega, ?_, hw⟩, by rw [hw]; omega⟩
      rw [hin, hv, Bool.or_assoc]
    · have hti : c.take k = c := List.take_of_length_le hk2
      have hw := wrap_succ (i := i) (by omega)
      rw [hti] at hso
      refine ⟨⟨i + 1, by omega, ?_, hw⟩, by rw [hw]; omega⟩
      rw [hbi, hso]
  · have hti : c.take i = c := List.take_of_length_le hge
    rw [hti]
    have hd : (c.any fun x => c.any (vs x)) = dbl c := rfl
    rw [hd]
    refine call call1 (by simp) (by simp) ?_
    simp
    refine callIf (.bool (dbl c)) rfl (fun _ => ⟨by simp, call2⟩) (by simp) ?_
    simp
    refine callIf (.bool (dbl a)) rfl (fun _ => ⟨by simp, call3⟩) (by simp) ?_
    simp
    have hm : (dbl a = false ∨ dbl c = true) := by
      cases h : dbl a
      · exact .inl rfl
      · exact .inr (hmore h)
    refine callIf (.bool (dbl c)) rfl (fun _ => ⟨by simp [hc], call4⟩) (fun _ => rfl) ?_
    simp
    refine callIf (.bool true) rfl (fun _ => ⟨rfl, c_lockbarlaw13_wakes⟩) (by simp) ?_
    simp
    exact hm
end Go.Lb.LK
