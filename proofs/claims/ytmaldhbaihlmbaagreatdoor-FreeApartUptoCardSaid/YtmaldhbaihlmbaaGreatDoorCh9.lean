/- Which layouts may be, as the document has it. -/
/- Which layouts are joined; which may be, by their topology: the document. -/
/- What comes twice in a layout; overlaps; which layouts may be, by their topology: the document. -/
/- Overlaps; which layouts may be, by their topology: the document. -/
/- Paths that go, once through each section; checks of paths: the document. -/
/- Checks of paths; needs that clash: the document. -/
/- What functions come to, printed by a program, checked by the kernel. -/
/- Kernels that may be, holders, wants, what is locked, free, can be met, can be had, the same. -/
/- What functions come to, printed by a program, checked by the kernel. -/
/- With an image that is stale nothing is free, and nothing can be had; what is free has no holder, and was told clear. -/
/- What functions come to, printed by a program, checked by the kernel. -/
/- In a kernel that may be, with a Route path more that can be locked and had, each two are apart. -/
import Derived.Test.YtmaldhbaihlmbaaGreatDoorCh8
import Derived.Test.YtmaldhbaihlmbaaGreatDoorCh1
set_option linter.unusedSimpArgs false
set_option linter.unusedVariables false
namespace Go.Lb.LK
open Go Go.Lb Go.Proofs Go.RowKit

def noSec : Sec := ⟨0, ⟨0, 0⟩, ⟨0, 0⟩, ⟨0, 0⟩, ⟨0, 0⟩, 0, 0⟩
def secOf (l : Lay) (p : Port) : Sec := if hasP l p = true then (l.secs[p.s.toNat]?).getD noSec else noSec
theorem c_r06_At' (l : Lay) (p : Port) : C f_lockbarref06_At [l.av, p.av] (.tup [(secOf l p).av, .bool (hasP l p)]) := by
  refine ctr (l.cells ++ p.cells) run_lockbarref06_At rfl (by simp [pureAll_append]) (by simp [AV.pure, AV.pureAll]) ?_ rfl
  unfold rt_lockbarref06_At
  simp [Lay.cells, Port.cells]
  by_cases hc : 0 ≤ p.s ∧ p.s < l.secs.length
  · obtain ⟨n, hn, hlt, he⟩ := secAt_in hc.1 hc.2
    have hls : hasP l p = (decide (0 ≤ p.p) && decide (p.p < portsK l.secs[n].kind)) := by simp [hasP, he]
    have h1 : ¬ ((n : Int) < 0) := by omega
    have h2 : ¬ (l.secs.length ≤ n) := by omega
    simp [hn, hlt, h1, h2, Sec.cells]
    refine callIf (avs := [U l.secs[n].kind]) (I (portsK l.secs[n].kind)) rfl (fun _ => ⟨by simp [hlt, Sec.cells], c_r05_Ports _⟩) (fun _ => rfl) ?_
    by_cases h0 : p.p < 0
    · have hx : hasP l p = false := by rw [hls]; simp [show ¬ 0 ≤ p.p by omega]
      simp [h0, hlt, hx, secOf, noSec, Sec.cells]
    · by_cases h3 : portsK l.secs[n].kind ≤ p.p
      · have hx : hasP l p = false := by rw [hls]; simp [show ¬ p.p < portsK l.secs[n].kind by omega]
        simp [h0, h3, hlt, hx, secOf, noSec, Sec.cells]
      · have hx : hasP l p = true := by rw [hls]; simp [show 0 ≤ p.p by omega, show p.p < portsK l.secs[n].kind by omega]
        simp [h0, h3, hlt, hx, secOf, hn, Sec.cells]
  · have hls : hasP l p = false := by simp [hasP, secAt_out hc]
    have hbad : p.s < 0 ∨ (l.secs.length : Int) ≤ p.s := by omega
    refine ⟨fun a b => absurd ⟨a, b⟩ hc, fun a b => absurd ⟨a, b⟩ hc, ?_⟩
    refine callIf (avs := []) (I 0) rfl (fun hh => ?_) (fun _ => rfl) ?_
    · simp at hh; omega
    · by_cases h0 : p.s < 0
      · simp [h0, hls, secOf, noSec, Sec.cells]
      · have h1 := hbad.resolve_left h0
        simp [h0, h1, hls, secOf, noSec, Sec.cells]
theorem c_r06_there (l : Lay) (p : Port) : C f_lockbarref06_there [l.av, p.av] (.bool (hasP l p)) := by
  refine ctr (l.cells ++ p.cells) run_lockbarref06_there rfl (by simp [pureAll_append]) rfl ?_ rfl
  unfold rt_lockbarref06_there
  simp [Lay.cells, Port.cells]
  refine call (c_r06_At' l p) (by simp [Lay.cells, Port.cells]) (by simp) ?_
  simp [Sec.cells]
def joinIn (l : Lay) (s : Sec) (j : Nat) : Bool := !decide (0 ≤ (s.join j).s) || hasP l (s.join j)
def secIn (l : Lay) (s : Sec) : Bool := (List.range 4).all (joinIn l s) && secOk s
theorem c_r06_section (l : Lay) (s : Sec) : C f_lockbarref06_section [l.av, s.av] (.bool (secIn l s)) := by
  refine ctr (l.cells ++ s.cells) run_lockbarref06_section rfl (by simp [pureAll_append]) rfl ?_ rfl
  unfold rt_lockbarref06_section
  simp [Lay.cells, Sec.cells, -pv_aidx]
  refine RTwp_loop rfl (fun vs => ∃ i : Nat, i ≤ 4 ∧ vs = [I i] ∧ ∀ j, j < i → joinIn l s j = true) (fun vs => match vs with | [.int _ j] => 4 - j.toNat | _ => 0) ⟨0, by omega, by simp, fun j hj => by omega⟩ ?_
  rintro vs - ⟨i, hi, rfl, hq⟩
  simp [-pv_aidx]
  refine ⟨fun hlt => ?_, fun hge => ?_⟩
  · have hw := wrap_succ (i := i) (by omega)
    have hi4 : i < 4 := by omega
    have hJ := aidxJ s (i := i) (z := (i : Int)) rfl hi4
    have hJs := aidxJs s (i := i) (z := (i : Int)) rfl hi4
    simp only [Sec.cells] at hJ hJs
    simp [hJ, hJs, -pv_aidx]
    repeat refine And.intro (by intros; omega) ?_
    refine callIf (avs := [l.av, (s.join i).av]) (.bool (hasP l (s.join i))) rfl (fun _ => ⟨by simp [hJ, Lay.cells, -pv_aidx], c_r06_there _ _⟩) (fun _ => rfl) ?_
    simp [hJ, hJs, -pv_aidx]
    repeat refine And.intro (by intros; omega) ?_
    have hje : joinIn l s i = (!decide (0 ≤ (s.join i).s) || hasP l (s.join i)) := rfl
    refine ⟨fun h1 h2 => ?_, fun h1 => ⟨⟨i + 1, by omega, hw, fun j hj => ?_⟩, by omega⟩⟩
    · have : joinIn l s i = false := by rw [hje]; simp [h1, h2]
      simp [secIn, range_hit hi4 this]
    · by_cases hji : j = i
      · subst hji
        rw [hje]
        by_cases h0 : 0 ≤ (s.join j).s
        · simp [h1 h0]
        · simp [h0]
      · exact hq j (by omega)
  · have h4 : (List.range 4).all (joinIn l s) = true := range_all fun j hj => hq j (by omega)
    refine call (c_r05_Right s) (by simp [Sec.cells]) (fun _ => rfl) ?_
    simp [secIn, h4]
def exitOk (l : Lay) (x : Exi) : Bool := x.over.all (fun t => (lstep l t).2) && (hasP l x.a && decide (x.over.length ≤ 2))
theorem c_r06_exit (l : Lay) (x : Exi) (hx : x.over.length ≤ 1000) : C f_lockbarref06_exit [l.av, x.av] (.bool (exitOk l x)) := by
  refine ctr (l.cells ++ x.cells) run_lockbarref06_exit rfl (by simp [pureAll_append]) rfl ?_ rfl
  unfold rt_lockbarref06_exit
  simp [Lay.cells, Exi.cells]
  refine RTwp_loop rfl (fun vs => ∃ i : Nat, i ≤ x.over.length ∧ vs = [I i] ∧ NoneIn (fun t => !(lstep l t).2) (x.over.take i)) (fun vs => match vs with | [.int _ j] => x.over.length - j.toNat | _ => 0) ⟨0, by omega, by simp, rfl⟩ ?_
  rintro vs - ⟨i, hi, rfl, hq⟩
  simp
  refine ⟨fun hlt => ?_, fun hge => ?_⟩
  · have hw := wrap_succ (i := i) (by omega)
    simp [hlt, Step.cells]
    refine call (c_r06_Step l x.over[i]) (by simp [Lay.cells, hlt, Step.cells]) (by simp) ?_
    cases hs : (lstep l x.over[i]).2
    · have : x.over.all (fun t => (lstep l t).2) = false := by
        rw [List.all_eq_false]
        exact ⟨x.over[i], List.getElem_mem hlt, by rw [hs]; simp⟩
      simp [hs, exitOk, this]
    · simp [hs, hw]
      exact ⟨⟨i + 1, by omega, by omega, any_step hlt hq (by simp [hs])⟩, by omega⟩
  · have ht : x.over.take i = x.over := List.take_of_length_le (by omega)
    rw [ht] at hq
    have hall : x.over.all (fun t => (lstep l t).2) = true := by
      rw [List.all_eq_true]
      intro t ht
      have := List.any_eq_false.1 hq t ht
      simpa using this
    refine call (c_r06_there l x.a) (by simp [Lay.cells, Port.cells]) (fun _ => rfl) ?_
    simp [exitOk, hall]
    have e : decide ((x.over.length : Int) ≤ 2) = decide (x.over.length ≤ 2) := decide_eq_decide.2 (by omega)
    simp [e]
def flankOk (l : Lay) (f : Flank) : Bool := match secAt l f.s, secAt l f.point with
  | some a, some b => (!decide (f.s = f.point) && decide (0 ≤ f.pos ∧ f.pos ≤ 1)) && (decide (0 ≤ f.way) && (decide (f.way < ways a.kind) && decide (b.kind = 2)))
  | _, _ => false
theorem c_r06_flank (l : Lay) (f : Flank) : C f_lockbarref06_flank [l.av, f.av] (.bool (flankOk l f)) := by
  refine ctr (l.cells ++ f.cells) run_lockbarref06_flank rfl (by simp [pureAll_append]) rfl ?_ rfl
  unfold rt_lockbarref06_flank
  simp [Lay.cells, Flank.cells]
  have hout : ¬ ((0 ≤ f.s ∧ f.s < l.secs.length) ∧ (0 ≤ f.point ∧ f.point < l.secs.length)) → flankOk l f = false := fun h => by
    unfold flankOk
    by_cases h1 : 0 ≤ f.s ∧ f.s < l.secs.length
    · have h2 : secAt l f.point = none := secAt_out fun h2 => h ⟨h1, h2⟩
      rw [h2]
      split
      · rename_i hb; cases hb
      · rfl
    · rw [secAt_out h1]
  refine ⟨fun hb => ?_, fun h1 h2 h3 h4 h5 h6 h7 => ?_⟩
  · by_cases hin : (0 ≤ f.s ∧ f.s < l.secs.length) ∧ (0 ≤ f.point ∧ f.point < l.secs.length)
    · obtain ⟨n, hn, hlt, he⟩ := secAt_in hin.1.1 hin.1.2
      obtain ⟨m, hm, hlm, hf⟩ := secAt_in hin.2.1 hin.2.2
      have hx : f.s = f.point ∨ ¬ (0 ≤ f.pos ∧ f.pos ≤ 1) := by omega
      unfold flankOk
      rw [he, hf]
      rcases hx with hx | hx
      · simp [hx]
      · simp [hx]
    · exact hout hin
  · obtain ⟨n, hn, hlt, he⟩ := secAt_in h1 h2
    obtain ⟨m, hm, hlm, hf⟩ := secAt_in h3 h4
    have hval : flankOk l f = (decide (0 ≤ f.way) && (decide (f.way < ways l.secs[n].kind) && decide (l.secs[m].kind = 2))) := by
      unfold flankOk
      rw [he, hf]
      simp [h5, h6, h7]
    simp [hn, hm, hlt, hlm, Sec.cells]
    refine callIf (avs := [U l.secs[n].kind]) (I (ways l.secs[n].kind)) rfl (fun _ => ⟨by simp [hlt, Sec.cells], c_r05_Ways _⟩) (fun _ => rfl) ?_
    simp [hlm, Sec.cells, hval, Bool.and_assoc]
    by_cases hk : l.secs[m].kind = 2 <;> simp [hk]
def Lay.time (l : Lay) (i : Nat) : Int := if i = 0 then l.clear else if i = 1 then l.drive else if i = 2 then l.stale else if i = 3 then l.approach else if i = 4 then l.over else if i = 5 then l.press else l.link
def timeOk (l : Lay) (i : Nat) : Bool := decide (1 ≤ l.time i) && decide (l.time i ≤ 1000)
def timesOk (l : Lay) : Bool := (List.range 7).all (timeOk l)
def timesCells (l : Lay) : List AV := [I l.clear, I l.drive, I l.stale, I l.approach, I l.over, I l.press, I l.link]
theorem aidxT (l : Lay) {i : Nat} {z : Int} (hz : z = i) (h : i < 7) : pv (.aidx 7 1 0 1 false) [.agg (timesCells l), I z] = I (l.time i) := by
  subst hz
  match i, h with
  | 0, _ => rfl
  | 1, _ => rfl
  | 2, _ => rfl
  | 3, _ => rfl
  | 4, _ => rfl
  | 5, _ => rfl
  | 6, _ => rfl
theorem c_r06_times (l : Lay) : C f_lockbarref06_times [.agg (timesCells l)] (.bool (timesOk l)) := by
  refine ctr (timesCells l) run_lockbarref06_times rfl (by simp [timesCells, AV.pureAll, AV.pure]) rfl ?_ rfl
  unfold rt_lockbarref06_times
  simp [timesCells, -pv_aidx]
  refine RTwp_loop rfl (fun vs => ∃ i : Nat, i ≤ 7 ∧ vs = [I i] ∧ ∀ j, j < i → timeOk l j = true) (fun vs => match vs with | [.int _ j] => 7 - j.toNat | _ => 0) ⟨0, by omega, by simp, fun j hj => by omega⟩ ?_
  rintro vs - ⟨i, hi, rfl, hq⟩
  simp [-pv_aidx]
  refine ⟨fun hlt => ?_, fun hge => ?_⟩
  · have hw := wrap_succ (i := i) (by omega)
    have hi7 : i < 7 := by omega
    have hT := aidxT l (i := i) (z := (i : Int)) rfl hi7
    simp only [timesCells] at hT
    simp [hT, -pv_aidx]
    repeat refine And.intro (by intros; omega) ?_
    have hte : timeOk l i = (decide (1 ≤ l.time i) && decide (l.time i ≤ 1000)) := rfl
    by_cases hb : 1 ≤ l.time i ∧ l.time i ≤ 1000
    · left
      refine ⟨hb, ⟨i + 1, by omega, hw, fun j hj => ?_⟩, by omega⟩
      by_cases hji : j = i
      · subst hji; rw [hte]; simp [hb.1, hb.2]
      · exact hq j (by omega)
    · right
      refine ⟨by omega, ?_⟩
      have : timeOk l i = false := by
        rw [hte]
        by_cases h1 : 1 ≤ l.time i
        · simp [show ¬ l.time i ≤ 1000 by omega]
        · simp [h1]
      exact range_hit hi7 this
  · exact range_all fun j hj => hq j (by omega)
structure Lay.lens (l : Lay) : Prop where
  secs : l.secs.length ≤ 1000
  sigs : l.sigs.length ≤ 1000
  exits : l.exits.length ≤ 1000
  flanks : l.flanks.length ≤ 1000
  over : ∀ e ∈ l.exits, e.over.length ≤ 1000
def layOk (l : Lay) : Bool := l.secs.all (secIn l) && (l.sigs.all (hasP l) && (l.exits.all (exitOk l) && (l.flanks.all (flankOk l) &&
  (decide (l.secs.length ≤ 24) && (decide (l.sigs.length ≤ 12) && (decide (l.exits.length ≤ 12) && (decide (l.flanks.length ≤ 16) && timesOk l)))))))
theorem all_hit {α : Type} {q : α → Bool} {l : List α} {i : Nat} (hi : i < l.length) (hq : q l[i] = false) : l.all q = false := by
  rw [List.all_eq_false]
  exact ⟨l[i], List.getElem_mem hi, by rw [hq]; simp⟩
theorem all_none {α : Type} {q : α → Bool} {l : List α} (h : NoneIn (fun x => !q x) l) : l.all q = true := by
  rw [List.all_eq_true]
  intro x hx
  have := List.any_eq_false.1 h x hx
  simpa using this
theorem c_r06_Right (l : Lay) (hl : l.lens) : C f_lockbarref06_Right [l.av] (.bool (layOk l)) := by
  obtain ⟨b1, b2, b3, b4, b5⟩ := hl
  refine ctr l.cells run_lockbarref06_Right rfl (by simp) rfl ?_ rfl
  unfold rt_lockbarref06_Right
  simp [Lay.cells]
  refine RTwp_loop rfl (fun vs => ∃ i : Nat, i ≤ l.secs.length ∧ vs = [I i] ∧ NoneIn (fun t => !secIn l t) (l.secs.take i)) (fun vs => match vs with | [.int _ j] => l.secs.length - j.toNat | _ => 0) ⟨0, by omega, by simp, rfl⟩ ?_
  rintro vs - ⟨i, hi, rfl, hq1⟩
  simp
  refine ⟨fun hlt => ?_, fun hge => ?_⟩
  · have hw := wrap_succ (i := i) (by omega)
    simp [hlt, Sec.cells]
    refine call (c_r06_section l l.secs[i]) (by simp [Lay.cells, hlt, Sec.cells]) (fun _ => rfl) ?_
    cases hs : secIn l l.secs[i]
    · simp [layOk, all_hit hlt hs]
    · simp [hw]
      exact ⟨⟨i + 1, by omega, by omega, any_step hlt hq1 (by simp [hs])⟩, by omega⟩
  rw [List.take_of_length_le (by omega)] at hq1
  refine RTwp_loop rfl (fun vs => ∃ i : Nat, i ≤ l.sigs.length ∧ vs = [I i] ∧ NoneIn (fun t => !hasP l t) (l.sigs.take i)) (fun vs => match vs with | [.int _ j] => l.sigs.length - j.toNat | _ => 0) ⟨0, by omega, by simp, rfl⟩ ?_
  rintro vs - ⟨i, hi, rfl, hq2⟩
  simp
  refine ⟨fun hlt => ?_, fun hge => ?_⟩
  · have hw := wrap_succ (i := i) (by omega)
    simp [hlt, Port.cells]
    refine call (c_r06_there l l.sigs[i]) (by simp [Lay.cells, hlt, Port.cells]) (fun _ => rfl) ?_
    cases hs : hasP l l.sigs[i]
    · simp [layOk, all_hit hlt hs]
    · simp [hw]
      exact ⟨⟨i + 1, by omega, by omega, any_step hlt hq2 (by simp [hs])⟩, by omega⟩
  rw [List.take_of_length_le (by omega)] at hq2
  refine RTwp_loop rfl (fun vs => ∃ i : Nat, i ≤ l.exits.length ∧ vs = [I i] ∧ NoneIn (fun t => !exitOk l t) (l.exits.take i)) (fun vs => match vs with | [.int _ j] => l.exits.length - j.toNat | _ => 0) ⟨0, by omega, by simp, rfl⟩ ?_
  rintro vs - ⟨i, hi, rfl, hq3⟩
  simp
  refine ⟨fun hlt => ?_, fun hge => ?_⟩
  · have hw := wrap_succ (i := i) (by omega)
    simp [hlt, Exi.cells]
    refine call (c_r06_exit l l.exits[i] (b5 _ (List.getElem_mem hlt))) (by simp [Lay.cells, hlt, Exi.cells]) (fun _ => rfl) ?_
    cases hs : exitOk l l.exits[i]
    · simp [layOk, all_hit hlt hs]
    · simp [hw]
      exact ⟨⟨i + 1, by omega, by omega, any_step hlt hq3 (by simp [hs])⟩, by omega⟩
  rw [List.take_of_length_le (by omega)] at hq3
  refine RTwp_loop rfl (fun vs => ∃ i : Nat, i ≤ l.flanks.length ∧ vs = [I i] ∧ NoneIn (fun t => !flankOk l t) (l.flanks.take i)) (fun vs => match vs with | [.int _ j] => l.flanks.length - j.toNat | _ => 0) ⟨0, by omega, by simp, rfl⟩ ?_
  rintro vs - ⟨i, hi, rfl, hq4⟩
  simp
  refine ⟨fun hlt => ?_, fun hge => ?_⟩
  · have hw := wrap_succ (i := i) (by omega)
    simp [hlt, Flank.cells]
    refine call (c_r06_flank l l.flanks[i]) (by simp [Lay.cells, hlt, Flank.cells]) (fun _ => rfl) ?_
    cases hs : flankOk l l.flanks[i]
    · simp [layOk, all_hit hlt hs]
    · simp [hw]
      exact ⟨⟨i + 1, by omega, by omega, any_step hlt hq4 (by simp [hs])⟩, by omega⟩
  rw [List.take_of_length_le (by omega)] at hq4
  have e1 : decide ((l.secs.length : Int) ≤ 24) = decide (l.secs.length ≤ 24) := decide_eq_decide.2 (by omega)
  have e2 : decide ((l.sigs.length : Int) ≤ 12) = decide (l.sigs.length ≤ 12) := decide_eq_decide.2 (by omega)
  have e3 : decide ((l.exits.length : Int) ≤ 12) = decide (l.exits.length ≤ 12) := decide_eq_decide.2 (by omega)
  have e4 : decide ((l.flanks.length : Int) ≤ 16) = decide (l.flanks.length ≤ 16) := decide_eq_decide.2 (by omega)
  refine callIf (avs := [.agg (timesCells l)]) (.bool (timesOk l)) rfl (fun _ => ⟨by simp [timesCells], c_r06_times l⟩) (fun _ => rfl) ?_
  have a1 := all_none hq1
  have a2 := all_none hq2
  have a3 := all_none hq3
  have a4 := all_none hq4
  simp only [layOk, a1, a2, a3, a4, Bool.true_and]
  simp [e1, e2, e3, e4, Bool.and_assoc]
end Go.Lb.LK

namespace Go.Lb.LK
open Go Go.Lb Go.Proofs Go.RowKit

/-- A port that is joined as it should be. -/
def joinedAt (l : Lay) (i : Nat) (s : Sec) (m : Nat) : Bool := decide (s.join m = noP) || (hasP l (s.join m) && (!decide ((s.join m).s = i) && decide (beyondP l (s.join m) = ⟨i, m⟩)))
def secJoined (l : Lay) (i : Nat) : Bool := match l.secs[i]? with
  | some s => secOk s && (List.range (portsK s.kind).toNat).all (joinedAt l i s)
  | none => true
def joinedN (l : Lay) : Bool := (List.range (min l.secs.length 24)).all (secJoined l) && decide (l.secs.length ≤ 24)
theorem secJoined_at {l : Lay} {i : Nat} (h : i < l.secs.length) : secJoined l i = (secOk l.secs[i] && (List.range (portsK l.secs[i].kind).toNat).all (joinedAt l i l.secs[i])) := by
  simp [secJoined, List.getElem?_eq_getElem h]
theorem port_ext {a b : Port} (h1 : a.s = b.s) (h2 : a.p = b.p) : a = b := by cases a; cases b; simp_all
set_option maxHeartbeats 2000000 in
theorem c_r07_Joined (l : Lay) (hl : l.secs.length ≤ 1000) : C f_lockbarref07_Joined [l.av] (.bool (joinedN l)) := by
  refine ctr l.cells run_lockbarref07_Joined rfl (by simp) rfl ?_ rfl
  unfold rt_lockbarref07_Joined
  simp [Lay.cells, -pv_aidx]
  refine RTwp_loop rfl (fun vs => ∃ i : Nat, i ≤ l.secs.length ∧ i ≤ 24 ∧ vs = [I i] ∧ ∀ j, j < i → secJoined l j = true) (fun vs => match vs with | [.int _ j] => l.secs.length - j.toNat | _ => 0) ⟨0, by omega, by omega, by simp, fun j hj => by omega⟩ ?_
  rintro vs - ⟨i, hi, hi24, rfl, hq⟩
  simp [-pv_aidx]
  refine ⟨fun hlt h24 => ?_, fun hge => ?_⟩
  · have hw := wrap_succ (i := i) (by omega)
    have hsj := secJoined_at hlt
    have hbad : secJoined l i = false → joinedN l = false := fun hk => by
      have : (List.range (min l.secs.length 24)).all (secJoined l) = false := range_hit (i := i) (by omega) hk
      simp [joinedN, this]
    simp [hlt, Sec.cells, -pv_aidx]
    refine call (c_r05_Right l.secs[i]) (by simp [hlt, Sec.cells]) (fun _ => rfl) ?_
    cases hs : secOk l.secs[i]
    · have := hbad (by rw [hsj, hs]; rfl)
      simp [this, -pv_aidx]
    have hpk := portsK_le l.secs[i].kind
    simp [-pv_aidx]
    refine RTwp_loop rfl (fun vs => ∃ m : Nat, m ≤ (portsK l.secs[i].kind).toNat ∧ vs = [I m] ∧ ∀ j, j < m → joinedAt l i l.secs[i] j = true) (fun vs => match vs with | [.int _ j] => (portsK l.secs[i].kind).toNat - j.toNat | _ => 0) ⟨0, by omega, by simp, fun j hj => by omega⟩ ?_
    rintro vs - ⟨m, hm, rfl, hqm⟩
    simp [hlt, Sec.cells, -pv_aidx]
    refine call (c_r05_Ports l.secs[i].kind) (by simp [hlt, Sec.cells]) (fun _ => rfl) ?_
    simp [-pv_aidx]
    refine ⟨fun hlm => ?_, fun hgm => ?_⟩
    · have hwm := wrap_succ (i := m) (by omega)
      have hm4 : m < 4 := by omega
      have hJ := aidxJ l.secs[i] (i := m) (z := (m : Int)) rfl hm4
      simp only [Sec.cells] at hJ
      simp [hlt, Sec.cells, hJ, -pv_aidx]
      refine ⟨by omega, ⟨by omega, by omega⟩, ⟨by simp [Port.cells], by simp [Port.cells]⟩, ?_⟩
      have hje : joinedAt l i l.secs[i] m = (decide (l.secs[i].join m = noP) || (hasP l (l.secs[i].join m) && (!decide ((l.secs[i].join m).s = i) && decide (beyondP l (l.secs[i].join m) = ⟨i, m⟩)))) := rfl
      have hgood : joinedAt l i l.secs[i] m = true → ∀ j, j < m + 1 → joinedAt l i l.secs[i] j = true := fun hk j hj => by
        by_cases hjm : j = m
        · subst hjm; exact hk
        · exact hqm j (by omega)
      have hbad2 : joinedAt l i l.secs[i] m = false → joinedN l = false := fun hk => hbad (by rw [hsj, range_hit (i := m) (by omega) hk]; simp)
      refine call c_r07_none rfl (by simp) ?_
      generalize l.secs[i].join m = q at hje hJ ⊢
      simp [Port.cells, hlt, Sec.cells, hJ, -pv_aidx]
      refine callIf (avs := [l.av, q.av]) (.bool (hasP l q)) rfl (fun _ => ⟨by simp [Lay.cells, Port.cells, hlt, Sec.cells, hJ, -pv_aidx], c_r07_Has l q⟩) (fun _ => rfl) ?_
      simp [Port.cells, hlt, Sec.cells, hJ, -pv_aidx]
      refine callIf (avs := [l.av, q.av]) (beyondP l q).av (by simp [AV.pure]) (fun _ => ⟨by simp [Lay.cells, Port.cells, hlt, Sec.cells, hJ, -pv_aidx], c_r07_Beyond l q⟩) (by simp) ?_
      simp [Port.cells, hlt, Sec.cells, hJ, -pv_aidx]
      have hne : ¬ q = noP ↔ (¬ q.s = noP.s ∨ ¬ q.p = noP.p) := by
        constructor
        · intro h
          by_cases h1 : q.s = noP.s
          · exact .inr fun h2 => h (port_ext h1 h2)
          · exact .inl h1
        · rintro (h | h) rfl <;> exact h rfl
      have hbe : beyondP l q = ⟨(i : Int), (m : Int)⟩ ↔ (beyondP l q).s = i ∧ (beyondP l q).p = m := by
        constructor
        · intro h; rw [h]; exact ⟨rfl, rfl⟩
        · rintro ⟨h1, h2⟩; exact port_ext h1 h2
      rw [← hne]
      refine ⟨fun h1 h2 => hbad2 ?_, fun h1 => ⟨⟨m + 1, by omega, hwm, hgood ?_⟩, by rw [hwm]; omega⟩⟩
      · rw [hje]
        rcases h2 with (h2 | h2) | h2
        · simp [h1, h2]
        · simp [h1, h2]
        · have : ¬ beyondP l q = ⟨(i : Int), (m : Int)⟩ := fun h => by
            rw [hbe] at h
            rcases h2 with h2 | h2
            · exact h2 h.1
            · exact h2 h.2
          simp [h1, this]
      · rw [hje]
        by_cases hq0 : q = noP
        · simp [hq0]
        · obtain ⟨⟨h2, h3⟩, h4⟩ := h1 hq0
          rw [decide_eq_true (hbe.2 h4)]
          simp [h2, h3]
    · have hall : (List.range (portsK l.secs[i].kind).toNat).all (joinedAt l i l.secs[i]) = true := range_all fun j hj => hqm j (by omega)
      simp [hw, -pv_aidx]
      refine ⟨⟨i + 1, by omega, by omega, by omega, fun j hj => ?_⟩, by omega⟩
      by_cases hji : j = i
      · subst hji; rw [hsj, hs, hall]; rfl
      · exact hq j (by omega)
  · have e : decide ((l.secs.length : Int) ≤ 24) = decide (l.secs.length ≤ 24) := decide_eq_decide.2 (by omega)
    have hall : (List.range (min l.secs.length 24)).all (secJoined l) = true := range_all fun j hj => hq j (by
      by_cases h : i < l.secs.length
      · have := hge h; omega
      · omega)
    simp [joinedN, hall, e]
end Go.Lb.LK

namespace Go.Lb.LK
open Go Go.Lb Go.Proofs Go.RowKit

/-- The first place at which something comes again; none: -1. -/
def dupAt {α : Type} (same : α → α → Bool) (l : List α) (k : Nat) : Bool := match l[k]? with
  | some x => (l.take k).any fun y => same y x
  | none => false
def firstDup {α : Type} (same : α → α → Bool) (l : List α) : Int := match (List.range l.length).find? (dupAt same l) with
  | some k => k
  | none => -1
theorem dupAt_lt {α : Type} {same : α → α → Bool} {l : List α} {k : Nat} (h : k < l.length) : dupAt same l k = (l.take k).any fun y => same y l[k] := by
  simp [dupAt, List.getElem?_eq_getElem h]
theorem firstDup_hit {α : Type} {same : α → α → Bool} {l : List α} {k : Nat} (h : k < l.length) (hq : ∀ j, j < k → dupAt same l j = false) (hk : dupAt same l k = true) : firstDup same l = k := by
  have hr : k < (List.range l.length).length := by simpa using h
  have : (List.range l.length).find? (dupAt same l) = some ((List.range l.length)[k]) := find_hit hr (by
    refine List.any_eq_false.2 fun x hx => ?_
    obtain ⟨j, hj, rfl⟩ := List.mem_take_iff_getElem.1 hx
    simp only [List.getElem_range]
    rw [hq j (by omega)]; simp) (by simpa using hk)
  simp [firstDup, this]
theorem firstDup_none {α : Type} {same : α → α → Bool} {l : List α} (hq : ∀ j, j < l.length → dupAt same l j = false) : firstDup same l = -1 := by
  have : (List.range l.length).find? (dupAt same l) = none := by
    rw [List.find?_eq_none]
    intro x hx
    rw [hq x (List.mem_range.1 hx)]; simp
  simp [firstDup, this]
def sameS' (a b : Port) : Bool := decide (a = b)
def sameX (a b : Exi) : Bool := decide (a.a = b.a)
def sameF (a b : Flank) : Bool := decide (a.s = b.s ∧ a.way = b.way ∧ a.point = b.point)
theorem c_r09_signals (l : Lay) (hl : l.sigs.length ≤ 1000) : C f_lockbarref09_signals [l.av] (I (firstDup sameS' l.sigs)) := by
  refine ctr l.cells run_lockbarref09_signals rfl (by simp) rfl ?_ rfl
  unfold rt_lockbarref09_signals
  simp [Lay.cells]
  refine RTwp_loop rfl (fun vs => ∃ i : Nat, i ≤ l.sigs.length ∧ vs = [I i] ∧ ∀ j, j < i → dupAt sameS' l.sigs j = false) (fun vs => match vs with | [.int _ j] => l.sigs.length - j.toNat | _ => 0) ⟨0, by omega, by simp, fun j hj => by omega⟩ ?_
  rintro vs - ⟨i, hi, rfl, hq⟩
  simp
  refine ⟨fun hlt => ?_, fun hge => ?_⟩
  · have hw := wrap_succ (i := i) (by omega)
    have hdl := dupAt_lt (same := sameS') hlt
    refine RTwp_loop rfl (fun vs => ∃ m : Nat, m ≤ i ∧ vs = [I m] ∧ NoneIn (fun y => sameS' y l.sigs[i]) (l.sigs.take m)) (fun vs => match vs with | [.int _ j] => i - j.toNat | _ => 0) ⟨0, by omega, by simp, rfl⟩ ?_
    rintro vs - ⟨m, hm, rfl, hp⟩
    simp
    refine ⟨fun hlm => ?_, fun hgm => ?_⟩
    · have hml : m < l.sigs.length := by omega
      have hwm := wrap_succ (i := m) (by omega)
      have hpe := port_eqs l.sigs[m] l.sigs[i]
      simp only [Port.cells] at hpe
      simp [hlt, hml, Port.cells, hpe, hwm]
      cases hs : sameS' l.sigs[m] l.sigs[i]
      · have hs2 : ¬ (l.sigs[m] = l.sigs[i]) := by simpa [sameS'] using hs
        have hx := any_step hml hp hs
        simp [hs2]
        try exact ⟨⟨m + 1, by omega, by omega, hx⟩, by omega⟩
      · have hs2 : l.sigs[m] = l.sigs[i] := by simpa [sameS'] using hs
        have hd : dupAt sameS' l.sigs i = true := by rw [hdl]; exact any_hit (i := m) (by rw [List.length_take]; omega) (by simpa using hs)
        simp [hs2, firstDup_hit hlt hq hd]
    · have hmi : m = i := by omega
      subst hmi
      have hd : dupAt sameS' l.sigs m = false := by rw [hdl]; exact hp
      simp [hw]
      refine ⟨⟨m + 1, by omega, by omega, fun j hj => ?_⟩, by omega⟩
      by_cases hjm : j = m
      · subst hjm; exact hd
      · exact hq j (by omega)
  · rw [firstDup_none fun j hj => hq j (by omega)]
theorem c_r09_exits (l : Lay) (hl : l.exits.length ≤ 1000) : C f_lockbarref09_exits [l.av] (I (firstDup sameX l.exits)) := by
  refine ctr l.cells run_lockbarref09_exits rfl (by simp) rfl ?_ rfl
  unfold rt_lockbarref09_exits
  simp [Lay.cells]
  refine RTwp_loop rfl (fun vs => ∃ i : Nat, i ≤ l.exits.length ∧ vs = [I i] ∧ ∀ j, j < i → dupAt sameX l.exits j = false) (fun vs => match vs with | [.int _ j] => l.exits.length - j.toNat | _ => 0) ⟨0, by omega, by simp, fun j hj => by omega⟩ ?_
  rintro vs - ⟨i, hi, rfl, hq⟩
  simp
  refine ⟨fun hlt => ?_, fun hge => ?_⟩
  · have hw := wrap_succ (i := i) (by omega)
    have hdl := dupAt_lt (same := sameX) hlt
    refine RTwp_loop rfl (fun vs => ∃ m : Nat, m ≤ i ∧ vs = [I m] ∧ NoneIn (fun y => sameX y l.exits[i]) (l.exits.take m)) (fun vs => match vs with | [.int _ j] => i - j.toNat | _ => 0) ⟨0, by omega, by simp, rfl⟩ ?_
    rintro vs - ⟨m, hm, rfl, hp⟩
    simp
    refine ⟨fun hlm => ?_, fun hgm => ?_⟩
    · have hml : m < l.exits.length := by omega
      have hwm := wrap_succ (i := m) (by omega)
      have hpe := port_eqs l.exits[m].a l.exits[i].a
      simp only [Port.cells] at hpe
      simp [hlt, hml, Exi.cells, hpe, hwm]
      cases hs : sameX l.exits[m] l.exits[i]
      · have hs2 : ¬ (l.exits[m].a = l.exits[i].a) := by simpa [sameX] using hs
        have hx := any_step hml hp hs
        simp [hs2]
        try exact ⟨⟨m + 1, by omega, by omega, hx⟩, by omega⟩
      · have hs2 : l.exits[m].a = l.exits[i].a := by simpa [sameX] using hs
        have hd : dupAt sameX l.exits i = true := by rw [hdl]; exact any_hit (i := m) (by rw [List.length_take]; omega) (by simpa using hs)
        simp [hs2, firstDup_hit hlt hq hd]
    · have hmi : m = i := by omega
      subst hmi
      have hd : dupAt sameX l.exits m = false := by rw [hdl]; exact hp
      simp [hw]
      refine ⟨⟨m + 1, by omega, by omega, fun j hj => ?_⟩, by omega⟩
      by_cases hjm : j = m
      · subst hjm; exact hd
      · exact hq j (by omega)
  · rw [firstDup_none fun j hj => hq j (by omega)]
theorem c_r09_flanks (l : Lay) (hl : l.flanks.length ≤ 1000) : C f_lockbarref09_flanks [l.av] (I (firstDup sameF l.flanks)) := by
  refine ctr l.cells run_lockbarref09_flanks rfl (by simp) rfl ?_ rfl
  unfold rt_lockbarref09_flanks
  simp [Lay.cells]
  refine RTwp_loop rfl (fun vs => ∃ i : Nat, i ≤ l.flanks.length ∧ vs = [I i] ∧ ∀ j, j < i → dupAt sameF l.flanks j = false) (fun vs => match vs with | [.int _ j] => l.flanks.length - j.toNat | _ => 0) ⟨0, by omega, by simp, fun j hj => by omega⟩ ?_
  rintro vs - ⟨i, hi, rfl, hq⟩
  simp
  refine ⟨fun hlt => ?_, fun hge => ?_⟩
  · have hw := wrap_succ (i := i) (by omega)
    have hdl := dupAt_lt (same := sameF) hlt
    refine RTwp_loop rfl (fun vs => ∃ m : Nat, m ≤ i ∧ vs = [I m] ∧ NoneIn (fun y => sameF y l.flanks[i]) (l.flanks.take m)) (fun vs => match vs with | [.int _ j] => i - j.toNat | _ => 0) ⟨0, by omega, by simp, rfl⟩ ?_
    rintro vs - ⟨m, hm, rfl, hp⟩
    simp
    refine ⟨fun hlm => ?_, fun hgm => ?_⟩
    · have hml : m < l.flanks.length := by omega
      have hwm := wrap_succ (i := m) (by omega)
      simp [hlt, hml, Flank.cells, hwm]
      cases hs : sameF l.flanks[m] l.flanks[i]
      · have hs2 : ¬ (l.flanks[m].s = l.flanks[i].s ∧ l.flanks[m].way = l.flanks[i].way ∧ l.flanks[m].point = l.flanks[i].point) := by simpa [sameF] using hs
        have hx := any_step hml hp hs
        exact .inl ⟨fun h1 h2 h3 => hs2 ⟨h1, h2, h3⟩, ⟨m + 1, by omega, by omega, hx⟩, by omega⟩
      · have hs2 : l.flanks[m].s = l.flanks[i].s ∧ l.flanks[m].way = l.flanks[i].way ∧ l.flanks[m].point = l.flanks[i].point := by simpa [sameF] using hs
        have hd : dupAt sameF l.flanks i = true := by rw [hdl]; exact any_hit (i := m) (by rw [List.length_take]; omega) (by simpa using hs)
        simp [hs2, firstDup_hit hlt hq hd]
    · have hmi : m = i := by omega
      subst hmi
      have hd : dupAt sameF l.flanks m = false := by rw [hdl]; exact hp
      simp [hw]
      refine ⟨⟨m + 1, by omega, by omega, fun j hj => ?_⟩, by omega⟩
      by_cases hjm : j = m
      · subst hjm; exact hd
      · exact hq j (by omega)
  · rw [firstDup_none fun j hj => hq j (by omega)]
end Go.Lb.LK

namespace Go.Lb.LK
open Go Go.Lb Go.Proofs Go.RowKit

/-- Where an overlap's step begins. -/
def overFrom (x : Exi) (k : Nat) : Port := if k = 0 then x.a else match x.over[k - 1]? with
  | some t => ⟨t.s, t.o⟩
  | none => noP
def overAt (l : Lay) (x : Exi) (k : Nat) : Bool := match x.over[k]? with
  | some t => decide (beyondP l (overFrom x k) = ⟨t.s, t.i⟩) && (!decide (t.s = x.a.s) && !(x.over.take k).any fun u => decide (u.s = t.s))
  | none => true
def overOk (l : Lay) (x : Exi) : Bool := (List.range x.over.length).all (overAt l x)
theorem overAt_lt {l : Lay} {x : Exi} {k : Nat} (h : k < x.over.length) : overAt l x k = (decide (beyondP l (overFrom x k) = ⟨x.over[k].s, x.over[k].i⟩) && (!decide (x.over[k].s = x.a.s) && !(x.over.take k).any fun u => decide (u.s = x.over[k].s))) := by
  simp [overAt, List.getElem?_eq_getElem h]
def over9 (l : Lay) (x : Int) : Bool := layOk l && (match exitAt l x with
  | some e => overOk l e
  | none => false)
set_option maxHeartbeats 2000000 in
theorem c_r09_Over (l : Lay) (hl : l.lens) (x : Int) : C f_lockbarref09_Over [l.av, I x] (.bool (over9 l x)) := by
  refine ctr (l.cells ++ [I x]) run_lockbarref09_Over rfl (by simp [pureAll_append, AV.pureAll, AV.pure]) rfl ?_ rfl
  unfold rt_lockbarref09_Over
  simp [Lay.cells]
  refine call (c_r06_Right l hl) (by simp [Lay.cells]) (fun _ => rfl) ?_
  simp
  refine ⟨fun hb => ?_, fun h1 h2 h3 => ?_⟩
  · rcases hb with (hb | hb) | hb
    · simp [over9, hb]
    · simp [over9, exitAt_out (l := l) (s := x) (by omega)]
    · simp [over9, exitAt_out (l := l) (s := x) (by omega)]
  · obtain ⟨n, hn, hlt, he⟩ := exitAt_in h2 h3
    have hk := hl.over _ (List.getElem_mem hlt)
    have hval : over9 l x = overOk l l.exits[n] := by simp [over9, h1, he]
    rw [hval]
    have hbad : ∀ i, i < l.exits[n].over.length → overAt l l.exits[n] i = false → overOk l l.exits[n] = false := fun i hi hk => range_hit hi hk
    simp [hn, hlt, Exi.cells]
    refine RTwp_loop rfl (fun vs => ∃ i : Nat, i ≤ l.exits[n].over.length ∧ vs = [I i, I (overFrom l.exits[n] i).s, I (overFrom l.exits[n] i).p] ∧ ∀ j, j < i → overAt l l.exits[n] j = true) (fun vs => match vs with | [.int _ j, _, _] => l.exits[n].over.length - j.toNat | _ => 0) ⟨0, by omega, by simp [hn, hlt, Exi.cells, overFrom], fun j hj => by omega⟩ ?_
    rintro vs - ⟨i, hi, rfl, hq⟩
    simp [hlt, Exi.cells]
    refine ⟨fun hli => ?_, fun hge => ?_⟩
    · have hw := wrap_succ (i := i) (by omega)
      have ho := overAt_lt (l := l) hli
      have hgood : overAt l l.exits[n] i = true → ∀ j, j < i + 1 → overAt l l.exits[n] j = true := fun hk j hj => by
        by_cases hji : j = i
        · subst hji; exact hk
        · exact hq j (by omega)
      have hfrom : overFrom l.exits[n] (i + 1) = ⟨l.exits[n].over[i].s, l.exits[n].over[i].o⟩ := by
        simp [overFrom, List.getElem?_eq_getElem hli]
      refine call (c_r07_Beyond l (overFrom l.exits[n] i)) (by simp [Lay.cells, Port.cells]) (by simp) ?_
      simp [hlt, hli, Exi.cells, Step.cells, Port.cells]
      have hbe : beyondP l (overFrom l.exits[n] i) = ⟨l.exits[n].over[i].s, l.exits[n].over[i].i⟩ ↔ (beyondP l (overFrom l.exits[n] i)).s = l.exits[n].over[i].s ∧ (beyondP l (overFrom l.exits[n] i)).p = l.exits[n].over[i].i := by
        constructor
        · intro h; rw [h]; exact ⟨rfl, rfl⟩
        · rintro ⟨h1, h2⟩; exact port_ext h1 h2
      refine ⟨fun hb => hbad i hli ?_, fun g1 g2 g3 => ?_⟩
      · rw [ho]
        rcases hb with (hb | hb) | hb
        · have : ¬ beyondP l (overFrom l.exits[n] i) = ⟨l.exits[n].over[i].s, l.exits[n].over[i].i⟩ := fun h => hb (hbe.1 h).1
          simp [this]
        · have : ¬ beyondP l (overFrom l.exits[n] i) = ⟨l.exits[n].over[i].s, l.exits[n].over[i].i⟩ := fun h => hb (hbe.1 h).2
          simp [this]
        · simp [hb]
      · have g0 := hbe.2 ⟨g1, g2⟩
        refine RTwp_loop rfl (fun vs => ∃ m : Nat, m ≤ i ∧ vs = [I m] ∧ NoneIn (fun u => decide (u.s = l.exits[n].over[i].s)) (l.exits[n].over.take m)) (fun vs => match vs with | [.int _ j] => i - j.toNat | _ => 0) ⟨0, by omega, by simp, rfl⟩ ?_
        rintro vs - ⟨m, hm, rfl, hp⟩
        simp
        refine ⟨fun hlm => ?_, fun hgm => ?_⟩
        · have hml : m < l.exits[n].over.length := by omega
          have hwm := wrap_succ (i := m) (by omega)
          simp [hlt, hli, hml, Exi.cells, Step.cells, hwm]
          by_cases he2 : l.exits[n].over[m].s = l.exits[n].over[i].s
          · right
            refine ⟨he2, hbad i hli ?_⟩
            have : ((l.exits[n].over.take i).any fun u => decide (u.s = l.exits[n].over[i].s)) = true := any_hit (i := m) (by rw [List.length_take]; omega) (by simpa using he2)
            rw [ho, this]; simp
          · left
            exact ⟨he2, ⟨m + 1, by omega, by omega, any_step hml hp (by simpa using he2)⟩, by omega⟩
        · have hmi : m = i := by omega
          subst hmi
          have hk : overAt l l.exits[n] m = true := by
            rw [ho, g0, decide_eq_true rfl, hp]
            simp [g3]
          simp [hlt, hli, Exi.cells, Step.cells, hw]
          exact ⟨⟨m + 1, by omega, ⟨by omega, by rw [hfrom], by rw [hfrom]⟩, hgood hk⟩, by omega⟩
    · have : overOk l l.exits[n] = true := range_all fun j hj => hq j (by omega)
      simp [this]
def firstBad (l : Lay) : Int := match (List.range l.exits.length).find? (fun i : Nat => !over9 l i) with
  | some k => k
  | none => -1
theorem c_r09_overs (l : Lay) (hl : l.lens) : C f_lockbarref09_overs [l.av] (I (firstBad l)) := by
  have hb := hl.exits
  refine ctr l.cells run_lockbarref09_overs rfl (by simp) rfl ?_ rfl
  unfold rt_lockbarref09_overs
  simp [Lay.cells]
  refine RTwp_loop rfl (fun vs => ∃ i : Nat, i ≤ l.exits.length ∧ vs = [I i] ∧ ∀ j, j < i → over9 l j = true) (fun vs => match vs with | [.int _ j] => l.exits.length - j.toNat | _ => 0) ⟨0, by omega, by simp, fun j hj => by omega⟩ ?_
  rintro vs - ⟨i, hi, rfl, hq⟩
  simp
  refine ⟨fun hlt => ?_, fun hge => ?_⟩
  · have hw := wrap_succ (i := i) (by omega)
    refine call (c_r09_Over l hl i) (by simp [Lay.cells]) (fun _ => rfl) ?_
    cases ho : over9 l i
    · have hr : i < (List.range l.exits.length).length := by simpa using hlt
      have : (List.range l.exits.length).find? (fun i : Nat => !over9 l i) = some ((List.range l.exits.length)[i]) := find_hit hr (by
        refine List.any_eq_false.2 fun x hx => ?_
        obtain ⟨j, hj, rfl⟩ := List.mem_take_iff_getElem.1 hx
        simp only [List.getElem_range]
        rw [hq j (by omega)]; simp) (by simp [ho])
      simp [firstBad, this]
    · simp [hw]
      refine ⟨⟨i + 1, by omega, by omega, fun j hj => ?_⟩, by omega⟩
      by_cases hji : j = i
      · subst hji; exact ho
      · exact hq j (by omega)
  · have : (List.range l.exits.length).find? (fun i : Nat => !over9 l i) = none := by
      rw [List.find?_eq_none]
      intro x hx
      rw [hq x (by have := List.mem_range.1 hx; omega)]; simp
    simp [firstBad, this]
/-- Which layouts may be. -/
def topoOk (l : Lay) : Bool := layOk l && (joinedN l && (decide (firstDup sameS' l.sigs < 0) && (decide (firstDup sameX l.exits < 0) && (decide (firstBad l < 0) && decide (firstDup sameF l.flanks < 0)))))
def fourAt (a b c d : Int) (i : Nat) : Int := if i = 0 then a else if i = 1 then b else if i = 2 then c else d
theorem aidx4 (a b c d : Int) {i : Nat} {z : Int} (hz : z = i) (h : i < 4) : pv (.aidx 4 1 0 1 false) [.agg [I a, I b, I c, I d], I z] = I (fourAt a b c d i) := by
  subst hz
  match i, h with
  | 0, _ => rfl
  | 1, _ => rfl
  | 2, _ => rfl
  | 3, _ => rfl
/-- What the check says: the rule, the place, the number. -/
def topoN (l : Lay) : Int × Int × Int :=
  if layOk l = false then (0, 0, 60) else if joinedN l = false then (1, 0, 90) else
  match (List.range 4).find? (fun i => decide (0 ≤ fourAt (firstDup sameS' l.sigs) (firstDup sameX l.exits) (firstBad l) (firstDup sameF l.flanks) i)) with
  | some i => (i + 2, fourAt (firstDup sameS' l.sigs) (firstDup sameX l.exits) (firstBad l) (firstDup sameF l.flanks) i, 90)
  | none => (0, 0, 0)
set_option maxHeartbeats 2000000 in
theorem c_r09_Check (l : Lay) (hl : l.lens) : C f_lockbarref09_Check [l.av] (.tup [I (topoN l).1, I (topoN l).2.1, I (topoN l).2.2]) := by
  refine ctr l.cells run_lockbarref09_Check rfl (by simp) rfl ?_ rfl
  unfold rt_lockbarref09_Check
  simp [Lay.cells, -pv_aidx]
  refine call (c_r06_Right l hl) (by simp [Lay.cells]) (fun _ => rfl) ?_
  cases h1 : layOk l
  · simp [topoN, h1, -pv_aidx]
  simp [-pv_aidx]
  refine call (c_r07_Joined l hl.secs) (by simp [Lay.cells]) (fun _ => rfl) ?_
  cases h2 : joinedN l
  · simp [topoN, h1, h2, -pv_aidx]
  simp [-pv_aidx]
  refine call (c_r09_signals l hl.sigs) (by simp [Lay.cells]) (fun _ => rfl) ?_
  simp [-pv_aidx]
  refine call (c_r09_exits l hl.exits) (by simp [Lay.cells]) (fun _ => rfl) ?_
  simp [-pv_aidx]
  refine call (c_r09_overs l hl) (by simp [Lay.cells]) (fun _ => rfl) ?_
  simp [-pv_aidx]
  refine call (c_r09_flanks l hl.flanks) (by simp [Lay.cells]) (fun _ => rfl) ?_
  simp [-pv_aidx]
  have hA := fun (i : Nat) (h : i < 4) => aidx4 (firstDup sameS' l.sigs) (firstDup sameX l.exits) (firstBad l) (firstDup sameF l.flanks) (i := i) rfl h
  have hval : topoN l = match (List.range 4).find? (fun i => decide (0 ≤ fourAt (firstDup sameS' l.sigs) (firstDup sameX l.exits) (firstBad l) (firstDup sameF l.flanks) i)) with
    | some i => ((i : Int) + 2, fourAt (firstDup sameS' l.sigs) (firstDup sameX l.exits) (firstBad l) (firstDup sameF l.flanks) i, 90)
    | none => (0, 0, 0) := by simp [topoN, h1, h2]
  rw [hval]
  generalize firstDup sameS' l.sigs = a at *
  generalize firstDup sameX l.exits = b at *
  generalize firstBad l = c at *
  generalize firstDup sameF l.flanks = d at *
  refine RTwp_loop rfl (fun vs => ∃ i : Nat, i ≤ 4 ∧ vs = [I i] ∧ ∀ j, j < i → ¬ 0 ≤ fourAt a b c d j) (fun vs => match vs with | [.int _ j] => 4 - j.toNat | _ => 0) ⟨0, by omega, by simp, fun j hj => by omega⟩ ?_
  rintro vs - ⟨i, hi, rfl, hq⟩
  simp [-pv_aidx]
  refine ⟨fun hlt => ?_, fun hge => ?_⟩
  · have hi4 : i < 4 := by omega
    have hw := wrap_succ (i := i) (by omega)
    have hw2 : IntKind.i64.wrap ((i : Int) + 2) = (i : Int) + 2 := by rw [wrap_i] <;> omega
    simp [hA i hi4, hw2, hw, -pv_aidx]
    repeat refine And.intro (by intros; omega) ?_
    by_cases h0 : 0 ≤ fourAt a b c d i
    · right
      have hr : i < (List.range 4).length := by simpa using hi4
      have : (List.range 4).find? (fun i => decide (0 ≤ fourAt a b c d i)) = some ((List.range 4)[i]) := find_hit hr (by
        refine List.any_eq_false.2 fun x hx => ?_
        obtain ⟨j, hj, rfl⟩ := List.mem_take_iff_getElem.1 hx
        simp only [List.getElem_range]
        simpa using hq j (by omega)) (by simpa using h0)
      simp [this, h0]
      omega
    · left
      refine ⟨by omega, ⟨i + 1, by omega, by omega, fun j hj => ?_⟩, by omega⟩
      by_cases hji : j = i
      · subst hji; omega
      · have := hq j (by omega); omega
  · have : (List.range 4).find? (fun i => decide (0 ≤ fourAt a b c d i)) = none := by
      rw [List.find?_eq_none]
      intro x hx
      simpa using hq x (by have := List.mem_range.1 hx; omega)
    simp [this]
theorem topo_ok (l : Lay) : ((topoN l).2.2 = 0) ↔ topoOk l = true := by
  unfold topoN topoOk
  cases layOk l
  · simp
  cases joinedN l
  · simp
  simp only [Bool.true_eq_false, if_false, Bool.true_and]
  generalize firstDup sameS' l.sigs = a
  generalize firstDup sameX l.exits = b
  generalize firstBad l = c
  generalize firstDup sameF l.flanks = d
  cases hf : (List.range 4).find? (fun i => decide (0 ≤ fourAt a b c d i)) with
  | none =>
    rw [List.find?_eq_none] at hf
    have h0 := hf 0 (by simp)
    have h1 := hf 1 (by simp)
    have h2 := hf 2 (by simp)
    have h3 := hf 3 (by simp)
    simp [fourAt] at h0 h1 h2 h3
    simp [h0, h1, h2, h3]
  | some i =>
    have hi := List.mem_range.1 (List.mem_of_find?_eq_some hf)
    have hq := List.find?_some hf
    simp only [decide_eq_true_eq] at hq
    simp only [Bool.and_eq_true, decide_eq_true_eq]
    constructor
    · intro h; simp at h
    · rintro ⟨h0, h1, h2, h3⟩
      exfalso
      have : i = 0 ∨ i = 1 ∨ i = 2 ∨ i = 3 := by omega
      rcases this with rfl | rfl | rfl | rfl <;> simp [fourAt] at hq <;> omega
theorem c_r09_Right (l : Lay) (hl : l.lens) : C f_lockbarref09_Right [l.av] (.bool (topoOk l)) := by
  refine ctr l.cells run_lockbarref09_Right rfl (by simp) rfl ?_ rfl
  unfold rt_lockbarref09_Right
  simp [Lay.cells]
  refine call (c_r09_Check l hl) (by simp [Lay.cells]) (by simp) ?_
  simp
  have := topo_ok l
  by_cases h : topoOk l = true
  · rw [h, this.2 h]; rfl
  · rw [Bool.eq_false_iff.2 h]
    rw [beq_eq_false_iff_ne]
    exact fun h2 => h (this.1 h2)
end Go.Lb.LK

namespace Go.Lb.LK
open Go Go.Lb Go.Proofs Go.RowKit

/-- A step that is there, and goes on from the one ahead of it. -/
def goesAt (l : Lay) (ss : List Step) (k : Nat) : Bool := match ss[k]? with
  | some t => (lstep l t).2 && (if 0 < k then (match ss[k - 1]? with
      | some u => decide (beyondP l ⟨u.s, u.o⟩ = ⟨t.s, t.i⟩)
      | none => false) else true)
  | none => true
def goesN (l : Lay) (ss : List Step) : Bool := (List.range ss.length).all (goesAt l ss)
theorem beq_port {a : Port} {x y : Int} : a = ⟨x, y⟩ ↔ a.s = x ∧ a.p = y := by
  constructor
  · intro h; rw [h]; exact ⟨rfl, rfl⟩
  · rintro ⟨h1, h2⟩; exact port_ext h1 h2
set_option maxHeartbeats 2000000 in
theorem c_r11_Goes (l : Lay) (ss : List Step) (hs : ss.length ≤ 1000) : C f_lockbarref11_Goes [l.av, steps ss] (.bool (goesN l ss)) := by
  refine ctr (l.cells ++ [steps ss]) run_lockbarref11_Goes rfl (by simp [pureAll_append, AV.pureAll, AV.pure]) rfl ?_ rfl
  unfold rt_lockbarref11_Goes
  simp [Lay.cells]
  refine RTwp_loop rfl (fun vs => ∃ i : Nat, i ≤ ss.length ∧ vs = [I i] ∧ ∀ j, j < i → goesAt l ss j = true) (fun vs => match vs with | [.int _ j] => ss.length - j.toNat | _ => 0) ⟨0, by omega, by simp, fun j hj => by omega⟩ ?_
  rintro vs - ⟨i, hi, rfl, hq⟩
  simp
  refine ⟨fun hlt => ?_, fun hge => ?_⟩
  · have hw := wrap_succ (i := i) (by omega)
    have hgood : goesAt l ss i = true → ∀ j, j < i + 1 → goesAt l ss j = true := fun hk j hj => by
      by_cases hji : j = i
      · subst hji; exact hk
      · exact hq j (by omega)
    have hbad : goesAt l ss i = false → goesN l ss = false := fun hk => range_hit hlt hk
    simp [hlt, Step.cells]
    refine call (c_r06_Step l ss[i]) (by simp [Lay.cells, hlt, Step.cells]) (by simp) ?_
    by_cases hi0 : 0 < i
    · have hw0 : IntKind.i64.wrap ((i : Int) - 1) = (i : Int) - 1 := by rw [wrap_i] <;> omega
      have hi1 : ((i : Int) - 1).toNat = i - 1 := by omega
      have hlt1 : i - 1 < ss.length := by omega
      have hge' : goesAt l ss i = ((lstep l ss[i]).2 && decide (beyondP l ⟨ss[i - 1].s, ss[i - 1].o⟩ = ⟨ss[i].s, ss[i].i⟩)) := by
        simp [goesAt, List.getElem?_eq_getElem hlt, List.getElem?_eq_getElem hlt1, hi0]
      simp [hi0, hw0, hi1, hlt, hlt1, Step.cells]
      repeat refine And.intro (by intros; omega) ?_
      refine callIf (avs := [l.av, (Port.mk ss[i - 1].s ss[i - 1].o).av]) (beyondP l ⟨ss[i - 1].s, ss[i - 1].o⟩).av (by simp [AV.pure]) (fun _ => ⟨by simp [Lay.cells, hi0, hw0, hi1, hlt1, Step.cells, Port.cells], c_r07_Beyond _ _⟩) (by simp) ?_
      simp [hi0, hw0, hi1, hlt, hlt1, Step.cells, Port.cells, hw]
      refine ⟨fun hb => hbad ?_, fun h1 h2 h3 => ⟨⟨i + 1, by omega, by omega, hgood ?_⟩, by omega⟩⟩
      · rw [hge']
        rcases hb with hb | hb
        · simp [hb]
        · have : ¬ beyondP l ⟨ss[i - 1].s, ss[i - 1].o⟩ = ⟨ss[i].s, ss[i].i⟩ := fun h => by
            rw [beq_port] at h
            rcases hb with hb | hb
            · exact hb h.1
            · exact hb h.2
          simp [this]
      · rw [hge', h1, decide_eq_true (beq_port.2 ⟨h2, h3⟩)]; rfl
    · have hi0' : i = 0 := by omega
      have hge' : goesAt l ss i = (lstep l ss[i]).2 := by
        simp [goesAt, List.getElem?_eq_getElem hlt, hi0]
      simp [hi0, hlt, Step.cells]
      refine callIf (avs := []) noP.av (by simp [AV.pure]) (fun hh => ?_) (by simp) ?_
      · simp [hi0] at hh
      simp [hi0, hlt, Step.cells, noP, Port.cells, hw]
      cases hs2 : (lstep l ss[i]).2
      · simp [hs2, hbad (by rw [hge', hs2])]
      · simp [hs2]
        exact ⟨⟨i + 1, by omega, by omega, hgood (by rw [hge', hs2])⟩, by omega⟩
  · have : goesN l ss = true := range_all fun j hj => hq j (by omega)
    simp [this]
/-- Each section once, and none of the overlap. -/
def simpleAt (ss ov : List Step) (k : Nat) : Bool := match ss[k]? with
  | some t => !((ss.take k).any fun u => decide (u.s = t.s)) && !(ov.any fun u => decide (u.s = t.s))
  | none => true
def simpleN (ss ov : List Step) : Bool := (List.range ss.length).all (simpleAt ss ov)
set_option maxHeartbeats 2000000 in
theorem c_r11_simple (ss ov : List Step) (hs : ss.length ≤ 1000) (ho : ov.length ≤ 1000) : C f_lockbarref11_simple [steps ss, steps ov] (.bool (simpleN ss ov)) := by
  refine ctr [steps ss, steps ov] run_lockbarref11_simple rfl (by simp [AV.pureAll, AV.pure]) rfl ?_ rfl
  unfold rt_lockbarref11_simple
  refine RTwp_loop rfl (fun vs => ∃ i : Nat, i ≤ ss.length ∧ vs = [I i] ∧ ∀ j, j < i → simpleAt ss ov j = true) (fun vs => match vs with | [.int _ j] => ss.length - j.toNat | _ => 0) ⟨0, by omega, by simp, fun j hj => by omega⟩ ?_
  rintro vs - ⟨i, hi, rfl, hq⟩
  simp
  refine ⟨fun hlt => ?_, fun hge => ?_⟩
  · have hw := wrap_succ (i := i) (by omega)
    have hbad : simpleAt ss ov i = false → simpleN ss ov = false := fun hk => range_hit hlt hk
    have hse : simpleAt ss ov i = (!((ss.take i).any fun u => decide (u.s = ss[i].s)) && !(ov.any fun u => decide (u.s = ss[i].s))) := by
      simp [simpleAt, List.getElem?_eq_getElem hlt]
    refine RTwp_loop rfl (fun vs => ∃ m : Nat, m ≤ i ∧ vs = [I m] ∧ NoneIn (fun u => decide (u.s = ss[i].s)) (ss.take m)) (fun vs => match vs with | [.int _ j] => i - j.toNat | _ => 0) ⟨0, by omega, by simp, rfl⟩ ?_
    rintro vs - ⟨m, hm, rfl, hp⟩
    simp
    refine ⟨fun hlm => ?_, fun hgm => ?_⟩
    · have hml : m < ss.length := by omega
      have hwm := wrap_succ (i := m) (by omega)
      simp [hlt, hml, Step.cells, hwm]
      by_cases he : ss[m].s = ss[i].s
      · have : ((ss.take i).any fun u => decide (u.s = ss[i].s)) = true := any_hit (i := m) (by rw [List.length_take]; omega) (by simpa using he)
        have hf := hbad (by rw [hse, this]; simp)
        simp [he, hf]
      · simp [he]
        exact ⟨⟨m + 1, by omega, by omega, any_step hml hp (by simpa using he)⟩, by omega⟩
    · have hmi : m = i := by omega
      subst hmi
      refine RTwp_loop rfl (fun vs => ∃ q : Nat, q ≤ ov.length ∧ vs = [I q] ∧ NoneIn (fun u => decide (u.s = ss[m].s)) (ov.take q)) (fun vs => match vs with | [.int _ j] => ov.length - j.toNat | _ => 0) ⟨0, by omega, by simp, rfl⟩ ?_
      rintro vs - ⟨q, hq2, rfl, hp2⟩
      simp
      refine ⟨fun hlq => ?_, fun hgq => ?_⟩
      · have hwq := wrap_succ (i := q) (by omega)
        simp [hlt, hlq, Step.cells, hwq]
        by_cases he : ov[q].s = ss[m].s
        · have : (ov.any fun u => decide (u.s = ss[m].s)) = true := any_hit hlq (by simpa using he)
          have hf := hbad (by rw [hse, this]; simp)
          simp [he, hf]
        · simp [he]
          exact ⟨⟨q + 1, by omega, by omega, any_step hlq hp2 (by simpa using he)⟩, by omega⟩
      · have ht : ov.take q = ov := List.take_of_length_le (by omega)
        rw [ht] at hp2
        have hk : simpleAt ss ov m = true := by
          rw [hse]
          unfold NoneIn at hp hp2
          rw [hp, hp2]; rfl
        simp [hlt, hw]
        refine ⟨⟨m + 1, by omega, by omega, fun j hj => ?_⟩, by omega⟩
        by_cases hjm : j = m
        · subst hjm; exact hk
        · exact hq j (by omega)
  · have : simpleN ss ov = true := range_all fun j hj => hq j (by omega)
    simp [this]
/-- Through no vias. -/
theorem c_r11_Through (p : Path) : C f_lockbarref11_Through [p.av, .sl []] (.bool true) := by
  refine ctr (p.cells ++ [.sl []]) run_lockbarref11_Through rfl (by simp [pureAll_append, AV.pureAll, AV.pure]) rfl ?_ rfl
  unfold rt_lockbarref11_Through
  simp [Path.cells]
  refine RTwp_loop rfl (fun vs => vs = [I 0, I 0]) (fun _ => 0) rfl ?_
  rintro vs - rfl
  simp
def sigAt (l : Lay) (p : Port) : Int := match (List.range l.sigs.length).find? (fun i => decide (l.sigs[i]? = some p)) with
  | some i => i
  | none => -1
theorem c_r06_Signal (l : Lay) (hl : l.sigs.length ≤ 1000) (p : Port) : C f_lockbarref06_Signal [l.av, p.av] (I (sigAt l p)) := by
  refine ctr (l.cells ++ p.cells) run_lockbarref06_Signal rfl (by simp [pureAll_append]) rfl ?_ rfl
  unfold rt_lockbarref06_Signal
  simp [Lay.cells, Port.cells]
  refine RTwp_loop rfl (fun vs => ∃ i : Nat, i ≤ l.sigs.length ∧ vs = [I i] ∧ ∀ j, j < i → ¬ l.sigs[j]? = some p) (fun vs => match vs with | [.int _ j] => l.sigs.length - j.toNat | _ => 0) ⟨0, by omega, by simp, fun j hj => by omega⟩ ?_
  rintro vs - ⟨i, hi, rfl, hq⟩
  simp
  refine ⟨fun hlt => ?_, fun hge => ?_⟩
  · have hw := wrap_succ (i := i) (by omega)
    have hpe := port_eqs l.sigs[i] p
    simp only [Port.cells] at hpe
    simp [hlt, Port.cells, hpe, hw]
    by_cases he : l.sigs[i] = p
    · have hr : i < (List.range l.sigs.length).length := by simpa using hlt
      have : (List.range l.sigs.length).find? (fun i => decide (l.sigs[i]? = some p)) = some ((List.range l.sigs.length)[i]) := find_hit hr (by
        refine List.any_eq_false.2 fun x hx => ?_
        obtain ⟨j, hj, rfl⟩ := List.mem_take_iff_getElem.1 hx
        simp only [List.getElem_range]
        simpa using hq j (by omega)) (by simp [List.getElem?_eq_getElem hlt, he])
      simp [he, sigAt, this]
    · simp [he]
      refine ⟨⟨i + 1, by omega, by omega, fun j hj => ?_⟩, by omega⟩
      by_cases hji : j = i
      · subst hji; simpa [List.getElem?_eq_getElem hlt] using he
      · exact hq j (by omega)
  · have : (List.range l.sigs.length).find? (fun i => decide (l.sigs[i]? = some p)) = none := by
      rw [List.find?_eq_none]
      intro x hx
      have := hq x (by have := List.mem_range.1 hx; omega)
      simpa using this
    simp [sigAt, this]
end Go.Lb.LK

namespace Go.Lb.LK
open Go Go.Lb Go.Proofs Go.RowKit

def firstOk (sg : Port) (ss : List Step) : Bool := match ss[0]? with
  | some t => decide (sg = ⟨t.s, t.i⟩)
  | none => false
def lastOk (e : Port) (ss : List Step) : Bool := match ss[ss.length - 1]? with
  | some t => decide (e = ⟨t.s, t.o⟩)
  | none => false
def midAt (l : Lay) (ss : List Step) (k : Nat) : Bool := match ss[k]? with
  | some t => decide (k = 0) || decide (sigAt l ⟨t.s, t.i⟩ < 0)
  | none => true
def midOk (l : Lay) (ss : List Step) : Bool := (List.range ss.length).all (midAt l ss)
def pathOk (l : Lay) (p : Path) (sg : Port) (e : Exi) : Bool := decide (1 ≤ p.steps.length ∧ p.steps.length ≤ 12) && (goesN l p.steps && (simpleN p.steps e.over && (firstOk sg p.steps && (lastOk e.a p.steps && midOk l p.steps))))
def checkN (l : Lay) (p : Path) : Int :=
  if topoOk l = true ∧ (0 ≤ p.sig ∧ p.sig < l.sigs.length) ∧ (0 ≤ p.exit ∧ p.exit < l.exits.length) then
    (match l.sigs[p.sig.toNat]?, l.exits[p.exit.toNat]? with
      | some sg, some e => if pathOk l p sg e = true then 0 else 110
      | _, _ => 110) else 2
set_option maxRecDepth 100000 in
set_option maxHeartbeats 4000000 in
theorem c_r11_Check (l : Lay) (hl : l.lens) (p : Path) : C f_lockbarref11_Check [l.av, p.av, .sl []] (I (checkN l p)) := by
  refine ctr (l.cells ++ p.cells ++ [.sl []]) run_lockbarref11_Check rfl (by simp [pureAll_append, AV.pureAll, AV.pure]) rfl ?_ rfl
  unfold rt_lockbarref11_Check
  simp [Lay.cells, Path.cells]
  refine call (c_r09_Right l hl) (by simp [Lay.cells]) (fun _ => rfl) ?_
  by_cases hg : topoOk l = true ∧ (0 ≤ p.sig ∧ p.sig < l.sigs.length) ∧ (0 ≤ p.exit ∧ p.exit < l.exits.length)
  case neg =>
    have hv : checkN l p = 2 := by unfold checkN; rw [if_neg hg]
    rw [hv]
    cases ht : topoOk l
    · simp
    · rw [ht] at hg
      have : p.sig < 0 ∨ (l.sigs.length : Int) ≤ p.sig ∨ p.exit < 0 ∨ (l.exits.length : Int) ≤ p.exit := by
        simp only [true_and] at hg; omega
      simp
      intro g1 g2 g3 g4
      omega
  obtain ⟨ht, ⟨h1, h2⟩, h3, h4⟩ := hg
  obtain ⟨n, hn⟩ : ∃ n : Nat, p.sig = n := ⟨p.sig.toNat, by omega⟩
  obtain ⟨m, hm⟩ : ∃ m : Nat, p.exit = m := ⟨p.exit.toNat, by omega⟩
  have hln : n < l.sigs.length := by omega
  have hlm : m < l.exits.length := by omega
  have hv : checkN l p = if pathOk l p l.sigs[n] l.exits[m] = true then 0 else 110 := by
    unfold checkN
    rw [if_pos ⟨ht, ⟨h1, h2⟩, h3, h4⟩, hn, hm]
    simp [List.getElem?_eq_getElem hln, List.getElem?_eq_getElem hlm]
  rw [hv]
  have hov := hl.over _ (List.getElem_mem hlm)
  have c1 : ¬ ((n : Int) < 0) := by omega
  have c2 : ¬ ((l.sigs.length : Nat) ≤ n) := by omega
  have c3 : ¬ ((m : Int) < 0) := by omega
  have c4 : ¬ ((l.exits.length : Nat) ≤ m) := by omega
  simp [ht, hn, hm, c1, c2, c3, c4]
  refine RTwp_loop rfl (fun vs => vs = [I 0]) (fun _ => 0) rfl ?_
  rintro vs - rfl
  simp
  refine callIf (avs := [l.av, steps p.steps]) (.bool (goesN l p.steps)) rfl (fun hh => ⟨by simp [Lay.cells], c_r11_Goes l p.steps (by simp at hh; omega)⟩) (fun _ => rfl) ?_
  simp [hlm, Exi.cells]
  refine callIf (avs := [steps p.steps, steps l.exits[m].over]) (.bool (simpleN p.steps l.exits[m].over)) rfl (fun hh => ⟨by simp [hlm, hm, Exi.cells], c_r11_simple p.steps l.exits[m].over (by simp at hh; omega) hov⟩) (fun _ => rfl) ?_
  simp [hlm, Exi.cells]
  refine callIf (avs := [p.av, .sl []]) (.bool true) rfl (fun hh => ⟨by simp [Path.cells, hn, hm], c_r11_Through p⟩) (fun _ => rfl) ?_
  simp [hlm, Exi.cells]
  refine ⟨fun hb => ?_, fun g1 g2 g3 g4 => ?_⟩
  · have : pathOk l p l.sigs[n] l.exits[m] = false := by
      unfold pathOk
      rcases hb with (hb | hb) | hb
      · have : ¬ (1 ≤ p.steps.length ∧ p.steps.length ≤ 12) := by omega
        rw [decide_eq_false this]; rfl
      · simp [hb]
      · simp [hb]
    exact this
  have h0 : 0 < p.steps.length := by omega
  have hq : p.steps.length - 1 < p.steps.length := by omega
  have hw1 : IntKind.i64.wrap ((p.steps.length : Int) - 1) = (p.steps.length : Int) - 1 := by rw [wrap_i] <;> omega
  have hw2 : ((p.steps.length : Int) - 1).toNat = p.steps.length - 1 := by omega
  have hd : decide (1 ≤ p.steps.length ∧ p.steps.length ≤ 12) = true := decide_eq_true (by omega)
  have hpo : pathOk l p l.sigs[n] l.exits[m] = (firstOk l.sigs[n] p.steps && (lastOk l.exits[m].a p.steps && midOk l p.steps)) := by
    unfold pathOk; rw [hd, g3, g4]; rfl
  have hf : firstOk l.sigs[n] p.steps = decide (l.sigs[n] = ⟨p.steps[0].s, p.steps[0].i⟩) := by
    simp [firstOk, List.getElem?_eq_getElem h0]
  have hl2 : lastOk l.exits[m].a p.steps = decide (l.exits[m].a = ⟨p.steps[p.steps.length - 1].s, p.steps[p.steps.length - 1].o⟩) := by
    simp [lastOk, List.getElem?_eq_getElem hq]
  have e1 := port_eqs l.sigs[n] ⟨p.steps[0].s, p.steps[0].i⟩
  have e2 := port_eqs l.exits[m].a ⟨p.steps[p.steps.length - 1].s, p.steps[p.steps.length - 1].o⟩
  simp only [Port.cells] at e1 e2
  rw [hpo, hf, hl2]
  simp [hln, hlm, h0, hq, hw1, hw2, Port.cells, Step.cells, Exi.cells, e1, e2]
  refine ⟨fun _ => by omega, fun hb hx hy => ?_, fun hx hy1 hy2 => ?_⟩
  · exfalso
    rcases hb with hb | hb
    · exact hb hx
    · have := beq_port.1 hy
      rcases hb with hb | hb
      · exact hb this.1
      · exact hb this.2
  have hy := beq_port.2 ⟨hy1, hy2⟩
  simp only [hx, hy, true_and]
  refine RTwp_loop rfl (fun vs => ∃ i : Nat, 1 ≤ i ∧ i ≤ p.steps.length ∧ vs = [I i] ∧ ∀ j, j < i → midAt l p.steps j = true) (fun vs => match vs with | [.int _ j] => p.steps.length - j.toNat | _ => 0) ⟨1, by omega, by omega, by simp, fun j hj => by
    have : j = 0 := by omega
    subst this
    simp [midAt, List.getElem?_eq_getElem h0]⟩ ?_
  rintro vs - ⟨i, hi1, hi, rfl, hqi⟩
  simp
  refine ⟨fun hlt => ?_, fun hge => ?_⟩
  · have hw := wrap_succ (i := i) (by omega)
    have hme : midAt l p.steps i = decide (sigAt l ⟨p.steps[i].s, p.steps[i].i⟩ < 0) := by
      simp [midAt, List.getElem?_eq_getElem hlt, show ¬ i = 0 by omega]
    simp [hlt, Step.cells]
    refine call (c_r06_Signal l hl.sigs ⟨p.steps[i].s, p.steps[i].i⟩) (by simp [Lay.cells, Port.cells, hlt, Step.cells]) (fun _ => rfl) ?_
    simp [hw]
    refine ⟨fun hs => ?_, fun hs => ⟨⟨i + 1, by omega, by omega, by omega, fun j hj => ?_⟩, by omega⟩⟩
    · have : midOk l p.steps = false := range_hit hlt (by rw [hme]; exact decide_eq_false (by omega))
      simp [this]
    · by_cases hji : j = i
      · subst hji; rw [hme]; exact decide_eq_true hs
      · exact hqi j (by omega)
  · have : midOk l p.steps = true := range_all fun j hj => hqi j (by omega)
    simp [this]
theorem c_r11_Is (l : Lay) (hl : l.lens) (p : Path) : C f_lockbarref11_Is [l.av, p.av, .sl []] (.bool (decide (checkN l p = 0))) := by
  refine ctr (l.cells ++ p.cells ++ [.sl []]) run_lockbarref11_Is rfl (by simp [pureAll_append, AV.pureAll, AV.pure]) rfl ?_ rfl
  unfold rt_lockbarref11_Is
  simp [Lay.cells, Path.cells]
  refine call (c_r11_Check l hl p) (by simp [Lay.cells, Path.cells]) (fun _ => rfl) ?_
  simp
  by_cases h : checkN l p = 0 <;> simp [h]
/-- Needs that clash, the later ones with the ones ahead. -/
def clashAt (l : List Need) (k : Nat) : Bool := match l[k]? with
  | some x => (l.take k).any fun y => both x y
  | none => false
def clash13 (l : List Need) : Bool := (List.range l.length).any (clashAt l)
theorem anyr_hit {q : Nat → Bool} {n i : Nat} (h : i < n) (hb : q i = true) : (List.range n).any q = true := List.any_eq_true.2 ⟨i, List.mem_range.2 h, hb⟩
theorem anyr_none {q : Nat → Bool} {n : Nat} (h : ∀ i, i < n → q i = false) : (List.range n).any q = false := by
  refine List.any_eq_false.2 fun x hx => ?_
  rw [h x (List.mem_range.1 hx)]; simp
theorem c_r13_Clash (a : List Need) (ha : a.length ≤ 1000000000) : C f_lockbarref13_Clash [needs a, .sl []] (.bool (clash13 a)) := by
  refine ctr [needs a, .sl []] run_lockbarref13_Clash rfl (by simp [AV.pureAll, AV.pure]) rfl ?_ rfl
  unfold rt_lockbarref13_Clash
  simp
  refine ⟨fun x _ => by simp [Need.cells], by omega, ?_⟩
  refine RTwp_loop rfl (fun vs => ∃ i : Nat, i ≤ a.length ∧ vs = [I i] ∧ ∀ j, j < i → clashAt a j = false) (fun vs => match vs with | [.int _ j] => a.length - j.toNat | _ => 0) ⟨0, by omega, by simp, fun j hj => by omega⟩ ?_
  rintro vs - ⟨i, hi, rfl, hq⟩
  simp
  refine ⟨fun hlt => ?_, fun hge => ?_⟩
  · have hw := wrap_succ (i := i) (by omega)
    have hce : clashAt a i = (a.take i).any fun y => both a[i] y := by simp [clashAt, List.getElem?_eq_getElem hlt]
    refine RTwp_loop rfl (fun vs => ∃ m : Nat, m ≤ i ∧ vs = [I m] ∧ NoneIn (fun y => both a[i] y) (a.take m)) (fun vs => match vs with | [.int _ j] => i - j.toNat | _ => 0) ⟨0, by omega, by simp, rfl⟩ ?_
    rintro vs - ⟨m, hm, rfl, hp⟩
    simp
    refine ⟨fun hlm => ?_, fun hgm => ?_⟩
    · have hml : m < a.length := by omega
      have hwm := wrap_succ (i := m) (by omega)
      have hbe : both a[i] a[m] = (decide (a[i].p = a[m].p) && !decide (a[i].pos = a[m].pos)) := rfl
      simp [hlt, hml, Need.cells, hwm]
      repeat refine And.intro (by intros; omega) ?_
      by_cases hb1 : a[i].p = a[m].p
      · by_cases hb2 : a[i].pos = a[m].pos
        · have hb : both a[i] a[m] = false := by rw [hbe]; simp [hb2]
          simp [hb1, hb2]
          first | exact ⟨⟨m + 1, by omega, by omega, any_step hml hp hb⟩, by omega⟩ | (refine ⟨by omega, ⟨m + 1, by omega, by omega, any_step hml hp hb⟩, by omega⟩)
        · have hb : both a[i] a[m] = true := by rw [hbe]; simp [hb1, hb2]
          have : clash13 a = true := anyr_hit hlt (by rw [hce]; exact any_hit (i := m) (by rw [List.length_take]; omega) (by simpa using hb))
          simp [hb1, hb2, this]
      · have hb : both a[i] a[m] = false := by rw [hbe]; simp [hb1]
        simp [hb1]
        first | exact ⟨⟨m + 1, by omega, by omega, any_step hml hp hb⟩, by omega⟩ | (refine ⟨by omega, ⟨m + 1, by omega, by omega, any_step hml hp hb⟩, by omega⟩)
    · have hmi : m = i := by omega
      subst hmi
      have hk : clashAt a m = false := by rw [hce]; exact hp
      simp [hw]
      refine ⟨⟨m + 1, by omega, by omega, fun j hj => ?_⟩, by omega⟩
      by_cases hjm : j = m
      · subst hjm; exact hk
      · exact hq j (by omega)
  · have : clash13 a = false := anyr_none fun j hj => hq j (by omega)
    simp [this]
theorem c_r13_Fine (l : Lay) (ho : l.ovOk) (hf : l.flanks.length ≤ 1000) (p : Path) (hp : p.steps.length ≤ 1000) (hov : (over l p.exit).length ≤ 1000) (hn : (needOf l p).length ≤ 1000000000) : C f_lockbarref13_Fine [l.av, p.av] (.bool (!clash13 (needOf l p))) := by
  refine ctr (l.cells ++ p.cells) run_lockbarref13_Fine rfl (by simp [pureAll_append]) rfl ?_ rfl
  unfold rt_lockbarref13_Fine
  simp [Lay.cells, Path.cells]
  refine call (c_r13_Of l ho hf p hp hov) (by simp [Lay.cells, Path.cells]) (by simp) ?_
  refine call (c_r13_Clash (needOf l p) hn) (by simp) (fun _ => rfl) ?_
  simp
end Go.Lb.LK

namespace Go.Lb.LK
open Go Go.Lb Go.Proofs
end Go.Lb.LK

namespace Go.Lb.LK
open Go Go.Lb Go.Proofs Go.RowKit

end Go.Lb.LK

namespace Go.Lb.LK
open Go Go.Lb Go.Proofs
end Go.Lb.LK

namespace Go.Lb.LK
open Go Go.Lb Go.Proofs Go.RowKit

theorem stale_occ {l : Lay} {im : Img} (h : stale l im = true) (s : Int) : occupied l im s = true := by simp [occupied, h]
end Go.Lb.LK

namespace Go.Lb.LK
open Go Go.Lb Go.Proofs
@[simp] noncomputable def qkfreeapart_0 : SE := .agg [.inp 0, .inp 1, .inp 2, .inp 3, .inp 4, .inp 5, .inp 6, .inp 7, .inp 8, .inp 9, .inp 10]
@[simp] noncomputable def qkfreeapart_1 : SE := .agg [.inp 11, .inp 12, .inp 13, .inp 14, .inp 15, .inp 16, .inp 17, .inp 18, .inp 19, .inp 20, .inp 21, .inp 22, .inp 23, .inp 24, .inp 25, .inp 26, .inp 27, .inp 28, .inp 29, .inp 30, .inp 31, .inp 32, .inp 33, .inp 34, .inp 35, .inp 36, .inp 37, .inp 38, .inp 39]
@[simp] noncomputable def qkfreeapart_2 : SE := .agg [.inp 40, .inp 41, .inp 42, .inp 43, .inp 44, .inp 45, .inp 46, .inp 47, .inp 48, .inp 49, .inp 50, .inp 51, .inp 52, .inp 53, .inp 54, .inp 55, .inp 56, .inp 57, .inp 58, .inp 59, .inp 60, .inp 61, .inp 62, .inp 63, .inp 64, .inp 65, .inp 66, .inp 67, .inp 68, .inp 69, .inp 70, .inp 71, .inp 72, .inp 73, .inp 74, .inp 75, .inp 76, .inp 77, .inp 78, .inp 79, .inp 80, .inp 81, .inp 82, .inp 83, .inp 84, .inp 85, .inp 86, .inp 87, .inp 88, .inp 89, .inp 90, .inp 91, .inp 92, .inp 93, .inp 94, .inp 95, .inp 96, .inp 97, .inp 98, .inp 99, .inp 100, .inp 101, .inp 102, .inp 103, .inp 104, .inp 105, .inp 106, .inp 107, .inp 108, .inp 109, .inp 110, .inp 111, .inp 112, .inp 113]
@[simp] noncomputable def qkfreeapart_3 : SE := .agg [.inp 114, .inp 115, .inp 116]
@[simp] noncomputable def qkfreeapart_4 : SE := .app .pick [.inp 117, .bool true, .app (.un .not) [.inp 118]]
@[simp] noncomputable def qkfreeapart_5 : SE := .app .pick [qkfreeapart_4, .bool true, .app (.un .not) [.inp 119]]
@[simp] noncomputable def qkfreeapart_6 : SE := .app (.bin .eql) [.inp 122, .int .i64 190]
@[simp] noncomputable def qkfreeapart_7 : SE := .app (.bin .eql) [.inp 122, .int .i64 191]
@[simp] noncomputable def qkfreeapart_8 : SE := .app (.bin .eql) [.app .len [.inp 41], .int .i64 6]
@[simp] noncomputable def qkfreeapart_9 : SE := .app .pick [qkfreeapart_7, qkfreeapart_8, .bool false]
@[simp] noncomputable def qkfreeapart_10 : SE := .app .pick [qkfreeapart_6, .bool true, qkfreeapart_9]
@[simp] noncomputable def qkfreeapart_11 : SE := .agg [.inp 40, .inp 114, .inp 115, .inp 116, .inp 123, .inp 124, .int .u8 1, .int .i64 0, .bool false, .bool false, .bool false, .bool false, .bool false, .bool false, .bool false, .bool false, .bool false, .bool false, .bool false, .bool false, .bool false, .int .i64 0, .bool false]
@[simp] noncomputable def qkfreeapart_12 : SE := .app (.eidx 23) [.inp 41, .inp 125]
@[simp] noncomputable def qkfreeapart_13 : SE := .app (.eoff 1) [qkfreeapart_12]
@[simp] noncomputable def qkfreeapart_14 : SE := .app (.eoff 0) [qkfreeapart_13]
@[simp] noncomputable def qkfreeapart_15 : SE := .app (.eload 1 false) [qkfreeapart_14]
@[simp] noncomputable def qkfreeapart_16 : SE := .app (.bin .eql) [qkfreeapart_15, .inp 114]
@[simp] noncomputable def qkfreeapart_17 : SE := .app (.eoff 6) [qkfreeapart_12]
@[simp] noncomputable def qkfreeapart_18 : SE := .app (.eload 1 false) [qkfreeapart_17]
@[simp] noncomputable def qkfreeapart_19 : SE := .app (.bin .neq) [qkfreeapart_18, .int .u8 3]
@[simp] noncomputable def qkfreeapart_20 : SE := .app .pick [qkfreeapart_16, qkfreeapart_19, .bool false]
@[simp] noncomputable def qkfreeapart_21 : SE := .app (.eidx 3) [.inp 116, .inp 126]
@[simp] noncomputable def qkfreeapart_22 : SE := .app (.eoff 0) [qkfreeapart_21]
@[simp] noncomputable def qkfreeapart_23 : SE := .app (.bin .lss) [.app .len [.inp 41], .int .i64 6]
@[simp] noncomputable def qkfreeapart_24 : SE := .app .pick [qkfreeapart_23, .app (.un .not) [.inp 127], .bool false]
noncomputable def rt_lockbarlaw18_FreeApart : RT :=
.seg [.chk [] (.isAgg 11) [qkfreeapart_0]] <|
.seg [.chk [] (.isAgg 29) [qkfreeapart_1]] <|
.seg [.chk [] (.isAgg 74) [qkfreeapart_2]] <|
.seg [.chk [] (.isAgg 3) [qkfreeapart_3]] <|
.seg [.call 117 [] 8 [qkfreeapart_0] false] <|
.seg [.call 118 [(.inp 117, false)] 25 [qkfreeapart_2] false] <|
.seg [.chk [(.inp 117, false)] (.un .not) [.inp 118]] <|
.seg [.chk [] .pick [.inp 117, .bool true, .app (.un .not) [.inp 118]]] <|
.seg [.call 119 [(qkfreeapart_4, false)] 29 [qkfreeapart_0, qkfreeapart_3, .nils] false] <|
.seg [.chk [(qkfreeapart_4, false)] (.un .not) [.inp 119]] <|
.seg [.chk [] .pick [qkfreeapart_4, .bool true, .app (.un .not) [.inp 119]]] <|
.seg [.call 120 [(qkfreeapart_5, false)] 30 [qkfreeapart_0, qkfreeapart_3] false] <|
.seg [.chk [(qkfreeapart_5, false)] (.un .not) [.inp 120]] <|
.seg [.chk [] .pick [qkfreeapart_5, .bool true, .app (.un .not) [.inp 120]]] <|
.seg [.bind 121 (.app .pick [qkfreeapart_5, .bool true, .app (.un .not) [.inp 120]])] <|
.cond (.inp 121)
 (.seg [.call 122 [] 11 [] false] <|
.ret (.inp 122))
 (.seg [.call 122 [] 22 [qkfreeapart_0, qkfreeapart_1, qkfreeapart_2, qkfreeapart_3] false] <|
.seg [.chk [] (.bin .neq) [.inp 122, .int .i64 0]] <|
.cond (.app (.bin .neq) [.inp 122, .int .i64 0])
 (.seg [.chk [] (.bin .eql) [.inp 122, .int .i64 190]] <|
.seg [.chk [(qkfreeapart_6, false)] (.bin .eql) [.inp 122, .int .i64 191]] <|
.seg [.chk [(qkfreeapart_7, true), (qkfreeapart_6, false)] .len [.inp 41]] <|
.seg [.chk [(qkfreeapart_7, true), (qkfreeapart_6, false)] (.bin .eql) [.app .len [.inp 41], .int .i64 6]] <|
.seg [.chk [(qkfreeapart_6, false)] .pick [qkfreeapart_7, qkfreeapart_8, .bool false]] <|
.seg [.chk [] .pick [qkfreeapart_6, .bool true, qkfreeapart_9]] <|
.seg [.call 123 [(qkfreeapart_10, true)] 11 [] false] <|
.seg [.chk [] .pick [qkfreeapart_10, .inp 123, .bool false]] <|
.seg [.bind 124 (.app .pick [qkfreeapart_10, .inp 123, .bool false]),
.bind 125 (qkfreeapart_10)] <|
.ret (.inp 124))
 (.seg [.call 123 [] 31 [qkfreeapart_0, .inp 115] false,
.call 124 [] 32 [qkfreeapart_0, qkfreeapart_3] false,
.chk [] .isOne [.inp 40],
.chk [] (.isAgg 3) [qkfreeapart_3],
.chk [] .isOne [.inp 123],
.chk [] .isOne [.inp 124],
.chk [] (.isAgg 23) [qkfreeapart_11]] <|
.loop 0 125 [.int .i64 0] <|
.seg [.chk [] .len [.inp 41]] <|
.seg [.chk [] (.bin .lss) [.inp 125, .app .len [.inp 41]]] <|
.cond (.app (.bin .lss) [.inp 125, .app .len [.inp 41]])
 (.seg [.chk [] (.eidx 23) [.inp 41, .inp 125],
.chk [] (.eload 23 true) [qkfreeapart_12],
.call 126 [] 33 [qkfreeapart_11, .app (.eload 23 true) [qkfreeapart_12]] false,
.chk [] (.un .not) [.inp 126],
.chk [(.app (.un .not) [.inp 126], false)] (.eidx 23) [.inp 41, .inp 125],
.chk [(.app (.un .not) [.inp 126], false)] (.eoff 1) [qkfreeapart_12],
.chk [(.app (.un .not) [.inp 126], false)] (.eoff 0) [qkfreeapart_13],
.chk [(.app (.un .not) [.inp 126], false)] (.eload 1 false) [qkfreeapart_14],
.chk [(.app (.un .not) [.inp 126], false)] (.bin .eql) [qkfreeapart_15, .inp 114],
.chk [(qkfreeapart_16, true), (.app (.un .not) [.inp 126], false)] (.eidx 23) [.inp 41, .inp 125],
.chk [(qkfreeapart_16, true), (.app (.un .not) [.inp 126], false)] (.eoff 6) [qkfreeapart_12],
.chk [(qkfreeapart_16, true), (.app (.un .not) [.inp 126], false)] (.eload 1 false) [qkfreeapart_17],
.chk [(qkfreeapart_16, true), (.app (.un .not) [.inp 126], false)] (.bin .neq) [qkfreeapart_18, .int .u8 3],
.chk [(.app (.un .not) [.inp 126], false)] .pick [qkfreeapart_16, qkfreeapart_19, .bool false],
.chk [] .pick [.app (.un .not) [.inp 126], .bool true, qkfreeapart_20]] <|
.seg [.bind 127 (qkfreeapart_20),
.bind 128 (.app .pick [.app (.un .not) [.inp 126], .bool true, qkfreeapart_20])] <|
.cond (.inp 128)
 (.ret (.bool false))
 (.seg [.chk [] (.bin .add) [.inp 125, .int .i64 1]] <|
.again 0 [.app (.bin .add) [.inp 125, .int .i64 1]]))
 (.loop 0 126 [.int .i64 0] <|
.seg [.chk [] .len [.inp 116]] <|
.seg [.chk [] (.bin .lss) [.inp 126, .app .len [.inp 116]]] <|
.cond (.app (.bin .lss) [.inp 126, .app .len [.inp 116]])
 (.seg [.chk [] (.eidx 3) [.inp 116, .inp 126],
.chk [] (.eoff 0) [qkfreeapart_21],
.chk [] (.eload 1 false) [qkfreeapart_22],
.call 127 [] 34 [qkfreeapart_0, qkfreeapart_1, .app (.eload 1 false) [qkfreeapart_22]] false] <|
.cond (.inp 127)
 (.ret (.bool false))
 (.seg [.chk [] (.bin .add) [.inp 126, .int .i64 1]] <|
.again 0 [.app (.bin .add) [.inp 126, .int .i64 1]]))
 (.seg [.chk [] .len [.inp 41]] <|
.seg [.chk [] (.bin .lss) [.app .len [.inp 41], .int .i64 6]] <|
.seg [.call 127 [(qkfreeapart_23, true)] 35 [qkfreeapart_0, qkfreeapart_1] false] <|
.seg [.chk [(qkfreeapart_23, true)] (.un .not) [.inp 127]] <|
.seg [.chk [] .pick [qkfreeapart_23, .app (.un .not) [.inp 127], .bool false]] <|
.seg [.call 128 [(qkfreeapart_24, true)] 11 [] false] <|
.seg [.chk [] .pick [qkfreeapart_24, .inp 128, .bool false]] <|
.seg [.bind 129 (.app .pick [qkfreeapart_24, .inp 128, .bool false])] <|
.ret (.inp 129)))))
theorem run_lockbarlaw18_FreeApart : runF E 4 [.agg [.inp 0, .inp 1, .inp 2, .inp 3, .inp 4, .inp 5, .inp 6, .inp 7, .inp 8, .inp 9, .inp 10], .agg [.inp 11, .inp 12, .inp 13, .inp 14, .inp 15, .inp 16, .inp 17, .inp 18, .inp 19, .inp 20, .inp 21, .inp 22, .inp 23, .inp 24, .inp 25, .inp 26, .inp 27, .inp 28, .inp 29, .inp 30, .inp 31, .inp 32, .inp 33, .inp 34, .inp 35, .inp 36, .inp 37, .inp 38, .inp 39], .agg [.inp 40, .inp 41, .inp 42, .inp 43, .inp 44, .inp 45, .inp 46, .inp 47, .inp 48, .inp 49, .inp 50, .inp 51, .inp 52, .inp 53, .inp 54, .inp 55, .inp 56, .inp 57, .inp 58, .inp 59, .inp 60, .inp 61, .inp 62, .inp 63, .inp 64, .inp 65, .inp 66, .inp 67, .inp 68, .inp 69, .inp 70, .inp 71, .inp 72, .inp 73, .inp 74, .inp 75, .inp 76, .inp 77, .inp 78, .inp 79, .inp 80, .inp 81, .inp 82, .inp 83, .inp 84, .inp 85, .inp 86, .inp 87, .inp 88, .inp 89, .inp 90, .inp 91, .inp 92, .inp 93, .inp 94, .inp 95, .inp 96, .inp 97, .inp 98, .inp 99, .inp 100, .inp 101, .inp 102, .inp 103, .inp 104, .inp 105, .inp 106, .inp 107, .inp 108, .inp 109, .inp 110, .inp 111, .inp 112, .inp 113], .agg [.inp 114, .inp 115, .inp 116]] 117 = rt_lockbarlaw18_FreeApart := by kernel_rfl

end Go.Lb.LK

namespace Go.Lb.LK
open Go Go.Lb Go.Proofs Go.RowKit

theorem lens_of {l : Lay} (g1 : great6 l = false) : l.lens := by
  obtain ⟨a1, a2, a3, a4, a5⟩ := small6 g1
  exact ⟨by omega, by omega, by omega, by omega, fun e he => by have := a5 e he; omega⟩
theorem check0 {l : Lay} {p : Path} (h : checkN l p = 0) : 1 ≤ p.steps.length ∧ p.steps.length ≤ 12 ∧ 0 ≤ p.exit ∧ p.exit < l.exits.length := by
  unfold checkN at h
  split at h
  · rename_i hg
    split at h
    · rename_i sg e _ _
      split at h
      · rename_i hp
        unfold pathOk at hp
        simp only [Bool.and_eq_true, decide_eq_true_eq] at hp
        exact ⟨hp.1.1, hp.1.2, hg.2.2.1, hg.2.2.2⟩
      · omega
    · omega
  · omega
theorem needOf_small {l : Lay} {p : Path} (g1 : great6 l = false) (hp : p.steps.length ≤ 30) : (needOf l p).length ≤ 2100 := by
  obtain ⟨a1, a2, a3, a4, a5⟩ := small6 g1
  have ho : (over l p.exit).length ≤ 20 := by
    unfold over
    split
    · rename_i e he
      by_cases hc : 0 ≤ p.exit ∧ p.exit < l.exits.length
      · obtain ⟨n, hn, hlt, h2⟩ := exitAt_in hc.1 hc.2
        rw [h2] at he
        simp only [Option.some.injEq] at he; subst he
        have := a5 _ (List.getElem_mem hlt); omega
      · rw [exitAt_out hc] at he; cases he
    · simp
  have hw1 : ∀ s k, (wants l s k).length ≤ 41 := fun s k => by have := wants_len l s k; omega
  have h1 := flat_len (fun x : Int × Step => wants l x.2 x.1) 41 (fun x => hw1 x.2 x.1) (numbered l p)
  have h2 : (numbered l p).length ≤ 50 := by simp [numbered]; omega
  unfold needOf
  omega
theorem over_small {l : Lay} (g1 : great6 l = false) (x : Int) : (over l x).length ≤ 20 := by
  obtain ⟨a1, a2, a3, a4, a5⟩ := small6 g1
  unfold over
  split
  · rename_i e he
    by_cases hc : 0 ≤ x ∧ x < l.exits.length
    · obtain ⟨n, hn, hlt, h2⟩ := exitAt_in hc.1 hc.2
      rw [h2] at he
      simp only [Option.some.injEq] at he; subst he
      exact a5 _ (List.getElem_mem hlt)
    · rw [exitAt_out hc] at he; cases he
  · simp
/-- The route that would come. -/
def newH (l : Lay) (k : Kern) (p : Path) : Hd := ⟨k.next, p, over l p.exit, needOf l p, 1, 0, fun _ => false, false, 0, false⟩
structure CanFine (l : Lay) (im : Img) (k : Kern) (p : Path) : Prop where
  sig : ∀ h ∈ k.held, sigTaken p h = false
  free : ∀ s ∈ p.steps ++ over l p.exit, freeN l im k s.s = true
  meets : ∀ n ∈ needOf l p, meetsN l im k n = true
  room : k.held.length < 6
theorem can_vals {l : Lay} {im : Img} {k : Kern} {p : Path} : canN l im k p = 190 ∨ (canN l im k p = 191 ∧ 6 ≤ k.held.length) ∨ (canN l im k p = 0 ∧ CanFine l im k p) := by
  unfold canN
  split
  · exact .inl rfl
  · rename_i h
    simp only [Bool.not_eq_true, Bool.or_eq_false_iff] at h
    obtain ⟨h1, h2, h3⟩ := h
    split
    · rename_i h6; exact .inr (.inl ⟨rfl, h6⟩)
    · rename_i h6
      refine .inr (.inr ⟨rfl, ⟨fun x hx => ?_, fun x hx => ?_, fun x hx => ?_, by omega⟩⟩)
      · have := List.any_eq_false.1 h1 x hx; simpa using this
      · have := List.any_eq_false.1 h2 x hx; simpa using this
      · have := List.any_eq_false.1 h3 x hx; simpa using this
theorem new_apart {l : Lay} {im : Img} {k : Kern} {p : Path} (hr : rightK k = true) (hc : CanFine l im k p) {i : Nat} (hi : i < k.held.length) : apartS (newH l k p) k.held[i] = true := by
  unfold apartS
  rw [Bool.and_eq_true, Bool.not_eq_true', Bool.not_eq_true']
  constructor
  · refine List.any_eq_false.2 fun s hs => ?_
    simp only [decide_eq_true_eq]
    intro hs2
    have hs3 : s ∈ (p.steps ++ over l p.exit).map (·.s) := by
      simpa [secsN, newH] using hs
    obtain ⟨t, ht, rfl⟩ := List.mem_map.1 hs3
    have h1 := hc.free t ht
    have h2 := holder_at hr hi hs2
    simp [freeN, h2] at h1
  · unfold clashN
    refine List.any_eq_false.2 fun x hx => ?_
    rw [Bool.not_eq_true]
    refine List.any_eq_false.2 fun y hy => ?_
    rw [Bool.not_eq_true]
    have hx2 : x ∈ needOf l p := (List.mem_filter.1 hx).1
    have hm := hc.meets x hx2
    unfold both
    by_cases hp : x.p = y.p
    · have hw : ∃ b, wantsN k.held[i] x.p = some b ∧ b = y.pos := by
        unfold wantsN
        cases hf : (needsN k.held[i]).find? fun z => decide (z.p = x.p) with
        | none =>
          rw [List.find?_eq_none] at hf
          exact absurd (by simpa using hp.symm) (hf y hy)
        | some z =>
          refine ⟨z.pos, rfl, ?_⟩
          have hz1 := List.mem_of_find?_eq_some hf
          have hz2 : z.p = x.p := by simpa using List.find?_some hf
          have hcl := (right_facts (rightK_at hr hi).1).2.2.1
          by_cases hzy : z.pos = y.pos
          · exact hzy
          · exfalso
            have : clashN k.held[i].needs k.held[i].needs = true := by
              unfold clashN
              refine List.any_eq_true.2 ⟨z, (List.mem_filter.1 hz1).1, List.any_eq_true.2 ⟨y, (List.mem_filter.1 hy).1, ?_⟩⟩
              simp [both, hz2, hp, hzy]
            rw [this] at hcl; cases hcl
      obtain ⟨b, hb1, hb2⟩ := hw
      have h3 := wanted_at hr hi hb1
      unfold meetsN at hm
      rw [h3] at hm
      simp only [Bool.and_eq_true, decide_eq_true_eq] at hm
      have : x.pos = y.pos := by rw [← hb2]; exact hm.2.1.symm
      simp [this]
    · simp [hp]
set_option maxRecDepth 100000 in
set_option maxHeartbeats 4000000 in
theorem c_FreeApart (l : Lay) (hl : l.ok) (im : Img) (hi : im.ok) (k : Kern) (hkl : k.len) (hk : k.ok) (p : Path) : C f_lockbarlaw18_FreeApart [l.av, im.av, k.av, p.av] (.bool true) := by
  refine ctr (l.cells ++ im.cells ++ k.cells ++ p.cells) run_lockbarlaw18_FreeApart rfl (likp l im k p) rfl ?_ rfl
  unfold rt_lockbarlaw18_FreeApart
  simp [Lay.cells, Img.cells, Kern.cells, Path.cells]
  refine call (c_r06_Great l) (by simp [Lay.cells]) (by simp) ?_
  simp
  refine callIf (avs := [k.av]) (.bool (rightK k)) rfl (fun _ => ⟨by simp [Kern.cells], c_r18Right k hkl hk⟩) (fun _ => rfl) ?_
  cases g1 : great6 l
  case true =>
    simp
    refine callIf (avs := []) (.bool true) rfl (fun hh => ?_) (fun _ => rfl) ?_
    · simp at hh
    simp
    refine callIf (avs := []) (.bool true) rfl (fun hh => ?_) (fun _ => rfl) ?_
    · simp at hh
    simp
    exact call c_wakes18 rfl (by simp) (by simp)
  cases g2 : rightK k
  case false =>
    simp
    refine callIf (avs := []) (.bool true) rfl (fun hh => ?_) (fun _ => rfl) ?_
    · simp at hh
    simp
    refine callIf (avs := []) (.bool true) rfl (fun hh => ?_) (fun _ => rfl) ?_
    · simp at hh
    simp
    exact call c_wakes18 rfl (by simp) (by simp)
  have hlen := lens_of g1
  simp
  refine callIf (avs := [l.av, p.av, .sl []]) (.bool (decide (checkN l p = 0))) rfl (fun _ => ⟨by simp [Lay.cells, Path.cells], c_r11_Is l hlen p⟩) (fun _ => rfl) ?_
  by_cases g3 : checkN l p = 0
  case neg =>
    simp [g3]
    refine callIf (avs := []) (.bool true) rfl (fun hh => ?_) (fun _ => rfl) ?_
    · simp [g3] at hh
    simp [g3]
    exact call c_wakes18 rfl (by simp) (by simp)
  have hcan : CanOk l k p := by
    have := check0 g3
    obtain ⟨a1, a2, a3, a4, a5⟩ := small6 g1
    exact ⟨hkl, hl, fun e he => by have := a5 e he; omega, by omega, by omega, by have := over_small g1 p.exit; omega⟩
  have hsm := needOf_small (p := p) g1 (by have := check0 g3; omega)
  simp [g3]
  refine callIf (avs := [l.av, p.av]) (.bool (!clash13 (needOf l p))) rfl (fun _ => ⟨by simp [Lay.cells, Path.cells], c_r13_Fine l hcan.ov hcan.fl p hcan.pl hcan.ol (by omega)⟩) (fun _ => rfl) ?_
  cases g4 : clash13 (needOf l p)
  case true =>
    simp [g3]
    exact call c_wakes18 rfl (by simp) (by simp)
  simp [g3]
  refine call (c_free_Can l im hi k p hcan) (by simp [Lay.cells, Img.cells, Kern.cells, Path.cells]) (fun _ => rfl) ?_
  have hk6 : k.held.length ≤ 6 := by
    simp only [rightK, Bool.and_eq_true, decide_eq_true_eq] at g2
    exact g2.1.1
  rcases can_vals (l := l) (im := im) (k := k) (p := p) with hc | ⟨hc, h6⟩ | ⟨hc, hf⟩
  · simp [hc]
    exact callIf (avs := []) (.bool true) rfl (fun _ => ⟨rfl, c_wakes18⟩) (fun _ => rfl) (by simp)
  · have h66 : k.held.length = 6 := by omega
    have h66' : (k.held.length : Int) = 6 := by omega
    simp [hc, h66, h66']
    exact callIf (avs := []) (.bool true) rfl (fun _ => ⟨rfl, c_wakes18⟩) (fun _ => rfl) (by simp [h66'])
  simp [hc]
  refine call (c_r10_Over l hcan.ov p.exit) (by simp [Lay.cells]) (by simp) ?_
  simp
  refine call (c_r13_Of l hcan.ov hcan.fl p hcan.pl hcan.ol) (by simp [Lay.cells, Path.cells]) (by simp) ?_
  simp
  have hck := check0 g3
  have hos := over_small g1 p.exit
  have hnl : (newH l k p).len := ⟨by simp only [newH]; omega, by simp only [newH]; omega, by simp only [newH]; omega⟩
  refine RTwp_loop rfl (fun vs => ∃ i : Nat, i ≤ k.held.length ∧ vs = [I i]) (fun vs => match vs with | [.int _ j] => k.held.length - j.toNat | _ => 0) ⟨0, by omega, by simp⟩ ?_
  rintro vs - ⟨i, hii, rfl⟩
  simp
  refine ⟨fun hlt => ?_, fun hge => ?_⟩
  · have hw := wrap_succ (i := i) (by omega)
    have hap := new_apart g2 hf hlt
    have hsg := hf.sig _ (List.getElem_mem hlt)
    simp [hlt, Hd.cells]
    refine call (c_r17Apart (newH l k p) k.held[i] hnl (k.at hkl hlt)) (by simp [newH, Path.cells, hlt, Hd.cells]) (fun _ => rfl) ?_
    have hs2 : k.held[i].path.sig = p.sig → k.held[i].stage = 3 := by
      intro h; simpa [sigTaken, h] using hsg
    simp [hap, hlt, Hd.cells, hw]
    exact ⟨hs2, fun _ => ⟨⟨i + 1, by omega, by omega⟩, by omega⟩⟩
  · refine RTwp_loop rfl (fun vs => ∃ i : Nat, i ≤ p.steps.length ∧ vs = [I i]) (fun vs => match vs with | [.int _ j] => p.steps.length - j.toNat | _ => 0) ⟨0, by omega, by simp⟩ ?_
    rintro vs - ⟨j, hj, rfl⟩
    simp
    refine ⟨fun hlt2 => ?_, fun hge2 => ?_⟩
    · have hw := wrap_succ (i := j) (by omega)
      have hfr := hf.free _ (List.mem_append_left _ (List.getElem_mem hlt2))
      have hoc : occupied l im p.steps[j].s = false := by
        simp only [freeN, Bool.and_eq_true, Bool.not_eq_true'] at hfr
        exact hfr.2
      simp [hlt2, Step.cells]
      refine call (c_r15Occupied l im hi p.steps[j].s) (by simp [Lay.cells, Img.cells, hlt2, Step.cells]) (fun _ => rfl) ?_
      simp [hoc, hw]
      exact ⟨⟨j + 1, by omega, by omega⟩, by omega⟩
    · have hst : stale l im = false := by
        have h0 : 0 < p.steps.length := by omega
        have hfr := hf.free _ (List.mem_append_left _ (List.getElem_mem h0))
        simp only [freeN, Bool.and_eq_true, Bool.not_eq_true'] at hfr
        cases hs : stale l im
        · rfl
        · rw [stale_occ hs] at hfr; cases hfr.2
      have hroom := hf.room
      have hroom' : (k.held.length : Int) < 6 := by omega
      refine callIf (avs := [l.av, im.av]) (.bool (stale l im)) rfl (fun _ => ⟨by simp [Lay.cells, Img.cells], c_r15Stale l im⟩) (fun _ => rfl) ?_
      simp [hst, hroom']
      exact callIf (avs := []) (.bool true) rfl (fun _ => ⟨rfl, c_wakes18⟩) (fun _ => rfl) (by simp [hroom'])
end Go.Lb.LK
