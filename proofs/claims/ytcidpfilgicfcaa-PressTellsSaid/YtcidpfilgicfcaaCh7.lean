/- Chapter 25: the same deeds; what is great; a layout of its own. -/
/- Chapter 25: PressTells, of pure values. -/
/- Chapter 25: the form of the arguments. -/
import Derived.Test.YtcidpfilgicfcaaCh5
import Derived.Test.YtcidpfilgicfcaaCh6
import Derived.Test.YtcidpfilgicfcaaFw7
import Derived.Test.YtcidpfilgicfcaaRows
import Derived.ProofKit
set_option linter.unusedSimpArgs false
set_option linter.unusedVariables false
namespace Go.Lb.C25
open Go Go.Lb Go.Proofs Go.RowKit

def DeedsOk (xs : List Deed) : Prop := xs.length ≤ 4294967296 ∧ ∀ x ∈ xs, x.vias.length ≤ 4294967296
theorem deeds_pure (xs : List Deed) : (deedsAv xs).pure = true := by
  have : ∀ xs : List Deed, AV.pureAll (xs.map Deed.av) = true := by
    intro xs
    induction xs with
    | nil => rfl
    | cons y ys ih => simp [AV.pureAll, AV.pure, ih]
  simp [deedsAv, AV.pure, this]

theorem c13 (a b : List Deed) (ha : DeedsOk a) : C 13 [deedsAv a, deedsAv b] (.bool (decide (a = b))) := by
  refine ctr [deedsAv a, deedsAv b] run13 rfl (by simp [AV.pureAll, deeds_pure]) rfl ?_ rfl
  unfold rt13
  simp [deedsAv]
  refine ⟨fun h hab => h (by rw [hab]), fun h => ?_⟩
  refine RTwp_loop rfl (fun vs => ∃ i : Nat, vs = [I i] ∧ i ≤ a.length ∧ a.take i = b.take i) (fun vs => match vs with | [.int _ i] => a.length - i.toNat | _ => 0) ⟨0, by simp⟩ ?_
  rintro vs - ⟨i, rfl, hi, htk⟩
  simp
  refine ⟨fun hlt => ?_, fun hge => ?_⟩
  · have hlb : i < b.length := by omega
    have hw : IntKind.i64.wrap ((i : Int) + 1) = ((i + 1 : Nat) : Int) := by rw [wrap_i] <;> (have := ha.1; omega)
    have hai : (Option.map Deed.av a[i]?).getD AV.undef = (a[i]).av := by rw [List.getElem?_eq_getElem hlt]; rfl
    have hbi : (Option.map Deed.av b[i]?).getD AV.undef = (b[i]).av := by rw [List.getElem?_eq_getElem hlb]; rfl
    simp [hai, hbi, hw, hlt, hlb, Deed.cells]
    refine RTwp_call (.bool ((a[i]).vias == (b[i]).vias)) rfl (fun _ => ⟨?_, by simp⟩) ?_
    · simp [hai, hbi, Deed.cells]
      exact c31 _ _ (ha.2 _ (List.getElem_mem hlt))
    simp [hai, hbi, Deed.cells, hw]
    refine ⟨fun hne hab => ?_, fun h1 h2 h3 h4 h5 h6 => ⟨⟨i + 1, by omega, by omega, ?_⟩, by omega⟩⟩
    · subst hab; simp at hne
    · have he : a[i] = b[i] := by
        cases hx : a[i]; cases hy : b[i]
        simp [hx, hy] at h1 h2 h3 h4 h5 h6
        simp [h1, h2, h3, h4, h5, h6]
      rw [List.take_add_one, List.take_add_one, htk, List.getElem?_eq_getElem hlt, List.getElem?_eq_getElem hlb, he]
  · have h1 : a.take i = a := List.take_of_length_le (by omega)
    have h2 : b.take i = b := List.take_of_length_le (by omega)
    rw [← h1, ← h2, htk]

theorem c8 (l : Lay) (hl : l.ok) (d : Desk) : C 8 [l.av, d.av] (.bool (great7 l || decide (20 < d.vias.length))) := by
  refine ctr (l.cells ++ d.cells) run8 rfl (by simp [pureAll_append, hl.1]) rfl ?_ rfl
  unfold rt8
  simp [Lay.cells, Desk.cells]
  refine RTwp_call0 (c24 l hl) (by simp) ?_
  simp
  congr 1
  simp only [decide_eq_decide]
  omega

def sec0 : Sec := ⟨0, List.replicate 10 (I 0)⟩
def three : Lay := ⟨[sec0, sec0, sec0, sec0, ⟨2, List.replicate 10 (I 0)⟩, sec0], List.replicate 3 (.agg [I 0, I 0]), [⟨0, 0, []⟩, ⟨0, 0, []⟩], [], 0, 0, 0, 0, 0, 2, 0⟩
theorem three_ok : three.ok := by
  refine ⟨by simp [three, sec0, Lay.cells, AV.pureAll, AV.pure], ?_⟩
  simp [three, sec0]
theorem c26 : C 26 [] three.av := by
  refine ctr [] run26 rfl rfl (by have := three_ok.1; simpa [AV.pure] using this) ?_ rfl
  unfold rt26
  simp [three, sec0, Lay.cells]
  rfl

/-! ### What the document says of a few presses -/
def dF : Desk := ⟨1, [], 2, 0, 0⟩
def dG : Desk := ⟨1, [], 1, 0, 0⟩
theorem w2 : all three newDesk [⟨3, 2, 0⟩, ⟨4, 5, 0⟩, ⟨5, 1, 0⟩] = (newDesk, [⟨3, 0, 0, 2, 1, [5]⟩]) := by decide +kernel
theorem w4 : all three newDesk [⟨1, 0, 0⟩, ⟨3, 2, 0⟩] = (newDesk, [⟨1, 2, 0, 0, 0, []⟩]) := by decide +kernel
theorem w6 : press three newDesk ⟨3, 1, 0⟩ = (dF, []) := by decide +kernel
theorem w7 : tick three dF = (dG, false) := by decide +kernel
theorem w8 : tick three dG = (newDesk, true) := by decide +kernel
theorem w9 : press three dF ⟨6, 4, 1⟩ = (dF, [⟨4, 4, 1, 0, 0, []⟩]) := by decide +kernel
theorem new_ok : Dok newDesk := ⟨by simp [newDesk], by simp [newDesk]⟩
theorem dF_ok : Dok dF := ⟨by simp [dF], by simp [dF]⟩
theorem dG_ok : Dok dG := ⟨by simp [dG], by simp [dG]⟩

theorem c9 : C 9 [] (.bool true) := by
  refine ctr [] run9 rfl rfl rfl ?_ rfl
  unfold rt9
  refine RTwp_call0 c26 (by simp) ?_
  simp
  refine ⟨⟨rfl, rfl⟩, ?_⟩
  refine RTwp_call0 c22 (by simp) ?_
  refine RTwp_call0 (r := pressAv (newDesk, [⟨3, 0, 0, 2, 1, [5]⟩])) (by have h := c14 three three_ok newDesk new_ok [⟨3, 2, 0⟩, ⟨4, 5, 0⟩, ⟨5, 1, 0⟩] (by simp); rw [w2] at h; exact h) (by simp) ?_
  simp [pressAv, deedsAv]
  refine ⟨⟨rfl, rfl⟩, ?_⟩
  refine RTwp_call0 c22 (by simp) ?_
  refine RTwp_call0 (r := pressAv (newDesk, [⟨1, 2, 0, 0, 0, []⟩])) (by have h := c14 three three_ok newDesk new_ok [⟨1, 0, 0⟩, ⟨3, 2, 0⟩] (by simp); rw [w4] at h; exact h) (by simp) ?_
  simp [pressAv, deedsAv]
  refine ⟨⟨rfl, rfl⟩, ?_⟩
  refine RTwp_call0 c22 (by simp) ?_
  refine RTwp_call0 (r := pressAv (dF, [])) (by have h := c10 three three_ok newDesk new_ok.1 new_ok.2 ⟨3, 1, 0⟩; rw [w6] at h; exact h) (by simp) ?_
  simp [pressAv, deedsAv]
  refine ⟨⟨rfl, rfl⟩, ?_⟩
  refine RTwp_call0 (r := tickAv (dG, false)) (by have h := c16 three three_ok dF (by simp [dF]) dF_ok.2; rw [w7] at h; exact h) (by simp) ?_
  simp [tickAv]
  refine ⟨⟨rfl, rfl⟩, ?_⟩
  refine RTwp_call0 (r := tickAv (newDesk, true)) (by have h := c16 three three_ok dG (by simp [dG]) dG_ok.2; rw [w8] at h; exact h) (by simp) ?_
  simp [tickAv]
  refine ⟨⟨rfl, rfl⟩, ?_⟩
  refine RTwp_call0 (r := pressAv (dF, [⟨4, 4, 1, 0, 0, []⟩])) (by have h := c10 three three_ok dF dF_ok.1 dF_ok.2 ⟨6, 4, 1⟩; rw [w9] at h; exact h) (by simp) ?_
  simp [pressAv, deedsAv, Deed.cells, Desk.cells, dF, dG, newDesk]
  refine RTwp_call (newDesk.av) (by simp [AV.pure]) (fun _ => ⟨c22, by simp⟩) ?_
  refine RTwp_call (.bool true) rfl (fun _ => ⟨(by have h := c20 newDesk newDesk (by simp [newDesk]); exact h), by simp⟩) ?_
  simp [pressAv, deedsAv, Deed.cells, Desk.cells, dF, dG, newDesk]
  refine RTwp_call (newDesk.av) (by simp [AV.pure]) (fun _ => ⟨c22, by simp⟩) ?_
  refine RTwp_call (.bool true) rfl (fun _ => ⟨(by have h := c20 newDesk newDesk (by simp [newDesk]); exact h), by simp⟩) ?_
  simp [pressAv, deedsAv, Deed.cells, Desk.cells, dF, dG, newDesk]
  refine RTwp_call (newDesk.av) (by simp [AV.pure]) (fun _ => ⟨c22, by simp⟩) ?_
  refine RTwp_call (.bool true) rfl (fun _ => ⟨(by have h := c20 newDesk newDesk (by simp [newDesk]); exact h), by simp⟩) ?_
  simp [pressAv, deedsAv, Deed.cells, Desk.cells, dF, dG, newDesk]
  refine RTwp_call (.bool true) rfl (fun _ => ⟨(by have h := c18 three three_ok dF (by simp [dF]) dF_ok.2; rw [show right three dF = true from by decide +kernel] at h; exact h), by simp⟩) ?_
  simp [pressAv, deedsAv, Deed.cells, Desk.cells, dF, dG, newDesk]
  refine RTwp_call (.bool false) rfl (fun _ => ⟨(by have h := c18 three three_ok ⟨0, [], 0, 0, 0⟩ (by simp) (by simp); rw [show right three ⟨0, [], 0, 0, 0⟩ = false from by decide +kernel] at h; exact h), by simp⟩) ?_
  simp [pressAv, deedsAv, Deed.cells, Desk.cells, dF, dG, newDesk]
  refine RTwp_call (dF.av) (by simp [AV.pure]) (fun _ => ⟨c21 dF (by simp [dF]), by simp⟩) ?_
  refine RTwp_call (.bool true) rfl (fun _ => ⟨(by have h := c20 dF dF (by simp [dF]); exact h), by simp⟩) ?_
  simp [pressAv, deedsAv, Deed.cells, Desk.cells, dF, dG, newDesk]
end Go.Lb.C25

namespace Go.Lb.C25
open Go Go.Lb Go.Proofs Go.RowKit

theorem press_vias {l : Lay} {d : Desk} (h : Dok d) (p : Pr) : ∀ x ∈ (press l d p).2, x.vias.length ≤ 4294967295 := by
  obtain ⟨h1, h2⟩ := h
  intro x hx
  unfold press at hx
  split at hx
  · split at hx
    · simp at hx
    · split at hx
      · split at hx <;> simp at hx
        subst hx; simp
      · split at hx
        · split at hx <;> simp at hx
        · split at hx
          · split at hx <;> simp at hx
            subst hx; exact h1
          · simp at hx; subst hx; simp
  · simp at hx
theorem press_deeds {l : Lay} {d : Desk} (h : Dok d) (p : Pr) : DeedsOk (press l d p).2 := by
  have h1 := (press_ok (l := l) h p).2
  exact ⟨by omega, fun x hx => by have := press_vias (l := l) h p x hx; omega⟩
theorem all_vias {l : Lay} {d : Desk} (hd : Dok d) {ps : List Pr} : ∀ i, i ≤ ps.length → ∀ x ∈ (all l d (ps.take i)).2, x.vias.length ≤ 4294967295 := by
  intro i
  induction i with
  | zero => intro _ x hx; simp [all] at hx
  | succ i ih =>
    intro h x hx
    rw [all_take (by omega)] at hx
    simp only [allStep, List.mem_append] at hx
    rcases hx with hx | hx
    · exact ih (by omega) x hx
    · exact press_vias (all_ok hd i (by omega)).1 _ x hx
theorem all_deeds {l : Lay} {d : Desk} (hd : Dok d) {ps : List Pr} (hps : ps.length ≤ 4294967296) : DeedsOk (all l d ps).2 := by
  have h1 := (all_ok (l := l) hd ps.length (Nat.le_refl _)).2
  have h2 := all_vias (l := l) hd ps.length (Nat.le_refl _)
  rw [List.take_length] at h1 h2
  exact ⟨by omega, fun x hx => by have := h2 x hx; omega⟩
theorem all_dok {l : Lay} {d : Desk} (hd : Dok d) {ps : List Pr} : Dok (all l d ps).1 := by
  have h1 := (all_ok (l := l) hd ps.length (Nat.le_refl _)).1
  rwa [List.take_length] at h1
theorem tick_dok {l : Lay} {d : Desk} (hd : Dok d) : Dok (tick l d).1 := by
  unfold tick
  split
  · split
    · exact new_ok
    · exact hd
  · exact hd

theorem c3 (l : Lay) (hl : l.ok) (d o : Desk) (hdm : 0 ≤ d.mode) (ps : List Pr) : C 3 [l.av, d.av, o.av, prs ps] (.bool true) := by
  refine ctr (l.cells ++ d.cells ++ o.cells ++ [prs ps]) run3 rfl (by simp [pureAll_append, hl.1, AV.pureAll, prs_pure]) rfl ?_ rfl
  unfold rt3
  simp [Lay.cells, Desk.cells]
  refine RTwp_call0 (c8 l hl d) (by simp) ?_
  simp
  refine RTwp_call (.bool (great7 l || decide (20 < o.vias.length))) rfl (fun _ => ⟨c8 l hl o, by simp⟩) ?_
  simp [prs]
  refine ⟨fun _ => ?_, fun hg hdv _ hov hpl => ?_⟩
  · refine RTwp_call0 c9 (by simp) ?_
    simp
  have hd : Dok d := ⟨by omega, hdm⟩
  refine RTwp_loop rfl (fun vs => ∃ i : Nat, vs = [I i] ∧ i ≤ ps.length) (fun vs => match vs with | [.int _ i] => ps.length - i.toNat | _ => 0) ⟨0, rfl, Nat.zero_le _⟩ ?_
  rintro vs - ⟨i, rfl, hi⟩
  simp
  refine ⟨fun hlt => ?_, fun hge => ?_⟩
  · have hw : IntKind.i64.wrap ((i : Int) + 1) = ((i + 1 : Nat) : Int) := by rw [wrap_i] <;> omega
    have hpi : (Option.map Pr.av ps[i]?).getD AV.undef = (ps[i]).av := by rw [List.getElem?_eq_getElem hlt]; rfl
    simp [hpi, hlt, Pr.cells]
    have hp := press_ok (l := l) hd ps[i]
    have hdd := press_deeds (l := l) hd ps[i]
    refine RTwp_call0 (r := pressAv (press l d ps[i])) (by have h := c10 l hl d hd.1 hd.2 ps[i]; simp [hpi, Pr.cells]; exact h) (by simp) ?_
    simp [pressAv, hpi, hlt, Pr.cells, Desk.cells]
    refine RTwp_call0 (r := pressAv (press l d ps[i])) (by have h := c11 l hl d hd.1 ps[i]; simp [hpi, Pr.cells]; exact h) (by simp) ?_
    simp [pressAv, Desk.cells]
    refine RTwp_call0 (r := .bool true) (by have h := c12 (press l d ps[i]).1 (press l d ps[i]).1 (by have := hp.1.1; omega); simp at h; simp [Desk.cells]; exact h) (by simp) ?_
    simp
    refine RTwp_call (.bool true) rfl (fun _ => ⟨(by have h := c13 (press l d ps[i]).2 (press l d ps[i]).2 hdd; simp at h; simp; exact h), by simp⟩) ?_
    simp [hw]
    refine ⟨⟨i + 1, by omega, by omega⟩, by omega⟩
  · clear hge hi
    have hd1 : d.vias.length ≤ 4294967296 := by omega
    have ht := tick_dok (l := l) hd
    have ha := all_dok (l := l) hd (ps := ps)
    have hdd := all_deeds (l := l) hd (ps := ps) (by omega)
    refine RTwp_call0 (c14 l hl d hd ps (by omega)) (by simp) ?_
    simp [pressAv, Desk.cells]
    refine RTwp_call0 (c15 l hl d hd ps (by omega)) (by simp) ?_
    simp [pressAv, Desk.cells]
    refine RTwp_call0 (c16 l hl d hd1 hd.2) (by simp) ?_
    simp [tickAv, pressAv, Desk.cells]
    refine RTwp_call0 (c17 l hl d hd1) (by simp) ?_
    simp [tickAv, pressAv, Desk.cells]
    refine RTwp_call0 (r := .bool true) (by have h := c12 (all l d ps).1 (all l d ps).1 (by have := ha.1; omega); simp at h; exact h) (by simp) ?_
    simp [tickAv, pressAv, Desk.cells]
    refine RTwp_call (.bool true) rfl (fun _ => ⟨(by have h := c13 (all l d ps).2 (all l d ps).2 hdd; simp at h; exact h), by simp⟩) ?_
    simp [tickAv, pressAv, Desk.cells]
    refine RTwp_call (.bool true) rfl (fun _ => ⟨(by have h := c12 (tick l d).1 (tick l d).1 (by have := ht.1; omega); simp at h; exact h), by simp⟩) ?_
    simp [tickAv, pressAv, Desk.cells]
    refine RTwp_call _ rfl (fun _ => ⟨c18 l hl d hd1 hd.2, by simp⟩) ?_
    simp [tickAv, pressAv, Desk.cells]
    refine RTwp_call _ rfl (fun _ => ⟨c19 l hl d hd1, by simp⟩) ?_
    simp [tickAv, pressAv, Desk.cells]
    refine RTwp_call _ rfl (fun _ => ⟨c20 d o hd1, by simp⟩) ?_
    simp [tickAv, pressAv, Desk.cells]
    refine RTwp_call _ rfl (fun _ => ⟨c12 d o hd1, by simp⟩) ?_
    simp [tickAv, pressAv, Desk.cells]
    refine RTwp_call d.av (by simp [AV.pure]) (fun _ => ⟨c21 d hd1, by simp⟩) ?_
    simp [tickAv, pressAv, Desk.cells]
    refine RTwp_call (.bool true) rfl (fun _ => ⟨(by have h := c12 d d hd1; simp at h; exact h), by simp⟩) ?_
    simp [tickAv, pressAv, Desk.cells]
    refine RTwp_call newDesk.av (by simp [AV.pure]) (fun _ => ⟨c22, by simp⟩) ?_
    simp [tickAv, pressAv, Desk.cells]
    refine RTwp_call newDesk.av (by simp [AV.pure]) (fun _ => ⟨c23, by simp⟩) ?_
    simp [tickAv, pressAv, Desk.cells]
    refine RTwp_call (.bool true) rfl (fun _ => ⟨(by have h := c12 newDesk newDesk (by simp [newDesk]); simp at h; exact h), by simp⟩) ?_
    simp [tickAv, pressAv, Desk.cells]
    refine RTwp_call (.bool true) rfl (fun _ => ⟨c9, by simp⟩) ?_
    simp [tickAv, pressAv, Desk.cells]
end Go.Lb.C25

namespace Go.Lb.C25
open Go Go.Lb Go.Proofs Go.RowKit

/-! ### The form of the arguments -/
def iT : TS := .int .i64
def portT : TS := .agg [iT, iT]
def secT : TS := .agg [.int .u8, .agg [portT, portT, portT, portT], .agg [iT, iT]]
def sigT : TS := .agg [portT]
def stepT : TS := .agg [iT, iT, iT]
def exitT : TS := .agg [portT, .sl true stepT]
def flankT : TS := .agg [iT, iT, iT, iT]
def timesT : TS := .agg [iT, iT, iT, iT, iT, iT, iT]
def layT : TS := .agg [.sl true secT, .sl true sigT, .sl true exitT, .sl true flankT, timesT]
def deskT : TS := .agg [iT, .sl false iT, iT, .int .u8, iT]
def prT : TS := .agg [.int .u8, iT, iT]

theorem sec_of {cs : List AV} (h : secT.fits cs) : ∃ s : Sec, AV.agg cs = s.av ∧ s.rest.length = 10 := by
  simp only [secT, portT, iT, fits_agg, fitsAll_int, fitsAll_agg, fitsAll_nil, List.append_nil, List.cons_append, List.nil_append] at h
  obtain ⟨m, q, rfl, _, a0, q, rfl, _, a1, q, rfl, _, a2, q, rfl, _, a3, q, rfl, _, a4, q, rfl, _, a5, q, rfl, _, a6, q, rfl, _, a7, q, rfl, _, a8, q, rfl, _, a9, q, rfl, _, rfl⟩ := h
  exact ⟨⟨m, [I a0, I a1, I a2, I a3, I a4, I a5, I a6, I a7, I a8, I a9]⟩, rfl, rfl⟩
theorem exit_of {cs : List AV} (h : exitT.fits cs) : ∃ s : Exi, AV.agg cs = s.av := by
  simp only [exitT, portT, iT, fits_agg, fitsAll_int, fitsAll_agg, fitsAll_sl, fitsAll_nil, List.append_nil, List.cons_append, List.nil_append] at h
  obtain ⟨a0, q, rfl, _, a1, q, rfl, _, es, q, rfl, _, rfl⟩ := h
  exact ⟨⟨a0, a1, es⟩, rfl⟩
theorem lay_of {cs : List AV} (h : layT.fits cs) : ∃ l : Lay, AV.agg cs = l.av ∧ l.ok := by
  have hp := TS.fits_pure _ _ h
  simp only [layT, timesT, iT, fits_agg, fitsAll_int, fitsAll_agg, fitsAll_sl, fitsAll_nil, List.append_nil, List.cons_append, List.nil_append] at h
  obtain ⟨s1, q, rfl, h1, s2, q, rfl, _, s3, q, rfl, h3, s4, q, rfl, _, a0, q, rfl, _, a1, q, rfl, _, a2, q, rfl, _, a3, q, rfl, _, a4, q, rfl, _, a5, q, rfl, _, a6, q, rfl, _, rfl⟩ := h
  obtain ⟨secs, rfl, hs⟩ := sl_mapP (g := Sec.av) (Q := fun s => s.rest.length = 10) (fun cs h => sec_of h) s1 h1.2
  obtain ⟨exits, rfl⟩ := sl_map (g := Exi.av) (fun cs h => exit_of h) s3 h3.2
  exact ⟨⟨secs, s2, exits, s4, a0, a1, a2, a3, a4, a5, a6⟩, rfl, hp, hs⟩
theorem desk_of {cs : List AV} (h : deskT.fits cs) : ∃ d : Desk, AV.agg cs = d.av ∧ (0 ≤ d.mode ∧ d.mode ≤ 255) ∧ (∀ n, n = d.sig ∨ n = d.tim ∨ n = d.left ∨ n ∈ d.vias → -9223372036854775808 ≤ n ∧ n ≤ 9223372036854775807) := by
  simp only [deskT, iT, fits_agg, fitsAll_int, fitsAll_agg, fitsAll_sl, fitsAll_nil, List.append_nil, List.cons_append, List.nil_append] at h
  obtain ⟨a0, q, rfl, h0, es, q, rfl, h1, a1, q, rfl, h2, a2, q, rfl, h3, a3, q, rfl, h4, rfl⟩ := h
  obtain ⟨l, rfl, hl⟩ := sl_ints es h1.2
  refine ⟨⟨a0, l, a1, a2, a3⟩, rfl, by simpa using h3, fun n hn => ?_⟩
  rcases hn with rfl | rfl | rfl | hn
  · simpa using h0
  · simpa using h2
  · simpa using h4
  · simpa using hl n hn
theorem pr_of {cs : List AV} (h : prT.fits cs) : ∃ p : Pr, AV.agg cs = p.av := by
  simp only [prT, iT, fits_agg, fitsAll_int, fitsAll_agg, fitsAll_sl, fitsAll_nil, List.append_nil, List.cons_append, List.nil_append] at h
  obtain ⟨a0, q, rfl, h0, a1, q, rfl, h2, a2, q, rfl, h3, rfl⟩ := h
  exact ⟨⟨a0, a1, a2⟩, rfl⟩
theorem prs_of {v : List AV} (h : ∀ x ∈ v, prT.fits x.cells ∧ aggIf true x) : ∃ ps : List Pr, AV.sl v = prs ps := by
  obtain ⟨ps, rfl⟩ := sl_map (g := Pr.av) (fun cs h => pr_of h) v h
  exact ⟨ps, rfl⟩
theorem lay_arg {x : AV} (h : layT.fits x.cells) (h2 : aggIf true x) : ∃ l : Lay, x = l.av ∧ l.ok := by
  obtain ⟨cs, rfl⟩ := h2.1 rfl
  exact lay_of h
theorem desk_arg {x : AV} (h : deskT.fits x.cells) (h2 : aggIf true x) : ∃ d : Desk, x = d.av ∧ (0 ≤ d.mode ∧ d.mode ≤ 255) ∧ (∀ n, n = d.sig ∨ n = d.tim ∨ n = d.left ∨ n ∈ d.vias → -9223372036854775808 ≤ n ∧ n ≤ 9223372036854775807) := by
  obtain ⟨cs, rfl⟩ := h2.1 rfl
  exact desk_of h
theorem prs_arg {x : AV} (h : (TS.sl true prT).fits x.cells) (h2 : aggIf false x) : ∃ ps : List Pr, x = prs ps := by
  obtain ⟨es, h1, _, h3⟩ := fits_sl.1 h
  have : x = .sl es := by
    cases x <;> simp_all [AV.cells, aggIf]
  subst this
  exact prs_of h3

theorem own : ownKnob Try.prog.godebug = none := by kernel_rfl
theorem laidOut : laidOutB Try.prog = true := by kernel_rfl

theorem int_arg {x : AV} (h : iT.fits x.cells) (h2 : aggIf false x) : ∃ n, x = I n := by
  obtain ⟨n, h1, _⟩ := fits_int.1 h
  have : x = I n := by
    cases x <;> simp_all [AV.cells, aggIf]
  exact ⟨n, this⟩
theorem bool_arg {x : AV} (h : TS.bool.fits x.cells) (h2 : aggIf false x) : ∃ b, x = .bool b := by
  obtain ⟨n, h1⟩ := fits_bool.1 h
  have : x = .bool n := by
    cases x <;> simp_all [AV.cells, aggIf]
  exact ⟨n, this⟩
end Go.Lb.C25
