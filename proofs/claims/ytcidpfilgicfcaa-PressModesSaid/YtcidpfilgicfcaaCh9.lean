/- Chapter 25: PressModes, of pure values. -/
/- Chapter 25: PressAsks, of pure values. -/
import Derived.Test.YtcidpfilgicfcaaCh8
set_option linter.unusedSimpArgs false
set_option linter.unusedVariables false
namespace Go.Lb.C25
open Go Go.Lb Go.Proofs Go.RowKit

theorem modes_all {l : Lay} {d : Desk} {s m : Int} (hm : m = 1 ∨ m = 2) (hp1 : 1 ≤ l.press) (hp2 : l.press ≤ 1000) (hr : right l d = true) (h0 : 0 ≤ s) (h1 : s < l.sigs.length) :
    all l d [⟨m, 0, 0⟩, ⟨3, s, 0⟩, ⟨3, s, 0⟩] = (⟨s, [], l.press, 0, 0⟩, [⟨m, s, 0, 0, 0, []⟩]) := by
  have hm1 : may l d = true := may_iff.2 ⟨hp1, hp2, hr⟩
  have hc1 : counts l ⟨m, 0, 0⟩ = true := by simp [counts, hm]
  have e1 : press l d ⟨m, 0, 0⟩ = (⟨-1, [], 0, m, l.press⟩, []) := by simp [press, hm1, hc1, hm]
  have hr2 := press_right ⟨m, 0, 0⟩ hr
  rw [e1] at hr2
  have hm2 : may l ⟨-1, [], 0, m, l.press⟩ = true := may_iff.2 ⟨hp1, hp2, hr2⟩
  have hc2 : counts l ⟨3, s, 0⟩ = true := by simp [counts, inR, h0, h1]
  have hm0 : ¬ (m = 0) := by omega
  have e2 : press l ⟨-1, [], 0, m, l.press⟩ ⟨3, s, 0⟩ = (newDesk, [⟨m, s, 0, 0, 0, []⟩]) := by simp [press, hm2, hc2, hm0]
  have hm3 : may l newDesk = true := may_iff.2 ⟨hp1, hp2, new_right l⟩
  have e3 : press l newDesk ⟨3, s, 0⟩ = (⟨s, [], l.press, 0, 0⟩, []) := by simp [press, hm3, hc2]; simp [newDesk]
  simp [all, allStep, e1, e2, e3]

theorem key_press {l : Lay} {d : Desk} {p pos : Int} (hp1 : 1 ≤ l.press) (hp2 : l.press ≤ 1000) (hr : right l d = true) :
    press l d ⟨6, p, pos⟩ = (d, if (inR p l.secs.length && decide (l.kindAt p = 2) && (decide (pos = 0) || decide (pos = 1))) = true then [⟨4, p, pos, 0, 0, []⟩] else []) := by
  have hm1 : may l d = true := may_iff.2 ⟨hp1, hp2, hr⟩
  have hc : counts l ⟨6, p, pos⟩ = (inR p l.secs.length && decide (l.kindAt p = 2) && (decide (pos = 0) || decide (pos = 1))) := by simp [counts]
  generalize (inR p l.secs.length && decide (l.kindAt p = 2) && (decide (pos = 0) || decide (pos = 1))) = H at *
  cases H <;> simp [press, hm1, hc]

theorem c7 (l : Lay) (hl : l.ok) (d : Desk) (s p pos : Int) (cancel : Bool) : C 7 [l.av, d.av, I s, I p, I pos, .bool cancel] (.bool true) := by
  refine ctr (l.cells ++ d.cells ++ [I s, I p, I pos, .bool cancel]) run7 rfl (by simp [pureAll_append, hl.1, AV.pureAll, AV.pure]) rfl ?_ rfl
  unfold rt7
  simp [Lay.cells, Desk.cells]
  refine RTwp_call0 (c8 l hl d) (by simp) ?_
  simp
  by_cases hd1 : d.vias.length ≤ 4294967296
  · refine RTwp_call (.bool (right l d)) rfl (fun _ => ⟨c19 l hl d hd1, by simp⟩) ?_
    simp
    refine ⟨fun _ => ?_, fun hg hdv hp1 hp2 hr hs0 hs1 => ?_⟩
    · refine RTwp_call0 c9 (by simp) ?_
      simp
    have hd : Dok d := dok_of hr
    have hcond : (inR p l.secs.length && decide (l.kindAt p = 2) && (decide (pos = 0) || decide (pos = 1))) = true ∨ (inR p l.secs.length && decide (l.kindAt p = 2) && (decide (pos = 0) || decide (pos = 1))) = false := by
      cases (inR p l.secs.length && decide (l.kindAt p = 2) && (decide (pos = 0) || decide (pos = 1))) <;> simp
    have hkp := key_press (p := p) (pos := pos) hp1 hp2 hr
    refine ⟨fun hcan => ?_, fun hcan => ?_⟩
    all_goals
     first
     | refine RTwp_call0 (r := pressAv (⟨s, [], l.press, 0, 0⟩, [⟨1, s, 0, 0, 0, []⟩])) (by have h := c14 l hl d hd [⟨1, 0, 0⟩, ⟨3, s, 0⟩, ⟨3, s, 0⟩] (by simp); rw [modes_all (.inl rfl) hp1 hp2 hr hs0 hs1] at h; exact h) (by simp) ?_
     | refine RTwp_call0 (r := pressAv (⟨s, [], l.press, 0, 0⟩, [⟨2, s, 0, 0, 0, []⟩])) (by have h := c14 l hl d hd [⟨2, 0, 0⟩, ⟨3, s, 0⟩, ⟨3, s, 0⟩] (by simp); rw [modes_all (.inr rfl) hp1 hp2 hr hs0 hs1] at h; exact h) (by simp) ?_
    all_goals
      simp [pressAv, deedsAv, Desk.cells, Deed.cells]
      refine RTwp_call0 (r := pressAv (press l d ⟨6, p, pos⟩)) (c10 l hl d hd.1 hd.2 ⟨6, p, pos⟩) (by simp) ?_
      rw [hkp]
      by_cases hin : 0 ≤ p ∧ p < (l.secs.length : Int)
      · have hlt : p.toNat < l.secs.length := by omega
        have hlen := hl.2 _ (List.getElem_mem hlt)
        have hk : l.kindAt p = (l.secs[p.toNat]).kind := by simp [Lay.kindAt, List.getElem?_eq_getElem hlt]
        have hinr : inR p l.secs.length = true := by simp [inR, hin]
        simp only [hinr, hk, Bool.true_and]
        simp [pressAv, deedsAv, Desk.cells, Deed.cells, List.getElem?_eq_getElem hlt, hlen, hin]
        refine RTwp_call0 (r := .bool true) (by have h := c12 d d hd1; simp at h; exact h) (by simp) ?_
        by_cases hk2 : (l.secs[p.toNat]).kind = 2
        · by_cases hpos : pos = 0 ∨ pos = 1
          · have hpp : 0 ≤ pos ∧ pos ≤ 1 := by omega
            simp [pressAv, deedsAv, Desk.cells, Deed.cells, List.getElem?_eq_getElem hlt, hlen, hin, hk2, hpos, hpp]
            refine RTwp_call (.bool true) rfl (fun _ => ⟨c9, by simp⟩) ?_
            simp [pressAv, deedsAv, Desk.cells, Deed.cells, List.getElem?_eq_getElem hlt, hlen, hin, hk2, hpos, hpp]
          · have hpp : ¬ (0 ≤ pos ∧ pos ≤ 1) := by omega
            have hp3 : 0 ≤ pos → ¬ (pos ≤ 1) := by omega
            simp [pressAv, deedsAv, Desk.cells, Deed.cells, List.getElem?_eq_getElem hlt, hlen, hin, hk2, hpos, hpp, hp3]
            refine RTwp_call (.bool true) rfl (fun _ => ⟨c9, by simp⟩) ?_
            simp [pressAv, deedsAv, Desk.cells, Deed.cells, List.getElem?_eq_getElem hlt, hlen, hin, hk2, hpos, hpp, hp3]
            omega
        · simp [pressAv, deedsAv, Desk.cells, Deed.cells, List.getElem?_eq_getElem hlt, hlen, hin, hk2]
          refine RTwp_call (.bool true) rfl (fun _ => ⟨c9, by simp⟩) ?_
          simp [pressAv, deedsAv, Desk.cells, Deed.cells, List.getElem?_eq_getElem hlt, hlen, hin, hk2]
      · have hinr : inR p l.secs.length = false := by simp [inR]; omega
        have hin2 : 0 ≤ p → ¬ (p < (l.secs.length : Int)) := by omega
        simp only [hinr, Bool.false_and]
        simp [pressAv, deedsAv, Desk.cells, Deed.cells, hin]
        refine RTwp_call0 (r := .bool true) (by have h := c12 d d hd1; simp at h; exact h) (by simp) ?_
        simp [pressAv, deedsAv, Desk.cells, Deed.cells, hin]
        refine RTwp_call (.bool true) rfl (fun _ => ⟨c9, by simp⟩) ?_
        simp [pressAv, deedsAv, Desk.cells, Deed.cells, hin]
  · refine RTwp_call (.bool false) rfl (fun h => ?_) ?_
    · simp at h; omega
    have hgr : (20 : Nat) < d.vias.length := by omega
    simp [hgr]
    refine RTwp_call0 c9 (by simp) ?_
    simp
end Go.Lb.C25

namespace Go.Lb.C25
open Go Go.Lb Go.Proofs Go.RowKit

@[simp] theorem pok_rowget (z off n : Nat) (g : Bool) (es : List AV) (k : IntKind) (i : Int) : pok (.rowget z off n g) [.sl es, .int k i] = (0 ≤ i ∧ i < es.length ∧ (es.getD i.toNat .undef).cells.length = z ∧ AV.cutOk (es.getD i.toNat .undef).cells off n g) := rfl
theorem press_on {l : Lay} {d : Desk} {p : Pr} (h : may l d = true) (hc : counts l p = true) : press l d p =
    if p.kind = 1 ∨ p.kind = 2 then (⟨-1, [], 0, p.kind, l.press⟩, [])
    else if p.kind = 3 then (if d.mode = 0 then (⟨p.n, [], l.press, 0, 0⟩, []) else (newDesk, [⟨d.mode, p.n, 0, 0, 0, []⟩]))
    else if p.kind = 4 then (if 0 ≤ d.sig ∧ d.vias.length < 2 then ({ d with vias := d.vias ++ [p.n], tim := l.press }, []) else (d, []))
    else if p.kind = 5 then (if 0 ≤ d.sig then (newDesk, [⟨3, 0, 0, d.sig, p.n, d.vias⟩]) else (d, []))
    else (d, [⟨4, p.n, p.pos, 0, 0, []⟩]) := by
  unfold press; rw [if_pos (by rw [h, hc]; rfl)]

theorem c4 (l : Lay) (hl : l.ok) (ps : List Pr) : C 4 [l.av, prs ps] (.bool true) := by
  refine ctr (l.cells ++ [prs ps]) run4 rfl (by simp [pureAll_append, hl.1, AV.pureAll, prs_pure]) rfl ?_ rfl
  unfold rt4
  simp [Lay.cells]
  refine RTwp_call0 (c24 l hl) (by simp) ?_
  simp [prs]
  refine ⟨fun _ => ?_, fun hg hpl hp1 hp2 => ?_⟩
  · refine RTwp_call0 c9 (by simp) ?_
    simp
  refine RTwp_call0 c22 (by simp) ?_
  simp [newDesk, Desk.cells]
  refine RTwp_loop rfl (fun vs => ∃ (i : Nat) (d : Desk), vs = [I d.sig, U d.mode, ints d.vias, I i] ++ d.cells ∧ i ≤ ps.length ∧ right l d = true) (fun vs => match vs with | (_ :: _ :: _ :: .int _ i :: _) => ps.length - i.toNat | _ => 0) ⟨0, newDesk, rfl, Nat.zero_le _, new_right l⟩ ?_
  rintro vs - ⟨i, d, rfl, hi, hr⟩
  have hd := dok_of hr
  simp [Desk.cells]
  refine ⟨fun hlt => ?_, fun hge => ?_⟩
  · have hw : IntKind.i64.wrap ((i : Int) + 1) = ((i + 1 : Nat) : Int) := by rw [wrap_i] <;> omega
    have hpi : (Option.map Pr.av ps[i]?).getD AV.undef = (ps[i]).av := by rw [List.getElem?_eq_getElem hlt]; rfl
    have hp := press_ok (l := l) hd ps[i]
    have hpr := press_right ps[i] hr
    generalize hq : ps[i] = q at *
    simp [hpi, hlt, Pr.cells]
    refine RTwp_call0 (r := pressAv (press l d q)) (by have h := c10 l hl d hd.1 hd.2 q; simp [hpi, Pr.cells]; exact h) (by simp) ?_
    have hmay : may l d = true := may_iff.2 ⟨hp1, hp2, hr⟩
    have hrr := right_iff.1 hr
    have hpd := dok_of hpr
    simp [pressAv, Desk.cells]
    refine RTwp_call0 (r := .bool true) (by have h := c18 l hl (press l d q).1 (by have := hpd.1; omega) hpd.2; rw [hpr] at h; exact h) (by simp) ?_
    simp [pressAv, deedsAv, Desk.cells]
    refine ⟨by omega, fun hlen1 => ?_⟩
    refine RTwp_call0 (r := .bool (counts l q)) (by have h := c25 l hl q; simp [hpi, Pr.cells]; exact h) (by simp) ?_
    by_cases hc : counts l q = true
    · have hpress := press_on hmay hc
      by_cases h1 : q.kind = 1 ∨ q.kind = 2
      · rw [if_pos h1] at hpress
        rw [hpress] at hpr ⊢
        have h3 : ¬ q.kind = 3 := by omega
        have h4 : ¬ q.kind = 4 := by omega
        have h5 : ¬ q.kind = 5 := by omega
        have h6 : ¬ q.kind = 6 := by omega
        simp [hpi, hlt, hq, Pr.cells, pressAv, deedsAv, Desk.cells, hc, h3, h4, h5, h6, hw]
        refine ⟨⟨i + 1, ⟨-1, [], 0, q.kind, l.press⟩, by simp, by omega, hpr⟩, by omega⟩
      · rw [if_neg h1] at hpress
        by_cases h3 : q.kind = 3
        · rw [if_pos h3] at hpress
          by_cases hm : d.mode = 0
          · rw [if_pos hm] at hpress
            rw [hpress] at hpr ⊢
            simp [hpi, hlt, hq, Pr.cells, pressAv, deedsAv, Desk.cells, hc, h3, hm, hw]
            refine ⟨⟨i + 1, ⟨q.n, [], l.press, 0, 0⟩, by simp, by omega, hpr⟩, by omega⟩
          · rw [if_neg hm] at hpress
            rw [hpress] at hpr ⊢
            have hs : d.sig = -1 ∧ d.vias = [] := by
              rcases hrr.2.2.2.2.2.2.2.2.2 with h | h
              · exact absurd h.2 hm
              · exact h
            have hm3 : ¬ d.mode = 3 := by omega
            simp [hpi, hlt, hq, Pr.cells, pressAv, deedsAv, Desk.cells, Deed.cells, newDesk, hc, h3, hm, hm3, hs.1, hs.2, hw]
            refine ⟨⟨i + 1, newDesk, by simp [newDesk], by omega, hpr⟩, by omega⟩
        · rw [if_neg h3] at hpress
          by_cases h4 : q.kind = 4
          · rw [if_pos h4] at hpress
            by_cases hv : 0 ≤ d.sig ∧ d.vias.length < 2
            · rw [if_pos hv] at hpress
              rw [hpress] at hpr ⊢
              have hv2 : (d.vias.length : Int) < 2 := by omega
              simp [hpi, hlt, hq, Pr.cells, pressAv, deedsAv, Desk.cells, Deed.cells, hc, h4, hv, hv2, hw]
              refine ⟨by omega, ⟨i + 1, ⟨d.sig, d.vias ++ [q.n], l.press, d.mode, d.left⟩, by simp, by omega, hpr⟩, by omega⟩
            · rw [if_neg hv] at hpress
              rw [hpress] at hpr ⊢
              have hv2 : 0 ≤ d.sig → ¬ (d.vias.length : Int) < 2 := by omega
              have hv3 : 0 ≤ d.sig → (2 : Int) ≤ d.vias.length := by omega
              simp [hpi, hlt, hq, Pr.cells, pressAv, deedsAv, Desk.cells, Deed.cells, hc, h4, hv, hw]
              exact ⟨fun g1 g2 => absurd g2 (hv2 g1), fun _ => ⟨⟨i + 1, d, by simp, by omega, hpr⟩, by omega⟩⟩
          · rw [if_neg h4] at hpress
            by_cases h5 : q.kind = 5
            · rw [if_pos h5] at hpress
              by_cases hs : 0 ≤ d.sig
              · rw [if_pos hs] at hpress
                rw [hpress] at hpr ⊢
                simp [hpi, hlt, hq, Pr.cells, pressAv, deedsAv, Desk.cells, Deed.cells, newDesk, hc, h5, hs, hw]
                refine RTwp_loop rfl (fun vs => ∃ k : Nat, vs = [I k] ∧ k ≤ d.vias.length) (fun vs => match vs with | [.int _ k] => d.vias.length - k.toNat | _ => 0) ⟨0, rfl, Nat.zero_le _⟩ ?_
                rintro vs - ⟨k, rfl, hk⟩
                simp
                refine ⟨fun hk2 => ?_, fun hk2 => ?_⟩
                · have hwk : IntKind.i64.wrap ((k : Int) + 1) = ((k + 1 : Nat) : Int) := by rw [wrap_i] <;> omega
                  simp [List.getElem?_eq_getElem hk2, hwk, hk2, Deed.cells]
                  refine ⟨⟨k + 1, by omega, by omega⟩, by omega⟩
                · have hmz : d.mode = 0 := by
                    rcases hrr.2.2.2.2.2.2.2.2.2 with h | h
                    · exact h.2
                    · omega
                  simp [hpi, hlt, hq, Pr.cells, hw, Desk.cells]
                  exact ⟨⟨i + 1, newDesk, by simp [newDesk, hmz], by omega, hpr⟩, by omega⟩
              · rw [if_neg hs] at hpress
                rw [hpress] at hpr ⊢
                simp [hpi, hlt, hq, Pr.cells, pressAv, deedsAv, Desk.cells, Deed.cells, hc, h5, hs, hw]
                refine ⟨⟨i + 1, d, by simp, by omega, hpr⟩, by omega⟩
            · rw [if_neg h5] at hpress
              rw [hpress] at hpr ⊢
              have h6 : q.kind = 6 := by
                simp only [counts, if_neg h1, if_neg h3, if_neg h4, if_neg h5] at hc
                split at hc
                · assumption
                · cases hc
              simp [hpi, hlt, hq, Pr.cells, pressAv, deedsAv, Desk.cells, Deed.cells, hc, h6, hw]
              refine ⟨⟨i + 1, d, by simp, by omega, hpr⟩, by omega⟩
    · have hc2 : counts l q = false := by simpa using hc
      have hpress := press_not (d := d) hc2
      rw [hpress] at hpr ⊢
      simp [hpi, hlt, hq, Pr.cells, pressAv, deedsAv, Desk.cells, hc2, hw]
      refine ⟨⟨i + 1, d, by simp, by omega, hpr⟩, by omega⟩
  · refine RTwp_call0 c9 (by simp) ?_
    simp
end Go.Lb.C25
