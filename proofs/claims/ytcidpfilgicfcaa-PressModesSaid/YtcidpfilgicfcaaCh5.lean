/- Chapter 25: presses, on. -/
/- Chapter 25: the document's presses. -/
/- Chapter 25: what functions come to, printed by a program, checked by the kernel. -/
/- Chapter 25: all presses; the same deeds. -/
import Derived.Test.YtcidpfilgicfcaaCh4
import Derived.Test.YtcidpfilgicfcaaCh1
set_option linter.unusedSimpArgs false
set_option linter.unusedVariables false
namespace Go.Lb.C25
open Go Go.Lb Go.Proofs Go.RowKit
theorem c10_4 (l : Lay) (hl : l.ok) (d : Desk) (hd : d.vias.length ≤ 4294967295) (hm : 0 ≤ d.mode) (p : Pr) (hk : p.kind = 4) : C 10 [l.av, d.av, p.av] (pressAv (press l d p)) := by
  refine ctr2 (l.cells ++ d.cells ++ p.cells) run10 rfl (by simp [pureAll_append, hl.1]) (press_pure _) ?_ rfl
  unfold rt10
  have hd' : d.vias.length ≤ 4294967296 := by omega
  simp [Lay.cells, Desk.cells, Pr.cells, hk]
  refine RTwp_call0 (c27 l hl) (by simp) ?_
  simp [kindsAv, Lay.cells, hk]
  refine ⟨⟨hd', ?_⟩, fun hnil => ?_⟩
  all_goals
    refine RTwp_call (.bool (may l d)) rfl (fun _ => ⟨c28 l hl d hd' hm, by simp⟩) ?_
    simp [hk]
    by_cases hx : may l d = true
    · have hlen := (right_iff.1 (may_iff.1 hx).2.2).2.2.1
      by_cases hall : 0 ≤ p.n ∧ p.n < ↑l.secs.length ∧ 0 ≤ d.sig ∧ d.vias.length < 2
      · have hpr : press l d p = ({ d with vias := d.vias ++ [p.n], tim := l.press }, []) := by simp [press, hx, counts, hk, inR, hall]
        rw [hpr]
        simp [hx, hall, pressAv, deedsAv, Desk.cells, Deed.cells, hd', newDesk]
        first | omega | exact hnil
      · have hpr : press l d p = (d, []) := by simp [press, hx, counts, hk, inR]; grind
        rw [hpr]
        simp [hx, pressAv, deedsAv, Desk.cells, Deed.cells, hd', newDesk]
        intros
        first | omega | (exfalso; apply hall; rw [hnil]; simp; omega)
    · have hpr : press l d p = (d, []) := by simp [press, hx]
      rw [hpr]
      simp [hx, pressAv, deedsAv, Desk.cells, Deed.cells, hd', newDesk]

theorem c10_5 (l : Lay) (hl : l.ok) (d : Desk) (hd : d.vias.length ≤ 4294967295) (hm : 0 ≤ d.mode) (p : Pr) (hk : p.kind = 5) : C 10 [l.av, d.av, p.av] (pressAv (press l d p)) := by
  refine ctr2 (l.cells ++ d.cells ++ p.cells) run10 rfl (by simp [pureAll_append, hl.1]) (press_pure _) ?_ rfl
  unfold rt10
  have hd' : d.vias.length ≤ 4294967296 := by omega
  simp [Lay.cells, Desk.cells, Pr.cells, hk]
  refine RTwp_call0 (c27 l hl) (by simp) ?_
  simp [kindsAv, Lay.cells, hk]
  refine ⟨⟨hd', ?_⟩, fun hnil => ?_⟩
  all_goals
    refine RTwp_call (.bool (may l d)) rfl (fun _ => ⟨c28 l hl d hd' hm, by simp⟩) ?_
    simp [hk]
    by_cases hx : may l d = true
    · by_cases hall : 0 ≤ p.n ∧ p.n < ↑l.exits.length ∧ 0 ≤ d.sig
      · have hpr : press l d p = (newDesk, [⟨3, 0, 0, d.sig, p.n, d.vias⟩]) := by simp [press, hx, counts, hk, inR, hall]
        rw [hpr]
        simp [hx, hall, pressAv, deedsAv, Desk.cells, Deed.cells, hd', newDesk]
        refine RTwp_call0 c22 (by simp) ?_
        simp [pressAv, deedsAv, Desk.cells, Deed.cells, hd', newDesk]
        try exact hnil
      · have hpr : press l d p = (d, []) := by simp [press, hx, counts, hk, inR]; grind
        rw [hpr]
        simp [hx, pressAv, deedsAv, Desk.cells, Deed.cells, hd', newDesk]
        intro h1 h2 h3
        exact absurd ⟨h2, h3, h1⟩ hall
    · have hpr : press l d p = (d, []) := by simp [press, hx]
      rw [hpr]
      simp [hx, pressAv, deedsAv, Desk.cells, Deed.cells, hd', newDesk]

theorem c10_6 (l : Lay) (hl : l.ok) (d : Desk) (hd : d.vias.length ≤ 4294967295) (hm : 0 ≤ d.mode) (p : Pr) (hk : p.kind = 6) : C 10 [l.av, d.av, p.av] (pressAv (press l d p)) := by
  refine ctr2 (l.cells ++ d.cells ++ p.cells) run10 rfl (by simp [pureAll_append, hl.1]) (press_pure _) ?_ rfl
  unfold rt10
  have hd' : d.vias.length ≤ 4294967296 := by omega
  simp [Lay.cells, Desk.cells, Pr.cells, hk]
  refine RTwp_call0 (c27 l hl) (by simp) ?_
  simp [kindsAv, Lay.cells, hk]
  refine ⟨⟨hd', ?_⟩, fun hnil => ?_⟩
  all_goals
    refine RTwp_call (.bool (may l d)) rfl (fun _ => ⟨c28 l hl d hd' hm, by simp⟩) ?_
    simp [hk]
    by_cases hx : may l d = true
    · by_cases hr : 0 ≤ p.n ∧ p.n < ↑l.secs.length
      · have hlt : p.n.toNat < l.secs.length := by omega
        have hlen := hl.2 _ (List.getElem_mem hlt)
        have hka : l.kindAt p.n = (l.secs[p.n.toNat]).kind := by simp [Lay.kindAt, List.getElem?_eq_getElem hlt]
        by_cases hall : (l.secs[p.n.toNat]).kind = 2 ∧ 0 ≤ p.pos ∧ p.pos < 2
        · have hpr : press l d p = (d, [⟨4, p.n, p.pos, 0, 0, []⟩]) := by simp [press, hx, counts, hk, inR, hr, hka, hall]; omega
          rw [hpr]
          simp [hx, hr, hall, hlen, List.getElem?_eq_getElem hlt, pressAv, deedsAv, Desk.cells, Deed.cells, hd', newDesk]
          try exact hnil
        · have hpr : press l d p = (d, []) := by simp [press, hx, counts, hk, inR, hr, hka]; grind
          rw [hpr]
          simp [hx, hr, hlen, List.getElem?_eq_getElem hlt, pressAv, deedsAv, Desk.cells, Deed.cells, hd', newDesk]
          by_cases hk2 : (l.secs[p.n.toNat]).kind = 2
          · left
            refine ⟨by rw [if_neg (by omega)]; simp [hk2], fun h => ?_⟩
            have : ¬ (p.pos < 2) := fun h2 => hall ⟨hk2, h, h2⟩
            omega
          · right; exact hk2
      · have hpr : press l d p = (d, []) := by simp [press, hx, counts, hk, inR]; grind
        rw [hpr]
        have hr' : ¬ 0 ≤ p.n ∨ ¬ p.n < ↑l.secs.length := by omega
        rcases hr' with h | h
        · simp [hx, h, pressAv, deedsAv, Desk.cells, Deed.cells, hd', newDesk]
        · simp [hx, h, pressAv, deedsAv, Desk.cells, Deed.cells, hd', newDesk]
    · have hpr : press l d p = (d, []) := by simp [press, hx]
      rw [hpr]
      simp [hx, pressAv, deedsAv, Desk.cells, Deed.cells, hd', newDesk]

theorem c10 (l : Lay) (hl : l.ok) (d : Desk) (hd : d.vias.length ≤ 4294967295) (hm : 0 ≤ d.mode) (p : Pr) : C 10 [l.av, d.av, p.av] (pressAv (press l d p)) := by
  by_cases h1 : p.kind = 1
  · exact c10_1 l hl d hd hm p h1
  by_cases h2 : p.kind = 2
  · exact c10_2 l hl d hd hm p h2
  by_cases h3 : p.kind = 3
  · exact c10_3 l hl d hd hm p h3
  by_cases h4 : p.kind = 4
  · exact c10_4 l hl d hd hm p h4
  by_cases h5 : p.kind = 5
  · exact c10_5 l hl d hd hm p h5
  by_cases h6 : p.kind = 6
  · exact c10_6 l hl d hd hm p h6
  exact c10_0 l hl d hd hm p ⟨h1, h2, h3, h4, h5, h6⟩

end Go.Lb.C25

namespace Go.Lb.C25
open Go Go.Lb Go.Proofs Go.RowKit

theorem c11 (l : Lay) (hl : l.ok) (d : Desk) (hd : d.vias.length ≤ 4294967295) (p : Pr) : C 11 [l.av, d.av, p.av] (pressAv (press l d p)) := by
  refine ctr2 (l.cells ++ d.cells ++ p.cells) run11 rfl (by simp [pureAll_append, hl.1]) (press_pure _) ?_ rfl
  unfold rt11
  have hd' : d.vias.length ≤ 4294967296 := by omega
  simp [Lay.cells, Desk.cells, Pr.cells]
  refine ⟨hd', ?_⟩
  refine RTwp_call0 (c30 l hl) (by simp) ?_
  simp
  refine RTwp_call (.bool (right l d)) rfl (fun _ => ⟨c19 l hl d hd', fun _ => rfl⟩) ?_
  simp
  refine RTwp_call (.bool (counts l p)) rfl (fun _ => ⟨c25 l hl p, by simp⟩) ?_
  simp
  have hmay : may l d = (decide (1 ≤ l.press) && decide (l.press ≤ 1000) && right l d) := rfl
  refine ⟨fun h => ?_, fun h1 h2 hr hc => ?_⟩
  · have hpr : press l d p = (d, []) := by
      unfold press
      rw [if_neg]
      rw [hmay]; intro hx; simp at hx
      rcases h with ((h | h) | h) | h
      · omega
      · omega
      · rw [h] at hx; cases hx.1.2
      · rw [h] at hx; cases hx.2
    rw [hpr]; simp [pressAv, deedsAv, Desk.cells, Deed.cells, newDesk]
  · have hm : may l d = true := by rw [hmay, hr]; simp [h1, h2]
    have hm2 : (may l d && counts l p) = true := by rw [hm, hc]; rfl
    have hrr := right_iff.1 hr
    have hlen := hrr.2.2.1
    have hmd := hrr.2.2.2.2.2.2.1
    have hpr : press l d p = (if p.kind = 1 ∨ p.kind = 2 then (⟨-1, [], 0, p.kind, l.press⟩, [])
      else if p.kind = 3 then (if d.mode = 0 then (⟨p.n, [], l.press, 0, 0⟩, []) else (newDesk, [⟨d.mode, p.n, 0, 0, 0, []⟩]))
      else if p.kind = 4 then (if 0 ≤ d.sig ∧ d.vias.length < 2 then ({ d with vias := d.vias ++ [p.n], tim := l.press }, []) else (d, []))
      else if p.kind = 5 then (if 0 ≤ d.sig then (newDesk, [⟨3, 0, 0, d.sig, p.n, d.vias⟩]) else (d, []))
      else (d, [⟨4, p.n, p.pos, 0, 0, []⟩])) := by unfold press; rw [if_pos hm2]
    have hk6 : ¬ (p.kind = 1 ∨ p.kind = 2) → ¬ p.kind = 3 → ¬ p.kind = 4 → ¬ p.kind = 5 → p.kind = 6 := by
      intro k1 k3 k4 k5
      by_cases k6 : p.kind = 6
      · exact k6
      · simp [counts, k1, k3, k4, k5, k6] at hc
    rw [hpr]
    by_cases k12 : p.kind = 1 ∨ p.kind = 2
    · simp [k12, pressAv, deedsAv, Desk.cells, Deed.cells, newDesk]
      intro a b; exact absurd k12 (by simp [a, b])
    · have k1 : ¬ p.kind = 1 := fun h => k12 (.inl h)
      have k2 : ¬ p.kind = 2 := fun h => k12 (.inr h)
      by_cases k3 : p.kind = 3
      · rcases hmd with h | h | h
        · simp [k3, h, pressAv, deedsAv, Desk.cells, Deed.cells, newDesk]
        · simp [k3, h, pressAv, deedsAv, Desk.cells, Deed.cells, newDesk]
          refine RTwp_call0 c23 (by simp) ?_
          simp [pressAv, deedsAv, Desk.cells, Deed.cells, newDesk]
        · simp [k3, h, pressAv, deedsAv, Desk.cells, Deed.cells, newDesk]
          refine RTwp_call0 c23 (by simp) ?_
          simp [pressAv, deedsAv, Desk.cells, Deed.cells, newDesk]
      · by_cases k4 : p.kind = 4
        · by_cases hs : 0 ≤ d.sig
          · by_cases hv : d.vias.length < 2
            · have hv' : (d.vias.length : Int) < 2 := by omega
              simp [k4, hs, hv, hv', pressAv, deedsAv, Desk.cells, Deed.cells, newDesk]
              exact hd
            · have hv' : ¬ (d.vias.length : Int) < 2 := by omega
              simp [k4, hs, hv, hv', pressAv, deedsAv, Desk.cells, Deed.cells, newDesk]
          · simp [k4, hs, pressAv, deedsAv, Desk.cells, Deed.cells, newDesk]
        · by_cases k5 : p.kind = 5
          · by_cases hs : 0 ≤ d.sig
            · simp [k5, hs, pressAv, deedsAv, Desk.cells, Deed.cells, newDesk]
              refine RTwp_call0 c23 (by simp) ?_
              simp [pressAv, deedsAv, Desk.cells, Deed.cells, newDesk]
            · simp [k5, hs, pressAv, deedsAv, Desk.cells, Deed.cells, newDesk]
          · have k6 := hk6 k12 k3 k4 k5
            simp [k6, pressAv, deedsAv, Desk.cells, Deed.cells, newDesk]
end Go.Lb.C25

namespace Go.Lb.C25
open Go Go.Lb Go.Proofs
noncomputable def rt14 : RT :=
 .seg [.chk [] (.isAgg 11) [.agg [.inp 0, .inp 1, .inp 2, .inp 3, .inp 4, .inp 5, .inp 6, .inp 7, .inp 8, .inp 9, .inp 10]]] <|
 .seg [.chk [] (.isAgg 5) [.agg [.inp 11, .inp 12, .inp 13, .inp 14, .inp 15]]] <|
 .seg [.call 17 [] 21 [.agg [.inp 11, .inp 12, .inp 13, .inp 14, .inp 15]] false] <|
 .seg [.chk [] (.isAgg 5) [.inp 17]] <|
 .seg [.chk [] (.isAgg 11) [.agg [.inp 0, .inp 1, .inp 2, .inp 3, .inp 4, .inp 5, .inp 6, .inp 7, .inp 8, .inp 9, .inp 10]]] <|
 .seg [.chk [] .isOne [.inp 16]] <|
 .seg [.chk [] .len [.inp 16]] <|
 .loop 0 18 [.int .i64 0, .app (.part 0 1 false) [.inp 17], .app (.part 1 1 false) [.inp 17], .app (.part 2 1 false) [.inp 17], .app (.part 3 1 false) [.inp 17], .app (.part 4 1 false) [.inp 17], .nils] <|
 .seg [.chk [] (.bin .lss) [.inp 18, .app .len [.inp 16]]] <|
  .cond (.app (.bin .lss) [.inp 18, .app .len [.inp 16]])
  (.seg [.chk [] (.eidx 3) [.inp 16, .inp 18]] <|
   .seg [.chk [] (.eload 3 true) [.app (.eidx 3) [.inp 16, .inp 18]]] <|
   .seg [.chk [] (.isAgg 3) [.app (.eload 3 true) [.app (.eidx 3) [.inp 16, .inp 18]]]] <|
   .seg [.call 25 [] 10 [.agg [.inp 0, .inp 1, .inp 2, .inp 3, .inp 4, .inp 5, .inp 6, .inp 7, .inp 8, .inp 9, .inp 10], .agg [.inp 19, .inp 20, .inp 21, .inp 22, .inp 23], .agg [.app (.part 0 1 false) [.app (.eload 3 true) [.app (.eidx 3) [.inp 16, .inp 18]]], .app (.part 1 1 false) [.app (.eload 3 true) [.app (.eidx 3) [.inp 16, .inp 18]]], .app (.part 2 1 false) [.app (.eload 3 true) [.app (.eidx 3) [.inp 16, .inp 18]]]]] false,
   .chk [] (.tproj 0) [.inp 25],
   .chk [] (.tproj 1) [.inp 25],
   .chk [] (.isAgg 5) [.app (.tproj 0) [.inp 25]]] <|
   .seg [.chk [] (.isAgg 5) [.agg [.app (.part 0 1 false) [.app (.tproj 0) [.inp 25]], .app (.part 1 1 false) [.app (.tproj 0) [.inp 25]], .app (.part 2 1 false) [.app (.tproj 0) [.inp 25]], .app (.part 3 1 false) [.app (.tproj 0) [.inp 25]], .app (.part 4 1 false) [.app (.tproj 0) [.inp 25]]]]] <|
   .seg [.chk [] .len [.app (.tproj 1) [.inp 25]]] <|
   .loop 1 26 [.int .i64 0, .inp 24] <|
   .seg [.chk [] (.bin .lss) [.inp 26, .app .len [.app (.tproj 1) [.inp 25]]]] <|
    .cond (.app (.bin .lss) [.inp 26, .app .len [.app (.tproj 1) [.inp 25]]])
    (.seg [.chk [] (.eidx 6) [.app (.tproj 1) [.inp 25], .inp 26]] <|
     .seg [.chk [] (.eload 6 true) [.app (.eidx 6) [.app (.tproj 1) [.inp 25], .inp 26]]] <|
     .seg [.chk [] (.isAgg 6) [.app (.eload 6 true) [.app (.eidx 6) [.app (.tproj 1) [.inp 25], .inp 26]]]] <|
     .seg [.chk [] (.isAgg 6) [.agg [.app (.part 0 1 false) [.app (.eload 6 true) [.app (.eidx 6) [.app (.tproj 1) [.inp 25], .inp 26]]], .app (.part 1 1 false) [.app (.eload 6 true) [.app (.eidx 6) [.app (.tproj 1) [.inp 25], .inp 26]]], .app (.part 2 1 false) [.app (.eload 6 true) [.app (.eidx 6) [.app (.tproj 1) [.inp 25], .inp 26]]], .app (.part 3 1 false) [.app (.eload 6 true) [.app (.eidx 6) [.app (.tproj 1) [.inp 25], .inp 26]]], .app (.part 4 1 false) [.app (.eload 6 true) [.app (.eidx 6) [.app (.tproj 1) [.inp 25], .inp 26]]], .app (.part 5 1 false) [.app (.eload 6 true) [.app (.eidx 6) [.app (.tproj 1) [.inp 25], .inp 26]]]]]] <|
     .seg [.chk [] (.isAgg 6) [.agg [.app (.part 0 1 false) [.app (.eload 6 true) [.app (.eidx 6) [.app (.tproj 1) [.inp 25], .inp 26]]], .app (.part 1 1 false) [.app (.eload 6 true) [.app (.eidx 6) [.app (.tproj 1) [.inp 25], .inp 26]]], .app (.part 2 1 false) [.app (.eload 6 true) [.app (.eidx 6) [.app (.tproj 1) [.inp 25], .inp 26]]], .app (.part 3 1 false) [.app (.eload 6 true) [.app (.eidx 6) [.app (.tproj 1) [.inp 25], .inp 26]]], .app (.part 4 1 false) [.app (.eload 6 true) [.app (.eidx 6) [.app (.tproj 1) [.inp 25], .inp 26]]], .app (.part 5 1 false) [.app (.eload 6 true) [.app (.eidx 6) [.app (.tproj 1) [.inp 25], .inp 26]]]]]] <|
     .seg [.chk [] (.szs 6) [.app .lst [.agg [.app (.part 0 1 false) [.app (.eload 6 true) [.app (.eidx 6) [.app (.tproj 1) [.inp 25], .inp 26]]], .app (.part 1 1 false) [.app (.eload 6 true) [.app (.eidx 6) [.app (.tproj 1) [.inp 25], .inp 26]]], .app (.part 2 1 false) [.app (.eload 6 true) [.app (.eidx 6) [.app (.tproj 1) [.inp 25], .inp 26]]], .app (.part 3 1 false) [.app (.eload 6 true) [.app (.eidx 6) [.app (.tproj 1) [.inp 25], .inp 26]]], .app (.part 4 1 false) [.app (.eload 6 true) [.app (.eidx 6) [.app (.tproj 1) [.inp 25], .inp 26]]], .app (.part 5 1 false) [.app (.eload 6 true) [.app (.eidx 6) [.app (.tproj 1) [.inp 25], .inp 26]]]]]],
     .chk [] .app [.inp 27, .app .lst [.agg [.app (.part 0 1 false) [.app (.eload 6 true) [.app (.eidx 6) [.app (.tproj 1) [.inp 25], .inp 26]]], .app (.part 1 1 false) [.app (.eload 6 true) [.app (.eidx 6) [.app (.tproj 1) [.inp 25], .inp 26]]], .app (.part 2 1 false) [.app (.eload 6 true) [.app (.eidx 6) [.app (.tproj 1) [.inp 25], .inp 26]]], .app (.part 3 1 false) [.app (.eload 6 true) [.app (.eidx 6) [.app (.tproj 1) [.inp 25], .inp 26]]], .app (.part 4 1 false) [.app (.eload 6 true) [.app (.eidx 6) [.app (.tproj 1) [.inp 25], .inp 26]]], .app (.part 5 1 false) [.app (.eload 6 true) [.app (.eidx 6) [.app (.tproj 1) [.inp 25], .inp 26]]]]]]] <|
     .seg [.chk [] (.un .not) [.bool true]] <|
     .seg [.chk [] (.bin .add) [.inp 26, .int .i64 1]] <|
     .again 1 [.app (.bin .add) [.inp 26, .int .i64 1], .app .app [.inp 27, .app .lst [.agg [.app (.part 0 1 false) [.app (.eload 6 true) [.app (.eidx 6) [.app (.tproj 1) [.inp 25], .inp 26]]], .app (.part 1 1 false) [.app (.eload 6 true) [.app (.eidx 6) [.app (.tproj 1) [.inp 25], .inp 26]]], .app (.part 2 1 false) [.app (.eload 6 true) [.app (.eidx 6) [.app (.tproj 1) [.inp 25], .inp 26]]], .app (.part 3 1 false) [.app (.eload 6 true) [.app (.eidx 6) [.app (.tproj 1) [.inp 25], .inp 26]]], .app (.part 4 1 false) [.app (.eload 6 true) [.app (.eidx 6) [.app (.tproj 1) [.inp 25], .inp 26]]], .app (.part 5 1 false) [.app (.eload 6 true) [.app (.eidx 6) [.app (.tproj 1) [.inp 25], .inp 26]]]]]]])
    (.seg [.chk [] (.bin .add) [.inp 18, .int .i64 1]] <|
     .again 0 [.app (.bin .add) [.inp 18, .int .i64 1], .app (.part 0 1 false) [.app (.tproj 0) [.inp 25]], .app (.part 1 1 false) [.app (.tproj 0) [.inp 25]], .app (.part 2 1 false) [.app (.tproj 0) [.inp 25]], .app (.part 3 1 false) [.app (.tproj 0) [.inp 25]], .app (.part 4 1 false) [.app (.tproj 0) [.inp 25]], .inp 27]))
  (.seg [.chk [] (.isAgg 5) [.agg [.inp 19, .inp 20, .inp 21, .inp 22, .inp 23]]] <|
   .ret (.tup [.agg [.inp 19, .inp 20, .inp 21, .inp 22, .inp 23], .inp 24]))
theorem run14 : runF E 14 [.agg [.inp 0, .inp 1, .inp 2, .inp 3, .inp 4, .inp 5, .inp 6, .inp 7, .inp 8, .inp 9, .inp 10], .agg [.inp 11, .inp 12, .inp 13, .inp 14, .inp 15], .inp 16] 17 = rt14 := by kernel_rfl

noncomputable def rt3 : RT :=
 .seg [.chk [] (.isAgg 11) [.agg [.inp 0, .inp 1, .inp 2, .inp 3, .inp 4, .inp 5, .inp 6, .inp 7, .inp 8, .inp 9, .inp 10]]] <|
 .seg [.chk [] (.isAgg 5) [.agg [.inp 11, .inp 12, .inp 13, .inp 14, .inp 15]]] <|
 .seg [.chk [] (.isAgg 5) [.agg [.inp 16, .inp 17, .inp 18, .inp 19, .inp 20]]] <|
 .seg [.call 22 [] 8 [.agg [.inp 0, .inp 1, .inp 2, .inp 3, .inp 4, .inp 5, .inp 6, .inp 7, .inp 8, .inp 9, .inp 10], .agg [.inp 11, .inp 12, .inp 13, .inp 14, .inp 15]] false] <|
 .seg [.call 23 [(.inp 22, false)] 8 [.agg [.inp 0, .inp 1, .inp 2, .inp 3, .inp 4, .inp 5, .inp 6, .inp 7, .inp 8, .inp 9, .inp 10], .agg [.inp 16, .inp 17, .inp 18, .inp 19, .inp 20]] false] <|
 .seg [.chk [] .pick [.inp 22, .bool true, .inp 23]] <|
 .seg [.chk [(.app .pick [.inp 22, .bool true, .inp 23], false)] .len [.inp 21]] <|
 .seg [.chk [(.app .pick [.inp 22, .bool true, .inp 23], false)] (.bin .gtr) [.app .len [.inp 21], .int .i64 30]] <|
 .seg [.chk [] .pick [.app .pick [.inp 22, .bool true, .inp 23], .bool true, .app (.bin .gtr) [.app .len [.inp 21], .int .i64 30]]] <|
 .cond (.app .pick [.app .pick [.inp 22, .bool true, .inp 23], .bool true, .app (.bin .gtr) [.app .len [.inp 21], .int .i64 30]])
 (.seg [.call 24 [] 9 [] false] <|
  .ret (.inp 24))
 (.loop 0 24 [.int .i64 0] <|
  .seg [.chk [] .len [.inp 21]] <|
   .seg [.chk [] (.bin .lss) [.inp 24, .app .len [.inp 21]]] <|
   .cond (.app (.bin .lss) [.inp 24, .app .len [.inp 21]])
   (.seg [.chk [] (.eidx 3) [.inp 21, .inp 24],
    .chk [] (.eload 3 true) [.app (.eidx 3) [.inp 21, .inp 24]],
    .call 25 [] 10 [.agg [.inp 0, .inp 1, .inp 2, .inp 3, .inp 4, .inp 5, .inp 6, .inp 7, .inp 8, .inp 9, .inp 10], .agg [.inp 11, .inp 12, .inp 13, .inp 14, .inp 15], .app (.eload 3 true) [.app (.eidx 3) [.inp 21, .inp 24]]] false,
    .chk [] (.tproj 0) [.inp 25],
    .chk [] (.tproj 1) [.inp 25],
    .chk [] (.isAgg 5) [.app (.tproj 0) [.inp 25]]] <|
    .seg [.chk [] (.eidx 3) [.inp 21, .inp 24],
    .chk [] (.eload 3 true) [.app (.eidx 3) [.inp 21, .inp 24]],
    .call 26 [] 11 [.agg [.inp 0, .inp 1, .inp 2, .inp 3, .inp 4, .inp 5, .inp 6, .inp 7, .inp 8, .inp 9, .inp 10], .agg [.inp 11, .inp 12, .inp 13, .inp 14, .inp 15], .app (.eload 3 true) [.app (.eidx 3) [.inp 21, .inp 24]]] false,
    .chk [] (.tproj 0) [.inp 26],
    .chk [] (.tproj 1) [.inp 26],
    .chk [] (.isAgg 5) [.app (.tproj 0) [.inp 26]]] <|
    .seg [.call 27 [] 12 [.agg [.app (.part 0 1 false) [.app (.tproj 0) [.inp 25]], .app (.part 1 1 false) [.app (.tproj 0) [.inp 25]], .app (.part 2 1 false) [.app (.tproj 0) [.inp 25]], .app (.part 3 1 false) [.app (.tproj 0) [.inp 25]], .app (.part 4 1 false) [.app (.tproj 0) [.inp 25]]], .agg [.app (.part 0 1 false) [.app (.tproj 0) [.inp 26]], .app (.part 1 1 false) [.app (.tproj 0) [.inp 26]], .app (.part 2 1 false) [.app (.tproj 0) [.inp 26]], .app (.part 3 1 false) [.app (.tproj 0) [.inp 26]], .app (.part 4 1 false) [.app (.tproj 0) [.inp 26]]]] false] <|
    .seg [.chk [] (.un .not) [.inp 27]] <|
    .seg [.call 28 [(.app (.un .not) [.inp 27], false)] 13 [.app (.tproj 1) [.inp 25], .app (.tproj 1) [.inp 26]] false] <|
    .seg [.chk [(.app (.un .not) [.inp 27], false)] (.un .not) [.inp 28]] <|
    .seg [.chk [] .pick [.app (.un .not) [.inp 27], .bool true, .app (.un .not) [.inp 28]]] <|
    .cond (.app .pick [.app (.un .not) [.inp 27], .bool true, .app (.un .not) [.inp 28]])
    (.ret (.bool false))
    (.seg [.chk [] (.bin .add) [.inp 24, .int .i64 1]] <|
     .again 0 [.app (.bin .add) [.inp 24, .int .i64 1]]))
   (.seg [.call 25 [] 14 [.agg [.inp 0, .inp 1, .inp 2, .inp 3, .inp 4, .inp 5, .inp 6, .inp 7, .inp 8, .inp 9, .inp 10], .agg [.inp 11, .inp 12, .inp 13, .inp 14, .inp 15], .inp 21] false] <|
    .seg [.chk [] (.tproj 0) [.inp 25]] <|
    .seg [.chk [] (.tproj 1) [.inp 25]] <|
    .seg [.chk [] (.isAgg 5) [.app (.tproj 0) [.inp 25]]] <|
    .seg [.call 26 [] 15 [.agg [.inp 0, .inp 1, .inp 2, .inp 3, .inp 4, .inp 5, .inp 6, .inp 7, .inp 8, .inp 9, .inp 10], .agg [.inp 11, .inp 12, .inp 13, .inp 14, .inp 15], .inp 21] false] <|
    .seg [.chk [] (.tproj 0) [.inp 26]] <|
    .seg [.chk [] (.tproj 1) [.inp 26]] <|
    .seg [.chk [] (.isAgg 5) [.app (.tproj 0) [.inp 26]]] <|
    .seg [.call 27 [] 16 [.agg [.inp 0, .inp 1, .inp 2, .inp 3, .inp 4, .inp 5, .inp 6, .inp 7, .inp 8, .inp 9, .inp 10], .agg [.inp 11, .inp 12, .inp 13, .inp 14, .inp 15]] false] <|
    .seg [.chk [] (.tproj 0) [.inp 27]] <|
    .seg [.chk [] (.tproj 1) [.inp 27]] <|
    .seg [.chk [] (.isAgg 5) [.app (.tproj 0) [.inp 27]]] <|
    .seg [.call 28 [] 17 [.agg [.inp 0, .inp 1, .inp 2, .inp 3, .inp 4, .inp 5, .inp 6, .inp 7, .inp 8, .inp 9, .inp 10], .agg [.inp 11, .inp 12, .inp 13, .inp 14, .inp 15]] false] <|
    .seg [.chk [] (.tproj 0) [.inp 28]] <|
    .seg [.chk [] (.tproj 1) [.inp 28]] <|
    .seg [.chk [] (.isAgg 5) [.app (.tproj 0) [.inp 28]]] <|
    .seg [.call 29 [] 12 [.agg [.app (.part 0 1 false) [.app (.tproj 0) [.inp 25]], .app (.part 1 1 false) [.app (.tproj 0) [.inp 25]], .app (.part 2 1 false) [.app (.tproj 0) [.inp 25]], .app (.part 3 1 false) [.app (.tproj 0) [.inp 25]], .app (.part 4 1 false) [.app (.tproj 0) [.inp 25]]], .agg [.app (.part 0 1 false) [.app (.tproj 0) [.inp 26]], .app (.part 1 1 false) [.app (.tproj 0) [.inp 26]], .app (.part 2 1 false) [.app (.tproj 0) [.inp 26]], .app (.part 3 1 false) [.app (.tproj 0) [.inp 26]], .app (.part 4 1 false) [.app (.tproj 0) [.inp 26]]]] false,
    .call 30 [(.inp 29, true)] 13 [.app (.tproj 1) [.inp 25], .app (.tproj 1) [.inp 26]] false,
    .chk [] .pick [.inp 29, .inp 30, .bool false],
    .call 31 [(.app .pick [.inp 29, .inp 30, .bool false], true)] 12 [.agg [.app (.part 0 1 false) [.app (.tproj 0) [.inp 27]], .app (.part 1 1 false) [.app (.tproj 0) [.inp 27]], .app (.part 2 1 false) [.app (.tproj 0) [.inp 27]], .app (.part 3 1 false) [.app (.tproj 0) [.inp 27]], .app (.part 4 1 false) [.app (.tproj 0) [.inp 27]]], .agg [.app (.part 0 1 false) [.app (.tproj 0) [.inp 28]], .app (.part 1 1 false) [.app (.tproj 0) [.inp 28]], .app (.part 2 1 false) [.app (.tproj 0) [.inp 28]], .app (.part 3 1 false) [.app (.tproj 0) [.inp 28]], .app (.part 4 1 false) [.app (.tproj 0) [.inp 28]]]] false,
    .chk [] .pick [.app .pick [.inp 29, .inp 30, .bool false], .inp 31, .bool false],
    .chk [(.app .pick [.app .pick [.inp 29, .inp 30, .bool false], .inp 31, .bool false], true)] (.eqb false) [.app (.tproj 1) [.inp 27], .app (.tproj 1) [.inp 28]],
    .chk [] .pick [.app .pick [.app .pick [.inp 29, .inp 30, .bool false], .inp 31, .bool false], .app (.eqb false) [.app (.tproj 1) [.inp 27], .app (.tproj 1) [.inp 28]], .bool false],
    .call 32 [(.app .pick [.app .pick [.app .pick [.inp 29, .inp 30, .bool false], .inp 31, .bool false], .app (.eqb false) [.app (.tproj 1) [.inp 27], .app (.tproj 1) [.inp 28]], .bool false], true)] 18 [.agg [.inp 0, .inp 1, .inp 2, .inp 3, .inp 4, .inp 5, .inp 6, .inp 7, .inp 8, .inp 9, .inp 10], .agg [.inp 11, .inp 12, .inp 13, .inp 14, .inp 15]] false,
    .call 33 [(.app .pick [.app .pick [.app .pick [.inp 29, .inp 30, .bool false], .inp 31, .bool false], .app (.eqb false) [.app (.tproj 1) [.inp 27], .app (.tproj 1) [.inp 28]], .bool false], true)] 19 [.agg [.inp 0, .inp 1, .inp 2, .inp 3, .inp 4, .inp 5, .inp 6, .inp 7, .inp 8, .inp 9, .inp 10], .agg [.inp 11, .inp 12, .inp 13, .inp 14, .inp 15]] false,
    .chk [(.app .pick [.app .pick [.app .pick [.inp 29, .inp 30, .bool false], .inp 31, .bool false], .app (.eqb false) [.app (.tproj 1) [.inp 27], .app (.tproj 1) [.inp 28]], .bool false], true)] (.eqb false) [.inp 32, .inp 33],
    .chk [] .pick [.app .pick [.app .pick [.app .pick [.inp 29, .inp 30, .bool false], .inp 31, .bool false], .app (.eqb false) [.app (.tproj 1) [.inp 27], .app (.tproj 1) [.inp 28]], .bool false], .app (.eqb false) [.inp 32, .inp 33], .bool false],
    .call 34 [(.app .pick [.app .pick [.app .pick [.app .pick [.inp 29, .inp 30, .bool false], .inp 31, .bool false], .app (.eqb false) [.app (.tproj 1) [.inp 27], .app (.tproj 1) [.inp 28]], .bool false], .app (.eqb false) [.inp 32, .inp 33], .bool false], true)] 20 [.agg [.inp 11, .inp 12, .inp 13, .inp 14, .inp 15], .agg [.inp 16, .inp 17, .inp 18, .inp 19, .inp 20]] false,
    .call 35 [(.app .pick [.app .pick [.app .pick [.app .pick [.inp 29, .inp 30, .bool false], .inp 31, .bool false], .app (.eqb false) [.app (.tproj 1) [.inp 27], .app (.tproj 1) [.inp 28]], .bool false], .app (.eqb false) [.inp 32, .inp 33], .bool false], true)] 12 [.agg [.inp 11, .inp 12, .inp 13, .inp 14, .inp 15], .agg [.inp 16, .inp 17, .inp 18, .inp 19, .inp 20]] false,
    .chk [(.app .pick [.app .pick [.app .pick [.app .pick [.inp 29, .inp 30, .bool false], .inp 31, .bool false], .app (.eqb false) [.app (.tproj 1) [.inp 27], .app (.tproj 1) [.inp 28]], .bool false], .app (.eqb false) [.inp 32, .inp 33], .bool false], true)] (.eqb false) [.inp 34, .inp 35],
    .chk [] .pick [.app .pick [.app .pick [.app .pick [.app .pick [.inp 29, .inp 30, .bool false], .inp 31, .bool false], .app (.eqb false) [.app (.tproj 1) [.inp 27], .app (.tproj 1) [.inp 28]], .bool false], .app (.eqb false) [.inp 32, .inp 33], .bool false], .app (.eqb false) [.inp 34, .inp 35], .bool false],
    .call 36 [(.app .pick [.app .pick [.app .pick [.app .pick [.app .pick [.inp 29, .inp 30, .bool false], .inp 31, .bool false], .app (.eqb false) [.app (.tproj 1) [.inp 27], .app (.tproj 1) [.inp 28]], .bool false], .app (.eqb false) [.inp 32, .inp 33], .bool false], .app (.eqb false) [.inp 34, .inp 35], .bool false], true)] 21 [.agg [.inp 11, .inp 12, .inp 13, .inp 14, .inp 15]] false,
    .call 37 [(.app .pick [.app .pick [.app .pick [.app .pick [.app .pick [.inp 29, .inp 30, .bool false], .inp 31, .bool false], .app (.eqb false) [.app (.tproj 1) [.inp 27], .app (.tproj 1) [.inp 28]], .bool false], .app (.eqb false) [.inp 32, .inp 33], .bool false], .app (.eqb false) [.inp 34, .inp 35], .bool false], true)] 12 [.inp 36, .agg [.inp 11, .inp 12, .inp 13, .inp 14, .inp 15]] false,
    .chk [] .pick [.app .pick [.app .pick [.app .pick [.app .pick [.app .pick [.inp 29, .inp 30, .bool false], .inp 31, .bool false], .app (.eqb false) [.app (.tproj 1) [.inp 27], .app (.tproj 1) [.inp 28]], .bool false], .app (.eqb false) [.inp 32, .inp 33], .bool false], .app (.eqb false) [.inp 34, .inp 35], .bool false], .inp 37, .bool false],
    .call 38 [(.app .pick [.app .pick [.app .pick [.app .pick [.app .pick [.app .pick [.inp 29, .inp 30, .bool false], .inp 31, .bool false], .app (.eqb false) [.app (.tproj 1) [.inp 27], .app (.tproj 1) [.inp 28]], .bool false], .app (.eqb false) [.inp 32, .inp 33], .bool false], .app (.eqb false) [.inp 34, .inp 35], .bool false], .inp 37, .bool false], true)] 22 [] false,
    .call 39 [(.app .pick [.app .pick [.app .pick [.app .pick [.app .pick [.app .pick [.inp 29, .inp 30, .bool false], .inp 31, .bool false], .app (.eqb false) [.app (.tproj 1) [.inp 27], .app (.tproj 1) [.inp 28]], .bool false], .app (.eqb false) [.inp 32, .inp 33], .bool false], .app (.eqb false) [.inp 34, .inp 35], .bool false], .inp 37, .bool false], true)] 23 [] false,
    .call 40 [(.app .pick [.app .pick [.app .pick [.app .pick [.app .pick [.app .pick [.inp 29, .inp 30, .bool false], .inp 31, .bool false], .app (.eqb false) [.app (.tproj 1) [.inp 27], .app (.tproj 1) [.inp 28]], .bool false], .app (.eqb false) [.inp 32, .inp 33], .bool false], .app (.eqb false) [.inp 34, .inp 35], .bool false], .inp 37, .bool false], true)] 12 [.inp 38, .inp 39] false,
    .chk [] .pick [.app .pick [.app .pick [.app .pick [.app .pick [.app .pick [.app .pick [.inp 29, .inp 30, .bool false], .inp 31, .bool false], .app (.eqb false) [.app (.tproj 1) [.inp 27], .app (.tproj 1) [.inp 28]], .bool false], .app (.eqb false) [.inp 32, .inp 33], .bool false], .app (.eqb false) [.inp 34, .inp 35], .bool false], .inp 37, .bool false], .inp 40, .bool false],
    .call 41 [(.app .pick [.app .pick [.app .pick [.app .pick [.app .pick [.app .pick [.app .pick [.inp 29, .inp 30, .bool false], .inp 31, .bool false], .app (.eqb false) [.app (.tproj 1) [.inp 27], .app (.tproj 1) [.inp 28]], .bool false], .app (.eqb false) [.inp 32, .inp 33], .bool false], .app (.eqb false) [.inp 34, .inp 35], .bool false], .inp 37, .bool false], .inp 40, .bool false], true)] 9 [] false,
    .chk [] .pick [.app .pick [.app .pick [.app .pick [.app .pick [.app .pick [.app .pick [.app .pick [.inp 29, .inp 30, .bool false], .inp 31, .bool false], .app (.eqb false) [.app (.tproj 1) [.inp 27], .app (.tproj 1) [.inp 28]], .bool false], .app (.eqb false) [.inp 32, .inp 33], .bool false], .app (.eqb false) [.inp 34, .inp 35], .bool false], .inp 37, .bool false], .inp 40, .bool false], .inp 41, .bool false]] <|
    .ret (.app .pick [.app .pick [.app .pick [.app .pick [.app .pick [.app .pick [.app .pick [.app .pick [.inp 29, .inp 30, .bool false], .inp 31, .bool false], .app (.eqb false) [.app (.tproj 1) [.inp 27], .app (.tproj 1) [.inp 28]], .bool false], .app (.eqb false) [.inp 32, .inp 33], .bool false], .app (.eqb false) [.inp 34, .inp 35], .bool false], .inp 37, .bool false], .inp 40, .bool false], .inp 41, .bool false])))
theorem run3 : runF E 3 [.agg [.inp 0, .inp 1, .inp 2, .inp 3, .inp 4, .inp 5, .inp 6, .inp 7, .inp 8, .inp 9, .inp 10], .agg [.inp 11, .inp 12, .inp 13, .inp 14, .inp 15], .agg [.inp 16, .inp 17, .inp 18, .inp 19, .inp 20], .inp 21] 22 = rt3 := by kernel_rfl

noncomputable def rt4 : RT :=
 .seg [.chk [] (.isAgg 11) [.agg [.inp 0, .inp 1, .inp 2, .inp 3, .inp 4, .inp 5, .inp 6, .inp 7, .inp 8, .inp 9, .inp 10]]] <|
 .seg [.call 12 [] 24 [.agg [.inp 0, .inp 1, .inp 2, .inp 3, .inp 4, .inp 5, .inp 6, .inp 7, .inp 8, .inp 9, .inp 10]] false] <|
 .seg [.chk [(.inp 12, false)] .len [.inp 11]] <|
 .seg [.chk [(.inp 12, false)] (.bin .gtr) [.app .len [.inp 11], .int .i64 30]] <|
 .seg [.chk [] .pick [.inp 12, .bool true, .app (.bin .gtr) [.app .len [.inp 11], .int .i64 30]]] <|
 .seg [.chk [(.app .pick [.inp 12, .bool true, .app (.bin .gtr) [.app .len [.inp 11], .int .i64 30]], false)] (.bin .lss) [.inp 9, .int .i64 1]] <|
 .seg [.chk [] .pick [.app .pick [.inp 12, .bool true, .app (.bin .gtr) [.app .len [.inp 11], .int .i64 30]], .bool true, .app (.bin .lss) [.inp 9, .int .i64 1]]] <|
 .seg [.chk [(.app .pick [.app .pick [.inp 12, .bool true, .app (.bin .gtr) [.app .len [.inp 11], .int .i64 30]], .bool true, .app (.bin .lss) [.inp 9, .int .i64 1]], false)] (.bin .gtr) [.inp 9, .int .i64 1000]] <|
 .seg [.chk [] .pick [.app .pick [.app .pick [.inp 12, .bool true, .app (.bin .gtr) [.app .len [.inp 11], .int .i64 30]], .bool true, .app (.bin .lss) [.inp 9, .int .i64 1]], .bool true, .app (.bin .gtr) [.inp 9, .int .i64 1000]]] <|
 .cond (.app .pick [.app .pick [.app .pick [.inp 12, .bool true, .app (.bin .gtr) [.app .len [.inp 11], .int .i64 30]], .bool true, .app (.bin .lss) [.inp 9, .int .i64 1]], .bool true, .app (.bin .gtr) [.inp 9, .int .i64 1000]])
 (.seg [.call 13 [] 9 [] false] <|
  .ret (.inp 13))
 (.seg [.call 13 [] 22 [] false] <|
  .seg [.chk [] (.isAgg 5) [.inp 13]] <|
  .loop 0 14 [.int .i64 (-1), .int .u8 0, .nils, .int .i64 0, .app (.part 0 1 false) [.inp 13], .app (.part 1 1 false) [.inp 13], .app (.part 2 1 false) [.inp 13], .app (.part 3 1 false) [.inp 13], .app (.part 4 1 false) [.inp 13]] <|
  .seg [.chk [] .len [.inp 11]] <|
   .seg [.chk [] (.bin .lss) [.inp 17, .app .len [.inp 11]]] <|
   .cond (.app (.bin .lss) [.inp 17, .app .len [.inp 11]])
   (.seg [.chk [] (.eidx 3) [.inp 11, .inp 17]] <|
    .seg [.chk [] (.eload 3 true) [.app (.eidx 3) [.inp 11, .inp 17]]] <|
    .seg [.chk [] (.isAgg 3) [.app (.eload 3 true) [.app (.eidx 3) [.inp 11, .inp 17]]]] <|
    .seg [.call 23 [] 10 [.agg [.inp 0, .inp 1, .inp 2, .inp 3, .inp 4, .inp 5, .inp 6, .inp 7, .inp 8, .inp 9, .inp 10], .agg [.inp 18, .inp 19, .inp 20, .inp 21, .inp 22], .agg [.app (.part 0 1 false) [.app (.eload 3 true) [.app (.eidx 3) [.inp 11, .inp 17]]], .app (.part 1 1 false) [.app (.eload 3 true) [.app (.eidx 3) [.inp 11, .inp 17]]], .app (.part 2 1 false) [.app (.eload 3 true) [.app (.eidx 3) [.inp 11, .inp 17]]]]] false] <|
    .seg [.chk [] (.tproj 0) [.inp 23]] <|
    .seg [.chk [] (.tproj 1) [.inp 23]] <|
    .seg [.chk [] (.isAgg 5) [.app (.tproj 0) [.inp 23]]] <|
    .seg [.chk [] (.isAgg 5) [.agg [.app (.part 0 1 false) [.app (.tproj 0) [.inp 23]], .app (.part 1 1 false) [.app (.tproj 0) [.inp 23]], .app (.part 2 1 false) [.app (.tproj 0) [.inp 23]], .app (.part 3 1 false) [.app (.tproj 0) [.inp 23]], .app (.part 4 1 false) [.app (.tproj 0) [.inp 23]]]]] <|
    .seg [.call 24 [] 18 [.agg [.inp 0, .inp 1, .inp 2, .inp 3, .inp 4, .inp 5, .inp 6, .inp 7, .inp 8, .inp 9, .inp 10], .agg [.app (.part 0 1 false) [.app (.tproj 0) [.inp 23]], .app (.part 1 1 false) [.app (.tproj 0) [.inp 23]], .app (.part 2 1 false) [.app (.tproj 0) [.inp 23]], .app (.part 3 1 false) [.app (.tproj 0) [.inp 23]], .app (.part 4 1 false) [.app (.tproj 0) [.inp 23]]]] false] <|
    .seg [.chk [] (.un .not) [.inp 24]] <|
    .seg [.chk [(.app (.un .not) [.inp 24], false)] .len [.app (.tproj 1) [.inp 23]]] <|
    .seg [.chk [(.app (.un .not) [.inp 24], false)] (.bin .gtr) [.app .len [.app (.tproj 1) [.inp 23]], .int .i64 1]] <|
    .seg [.chk [] .pick [.app (.un .not) [.inp 24], .bool true, .app (.bin .gtr) [.app .len [.app (.tproj 1) [.inp 23]], .int .i64 1]]] <|
    .cond (.app .pick [.app (.un .not) [.inp 24], .bool true, .app (.bin .gtr) [.app .len [.app (.tproj 1) [.inp 23]], .int .i64 1]])
    (.ret (.bool false))
    (.seg [.call 25 [] 25 [.agg [.inp 0, .inp 1, .inp 2, .inp 3, .inp 4, .inp 5, .inp 6, .inp 7, .inp 8, .inp 9, .inp 10], .agg [.app (.part 0 1 false) [.app (.eload 3 true) [.app (.eidx 3) [.inp 11, .inp 17]]], .app (.part 1 1 false) [.app (.eload 3 true) [.app (.eidx 3) [.inp 11, .inp 17]]], .app (.part 2 1 false) [.app (.eload 3 true) [.app (.eidx 3) [.inp 11, .inp 17]]]]] false] <|
     .seg [.chk [(.inp 25, true)] (.bin .eql) [.app (.part 0 1 false) [.app (.eload 3 true) [.app (.eidx 3) [.inp 11, .inp 17]]], .int .u8 5]] <|
     .seg [.chk [] .pick [.inp 25, .app (.bin .eql) [.app (.part 0 1 false) [.app (.eload 3 true) [.app (.eidx 3) [.inp 11, .inp 17]]], .int .u8 5], .bool false]] <|
     .seg [.chk [(.app .pick [.inp 25, .app (.bin .eql) [.app (.part 0 1 false) [.app (.eload 3 true) [.app (.eidx 3) [.inp 11, .inp 17]]], .int .u8 5], .bool false], true)] (.bin .geq) [.inp 14, .int .i64 0]] <|
     .seg [.chk [] .pick [.app .pick [.inp 25, .app (.bin .eql) [.app (.part 0 1 false) [.app (.eload 3 true) [.app (.eidx 3) [.inp 11, .inp 17]]], .int .u8 5], .bool false], .app (.bin .geq) [.inp 14, .int .i64 0], .bool false]] <|
     .seg [.chk [] .len [.app (.tproj 1) [.inp 23]]] <|
     .seg [.chk [] (.bin .eql) [.app .len [.app (.tproj 1) [.inp 23]], .int .i64 1]] <|
     .seg [.chk [(.app (.bin .eql) [.app .len [.app (.tproj 1) [.inp 23]], .int .i64 1], true)] (.eidx 6) [.app (.tproj 1) [.inp 23], .int .i64 0]] <|
     .seg [.chk [(.app (.bin .eql) [.app .len [.app (.tproj 1) [.inp 23]], .int .i64 1], true)] (.eoff 0) [.app (.eidx 6) [.app (.tproj 1) [.inp 23], .int .i64 0]]] <|
     .seg [.chk [(.app (.bin .eql) [.app .len [.app (.tproj 1) [.inp 23]], .int .i64 1], true)] (.eload 1 false) [.app (.eoff 0) [.app (.eidx 6) [.app (.tproj 1) [.inp 23], .int .i64 0]]]] <|
     .seg [.chk [(.app (.bin .eql) [.app .len [.app (.tproj 1) [.inp 23]], .int .i64 1], true)] (.bin .eql) [.app (.eload 1 false) [.app (.eoff 0) [.app (.eidx 6) [.app (.tproj 1) [.inp 23], .int .i64 0]]], .int .u8 3]] <|
     .seg [.chk [] .pick [.app (.bin .eql) [.app .len [.app (.tproj 1) [.inp 23]], .int .i64 1], .app (.bin .eql) [.app (.eload 1 false) [.app (.eoff 0) [.app (.eidx 6) [.app (.tproj 1) [.inp 23], .int .i64 0]]], .int .u8 3], .bool false]] <|
     .seg [.chk [] (.eqb true) [.app .pick [.app .pick [.inp 25, .app (.bin .eql) [.app (.part 0 1 false) [.app (.eload 3 true) [.app (.eidx 3) [.inp 11, .inp 17]]], .int .u8 5], .bool false], .app (.bin .geq) [.inp 14, .int .i64 0], .bool false], .app .pick [.app (.bin .eql) [.app .len [.app (.tproj 1) [.inp 23]], .int .i64 1], .app (.bin .eql) [.app (.eload 1 false) [.app (.eoff 0) [.app (.eidx 6) [.app (.tproj 1) [.inp 23], .int .i64 0]]], .int .u8 3], .bool false]]] <|
     .cond (.app (.eqb true) [.app .pick [.app .pick [.inp 25, .app (.bin .eql) [.app (.part 0 1 false) [.app (.eload 3 true) [.app (.eidx 3) [.inp 11, .inp 17]]], .int .u8 5], .bool false], .app (.bin .geq) [.inp 14, .int .i64 0], .bool false], .app .pick [.app (.bin .eql) [.app .len [.app (.tproj 1) [.inp 23]], .int .i64 1], .app (.bin .eql) [.app (.eload 1 false) [.app (.eoff 0) [.app (.eidx 6) [.app (.tproj 1) [.inp 23], .int .i64 0]]], .int .u8 3], .bool false]])
     (.ret (.bool false))
     (.cond (.app .pick [.app .pick [.inp 25, .app (.bin .eql) [.app (.part 0 1 false) [.app (.eload 3 true) [.app (.eidx 3) [.inp 11, .inp 17]]], .int .u8 5], .bool false], .app (.bin .geq) [.inp 14, .int .i64 0], .bool false])
      (.seg [.chk [] (.eidx 6) [.app (.tproj 1) [.inp 23], .int .i64 0]] <|
       .seg [.chk [] (.eoff 3) [.app (.eidx 6) [.app (.tproj 1) [.inp 23], .int .i64 0]]] <|
       .seg [.chk [] (.eload 3 true) [.app (.eoff 3) [.app (.eidx 6) [.app (.tproj 1) [.inp 23], .int .i64 0]]]] <|
       .seg [.chk [] (.isAgg 3) [.app (.eload 3 true) [.app (.eoff 3) [.app (.eidx 6) [.app (.tproj 1) [.inp 23], .int .i64 0]]]]] <|
       .seg [.chk [] (.bin .neq) [.app (.part 0 1 false) [.app (.eload 3 true) [.app (.eoff 3) [.app (.eidx 6) [.app (.tproj 1) [.inp 23], .int .i64 0]]]], .inp 14]] <|
       .seg [.chk [(.app (.bin .neq) [.app (.part 0 1 false) [.app (.eload 3 true) [.app (.eoff 3) [.app (.eidx 6) [.app (.tproj 1) [.inp 23], .int .i64 0]]]], .inp 14], false)] (.bin .neq) [.app (.part 1 1 false) [.app (.eload 3 true) [.app (.eoff 3) [.app (.eidx 6) [.app (.tproj 1) [.inp 23], .int .i64 0]]]], .app (.part 1 1 false) [.app (.eload 3 true) [.app (.eidx 3) [.inp 11, .inp 17]]]]] <|
       .seg [.chk [] .pick [.app (.bin .neq) [.app (.part 0 1 false) [.app (.eload 3 true) [.app (.eoff 3) [.app (.eidx 6) [.app (.tproj 1) [.inp 23], .int .i64 0]]]], .inp 14], .bool true, .app (.bin .neq) [.app (.part 1 1 false) [.app (.eload 3 true) [.app (.eoff 3) [.app (.eidx 6) [.app (.tproj 1) [.inp 23], .int .i64 0]]]], .app (.part 1 1 false) [.app (.eload 3 true) [.app (.eidx 3) [.inp 11, .inp 17]]]]]] <|
       .seg [.chk [(.app .pick [.app (.bin .neq) [.app (.part 0 1 false) [.app (.eload 3 true) [.app (.eoff 3) [.app (.eidx 6) [.app (.tproj 1) [.inp 23], .int .i64 0]]]], .inp 14], .bool true, .app (.bin .neq) [.app (.part 1 1 false) [.app (.eload 3 true) [.app (.eoff 3) [.app (.eidx 6) [.app (.tproj 1) [.inp 23], .int .i64 0]]]], .app (.part 1 1 false) [.app (.eload 3 true) [.app (.eidx 3) [.inp 11, .inp 17]]]]], false)] .len [.app (.part 2 1 false) [.app (.eload 3 true) [.app (.eoff 3) [.app (.eidx 6) [.app (.tproj 1) [.inp 23], .int .i64 0]]]]]] <|
       .seg [.chk [(.app .pick [.app (.bin .neq) [.app (.part 0 1 false) [.app (.eload 3 true) [.app (.eoff 3) [.app (.eidx 6) [.app (.tproj 1) [.inp 23], .int .i64 0]]]], .inp 14], .bool true, .app (.bin .neq) [.app (.part 1 1 false) [.app (.eload 3 true) [.app (.eoff 3) [.app (.eidx 6) [.app (.tproj 1) [.inp 23], .int .i64 0]]]], .app (.part 1 1 false) [.app (.eload 3 true) [.app (.eidx 3) [.inp 11, .inp 17]]]]], false)] .len [.inp 16]] <|
       .seg [.chk [(.app .pick [.app (.bin .neq) [.app (.part 0 1 false) [.app (.eload 3 true) [.app (.eoff 3) [.app (.eidx 6) [.app (.tproj 1) [.inp 23], .int .i64 0]]]], .inp 14], .bool true, .app (.bin .neq) [.app (.part 1 1 false) [.app (.eload 3 true) [.app (.eoff 3) [.app (.eidx 6) [.app (.tproj 1) [.inp 23], .int .i64 0]]]], .app (.part 1 1 false) [.app (.eload 3 true) [.app (.eidx 3) [.inp 11, .inp 17]]]]], false)] (.bin .neq) [.app .len [.app (.part 2 1 false) [.app (.eload 3 true) [.app (.eoff 3) [.app (.eidx 6) [.app (.tproj 1) [.inp 23], .int .i64 0]]]]], .app .len [.inp 16]]] <|
       .seg [.chk [] .pick [.app .pick [.app (.bin .neq) [.app (.part 0 1 false) [.app (.eload 3 true) [.app (.eoff 3) [.app (.eidx 6) [.app (.tproj 1) [.inp 23], .int .i64 0]]]], .inp 14], .bool true, .app (.bin .neq) [.app (.part 1 1 false) [.app (.eload 3 true) [.app (.eoff 3) [.app (.eidx 6) [.app (.tproj 1) [.inp 23], .int .i64 0]]]], .app (.part 1 1 false) [.app (.eload 3 true) [.app (.eidx 3) [.inp 11, .inp 17]]]]], .bool true, .app (.bin .neq) [.app .len [.app (.part 2 1 false) [.app (.eload 3 true) [.app (.eoff 3) [.app (.eidx 6) [.app (.tproj 1) [.inp 23], .int .i64 0]]]]], .app .len [.inp 16]]]] <|
       .cond (.app .pick [.app .pick [.app (.bin .neq) [.app (.part 0 1 false) [.app (.eload 3 true) [.app (.eoff 3) [.app (.eidx 6) [.app (.tproj 1) [.inp 23], .int .i64 0]]]], .inp 14], .bool true, .app (.bin .neq) [.app (.part 1 1 false) [.app (.eload 3 true) [.app (.eoff 3) [.app (.eidx 6) [.app (.tproj 1) [.inp 23], .int .i64 0]]]], .app (.part 1 1 false) [.app (.eload 3 true) [.app (.eidx 3) [.inp 11, .inp 17]]]]], .bool true, .app (.bin .neq) [.app .len [.app (.part 2 1 false) [.app (.eload 3 true) [.app (.eoff 3) [.app (.eidx 6) [.app (.tproj 1) [.inp 23], .int .i64 0]]]]], .app .len [.inp 16]]])
       (.ret (.bool false))
       (.loop 1 26 [.int .i64 0] <|
        .seg [.chk [] .len [.inp 16]] <|
         .seg [.chk [] (.bin .lss) [.inp 26, .app .len [.inp 16]]] <|
         .cond (.app (.bin .lss) [.inp 26, .app .len [.inp 16]])
         (.seg [.chk [] (.eidx 1) [.app (.part 2 1 false) [.app (.eload 3 true) [.app (.eoff 3) [.app (.eidx 6) [.app (.tproj 1) [.inp 23], .int .i64 0]]]], .inp 26],
          .chk [] (.eload 1 false) [.app (.eidx 1) [.app (.part 2 1 false) [.app (.eload 3 true) [.app (.eoff 3) [.app (.eidx 6) [.app (.tproj 1) [.inp 23], .int .i64 0]]]], .inp 26]],
          .chk [] (.eidx 1) [.inp 16, .inp 26],
          .chk [] (.rowget 1 0 1 false) [.inp 16, .inp 26],
          .chk [] (.bin .neq) [.app (.eload 1 false) [.app (.eidx 1) [.app (.part 2 1 false) [.app (.eload 3 true) [.app (.eoff 3) [.app (.eidx 6) [.app (.tproj 1) [.inp 23], .int .i64 0]]]], .inp 26]], .app (.rowget 1 0 1 false) [.inp 16, .inp 26]]] <|
          .cond (.app (.bin .neq) [.app (.eload 1 false) [.app (.eidx 1) [.app (.part 2 1 false) [.app (.eload 3 true) [.app (.eoff 3) [.app (.eidx 6) [.app (.tproj 1) [.inp 23], .int .i64 0]]]], .inp 26]], .app (.rowget 1 0 1 false) [.inp 16, .inp 26]])
          (.ret (.bool false))
          (.seg [.chk [] (.bin .add) [.inp 26, .int .i64 1]] <|
           .again 1 [.app (.bin .add) [.inp 26, .int .i64 1]]))
         (.seg [.chk [] (.bin .add) [.inp 17, .int .i64 1]] <|
          .again 0 [.int .i64 (-1), .inp 15, .nils, .app (.bin .add) [.inp 17, .int .i64 1], .app (.part 0 1 false) [.app (.tproj 0) [.inp 23]], .app (.part 1 1 false) [.app (.tproj 0) [.inp 23]], .app (.part 2 1 false) [.app (.tproj 0) [.inp 23]], .app (.part 3 1 false) [.app (.tproj 0) [.inp 23]], .app (.part 4 1 false) [.app (.tproj 0) [.inp 23]]])))
      (.seg [.chk [] (.un .not) [.inp 25]] <|
       .seg [.chk [(.app (.un .not) [.inp 25], false)] (.bin .eql) [.app (.part 0 1 false) [.app (.eload 3 true) [.app (.eidx 3) [.inp 11, .inp 17]]], .int .u8 6]] <|
       .seg [.chk [] .pick [.app (.un .not) [.inp 25], .bool true, .app (.bin .eql) [.app (.part 0 1 false) [.app (.eload 3 true) [.app (.eidx 3) [.inp 11, .inp 17]]], .int .u8 6]]] <|
       .seg [.chk [(.app .pick [.app (.un .not) [.inp 25], .bool true, .app (.bin .eql) [.app (.part 0 1 false) [.app (.eload 3 true) [.app (.eidx 3) [.inp 11, .inp 17]]], .int .u8 6]], false)] (.bin .eql) [.app (.part 0 1 false) [.app (.eload 3 true) [.app (.eidx 3) [.inp 11, .inp 17]]], .int .u8 5]] <|
       .seg [.chk [] .pick [.app .pick [.app (.un .not) [.inp 25], .bool true, .app (.bin .eql) [.app (.part 0 1 false) [.app (.eload 3 true) [.app (.eidx 3) [.inp 11, .inp 17]]], .int .u8 6]], .bool true, .app (.bin .eql) [.app (.part 0 1 false) [.app (.eload 3 true) [.app (.eidx 3) [.inp 11, .inp 17]]], .int .u8 5]]] <|
       .cond (.app .pick [.app .pick [.app (.un .not) [.inp 25], .bool true, .app (.bin .eql) [.app (.part 0 1 false) [.app (.eload 3 true) [.app (.eidx 3) [.inp 11, .inp 17]]], .int .u8 6]], .bool true, .app (.bin .eql) [.app (.part 0 1 false) [.app (.eload 3 true) [.app (.eidx 3) [.inp 11, .inp 17]]], .int .u8 5]])
       (.seg [.chk [] (.bin .neq) [.app (.part 0 1 false) [.app (.tproj 0) [.inp 23]], .inp 14]] <|
        .seg [.chk [(.app (.bin .neq) [.app (.part 0 1 false) [.app (.tproj 0) [.inp 23]], .inp 14], false)] (.bin .neq) [.app (.part 3 1 false) [.app (.tproj 0) [.inp 23]], .inp 15]] <|
        .seg [.chk [] .pick [.app (.bin .neq) [.app (.part 0 1 false) [.app (.tproj 0) [.inp 23]], .inp 14], .bool true, .app (.bin .neq) [.app (.part 3 1 false) [.app (.tproj 0) [.inp 23]], .inp 15]]] <|
        .cond (.app .pick [.app (.bin .neq) [.app (.part 0 1 false) [.app (.tproj 0) [.inp 23]], .inp 14], .bool true, .app (.bin .neq) [.app (.part 3 1 false) [.app (.tproj 0) [.inp 23]], .inp 15]])
        (.ret (.bool false))
        (.seg [.chk [] (.bin .add) [.inp 17, .int .i64 1]] <|
         .again 0 [.inp 14, .inp 15, .inp 16, .app (.bin .add) [.inp 17, .int .i64 1], .app (.part 0 1 false) [.app (.tproj 0) [.inp 23]], .app (.part 1 1 false) [.app (.tproj 0) [.inp 23]], .app (.part 2 1 false) [.app (.tproj 0) [.inp 23]], .app (.part 3 1 false) [.app (.tproj 0) [.inp 23]], .app (.part 4 1 false) [.app (.tproj 0) [.inp 23]]]))
       (.seg [.chk [] (.bin .eql) [.app (.part 0 1 false) [.app (.eload 3 true) [.app (.eidx 3) [.inp 11, .inp 17]]], .int .u8 4]] <|
        .cond (.app (.bin .eql) [.app (.part 0 1 false) [.app (.eload 3 true) [.app (.eidx 3) [.inp 11, .inp 17]]], .int .u8 4])
        (.seg [.chk [] (.bin .geq) [.inp 14, .int .i64 0]] <|
         .seg [.chk [(.app (.bin .geq) [.inp 14, .int .i64 0], true)] .len [.inp 16]] <|
         .seg [.chk [(.app (.bin .geq) [.inp 14, .int .i64 0], true)] (.bin .lss) [.app .len [.inp 16], .int .i64 2]] <|
         .seg [.chk [] .pick [.app (.bin .geq) [.inp 14, .int .i64 0], .app (.bin .lss) [.app .len [.inp 16], .int .i64 2], .bool false]] <|
         .cond (.app .pick [.app (.bin .geq) [.inp 14, .int .i64 0], .app (.bin .lss) [.app .len [.inp 16], .int .i64 2], .bool false])
         (.seg [.chk [] .isOne [.app (.part 1 1 false) [.app (.eload 3 true) [.app (.eidx 3) [.inp 11, .inp 17]]]],
          .chk [] .isOne [.app (.part 1 1 false) [.app (.eload 3 true) [.app (.eidx 3) [.inp 11, .inp 17]]]]] <|
          .seg [.chk [] (.szs 1) [.app .lst [.app (.part 1 1 false) [.app (.eload 3 true) [.app (.eidx 3) [.inp 11, .inp 17]]]]],
          .chk [] .app [.inp 16, .app .lst [.app (.part 1 1 false) [.app (.eload 3 true) [.app (.eidx 3) [.inp 11, .inp 17]]]]]] <|
          .seg [.chk [] (.bin .neq) [.app (.part 0 1 false) [.app (.tproj 0) [.inp 23]], .inp 14]] <|
          .seg [.chk [(.app (.bin .neq) [.app (.part 0 1 false) [.app (.tproj 0) [.inp 23]], .inp 14], false)] (.bin .neq) [.app (.part 3 1 false) [.app (.tproj 0) [.inp 23]], .inp 15]] <|
          .seg [.chk [] .pick [.app (.bin .neq) [.app (.part 0 1 false) [.app (.tproj 0) [.inp 23]], .inp 14], .bool true, .app (.bin .neq) [.app (.part 3 1 false) [.app (.tproj 0) [.inp 23]], .inp 15]]] <|
          .cond (.app .pick [.app (.bin .neq) [.app (.part 0 1 false) [.app (.tproj 0) [.inp 23]], .inp 14], .bool true, .app (.bin .neq) [.app (.part 3 1 false) [.app (.tproj 0) [.inp 23]], .inp 15]])
          (.ret (.bool false))
          (.seg [.chk [] (.bin .add) [.inp 17, .int .i64 1]] <|
           .again 0 [.inp 14, .inp 15, .app .app [.inp 16, .app .lst [.app (.part 1 1 false) [.app (.eload 3 true) [.app (.eidx 3) [.inp 11, .inp 17]]]]], .app (.bin .add) [.inp 17, .int .i64 1], .app (.part 0 1 false) [.app (.tproj 0) [.inp 23]], .app (.part 1 1 false) [.app (.tproj 0) [.inp 23]], .app (.part 2 1 false) [.app (.tproj 0) [.inp 23]], .app (.part 3 1 false) [.app (.tproj 0) [.inp 23]], .app (.part 4 1 false) [.app (.tproj 0) [.inp 23]]]))
         (.seg [.chk [] (.bin .neq) [.app (.part 0 1 false) [.app (.tproj 0) [.inp 23]], .inp 14]] <|
          .seg [.chk [(.app (.bin .neq) [.app (.part 0 1 false) [.app (.tproj 0) [.inp 23]], .inp 14], false)] (.bin .neq) [.app (.part 3 1 false) [.app (.tproj 0) [.inp 23]], .inp 15]] <|
          .seg [.chk [] .pick [.app (.bin .neq) [.app (.part 0 1 false) [.app (.tproj 0) [.inp 23]], .inp 14], .bool true, .app (.bin .neq) [.app (.part 3 1 false) [.app (.tproj 0) [.inp 23]], .inp 15]]] <|
          .cond (.app .pick [.app (.bin .neq) [.app (.part 0 1 false) [.app (.tproj 0) [.inp 23]], .inp 14], .bool true, .app (.bin .neq) [.app (.part 3 1 false) [.app (.tproj 0) [.inp 23]], .inp 15]])
          (.ret (.bool false))
          (.seg [.chk [] (.bin .add) [.inp 17, .int .i64 1]] <|
           .again 0 [.inp 14, .inp 15, .inp 16, .app (.bin .add) [.inp 17, .int .i64 1], .app (.part 0 1 false) [.app (.tproj 0) [.inp 23]], .app (.part 1 1 false) [.app (.tproj 0) [.inp 23]], .app (.part 2 1 false) [.app (.tproj 0) [.inp 23]], .app (.part 3 1 false) [.app (.tproj 0) [.inp 23]], .app (.part 4 1 false) [.app (.tproj 0) [.inp 23]]])))
        (.seg [.chk [] (.bin .eql) [.app (.part 0 1 false) [.app (.eload 3 true) [.app (.eidx 3) [.inp 11, .inp 17]]], .int .u8 3]] <|
         .seg [.chk [(.app (.bin .eql) [.app (.part 0 1 false) [.app (.eload 3 true) [.app (.eidx 3) [.inp 11, .inp 17]]], .int .u8 3], true)] (.bin .eql) [.inp 15, .int .u8 0]] <|
         .seg [.chk [] .pick [.app (.bin .eql) [.app (.part 0 1 false) [.app (.eload 3 true) [.app (.eidx 3) [.inp 11, .inp 17]]], .int .u8 3], .app (.bin .eql) [.inp 15, .int .u8 0], .bool false]] <|
         .cond (.app .pick [.app (.bin .eql) [.app (.part 0 1 false) [.app (.eload 3 true) [.app (.eidx 3) [.inp 11, .inp 17]]], .int .u8 3], .app (.bin .eql) [.inp 15, .int .u8 0], .bool false])
         (.seg [.chk [] (.bin .neq) [.app (.part 0 1 false) [.app (.tproj 0) [.inp 23]], .app (.part 1 1 false) [.app (.eload 3 true) [.app (.eidx 3) [.inp 11, .inp 17]]]]] <|
          .seg [.chk [(.app (.bin .neq) [.app (.part 0 1 false) [.app (.tproj 0) [.inp 23]], .app (.part 1 1 false) [.app (.eload 3 true) [.app (.eidx 3) [.inp 11, .inp 17]]]], false)] (.bin .neq) [.app (.part 3 1 false) [.app (.tproj 0) [.inp 23]], .inp 15]] <|
          .seg [.chk [] .pick [.app (.bin .neq) [.app (.part 0 1 false) [.app (.tproj 0) [.inp 23]], .app (.part 1 1 false) [.app (.eload 3 true) [.app (.eidx 3) [.inp 11, .inp 17]]]], .bool true, .app (.bin .neq) [.app (.part 3 1 false) [.app (.tproj 0) [.inp 23]], .inp 15]]] <|
          .cond (.app .pick [.app (.bin .neq) [.app (.part 0 1 false) [.app (.tproj 0) [.inp 23]], .app (.part 1 1 false) [.app (.eload 3 true) [.app (.eidx 3) [.inp 11, .inp 17]]]], .bool true, .app (.bin .neq) [.app (.part 3 1 false) [.app (.tproj 0) [.inp 23]], .inp 15]])
          (.ret (.bool false))
          (.seg [.chk [] (.bin .add) [.inp 17, .int .i64 1]] <|
           .again 0 [.app (.part 1 1 false) [.app (.eload 3 true) [.app (.eidx 3) [.inp 11, .inp 17]]], .inp 15, .nils, .app (.bin .add) [.inp 17, .int .i64 1], .app (.part 0 1 false) [.app (.tproj 0) [.inp 23]], .app (.part 1 1 false) [.app (.tproj 0) [.inp 23]], .app (.part 2 1 false) [.app (.tproj 0) [.inp 23]], .app (.part 3 1 false) [.app (.tproj 0) [.inp 23]], .app (.part 4 1 false) [.app (.tproj 0) [.inp 23]]]))
         (.seg [.chk [] (.bin .eql) [.app (.part 0 1 false) [.app (.eload 3 true) [.app (.eidx 3) [.inp 11, .inp 17]]], .int .u8 3]] <|
          .cond (.app (.bin .eql) [.app (.part 0 1 false) [.app (.eload 3 true) [.app (.eidx 3) [.inp 11, .inp 17]]], .int .u8 3])
          (.seg [.chk [] (.bin .neq) [.app (.part 0 1 false) [.app (.tproj 0) [.inp 23]], .inp 14]] <|
           .seg [.chk [(.app (.bin .neq) [.app (.part 0 1 false) [.app (.tproj 0) [.inp 23]], .inp 14], false)] (.bin .neq) [.app (.part 3 1 false) [.app (.tproj 0) [.inp 23]], .int .u8 0]] <|
           .seg [.chk [] .pick [.app (.bin .neq) [.app (.part 0 1 false) [.app (.tproj 0) [.inp 23]], .inp 14], .bool true, .app (.bin .neq) [.app (.part 3 1 false) [.app (.tproj 0) [.inp 23]], .int .u8 0]]] <|
           .cond (.app .pick [.app (.bin .neq) [.app (.part 0 1 false) [.app (.tproj 0) [.inp 23]], .inp 14], .bool true, .app (.bin .neq) [.app (.part 3 1 false) [.app (.tproj 0) [.inp 23]], .int .u8 0]])
           (.ret (.bool false))
           (.seg [.chk [] (.bin .add) [.inp 17, .int .i64 1]] <|
            .again 0 [.inp 14, .int .u8 0, .inp 16, .app (.bin .add) [.inp 17, .int .i64 1], .app (.part 0 1 false) [.app (.tproj 0) [.inp 23]], .app (.part 1 1 false) [.app (.tproj 0) [.inp 23]], .app (.part 2 1 false) [.app (.tproj 0) [.inp 23]], .app (.part 3 1 false) [.app (.tproj 0) [.inp 23]], .app (.part 4 1 false) [.app (.tproj 0) [.inp 23]]]))
          (.seg [.chk [] (.bin .neq) [.app (.part 0 1 false) [.app (.tproj 0) [.inp 23]], .int .i64 (-1)]] <|
           .seg [.chk [(.app (.bin .neq) [.app (.part 0 1 false) [.app (.tproj 0) [.inp 23]], .int .i64 (-1)], false)] (.bin .neq) [.app (.part 3 1 false) [.app (.tproj 0) [.inp 23]], .app (.part 0 1 false) [.app (.eload 3 true) [.app (.eidx 3) [.inp 11, .inp 17]]]]] <|
           .seg [.chk [] .pick [.app (.bin .neq) [.app (.part 0 1 false) [.app (.tproj 0) [.inp 23]], .int .i64 (-1)], .bool true, .app (.bin .neq) [.app (.part 3 1 false) [.app (.tproj 0) [.inp 23]], .app (.part 0 1 false) [.app (.eload 3 true) [.app (.eidx 3) [.inp 11, .inp 17]]]]]] <|
           .cond (.app .pick [.app (.bin .neq) [.app (.part 0 1 false) [.app (.tproj 0) [.inp 23]], .int .i64 (-1)], .bool true, .app (.bin .neq) [.app (.part 3 1 false) [.app (.tproj 0) [.inp 23]], .app (.part 0 1 false) [.app (.eload 3 true) [.app (.eidx 3) [.inp 11, .inp 17]]]]])
           (.ret (.bool false))
           (.seg [.chk [] (.bin .add) [.inp 17, .int .i64 1]] <|
            .again 0 [.int .i64 (-1), .app (.part 0 1 false) [.app (.eload 3 true) [.app (.eidx 3) [.inp 11, .inp 17]]], .nils, .app (.bin .add) [.inp 17, .int .i64 1], .app (.part 0 1 false) [.app (.tproj 0) [.inp 23]], .app (.part 1 1 false) [.app (.tproj 0) [.inp 23]], .app (.part 2 1 false) [.app (.tproj 0) [.inp 23]], .app (.part 3 1 false) [.app (.tproj 0) [.inp 23]], .app (.part 4 1 false) [.app (.tproj 0) [.inp 23]]])))))))))
   (.seg [.call 23 [] 9 [] false] <|
    .ret (.inp 23)))
theorem run4 : runF E 4 [.agg [.inp 0, .inp 1, .inp 2, .inp 3, .inp 4, .inp 5, .inp 6, .inp 7, .inp 8, .inp 9, .inp 10], .inp 11] 12 = rt4 := by kernel_rfl

noncomputable def rt5 : RT :=
 .seg [.chk [] (.isAgg 11) [.agg [.inp 0, .inp 1, .inp 2, .inp 3, .inp 4, .inp 5, .inp 6, .inp 7, .inp 8, .inp 9, .inp 10]]] <|
 .seg [.chk [] (.isAgg 5) [.agg [.inp 11, .inp 12, .inp 13, .inp 14, .inp 15]]] <|
 .seg [.call 17 [] 8 [.agg [.inp 0, .inp 1, .inp 2, .inp 3, .inp 4, .inp 5, .inp 6, .inp 7, .inp 8, .inp 9, .inp 10], .agg [.inp 11, .inp 12, .inp 13, .inp 14, .inp 15]] false] <|
 .seg [.chk [(.inp 17, false)] .len [.inp 16]] <|
 .seg [.chk [(.inp 17, false)] (.bin .gtr) [.app .len [.inp 16], .int .i64 30]] <|
 .seg [.chk [] .pick [.inp 17, .bool true, .app (.bin .gtr) [.app .len [.inp 16], .int .i64 30]]] <|
 .seg [.chk [(.app .pick [.inp 17, .bool true, .app (.bin .gtr) [.app .len [.inp 16], .int .i64 30]], false)] (.bin .lss) [.inp 9, .int .i64 1]] <|
 .seg [.chk [] .pick [.app .pick [.inp 17, .bool true, .app (.bin .gtr) [.app .len [.inp 16], .int .i64 30]], .bool true, .app (.bin .lss) [.inp 9, .int .i64 1]]] <|
 .seg [.chk [(.app .pick [.app .pick [.inp 17, .bool true, .app (.bin .gtr) [.app .len [.inp 16], .int .i64 30]], .bool true, .app (.bin .lss) [.inp 9, .int .i64 1]], false)] (.bin .gtr) [.inp 9, .int .i64 1000]] <|
 .seg [.chk [] .pick [.app .pick [.app .pick [.inp 17, .bool true, .app (.bin .gtr) [.app .len [.inp 16], .int .i64 30]], .bool true, .app (.bin .lss) [.inp 9, .int .i64 1]], .bool true, .app (.bin .gtr) [.inp 9, .int .i64 1000]]] <|
 .seg [.call 18 [(.app .pick [.app .pick [.app .pick [.inp 17, .bool true, .app (.bin .gtr) [.app .len [.inp 16], .int .i64 30]], .bool true, .app (.bin .lss) [.inp 9, .int .i64 1]], .bool true, .app (.bin .gtr) [.inp 9, .int .i64 1000]], false)] 19 [.agg [.inp 0, .inp 1, .inp 2, .inp 3, .inp 4, .inp 5, .inp 6, .inp 7, .inp 8, .inp 9, .inp 10], .agg [.inp 11, .inp 12, .inp 13, .inp 14, .inp 15]] false] <|
 .seg [.chk [(.app .pick [.app .pick [.app .pick [.inp 17, .bool true, .app (.bin .gtr) [.app .len [.inp 16], .int .i64 30]], .bool true, .app (.bin .lss) [.inp 9, .int .i64 1]], .bool true, .app (.bin .gtr) [.inp 9, .int .i64 1000]], false)] (.un .not) [.inp 18]] <|
 .seg [.chk [] .pick [.app .pick [.app .pick [.app .pick [.inp 17, .bool true, .app (.bin .gtr) [.app .len [.inp 16], .int .i64 30]], .bool true, .app (.bin .lss) [.inp 9, .int .i64 1]], .bool true, .app (.bin .gtr) [.inp 9, .int .i64 1000]], .bool true, .app (.un .not) [.inp 18]]] <|
 .cond (.app .pick [.app .pick [.app .pick [.app .pick [.inp 17, .bool true, .app (.bin .gtr) [.app .len [.inp 16], .int .i64 30]], .bool true, .app (.bin .lss) [.inp 9, .int .i64 1]], .bool true, .app (.bin .gtr) [.inp 9, .int .i64 1000]], .bool true, .app (.un .not) [.inp 18]])
 (.seg [.call 19 [] 9 [] false] <|
  .ret (.inp 19))
 (.seg [.chk [] (.isAgg 5) [.agg [.inp 11, .inp 12, .inp 13, .inp 14, .inp 15]]] <|
  .loop 0 19 [.nils, .int .i64 0, .inp 11, .inp 12, .inp 13, .inp 14, .inp 15] <|
  .seg [.chk [] .len [.inp 16]] <|
   .seg [.chk [] (.bin .lss) [.inp 20, .app .len [.inp 16]]] <|
   .cond (.app (.bin .lss) [.inp 20, .app .len [.inp 16]])
   (.seg [.chk [] (.eidx 3) [.inp 16, .inp 20],
    .chk [] (.eload 3 true) [.app (.eidx 3) [.inp 16, .inp 20]],
    .call 26 [] 10 [.agg [.inp 0, .inp 1, .inp 2, .inp 3, .inp 4, .inp 5, .inp 6, .inp 7, .inp 8, .inp 9, .inp 10], .agg [.inp 21, .inp 22, .inp 23, .inp 24, .inp 25], .app (.eload 3 true) [.app (.eidx 3) [.inp 16, .inp 20]]] false,
    .chk [] (.tproj 0) [.inp 26],
    .chk [] (.tproj 1) [.inp 26],
    .chk [] (.isAgg 5) [.app (.tproj 0) [.inp 26]]] <|
    .seg [.call 27 [] 16 [.agg [.inp 0, .inp 1, .inp 2, .inp 3, .inp 4, .inp 5, .inp 6, .inp 7, .inp 8, .inp 9, .inp 10], .agg [.app (.part 0 1 false) [.app (.tproj 0) [.inp 26]], .app (.part 1 1 false) [.app (.tproj 0) [.inp 26]], .app (.part 2 1 false) [.app (.tproj 0) [.inp 26]], .app (.part 3 1 false) [.app (.tproj 0) [.inp 26]], .app (.part 4 1 false) [.app (.tproj 0) [.inp 26]]]] false] <|
    .seg [.chk [] (.tproj 0) [.inp 27]] <|
    .seg [.chk [] (.tproj 1) [.inp 27]] <|
    .seg [.chk [] (.isAgg 5) [.app (.tproj 0) [.inp 27]]] <|
    .seg [.call 28 [] 18 [.agg [.inp 0, .inp 1, .inp 2, .inp 3, .inp 4, .inp 5, .inp 6, .inp 7, .inp 8, .inp 9, .inp 10], .agg [.app (.part 0 1 false) [.app (.tproj 0) [.inp 26]], .app (.part 1 1 false) [.app (.tproj 0) [.inp 26]], .app (.part 2 1 false) [.app (.tproj 0) [.inp 26]], .app (.part 3 1 false) [.app (.tproj 0) [.inp 26]], .app (.part 4 1 false) [.app (.tproj 0) [.inp 26]]]] false,
    .chk [] (.un .not) [.inp 28],
    .call 29 [(.app (.un .not) [.inp 28], false)] 18 [.agg [.inp 0, .inp 1, .inp 2, .inp 3, .inp 4, .inp 5, .inp 6, .inp 7, .inp 8, .inp 9, .inp 10], .agg [.app (.part 0 1 false) [.app (.tproj 0) [.inp 27]], .app (.part 1 1 false) [.app (.tproj 0) [.inp 27]], .app (.part 2 1 false) [.app (.tproj 0) [.inp 27]], .app (.part 3 1 false) [.app (.tproj 0) [.inp 27]], .app (.part 4 1 false) [.app (.tproj 0) [.inp 27]]]] false,
    .chk [(.app (.un .not) [.inp 28], false)] (.un .not) [.inp 29],
    .chk [] .pick [.app (.un .not) [.inp 28], .bool true, .app (.un .not) [.inp 29]],
    .chk [(.app .pick [.app (.un .not) [.inp 28], .bool true, .app (.un .not) [.inp 29]], false)] (.eidx 3) [.inp 16, .inp 20],
    .chk [(.app .pick [.app (.un .not) [.inp 28], .bool true, .app (.un .not) [.inp 29]], false)] (.eload 3 true) [.app (.eidx 3) [.inp 16, .inp 20]],
    .call 30 [(.app .pick [.app (.un .not) [.inp 28], .bool true, .app (.un .not) [.inp 29]], false)] 25 [.agg [.inp 0, .inp 1, .inp 2, .inp 3, .inp 4, .inp 5, .inp 6, .inp 7, .inp 8, .inp 9, .inp 10], .app (.eload 3 true) [.app (.eidx 3) [.inp 16, .inp 20]]] false,
    .chk [(.app .pick [.app (.un .not) [.inp 28], .bool true, .app (.un .not) [.inp 29]], false)] (.un .not) [.inp 30],
    .call 31 [(.app (.un .not) [.inp 30], true), (.app .pick [.app (.un .not) [.inp 28], .bool true, .app (.un .not) [.inp 29]], false)] 12 [.agg [.app (.part 0 1 false) [.app (.tproj 0) [.inp 26]], .app (.part 1 1 false) [.app (.tproj 0) [.inp 26]], .app (.part 2 1 false) [.app (.tproj 0) [.inp 26]], .app (.part 3 1 false) [.app (.tproj 0) [.inp 26]], .app (.part 4 1 false) [.app (.tproj 0) [.inp 26]]], .agg [.inp 21, .inp 22, .inp 23, .inp 24, .inp 25]] false,
    .chk [(.app (.un .not) [.inp 30], true), (.app .pick [.app (.un .not) [.inp 28], .bool true, .app (.un .not) [.inp 29]], false)] (.un .not) [.inp 31],
    .chk [(.app (.un .not) [.inp 31], false), (.app (.un .not) [.inp 30], true), (.app .pick [.app (.un .not) [.inp 28], .bool true, .app (.un .not) [.inp 29]], false)] .len [.app (.tproj 1) [.inp 26]],
    .chk [(.app (.un .not) [.inp 31], false), (.app (.un .not) [.inp 30], true), (.app .pick [.app (.un .not) [.inp 28], .bool true, .app (.un .not) [.inp 29]], false)] (.bin .neq) [.app .len [.app (.tproj 1) [.inp 26]], .int .i64 0],
    .chk [(.app (.un .not) [.inp 30], true), (.app .pick [.app (.un .not) [.inp 28], .bool true, .app (.un .not) [.inp 29]], false)] .pick [.app (.un .not) [.inp 31], .bool true, .app (.bin .neq) [.app .len [.app (.tproj 1) [.inp 26]], .int .i64 0]],
    .chk [(.app .pick [.app (.un .not) [.inp 28], .bool true, .app (.un .not) [.inp 29]], false)] .pick [.app (.un .not) [.inp 30], .app .pick [.app (.un .not) [.inp 31], .bool true, .app (.bin .neq) [.app .len [.app (.tproj 1) [.inp 26]], .int .i64 0]], .bool false],
    .chk [] .pick [.app .pick [.app (.un .not) [.inp 28], .bool true, .app (.un .not) [.inp 29]], .bool true, .app .pick [.app (.un .not) [.inp 30], .app .pick [.app (.un .not) [.inp 31], .bool true, .app (.bin .neq) [.app .len [.app (.tproj 1) [.inp 26]], .int .i64 0]], .bool false]]] <|
    .cond (.app .pick [.app .pick [.app (.un .not) [.inp 28], .bool true, .app (.un .not) [.inp 29]], .bool true, .app .pick [.app (.un .not) [.inp 30], .app .pick [.app (.un .not) [.inp 31], .bool true, .app (.bin .neq) [.app .len [.app (.tproj 1) [.inp 26]], .int .i64 0]], .bool false]])
    (.ret (.bool false))
    (.seg [.chk [] (.szs 6) [.app (.tproj 1) [.inp 26]],
     .chk [] .app [.inp 19, .app (.tproj 1) [.inp 26]],
     .chk [] (.isAgg 5) [.agg [.app (.part 0 1 false) [.app (.tproj 0) [.inp 26]], .app (.part 1 1 false) [.app (.tproj 0) [.inp 26]], .app (.part 2 1 false) [.app (.tproj 0) [.inp 26]], .app (.part 3 1 false) [.app (.tproj 0) [.inp 26]], .app (.part 4 1 false) [.app (.tproj 0) [.inp 26]]]]] <|
     .seg [.chk [] (.bin .add) [.inp 20, .int .i64 1]] <|
     .again 0 [.app .app [.inp 19, .app (.tproj 1) [.inp 26]], .app (.bin .add) [.inp 20, .int .i64 1], .app (.part 0 1 false) [.app (.tproj 0) [.inp 26]], .app (.part 1 1 false) [.app (.tproj 0) [.inp 26]], .app (.part 2 1 false) [.app (.tproj 0) [.inp 26]], .app (.part 3 1 false) [.app (.tproj 0) [.inp 26]], .app (.part 4 1 false) [.app (.tproj 0) [.inp 26]]]))
   (.seg [.call 26 [] 14 [.agg [.inp 0, .inp 1, .inp 2, .inp 3, .inp 4, .inp 5, .inp 6, .inp 7, .inp 8, .inp 9, .inp 10], .agg [.inp 11, .inp 12, .inp 13, .inp 14, .inp 15], .inp 16] false] <|
    .seg [.chk [] (.tproj 0) [.inp 26]] <|
    .seg [.chk [] (.tproj 1) [.inp 26]] <|
    .seg [.chk [] (.isAgg 5) [.app (.tproj 0) [.inp 26]]] <|
    .seg [.call 27 [] 12 [.agg [.app (.part 0 1 false) [.app (.tproj 0) [.inp 26]], .app (.part 1 1 false) [.app (.tproj 0) [.inp 26]], .app (.part 2 1 false) [.app (.tproj 0) [.inp 26]], .app (.part 3 1 false) [.app (.tproj 0) [.inp 26]], .app (.part 4 1 false) [.app (.tproj 0) [.inp 26]]], .agg [.inp 21, .inp 22, .inp 23, .inp 24, .inp 25]] false] <|
    .seg [.call 28 [(.inp 27, true)] 13 [.app (.tproj 1) [.inp 26], .inp 19] true] <|
    .seg [.chk [] .pick [.inp 27, .inp 28, .bool false]] <|
    .seg [.call 29 [(.app .pick [.inp 27, .inp 28, .bool false], true)] 9 [] false] <|
    .seg [.chk [] .pick [.app .pick [.inp 27, .inp 28, .bool false], .inp 29, .bool false]] <|
    .ret (.app .pick [.app .pick [.inp 27, .inp 28, .bool false], .inp 29, .bool false])))
theorem run5 : runF E 5 [.agg [.inp 0, .inp 1, .inp 2, .inp 3, .inp 4, .inp 5, .inp 6, .inp 7, .inp 8, .inp 9, .inp 10], .agg [.inp 11, .inp 12, .inp 13, .inp 14, .inp 15], .inp 16] 17 = rt5 := by kernel_rfl

noncomputable def rt6 : RT :=
 .seg [.chk [] (.isAgg 11) [.agg [.inp 0, .inp 1, .inp 2, .inp 3, .inp 4, .inp 5, .inp 6, .inp 7, .inp 8, .inp 9, .inp 10]]] <|
 .seg [.chk [] (.isAgg 5) [.agg [.inp 11, .inp 12, .inp 13, .inp 14, .inp 15]]] <|
 .seg [.call 16 [] 8 [.agg [.inp 0, .inp 1, .inp 2, .inp 3, .inp 4, .inp 5, .inp 6, .inp 7, .inp 8, .inp 9, .inp 10], .agg [.inp 11, .inp 12, .inp 13, .inp 14, .inp 15]] false] <|
 .seg [.chk [(.inp 16, false)] (.bin .lss) [.inp 9, .int .i64 1]] <|
 .seg [.chk [] .pick [.inp 16, .bool true, .app (.bin .lss) [.inp 9, .int .i64 1]]] <|
 .seg [.chk [(.app .pick [.inp 16, .bool true, .app (.bin .lss) [.inp 9, .int .i64 1]], false)] (.bin .gtr) [.inp 9, .int .i64 1000]] <|
 .seg [.chk [] .pick [.app .pick [.inp 16, .bool true, .app (.bin .lss) [.inp 9, .int .i64 1]], .bool true, .app (.bin .gtr) [.inp 9, .int .i64 1000]]] <|
 .seg [.call 17 [(.app .pick [.app .pick [.inp 16, .bool true, .app (.bin .lss) [.inp 9, .int .i64 1]], .bool true, .app (.bin .gtr) [.inp 9, .int .i64 1000]], false)] 19 [.agg [.inp 0, .inp 1, .inp 2, .inp 3, .inp 4, .inp 5, .inp 6, .inp 7, .inp 8, .inp 9, .inp 10], .agg [.inp 11, .inp 12, .inp 13, .inp 14, .inp 15]] false] <|
 .seg [.chk [(.app .pick [.app .pick [.inp 16, .bool true, .app (.bin .lss) [.inp 9, .int .i64 1]], .bool true, .app (.bin .gtr) [.inp 9, .int .i64 1000]], false)] (.un .not) [.inp 17]] <|
 .seg [.chk [] .pick [.app .pick [.app .pick [.inp 16, .bool true, .app (.bin .lss) [.inp 9, .int .i64 1]], .bool true, .app (.bin .gtr) [.inp 9, .int .i64 1000]], .bool true, .app (.un .not) [.inp 17]]] <|
 .cond (.app .pick [.app .pick [.app .pick [.inp 16, .bool true, .app (.bin .lss) [.inp 9, .int .i64 1]], .bool true, .app (.bin .gtr) [.inp 9, .int .i64 1000]], .bool true, .app (.un .not) [.inp 17]])
 (.seg [.call 18 [] 9 [] false] <|
  .ret (.inp 18))
 (.seg [.chk [] (.mm true) [.inp 13, .inp 15],
  .chk [] (.isAgg 5) [.agg [.inp 11, .inp 12, .inp 13, .inp 14, .inp 15]]] <|
  .loop 0 18 [.int .i64 1, .inp 11, .inp 12, .inp 13, .inp 14, .inp 15] <|
  .seg [.chk [] (.mm false) [.app (.mm true) [.inp 13, .inp 15], .int .i64 50]] <|
   .seg [.chk [] (.bin .add) [.app (.mm false) [.app (.mm true) [.inp 13, .inp 15], .int .i64 50], .int .i64 1]] <|
   .seg [.chk [] (.bin .leq) [.inp 18, .app (.bin .add) [.app (.mm false) [.app (.mm true) [.inp 13, .inp 15], .int .i64 50], .int .i64 1]]] <|
   .cond (.app (.bin .leq) [.inp 18, .app (.bin .add) [.app (.mm false) [.app (.mm true) [.inp 13, .inp 15], .int .i64 50], .int .i64 1]])
   (.seg [.call 24 [] 16 [.agg [.inp 0, .inp 1, .inp 2, .inp 3, .inp 4, .inp 5, .inp 6, .inp 7, .inp 8, .inp 9, .inp 10], .agg [.inp 19, .inp 20, .inp 21, .inp 22, .inp 23]] false] <|
    .seg [.chk [] (.tproj 0) [.inp 24]] <|
    .seg [.chk [] (.tproj 1) [.inp 24]] <|
    .seg [.chk [] (.isAgg 5) [.app (.tproj 0) [.inp 24]]] <|
    .seg [.chk [] (.bin .geq) [.inp 11, .int .i64 0]] <|
    .seg [.chk [(.app (.bin .geq) [.inp 11, .int .i64 0], true)] (.bin .eql) [.inp 18, .app (.mm true) [.inp 13, .inp 15]]] <|
    .seg [.chk [] .pick [.app (.bin .geq) [.inp 11, .int .i64 0], .app (.bin .eql) [.inp 18, .app (.mm true) [.inp 13, .inp 15]], .bool false]] <|
    .seg [.chk [] (.eqb true) [.app (.tproj 1) [.inp 24], .app .pick [.app (.bin .geq) [.inp 11, .int .i64 0], .app (.bin .eql) [.inp 18, .app (.mm true) [.inp 13, .inp 15]], .bool false]]] <|
    .cond (.app (.eqb true) [.app (.tproj 1) [.inp 24], .app .pick [.app (.bin .geq) [.inp 11, .int .i64 0], .app (.bin .eql) [.inp 18, .app (.mm true) [.inp 13, .inp 15]], .bool false]])
    (.ret (.bool false))
    (.seg [.chk [] (.bin .geq) [.inp 18, .app (.mm true) [.inp 13, .inp 15]],
     .call 25 [(.app (.bin .geq) [.inp 18, .app (.mm true) [.inp 13, .inp 15]], true)] 23 [] false,
     .call 26 [(.app (.bin .geq) [.inp 18, .app (.mm true) [.inp 13, .inp 15]], true)] 12 [.agg [.app (.part 0 1 false) [.app (.tproj 0) [.inp 24]], .app (.part 1 1 false) [.app (.tproj 0) [.inp 24]], .app (.part 2 1 false) [.app (.tproj 0) [.inp 24]], .app (.part 3 1 false) [.app (.tproj 0) [.inp 24]], .app (.part 4 1 false) [.app (.tproj 0) [.inp 24]]], .inp 25] false,
     .chk [(.app (.bin .geq) [.inp 18, .app (.mm true) [.inp 13, .inp 15]], true)] (.un .not) [.inp 26],
     .chk [] .pick [.app (.bin .geq) [.inp 18, .app (.mm true) [.inp 13, .inp 15]], .app (.un .not) [.inp 26], .bool false],
     .chk [(.app .pick [.app (.bin .geq) [.inp 18, .app (.mm true) [.inp 13, .inp 15]], .app (.un .not) [.inp 26], .bool false], false)] (.bin .lss) [.inp 18, .app (.mm true) [.inp 13, .inp 15]],
     .chk [(.app (.bin .lss) [.inp 18, .app (.mm true) [.inp 13, .inp 15]], true), (.app .pick [.app (.bin .geq) [.inp 18, .app (.mm true) [.inp 13, .inp 15]], .app (.un .not) [.inp 26], .bool false], false)] (.bin .neq) [.app (.part 0 1 false) [.app (.tproj 0) [.inp 24]], .inp 11],
     .chk [(.app (.bin .neq) [.app (.part 0 1 false) [.app (.tproj 0) [.inp 24]], .inp 11], false), (.app (.bin .lss) [.inp 18, .app (.mm true) [.inp 13, .inp 15]], true), (.app .pick [.app (.bin .geq) [.inp 18, .app (.mm true) [.inp 13, .inp 15]], .app (.un .not) [.inp 26], .bool false], false)] (.bin .neq) [.app (.part 3 1 false) [.app (.tproj 0) [.inp 24]], .inp 14],
     .chk [(.app (.bin .lss) [.inp 18, .app (.mm true) [.inp 13, .inp 15]], true), (.app .pick [.app (.bin .geq) [.inp 18, .app (.mm true) [.inp 13, .inp 15]], .app (.un .not) [.inp 26], .bool false], false)] .pick [.app (.bin .neq) [.app (.part 0 1 false) [.app (.tproj 0) [.inp 24]], .inp 11], .bool true, .app (.bin .neq) [.app (.part 3 1 false) [.app (.tproj 0) [.inp 24]], .inp 14]],
     .chk [(.app .pick [.app (.bin .neq) [.app (.part 0 1 false) [.app (.tproj 0) [.inp 24]], .inp 11], .bool true, .app (.bin .neq) [.app (.part 3 1 false) [.app (.tproj 0) [.inp 24]], .inp 14]], false), (.app (.bin .lss) [.inp 18, .app (.mm true) [.inp 13, .inp 15]], true), (.app .pick [.app (.bin .geq) [.inp 18, .app (.mm true) [.inp 13, .inp 15]], .app (.un .not) [.inp 26], .bool false], false)] (.mm true) [.app (.part 2 1 false) [.app (.tproj 0) [.inp 24]], .app (.part 4 1 false) [.app (.tproj 0) [.inp 24]]],
     .chk [(.app .pick [.app (.bin .neq) [.app (.part 0 1 false) [.app (.tproj 0) [.inp 24]], .inp 11], .bool true, .app (.bin .neq) [.app (.part 3 1 false) [.app (.tproj 0) [.inp 24]], .inp 14]], false), (.app (.bin .lss) [.inp 18, .app (.mm true) [.inp 13, .inp 15]], true), (.app .pick [.app (.bin .geq) [.inp 18, .app (.mm true) [.inp 13, .inp 15]], .app (.un .not) [.inp 26], .bool false], false)] (.bin .sub) [.app (.mm true) [.inp 13, .inp 15], .inp 18],
     .chk [(.app .pick [.app (.bin .neq) [.app (.part 0 1 false) [.app (.tproj 0) [.inp 24]], .inp 11], .bool true, .app (.bin .neq) [.app (.part 3 1 false) [.app (.tproj 0) [.inp 24]], .inp 14]], false), (.app (.bin .lss) [.inp 18, .app (.mm true) [.inp 13, .inp 15]], true), (.app .pick [.app (.bin .geq) [.inp 18, .app (.mm true) [.inp 13, .inp 15]], .app (.un .not) [.inp 26], .bool false], false)] (.bin .neq) [.app (.mm true) [.app (.part 2 1 false) [.app (.tproj 0) [.inp 24]], .app (.part 4 1 false) [.app (.tproj 0) [.inp 24]]], .app (.bin .sub) [.app (.mm true) [.inp 13, .inp 15], .inp 18]],
     .chk [(.app (.bin .lss) [.inp 18, .app (.mm true) [.inp 13, .inp 15]], true), (.app .pick [.app (.bin .geq) [.inp 18, .app (.mm true) [.inp 13, .inp 15]], .app (.un .not) [.inp 26], .bool false], false)] .pick [.app .pick [.app (.bin .neq) [.app (.part 0 1 false) [.app (.tproj 0) [.inp 24]], .inp 11], .bool true, .app (.bin .neq) [.app (.part 3 1 false) [.app (.tproj 0) [.inp 24]], .inp 14]], .bool true, .app (.bin .neq) [.app (.mm true) [.app (.part 2 1 false) [.app (.tproj 0) [.inp 24]], .app (.part 4 1 false) [.app (.tproj 0) [.inp 24]]], .app (.bin .sub) [.app (.mm true) [.inp 13, .inp 15], .inp 18]]],
     .chk [(.app .pick [.app (.bin .geq) [.inp 18, .app (.mm true) [.inp 13, .inp 15]], .app (.un .not) [.inp 26], .bool false], false)] .pick [.app (.bin .lss) [.inp 18, .app (.mm true) [.inp 13, .inp 15]], .app .pick [.app .pick [.app (.bin .neq) [.app (.part 0 1 false) [.app (.tproj 0) [.inp 24]], .inp 11], .bool true, .app (.bin .neq) [.app (.part 3 1 false) [.app (.tproj 0) [.inp 24]], .inp 14]], .bool true, .app (.bin .neq) [.app (.mm true) [.app (.part 2 1 false) [.app (.tproj 0) [.inp 24]], .app (.part 4 1 false) [.app (.tproj 0) [.inp 24]]], .app (.bin .sub) [.app (.mm true) [.inp 13, .inp 15], .inp 18]]], .bool false],
     .chk [] .pick [.app .pick [.app (.bin .geq) [.inp 18, .app (.mm true) [.inp 13, .inp 15]], .app (.un .not) [.inp 26], .bool false], .bool true, .app .pick [.app (.bin .lss) [.inp 18, .app (.mm true) [.inp 13, .inp 15]], .app .pick [.app .pick [.app (.bin .neq) [.app (.part 0 1 false) [.app (.tproj 0) [.inp 24]], .inp 11], .bool true, .app (.bin .neq) [.app (.part 3 1 false) [.app (.tproj 0) [.inp 24]], .inp 14]], .bool true, .app (.bin .neq) [.app (.mm true) [.app (.part 2 1 false) [.app (.tproj 0) [.inp 24]], .app (.part 4 1 false) [.app (.tproj 0) [.inp 24]]], .app (.bin .sub) [.app (.mm true) [.inp 13, .inp 15], .inp 18]]], .bool false]]] <|
     .cond (.app .pick [.app .pick [.app (.bin .geq) [.inp 18, .app (.mm true) [.inp 13, .inp 15]], .app (.un .not) [.inp 26], .bool false], .bool true, .app .pick [.app (.bin .lss) [.inp 18, .app (.mm true) [.inp 13, .inp 15]], .app .pick [.app .pick [.app (.bin .neq) [.app (.part 0 1 false) [.app (.tproj 0) [.inp 24]], .inp 11], .bool true, .app (.bin .neq) [.app (.part 3 1 false) [.app (.tproj 0) [.inp 24]], .inp 14]], .bool true, .app (.bin .neq) [.app (.mm true) [.app (.part 2 1 false) [.app (.tproj 0) [.inp 24]], .app (.part 4 1 false) [.app (.tproj 0) [.inp 24]]], .app (.bin .sub) [.app (.mm true) [.inp 13, .inp 15], .inp 18]]], .bool false]])
     (.ret (.bool false))
     (.seg [.chk [] (.isAgg 5) [.agg [.app (.part 0 1 false) [.app (.tproj 0) [.inp 24]], .app (.part 1 1 false) [.app (.tproj 0) [.inp 24]], .app (.part 2 1 false) [.app (.tproj 0) [.inp 24]], .app (.part 3 1 false) [.app (.tproj 0) [.inp 24]], .app (.part 4 1 false) [.app (.tproj 0) [.inp 24]]]]] <|
      .seg [.chk [] (.bin .add) [.inp 18, .int .i64 1]] <|
      .again 0 [.app (.bin .add) [.inp 18, .int .i64 1], .app (.part 0 1 false) [.app (.tproj 0) [.inp 24]], .app (.part 1 1 false) [.app (.tproj 0) [.inp 24]], .app (.part 2 1 false) [.app (.tproj 0) [.inp 24]], .app (.part 3 1 false) [.app (.tproj 0) [.inp 24]], .app (.part 4 1 false) [.app (.tproj 0) [.inp 24]]])))
   (.seg [.call 24 [] 9 [] false] <|
    .ret (.inp 24)))
theorem run6 : runF E 6 [.agg [.inp 0, .inp 1, .inp 2, .inp 3, .inp 4, .inp 5, .inp 6, .inp 7, .inp 8, .inp 9, .inp 10], .agg [.inp 11, .inp 12, .inp 13, .inp 14, .inp 15]] 16 = rt6 := by kernel_rfl


end Go.Lb.C25

namespace Go.Lb.C25
open Go Go.Lb Go.Proofs Go.RowKit

def Dok (d : Desk) : Prop := d.vias.length ≤ 4294967295 ∧ 0 ≤ d.mode
theorem press_ok {l : Lay} {d : Desk} (h : Dok d) (p : Pr) : Dok (press l d p).1 ∧ (press l d p).2.length ≤ 1 := by
  obtain ⟨h1, h2⟩ := h
  unfold press
  split
  · split
    · exact ⟨⟨by simp, by simp only; omega⟩, by simp⟩
    · split
      · split
        · exact ⟨⟨by simp, by simp⟩, by simp⟩
        · exact ⟨⟨by simp [newDesk], by simp [newDesk]⟩, by simp⟩
      · split
        · split
          · rename_i h; exact ⟨⟨by simp; omega, h2⟩, by simp⟩
          · exact ⟨⟨h1, h2⟩, by simp⟩
        · split
          · split
            · exact ⟨⟨by simp [newDesk], by simp [newDesk]⟩, by simp⟩
            · exact ⟨⟨h1, h2⟩, by simp⟩
          · exact ⟨⟨h1, h2⟩, by simp⟩
  · exact ⟨⟨h1, h2⟩, by simp⟩

def allStep (l : Lay) (s : Desk × List Deed) (p : Pr) : Desk × List Deed := ((press l s.1 p).1, s.2 ++ (press l s.1 p).2)
def all (l : Lay) (d : Desk) (ps : List Pr) : Desk × List Deed := ps.foldl (allStep l) (d, [])
theorem all_take {l : Lay} {d : Desk} {ps : List Pr} {i : Nat} (h : i < ps.length) : all l d (ps.take (i + 1)) = allStep l (all l d (ps.take i)) ps[i] := by
  unfold all
  rw [List.take_add_one, List.getElem?_eq_getElem h, List.foldl_append]; rfl
theorem all_ok {l : Lay} {d : Desk} (hd : Dok d) {ps : List Pr} : ∀ i, i ≤ ps.length → Dok (all l d (ps.take i)).1 ∧ (all l d (ps.take i)).2.length ≤ i := by
  intro i
  induction i with
  | zero => intro _; exact ⟨hd, by simp [all]⟩
  | succ i ih =>
    intro h
    obtain ⟨h1, h2⟩ := ih (by omega)
    rw [all_take (by omega)]
    have := press_ok (l := l) h1 (ps[i])
    refine ⟨this.1, ?_⟩
    simp [allStep]; omega

def prs (ps : List Pr) : AV := .sl (ps.map Pr.av)
theorem prs_pure (ps : List Pr) : (prs ps).pure = true := by
  have : ∀ xs : List Pr, AV.pureAll (xs.map Pr.av) = true := by
    intro xs
    induction xs with
    | nil => rfl
    | cons y ys ih => simp [AV.pureAll, AV.pure, ih]
  simp [prs, AV.pure, this]

theorem c15 (l : Lay) (hl : l.ok) (d : Desk) (hd : Dok d) (ps : List Pr) (hps : ps.length ≤ 2147483648) : C 15 [l.av, d.av, prs ps] (pressAv (all l d ps)) := by
  refine ctr (l.cells ++ d.cells ++ [prs ps]) run15 rfl (by simp [pureAll_append, hl.1, AV.pureAll, prs_pure]) (press_pure _) ?_ rfl
  unfold rt15
  have hd1 := hd.1
  simp [Lay.cells, Desk.cells]
  refine RTwp_call0 (c29 d (by omega)) (by simp) ?_
  simp [Desk.cells]
  refine RTwp_loop rfl (fun vs => ∃ i : Nat, i ≤ ps.length ∧ vs = deedsAv (all l d (ps.take i)).2 :: I i :: (all l d (ps.take i)).1.cells) (fun vs => match vs with | _ :: .int _ i :: _ => ps.length - i.toNat | _ => 0) ⟨0, by simp, by simp [all, deedsAv, Desk.cells]⟩ ?_
  rintro vs - ⟨i, hi, rfl⟩
  have hok := all_ok (l := l) hd i hi
  generalize hs : all l d (ps.take i) = s at hok
  simp [Desk.cells, prs]
  refine ⟨fun hlt => ?_, fun hge => ?_⟩
  · have hw : IntKind.i64.wrap ((i : Int) + 1) = ((i + 1 : Nat) : Int) := by rw [wrap_i] <;> omega
    have hpi : (Option.map Pr.av ps[i]?).getD AV.undef = (ps[i]).av := by rw [List.getElem?_eq_getElem hlt]; rfl
    simp [hpi, hlt, Pr.cells]
    refine RTwp_call0 (r := pressAv (press l s.1 ps[i])) ?_ (by simp) ?_
    · have h := c11 l hl s.1 hok.1.1 ps[i]
      simp [hpi, Pr.cells]
      exact h
    have hp := press_ok (l := l) hok.1 ps[i]
    have hn : all l d (ps.take (i + 1)) = ((press l s.1 ps[i]).1, s.2 ++ (press l s.1 ps[i]).2) := by rw [all_take hlt, hs]; rfl
    generalize press l s.1 ps[i] = y at hp hn
    simp [pressAv, deedsAv, Desk.cells, hw]
    refine ⟨fun e _ => ⟨rfl, rfl⟩, by omega, ⟨i + 1, by omega, ?_⟩, by omega⟩
    rw [hn]
    simp
  · have : ps.take i = ps := List.take_of_length_le hge
    rw [this] at hs
    simp [hs, pressAv, deedsAv, Desk.cells]

theorem c14 (l : Lay) (hl : l.ok) (d : Desk) (hd : Dok d) (ps : List Pr) (hps : ps.length ≤ 2147483648) : C 14 [l.av, d.av, prs ps] (pressAv (all l d ps)) := by
  refine ctr (l.cells ++ d.cells ++ [prs ps]) run14 rfl (by simp [pureAll_append, hl.1, AV.pureAll, prs_pure]) (press_pure _) ?_ rfl
  unfold rt14
  have hd1 := hd.1
  simp [Lay.cells, Desk.cells]
  refine RTwp_call0 (c21 d (by omega)) (by simp) ?_
  simp [Desk.cells, prs]
  refine RTwp_loop rfl (fun vs => ∃ i : Nat, i ≤ ps.length ∧ vs = I i :: (all l d (ps.take i)).1.cells ++ [deedsAv (all l d (ps.take i)).2]) (fun vs => match vs with | .int _ i :: _ => ps.length - i.toNat | _ => 0) ⟨0, by simp, by simp [all, deedsAv, Desk.cells]⟩ ?_
  rintro vs - ⟨i, hi, rfl⟩
  have hok := all_ok (l := l) hd i hi
  generalize hs : all l d (ps.take i) = s at hok
  simp [Desk.cells]
  refine ⟨fun hlt => ?_, fun hge => ?_⟩
  · have hw : IntKind.i64.wrap ((i : Int) + 1) = ((i + 1 : Nat) : Int) := by rw [wrap_i] <;> omega
    have hpi : (Option.map Pr.av ps[i]?).getD AV.undef = (ps[i]).av := by rw [List.getElem?_eq_getElem hlt]; rfl
    simp [hpi, hlt, Pr.cells]
    refine RTwp_call0 (r := pressAv (press l s.1 ps[i])) ?_ (by simp) ?_
    · have h := c10 l hl s.1 hok.1.1 hok.1.2 ps[i]
      simp [hpi, Pr.cells]
      exact h
    have hp := press_ok (l := l) hok.1 ps[i]
    have hn : all l d (ps.take (i + 1)) = ((press l s.1 ps[i]).1, s.2 ++ (press l s.1 ps[i]).2) := by rw [all_take hlt, hs]; rfl
    generalize press l s.1 ps[i] = y at hp hn
    simp [pressAv, deedsAv, Desk.cells]
    refine RTwp_loop rfl (fun us => ∃ j : Nat, j ≤ y.2.length ∧ us = [I j, deedsAv (s.2 ++ y.2.take j)]) (fun us => match us with | .int _ j :: _ => y.2.length - j.toNat | _ => 0) ⟨0, by simp, by simp [deedsAv]⟩ ?_
    rintro us - ⟨j, hj, rfl⟩
    simp [deedsAv]
    refine ⟨fun hjl => ?_, fun hjg => ?_⟩
    · have hw2 : IntKind.i64.wrap ((j : Int) + 1) = ((j + 1 : Nat) : Int) := by rw [wrap_i] <;> omega
      have hyj : (Option.map Deed.av y.2[j]?).getD AV.undef = (y.2[j]).av := by rw [List.getElem?_eq_getElem hjl]; rfl
      simp [hyj, hjl, Deed.cells, hw2]
      refine ⟨by omega, ⟨j + 1, by omega, by simp, ?_⟩, by omega⟩
      rw [List.take_add_one]
      congr 1
      rw [List.getElem?_map, List.getElem?_eq_getElem hjl]; rfl
    · have htk : y.2.take j = y.2 := List.take_of_length_le hjg
      have htk2 : List.take j (List.map Deed.av y.2) = List.map Deed.av y.2 := by rw [← List.map_take, htk]
      simp [Desk.cells, hw]
      refine ⟨⟨i + 1, by omega, ?_⟩, by omega⟩
      rw [hn, htk2]
      simp
  · have : ps.take i = ps := List.take_of_length_le hge
    rw [this] at hs
    simp [hs, pressAv, deedsAv, Desk.cells]
end Go.Lb.C25
