/- A train's tick, as the program has it. -/
import Derived.Test.YtkcpgfjlmicnnaaGreatDoorCh4
import Derived.Test.YtkcpgfjlmicnnaaGreatDoorCh3
import Derived.Test.YtkcpgfjlmicnnaaGreatDoorCh1
set_option linter.unusedSimpArgs false
set_option linter.unusedVariables false
namespace Go.Lb.LK
open Go Go.Lb Go.Proofs Go.RowKit
set_option maxHeartbeats 4000000 in
theorem zj2 (l : Lay) (im : Img) (hi : im.ok) (h : Hd) (hl : h.len) (hs : 0 ≤ h.stage ∧ h.stage ≤ 255) : C f_pass_Run [l.av, im.av, h.av] (runS l im h).av := by
 refine ctr (l.cells ++ im.cells ++ h.cells) run_pass_Run rfl (lih l im h) (by simp [AV.pure]) ?_ rfl
 unfold rt_pass_Run
 simp [Lay.cells, Img.cells, Hd.cells]
 refine call (zen h hl) (by simp [Hd.cells]) (by simp) ?_
 simp [Hd.av, Hd.cells]
 have hll := hl.1
 have hwn : IntKind.i64.wrap ((h.path.steps.length : Int) - 1) = (h.path.steps.length : Int) - 1 := by rw [zaB] <;> omega
 refine call (zg4 l im h hl hs) (by simp [Lay.cells, Img.cells, Hd.cells]) (by simp) ?_
 simp
 refine ⟨fun ha => by rw [zfQ ha]; simp, fun ha => ?_⟩
 rw [zgM ha]
 simp only [zcy, Bool.or_eq_false_iff, Bool.not_eq_false'] at ha
 obtain ⟨⟨a1, a2, a3, a4, a5, a6, a7⟩, ⟨d1, d2, d3, d4⟩, _⟩ := zcd ha.1
 obtain ⟨g, hg⟩ : ∃ g : Nat, h.gone = g := ⟨h.gone.toNat, by omega⟩
 refine zae rfl (fun vs => ∃ k : Nat, g ≤ k ∧ k ≤ h.n ∧ vs = I k :: zcI (wrM l im h k)) (fun vs => match vs with | .int _ j :: _ => h.n - j.toNat | _ => 0) ⟨g, by omega, by unfold Hd.n; omega, by simp [zjZ (l := l) (im := im) (h := h) (m := g) (by omega), hg, zcI]⟩ ?_
 rintro vs - ⟨k, hk1, hk2, rfl⟩
 have hn : h.n = h.path.steps.length := rfl
 simp only [zcI, List.cons_append, List.nil_append]
 refine zdW.2 ⟨fun _ => by simp, zc8.2 (zdW.2 ⟨fun _ => by simp, zc8.2 (zgg.2 ⟨decide ((k : Int) < h.path.steps.length), by simp, fun hlt => ?_, fun hge => ?_⟩)⟩)⟩
 ·have hlt : k < h.path.steps.length := by simpa using hlt
  have hAk := zdj (wrM l im h k) (i := k) (z := (k : Int)) rfl (by omega)
  have hAk1 := fun hk0 : ¬ k = 0 => zdj (wrM l im h k) (i := k - 1) (z := (k : Int) - 1) (by omega) (by omega)
  have hwk1 : ¬ k = 0 → IntKind.i64.wrap ((k : Int) - 1) = (k : Int) - 1 := fun _ => by rw [zaB] <;> omega
  have hw := zaf (i := k) (by omega)
  have hat := zoP (l := l) (im := im) (h := h) (k := k) (by omega) (by omega)
  have hkk : wrM l im h k k = h.was k := by simp [wrM]
  have hpw : ¬ k = 0 → wrM l im h k (k - 1) = wr l im h (k - 1) := fun hk0 => by unfold wrM; rw [if_pos (by omega)]
  simp [hlt, Step.cells, hAk, hkk, -zaa]
  cases hwas : h.was k
  ·simp
   repeat refine ⟨by omega, ?_⟩
   refine call (zeN l im hi (zaL h k)) (by simp [Lay.cells, Img.cells, hlt, Step.cells, za3]) (by simp) ?_
   by_cases hk0 : k = 0
   ·have hkt : (k = 0) = True := eq_true hk0
    have hat2 : wr l im h k = told l im (zaL h k) := by rw [hat, hwas]; simp [hk0]
    simp [hkt, hw, -zaa]
    refine ⟨by omega, ⟨k + 1, by omega, by omega, by omega, ?_⟩, by omega⟩
    simp only [zfl, hat2, and_self]
   ·have hat2 : wr l im h k = (told l im (zaL h k) && wr l im h (k - 1)) := by rw [hat, hwas]; simp [hk0]
    simp [hk0, hwk1 hk0, hAk1 hk0, hpw hk0, hw, -zaa]
    repeat refine ⟨by intros; omega, ?_⟩
    refine ⟨⟨k + 1, by omega, by omega, by omega, ?_⟩, by omega⟩
    simp only [zfl, hat2, and_self]
  ·have hat2 : wr l im h k = true := by rw [hat, hwas]; rfl
   simp [hw, -zaa]
   repeat refine ⟨by intros; omega, ?_⟩
   refine ⟨⟨k + 1, by omega, by omega, by omega, ?_⟩, by omega⟩
   simp only [zlY hat2]
   simp [eq_comm]
 ·have hge : h.path.steps.length ≤ k := by simpa using hge
  have hkn : k = h.n := by omega
  subst hkn
  rw [zlX (Nat.le_refl _)]
  have hwn : IntKind.i64.wrap ((h.path.steps.length : Int) - 1) = (h.path.steps.length : Int) - 1 := by rw [zaB] <;> omega
  refine zdW.2 ⟨fun _ => by simp [AV.kinds], zc8.2 (zkF.2 (zc8.2 ?_))⟩
  rw [zk3]
  case h => rfl
  refine zgg.2 ⟨_, rfl, fun hb => ?_, fun hb => ?_⟩
  ·clear hb
   have hrs : h.gone.toNat = g := by omega
   simp only [hrs]
   have hAn := zdj (wr l im h) (i := h.path.steps.length - 1) (z := (h.path.steps.length : Int) - 1) (by omega) (by omega)
   rw [show wr l im h (h.path.steps.length - 1) = zkg l im h from rfl] at hAn
   have hgo : goX l im h g = goX l im h g := rfl
   by_cases hlt : g < h.path.steps.length
   ·have hAk := zdj (wr l im h) (i := g) (z := (g : Int)) rfl (by omega)
    have hAk1 := fun (hk : ¬ g = h.path.steps.length - 1) => zdj (wr l im h) (i := g + 1) (z := (g : Int) + 1) rfl (by omega)
    have hw : IntKind.i64.wrap ((g : Int) + 1) = (g : Int) + 1 := by rw [zaB] <;> omega
    have hle : ((g : Int) ≤ (h.path.steps.length : Int) - 1) = True := by simp only [eq_iff_iff, iff_true]; omega
    have hgt : ((h.path.steps.length : Int) - 1 < (g : Int)) = False := by simp only [eq_iff_iff, iff_false]; omega
    have hkn2 : ¬ g = h.path.steps.length := by omega
    have hcan : zaW l im h g = (wr l im h g && ((decide (g = h.path.steps.length - 1) || wr l im h (g + 1)) && !zai l im (zaL h g))) := by
     have e : decide (g + 1 = h.path.steps.length) = decide (g = h.path.steps.length - 1) := decide_eq_decide.2 (by omega)
     unfold zaW
     rw [hn, e]; simp [hlt]
    have hstop : zaW l im h g = false → goX l im h g = g := fun hc => by rw [hgo]; exact za9 hc
    have hgoon : zaW l im h g = true → goX l im h g = goX l im h (g + 1) := fun hc => by rw [hgo]; exact zfz hc
    by_cases hkn : g = h.path.steps.length - 1
    ·have heq : ((g : Int) = (h.path.steps.length : Int) - 1) = True := by simp only [eq_iff_iff, iff_true]; omega
     have hdk : decide (g = h.path.steps.length - 1) = true := decide_eq_true hkn
     rw [hdk] at hcan
     cases hwk : wr l im h g
     ·have hst := hstop (by rw [hcan, hwk]; rfl)
      simp [hg, hwn, hle, heq, hgt, hAk, hAn, hwk, hlt, -zaa]
      repeat refine And.intro (by omega) ?_
      refine ⟨fun hL => ?_, fun hL => ?_⟩
      ·refine call (zad h.timer) (by simp) (by simp) ?_
       simp [hL, hst, hrs, hwn, hgt, opnS, zag, hn, hkn2, Bool.or_assoc, Bool.or_comm, -zaa]
      ·simp [hL, hst, hrs, hwn, hgt, opnS, zag, hn, hkn2, Bool.or_comm, -zaa]
     ·simp [hg, hwn, hle, heq, hgt, hAk, hAn, hwk, hlt, Step.cells, -zaa]
      repeat refine And.intro (by omega) ?_
      refine call (zak l im hi (zaL h g)) (by simp [Lay.cells, Img.cells, hlt, Step.cells, za3]) (by simp) ?_
      cases hoc : zai l im (zaL h g)
      ·have hgo3 := hgoon (by rw [hcan, hwk, hoc]; rfl)
       simp [hg, hwn, hle, heq, hgt, hAk, hAn, hwk, hlt, hw, -zaa]
       repeat refine And.intro (by omega) ?_
       have hgo4 := hgo3
       have hwg : IntKind.i64.wrap ((g : Int) + 1) = ((g + 1 : Nat) : Int) := by rw [zaB] <;> omega
       have hlt0 := hlt
       clear hgo3 hwk hAk hAk1 hcan hstop hgoon hle hgt heq hw hdk hkn hkn2 hgo hoc hlt
       refine zae rfl (fun vs => ∃ (k : Nat) (a b c d e f p q r s t z : AV), g ≤ k ∧ k ≤ h.n ∧ vs = [a, b, c, d, e, f, p, q, r, s, t, z] ∧ z = I k ∧ goX l im h g = goX l im h k) (fun vs => match vs with | [_, _, _, _, _, _, _, _, _, _, _, .int _ j] => h.n + 1 - j.toNat | _ => 0) ⟨g + 1, _, _, _, _, _, _, _, _, _, _, _, _, by omega, by omega, rfl, by simp [hg, hwg], hgo4⟩ ?_
       rintro vs - ⟨k, a, b, c, d, e, f, p, q, r, s, t, _, hk1, hk2, rfl, rfl, hgo⟩
       simp only [List.cons_append, List.nil_append]
       by_cases hlt : k < h.path.steps.length
       ·have hAk := zdj (wr l im h) (i := k) (z := (k : Int)) rfl (by omega)
        have hAk1 := fun (hk : ¬ k = h.path.steps.length - 1) => zdj (wr l im h) (i := k + 1) (z := (k : Int) + 1) rfl (by omega)
        have hw : IntKind.i64.wrap ((k : Int) + 1) = (k : Int) + 1 := by rw [zaB] <;> omega
        have hle : ((k : Int) ≤ (h.path.steps.length : Int) - 1) = True := by simp only [eq_iff_iff, iff_true]; omega
        have hgt : ((h.path.steps.length : Int) - 1 < (k : Int)) = False := by simp only [eq_iff_iff, iff_false]; omega
        have hkn2 : ¬ k = h.path.steps.length := by omega
        have hcan : zaW l im h k = (wr l im h k && ((decide (k = h.path.steps.length - 1) || wr l im h (k + 1)) && !zai l im (zaL h k))) := by
         have e : decide (k + 1 = h.path.steps.length) = decide (k = h.path.steps.length - 1) := decide_eq_decide.2 (by omega)
         unfold zaW
         rw [hn, e]; simp [hlt]
        have hstop : zaW l im h k = false → goX l im h g = k := fun hc => by rw [hgo]; exact za9 hc
        have hgoon : zaW l im h k = true → goX l im h g = goX l im h (k + 1) := fun hc => by rw [hgo]; exact zfz hc
        by_cases hkn : k = h.path.steps.length - 1
        ·have heq : ((k : Int) = (h.path.steps.length : Int) - 1) = True := by simp only [eq_iff_iff, iff_true]; omega
         have hdk : decide (k = h.path.steps.length - 1) = true := decide_eq_true hkn
         rw [hdk] at hcan
         cases hwk : wr l im h k
         ·have hst := hstop (by rw [hcan, hwk]; rfl)
          simp [hg, hwn, hle, heq, hgt, hAk, hAn, hwk, hlt, -zaa]
          repeat refine And.intro (by omega) ?_
          refine ⟨fun hL => ?_, fun hL => ?_⟩
          ·refine call (zad h.timer) (by simp) (by simp) ?_
           simp [hL, hst, hrs, hwn, hgt, opnS, zag, hn, hkn2, Bool.or_assoc, Bool.or_comm, -zaa]
          ·simp [hL, hst, hrs, hwn, hgt, opnS, zag, hn, hkn2, Bool.or_comm, -zaa]
         ·simp [hg, hwn, hle, heq, hgt, hAk, hAn, hwk, hlt, Step.cells, -zaa]
          repeat refine And.intro (by omega) ?_
          refine call (zak l im hi (zaL h k)) (by simp [Lay.cells, Img.cells, hlt, Step.cells, za3]) (by simp) ?_
          cases hoc : zai l im (zaL h k)
          ·have hgo3 := hgoon (by rw [hcan, hwk, hoc]; rfl)
           simp [hg, hwn, hle, heq, hgt, hAk, hAn, hwk, hlt, hw, -zaa]
           repeat refine And.intro (by omega) ?_
           refine ⟨⟨k + 1, by omega, by omega, ?_⟩, by omega⟩
           simp [hgo3]
          ·have hst := hstop (by rw [hcan, hwk, hoc]; rfl)
           simp [hg, hwn, hle, heq, hgt, hAk, hAn, hwk, hlt, -zaa]
           repeat refine And.intro (by omega) ?_
           refine ⟨fun hL => ?_, fun hL => ?_⟩
           ·refine call (zad h.timer) (by simp) (by simp) ?_
            simp [hL, hst, hrs, hwn, hgt, opnS, zag, hn, hkn2, Bool.or_assoc, Bool.or_comm, -zaa]
           ·simp [hL, hst, hrs, hwn, hgt, opnS, zag, hn, hkn2, Bool.or_comm, -zaa]
        ·have heq : ((k : Int) = (h.path.steps.length : Int) - 1) = False := by simp only [eq_iff_iff, iff_false]; omega
         have hdk : decide (k = h.path.steps.length - 1) = false := decide_eq_false hkn
         rw [hdk, Bool.false_or] at hcan
         cases hwk : wr l im h k
         ·have hst := hstop (by rw [hcan, hwk]; rfl)
          simp [hg, hwn, hle, heq, hgt, hAk, hAk1 hkn, hAn, hwk, hlt, hw, -zaa]
          repeat refine And.intro (by omega) ?_
          refine ⟨fun hL => ?_, fun hL => ?_⟩
          ·refine call (zad h.timer) (by simp) (by simp) ?_
           simp [hL, hst, hrs, hwn, hgt, opnS, zag, hn, hkn2, Bool.or_assoc, Bool.or_comm, -zaa]
          ·simp [hL, hst, hrs, hwn, hgt, opnS, zag, hn, hkn2, Bool.or_comm, -zaa]
         ·cases hwk2 : wr l im h (k + 1)
          ·have hst := hstop (by rw [hcan, hwk, hwk2]; rfl)
           simp [hg, hwn, hle, heq, hgt, hAk, hAk1 hkn, hAn, hwk, hwk2, hlt, hw, -zaa]
           repeat refine And.intro (by omega) ?_
           refine ⟨fun hL => ?_, fun hL => ?_⟩
           ·refine call (zad h.timer) (by simp) (by simp) ?_
            simp [hL, hst, hrs, hwn, hgt, opnS, zag, hn, hkn2, Bool.or_assoc, Bool.or_comm, -zaa]
           ·simp [hL, hst, hrs, hwn, hgt, opnS, zag, hn, hkn2, Bool.or_comm, -zaa]
          ·simp [hg, hwn, hle, heq, hgt, hAk, hAk1 hkn, hAn, hwk, hwk2, hlt, hw, Step.cells, -zaa]
           repeat refine And.intro (by omega) ?_
           refine call (zak l im hi (zaL h k)) (by simp [Lay.cells, Img.cells, hlt, Step.cells, za3]) (by simp) ?_
           cases hoc : zai l im (zaL h k)
           ·have hgo3 := hgoon (by rw [hcan, hwk, hwk2, hoc]; rfl)
            simp [hg, hwn, hle, heq, hgt, hAk, hAk1 hkn, hAn, hwk, hwk2, hlt, hw, -zaa]
            repeat refine And.intro (by omega) ?_
            refine ⟨⟨k + 1, by omega, by omega, ?_⟩, by omega⟩
            simp [hgo3]
           ·have hst := hstop (by rw [hcan, hwk, hwk2, hoc]; rfl)
            simp [hg, hwn, hle, heq, hgt, hAk, hAk1 hkn, hAn, hwk, hwk2, hlt, hw, -zaa]
            repeat refine And.intro (by omega) ?_
            refine ⟨fun hL => ?_, fun hL => ?_⟩
            ·refine call (zad h.timer) (by simp) (by simp) ?_
             simp [hL, hst, hrs, hwn, hgt, opnS, zag, hn, hkn2, Bool.or_assoc, Bool.or_comm, -zaa]
            ·simp [hL, hst, hrs, hwn, hgt, opnS, zag, hn, hkn2, Bool.or_comm, -zaa]
       ·have hkn3 : k = h.path.steps.length := by omega
        have hle : ((k : Int) ≤ (h.path.steps.length : Int) - 1) = False := by simp only [eq_iff_iff, iff_false]; omega
        have hgt : ((h.path.steps.length : Int) - 1 < (k : Int)) = True := by simp only [eq_iff_iff, iff_true]; omega
        have heq : ((k : Int) = (h.path.steps.length : Int) - 1) = False := by simp only [eq_iff_iff, iff_false]; omega
        have hkn2 : (k = h.path.steps.length) = True := eq_true hkn3
        have hw : IntKind.i64.wrap ((k : Int) + 1) = (k : Int) + 1 := by rw [zaB] <;> omega
        have hst : goX l im h g = k := by
         rw [hgo]; refine za9 ?_
         unfold zaW; rw [hn]; simp [hlt]
        simp [hg, hwn, hle, heq, hgt, hAn, hw, -zaa]
        repeat refine And.intro (by omega) ?_
        refine ⟨fun hL => ?_, fun hL => ?_⟩
        ·refine call (zad h.timer) (by simp) (by simp) ?_
         simp [hL, hst, hrs, hwn, hgt, opnS, zag, hn, hkn2, Bool.or_assoc, Bool.or_comm, -zaa]
        ·simp [hL, hst, hrs, hwn, hgt, opnS, zag, hn, hkn2, Bool.or_comm, -zaa]
      ·have hst := hstop (by rw [hcan, hwk, hoc]; rfl)
       simp [hg, hwn, hle, heq, hgt, hAk, hAn, hwk, hlt, -zaa]
       repeat refine And.intro (by omega) ?_
       refine ⟨fun hL => ?_, fun hL => ?_⟩
       ·refine call (zad h.timer) (by simp) (by simp) ?_
        simp [hL, hst, hrs, hwn, hgt, opnS, zag, hn, hkn2, Bool.or_assoc, Bool.or_comm, -zaa]
       ·simp [hL, hst, hrs, hwn, hgt, opnS, zag, hn, hkn2, Bool.or_comm, -zaa]
    ·have heq : ((g : Int) = (h.path.steps.length : Int) - 1) = False := by simp only [eq_iff_iff, iff_false]; omega
     have hdk : decide (g = h.path.steps.length - 1) = false := decide_eq_false hkn
     rw [hdk, Bool.false_or] at hcan
     cases hwk : wr l im h g
     ·have hst := hstop (by rw [hcan, hwk]; rfl)
      simp [hg, hwn, hle, heq, hgt, hAk, hAk1 hkn, hAn, hwk, hlt, hw, -zaa]
      repeat refine And.intro (by omega) ?_
      refine ⟨fun hL => ?_, fun hL => ?_⟩
      ·refine call (zad h.timer) (by simp) (by simp) ?_
       simp [hL, hst, hrs, hwn, hgt, opnS, zag, hn, hkn2, Bool.or_assoc, Bool.or_comm, -zaa]
      ·simp [hL, hst, hrs, hwn, hgt, opnS, zag, hn, hkn2, Bool.or_comm, -zaa]
     ·cases hwk2 : wr l im h (g + 1)
      ·have hst := hstop (by rw [hcan, hwk, hwk2]; rfl)
       simp [hg, hwn, hle, heq, hgt, hAk, hAk1 hkn, hAn, hwk, hwk2, hlt, hw, -zaa]
       repeat refine And.intro (by omega) ?_
       refine ⟨fun hL => ?_, fun hL => ?_⟩
       ·refine call (zad h.timer) (by simp) (by simp) ?_
        simp [hL, hst, hrs, hwn, hgt, opnS, zag, hn, hkn2, Bool.or_assoc, Bool.or_comm, -zaa]
       ·simp [hL, hst, hrs, hwn, hgt, opnS, zag, hn, hkn2, Bool.or_comm, -zaa]
      ·simp [hg, hwn, hle, heq, hgt, hAk, hAk1 hkn, hAn, hwk, hwk2, hlt, hw, Step.cells, -zaa]
       repeat refine And.intro (by omega) ?_
       refine call (zak l im hi (zaL h g)) (by simp [Lay.cells, Img.cells, hlt, Step.cells, za3]) (by simp) ?_
       cases hoc : zai l im (zaL h g)
       ·have hgo3 := hgoon (by rw [hcan, hwk, hwk2, hoc]; rfl)
        simp [hg, hwn, hle, heq, hgt, hAk, hAk1 hkn, hAn, hwk, hwk2, hlt, hw, -zaa]
        repeat refine And.intro (by omega) ?_
        have hgo4 := hgo3
        have hwg : IntKind.i64.wrap ((g : Int) + 1) = ((g + 1 : Nat) : Int) := by rw [zaB] <;> omega
        have hlt0 := hlt
        clear hgo3 hwk hAk hAk1 hcan hstop hgoon hle hgt heq hw hdk hkn hkn2 hgo hoc hlt
        refine zae rfl (fun vs => ∃ (k : Nat) (a b c d e f p q r s t z : AV), g ≤ k ∧ k ≤ h.n ∧ vs = [a, b, c, d, e, f, p, q, r, s, t, z] ∧ z = I k ∧ goX l im h g = goX l im h k) (fun vs => match vs with | [_, _, _, _, _, _, _, _, _, _, _, .int _ j] => h.n + 1 - j.toNat | _ => 0) ⟨g + 1, _, _, _, _, _, _, _, _, _, _, _, _, by omega, by omega, rfl, by simp [hg, hwg], hgo4⟩ ?_
        rintro vs - ⟨k, a, b, c, d, e, f, p, q, r, s, t, _, hk1, hk2, rfl, rfl, hgo⟩
        simp only [List.cons_append, List.nil_append]
        by_cases hlt : k < h.path.steps.length
        ·have hAk := zdj (wr l im h) (i := k) (z := (k : Int)) rfl (by omega)
         have hAk1 := fun (hk : ¬ k = h.path.steps.length - 1) => zdj (wr l im h) (i := k + 1) (z := (k : Int) + 1) rfl (by omega)
         have hw : IntKind.i64.wrap ((k : Int) + 1) = (k : Int) + 1 := by rw [zaB] <;> omega
         have hle : ((k : Int) ≤ (h.path.steps.length : Int) - 1) = True := by simp only [eq_iff_iff, iff_true]; omega
         have hgt : ((h.path.steps.length : Int) - 1 < (k : Int)) = False := by simp only [eq_iff_iff, iff_false]; omega
         have hkn2 : ¬ k = h.path.steps.length := by omega
         have hcan : zaW l im h k = (wr l im h k && ((decide (k = h.path.steps.length - 1) || wr l im h (k + 1)) && !zai l im (zaL h k))) := by
          have e : decide (k + 1 = h.path.steps.length) = decide (k = h.path.steps.length - 1) := decide_eq_decide.2 (by omega)
          unfold zaW
          rw [hn, e]; simp [hlt]
         have hstop : zaW l im h k = false → goX l im h g = k := fun hc => by rw [hgo]; exact za9 hc
         have hgoon : zaW l im h k = true → goX l im h g = goX l im h (k + 1) := fun hc => by rw [hgo]; exact zfz hc
         by_cases hkn : k = h.path.steps.length - 1
         ·have heq : ((k : Int) = (h.path.steps.length : Int) - 1) = True := by simp only [eq_iff_iff, iff_true]; omega
          have hdk : decide (k = h.path.steps.length - 1) = true := decide_eq_true hkn
          rw [hdk] at hcan
          cases hwk : wr l im h k
          ·have hst := hstop (by rw [hcan, hwk]; rfl)
           simp [hg, hwn, hle, heq, hgt, hAk, hAn, hwk, hlt, -zaa]
           repeat refine And.intro (by omega) ?_
           refine ⟨fun hL => ?_, fun hL => ?_⟩
           ·refine call (zad h.timer) (by simp) (by simp) ?_
            simp [hL, hst, hrs, hwn, hgt, opnS, zag, hn, hkn2, Bool.or_assoc, Bool.or_comm, -zaa]
           ·simp [hL, hst, hrs, hwn, hgt, opnS, zag, hn, hkn2, Bool.or_comm, -zaa]
          ·simp [hg, hwn, hle, heq, hgt, hAk, hAn, hwk, hlt, Step.cells, -zaa]
           repeat refine And.intro (by omega) ?_
           refine call (zak l im hi (zaL h k)) (by simp [Lay.cells, Img.cells, hlt, Step.cells, za3]) (by simp) ?_
           cases hoc : zai l im (zaL h k)
           ·have hgo3 := hgoon (by rw [hcan, hwk, hoc]; rfl)
            simp [hg, hwn, hle, heq, hgt, hAk, hAn, hwk, hlt, hw, -zaa]
            repeat refine And.intro (by omega) ?_
            refine ⟨⟨k + 1, by omega, by omega, ?_⟩, by omega⟩
            simp [hgo3]
           ·have hst := hstop (by rw [hcan, hwk, hoc]; rfl)
            simp [hg, hwn, hle, heq, hgt, hAk, hAn, hwk, hlt, -zaa]
            repeat refine And.intro (by omega) ?_
            refine ⟨fun hL => ?_, fun hL => ?_⟩
            ·refine call (zad h.timer) (by simp) (by simp) ?_
             simp [hL, hst, hrs, hwn, hgt, opnS, zag, hn, hkn2, Bool.or_assoc, Bool.or_comm, -zaa]
            ·simp [hL, hst, hrs, hwn, hgt, opnS, zag, hn, hkn2, Bool.or_comm, -zaa]
         ·have heq : ((k : Int) = (h.path.steps.length : Int) - 1) = False := by simp only [eq_iff_iff, iff_false]; omega
          have hdk : decide (k = h.path.steps.length - 1) = false := decide_eq_false hkn
          rw [hdk, Bool.false_or] at hcan
          cases hwk : wr l im h k
          ·have hst := hstop (by rw [hcan, hwk]; rfl)
           simp [hg, hwn, hle, heq, hgt, hAk, hAk1 hkn, hAn, hwk, hlt, hw, -zaa]
           repeat refine And.intro (by omega) ?_
           refine ⟨fun hL => ?_, fun hL => ?_⟩
           ·refine call (zad h.timer) (by simp) (by simp) ?_
            simp [hL, hst, hrs, hwn, hgt, opnS, zag, hn, hkn2, Bool.or_assoc, Bool.or_comm, -zaa]
           ·simp [hL, hst, hrs, hwn, hgt, opnS, zag, hn, hkn2, Bool.or_comm, -zaa]
          ·cases hwk2 : wr l im h (k + 1)
           ·have hst := hstop (by rw [hcan, hwk, hwk2]; rfl)
            simp [hg, hwn, hle, heq, hgt, hAk, hAk1 hkn, hAn, hwk, hwk2, hlt, hw, -zaa]
            repeat refine And.intro (by omega) ?_
            refine ⟨fun hL => ?_, fun hL => ?_⟩
            ·refine call (zad h.timer) (by simp) (by simp) ?_
             simp [hL, hst, hrs, hwn, hgt, opnS, zag, hn, hkn2, Bool.or_assoc, Bool.or_comm, -zaa]
            ·simp [hL, hst, hrs, hwn, hgt, opnS, zag, hn, hkn2, Bool.or_comm, -zaa]
           ·simp [hg, hwn, hle, heq, hgt, hAk, hAk1 hkn, hAn, hwk, hwk2, hlt, hw, Step.cells, -zaa]
            repeat refine And.intro (by omega) ?_
            refine call (zak l im hi (zaL h k)) (by simp [Lay.cells, Img.cells, hlt, Step.cells, za3]) (by simp) ?_
            cases hoc : zai l im (zaL h k)
            ·have hgo3 := hgoon (by rw [hcan, hwk, hwk2, hoc]; rfl)
             simp [hg, hwn, hle, heq, hgt, hAk, hAk1 hkn, hAn, hwk, hwk2, hlt, hw, -zaa]
             repeat refine And.intro (by omega) ?_
             refine ⟨⟨k + 1, by omega, by omega, ?_⟩, by omega⟩
             simp [hgo3]
            ·have hst := hstop (by rw [hcan, hwk, hwk2, hoc]; rfl)
             simp [hg, hwn, hle, heq, hgt, hAk, hAk1 hkn, hAn, hwk, hwk2, hlt, hw, -zaa]
             repeat refine And.intro (by omega) ?_
             refine ⟨fun hL => ?_, fun hL => ?_⟩
             ·refine call (zad h.timer) (by simp) (by simp) ?_
              simp [hL, hst, hrs, hwn, hgt, opnS, zag, hn, hkn2, Bool.or_assoc, Bool.or_comm, -zaa]
             ·simp [hL, hst, hrs, hwn, hgt, opnS, zag, hn, hkn2, Bool.or_comm, -zaa]
        ·have hkn3 : k = h.path.steps.length := by omega
         have hle : ((k : Int) ≤ (h.path.steps.length : Int) - 1) = False := by simp only [eq_iff_iff, iff_false]; omega
         have hgt : ((h.path.steps.length : Int) - 1 < (k : Int)) = True := by simp only [eq_iff_iff, iff_true]; omega
         have heq : ((k : Int) = (h.path.steps.length : Int) - 1) = False := by simp only [eq_iff_iff, iff_false]; omega
         have hkn2 : (k = h.path.steps.length) = True := eq_true hkn3
         have hw : IntKind.i64.wrap ((k : Int) + 1) = (k : Int) + 1 := by rw [zaB] <;> omega
         have hst : goX l im h g = k := by
          rw [hgo]; refine za9 ?_
          unfold zaW; rw [hn]; simp [hlt]
         simp [hg, hwn, hle, heq, hgt, hAn, hw, -zaa]
         repeat refine And.intro (by omega) ?_
         refine ⟨fun hL => ?_, fun hL => ?_⟩
         ·refine call (zad h.timer) (by simp) (by simp) ?_
          simp [hL, hst, hrs, hwn, hgt, opnS, zag, hn, hkn2, Bool.or_assoc, Bool.or_comm, -zaa]
         ·simp [hL, hst, hrs, hwn, hgt, opnS, zag, hn, hkn2, Bool.or_comm, -zaa]
       ·have hst := hstop (by rw [hcan, hwk, hwk2, hoc]; rfl)
        simp [hg, hwn, hle, heq, hgt, hAk, hAk1 hkn, hAn, hwk, hwk2, hlt, hw, -zaa]
        repeat refine And.intro (by omega) ?_
        refine ⟨fun hL => ?_, fun hL => ?_⟩
        ·refine call (zad h.timer) (by simp) (by simp) ?_
         simp [hL, hst, hrs, hwn, hgt, opnS, zag, hn, hkn2, Bool.or_assoc, Bool.or_comm, -zaa]
        ·simp [hL, hst, hrs, hwn, hgt, opnS, zag, hn, hkn2, Bool.or_comm, -zaa]
   ·have hkn3 : g = h.path.steps.length := by omega
    have hle : ((g : Int) ≤ (h.path.steps.length : Int) - 1) = False := by simp only [eq_iff_iff, iff_false]; omega
    have hgt : ((h.path.steps.length : Int) - 1 < (g : Int)) = True := by simp only [eq_iff_iff, iff_true]; omega
    have heq : ((g : Int) = (h.path.steps.length : Int) - 1) = False := by simp only [eq_iff_iff, iff_false]; omega
    have hkn2 : (g = h.path.steps.length) = True := eq_true hkn3
    have hw : IntKind.i64.wrap ((g : Int) + 1) = (g : Int) + 1 := by rw [zaB] <;> omega
    have hst : goX l im h g = g := by
     rw [hgo]; refine za9 ?_
     unfold zaW; rw [hn]; simp [hlt]
    simp [hg, hwn, hle, heq, hgt, hAn, hw, -zaa]
    repeat refine And.intro (by omega) ?_
    refine ⟨fun hL => ?_, fun hL => ?_⟩
    ·refine call (zad h.timer) (by simp) (by simp) ?_
     simp [hL, hst, hrs, hwn, hgt, opnS, zag, hn, hkn2, Bool.or_assoc, Bool.or_comm, -zaa]
    ·simp [hL, hst, hrs, hwn, hgt, opnS, zag, hn, hkn2, Bool.or_comm, -zaa]
  ·simp [AV.eqs, AV.eq1] at hb
   obtain ⟨e0, e1, e2, e3, e4, e5, e6, e7, e8, e9, e10, e11⟩ := hb
   simp only [← e0, ← e1, ← e2, ← e3, ← e4, ← e5, ← e6, ← e7, ← e8, ← e9, ← e10, ← e11]
   have hrs : h.gone.toNat = g := by omega
   simp only [hrs]
   have hAn := zdj (wr l im h) (i := h.path.steps.length - 1) (z := (h.path.steps.length : Int) - 1) (by omega) (by omega)
   rw [show wr l im h (h.path.steps.length - 1) = zkg l im h from rfl] at hAn
   have hgo : goX l im h g = goX l im h g := rfl
   by_cases hlt : g < h.path.steps.length
   ·have hAk := zdj (wr l im h) (i := g) (z := (g : Int)) rfl (by omega)
    have hAk1 := fun (hk : ¬ g = h.path.steps.length - 1) => zdj (wr l im h) (i := g + 1) (z := (g : Int) + 1) rfl (by omega)
    have hw : IntKind.i64.wrap ((g : Int) + 1) = (g : Int) + 1 := by rw [zaB] <;> omega
    have hle : ((g : Int) ≤ (h.path.steps.length : Int) - 1) = True := by simp only [eq_iff_iff, iff_true]; omega
    have hgt : ((h.path.steps.length : Int) - 1 < (g : Int)) = False := by simp only [eq_iff_iff, iff_false]; omega
    have hkn2 : ¬ g = h.path.steps.length := by omega
    have hcan : zaW l im h g = (wr l im h g && ((decide (g = h.path.steps.length - 1) || wr l im h (g + 1)) && !zai l im (zaL h g))) := by
     have e : decide (g + 1 = h.path.steps.length) = decide (g = h.path.steps.length - 1) := decide_eq_decide.2 (by omega)
     unfold zaW
     rw [hn, e]; simp [hlt]
    have hstop : zaW l im h g = false → goX l im h g = g := fun hc => by rw [hgo]; exact za9 hc
    have hgoon : zaW l im h g = true → goX l im h g = goX l im h (g + 1) := fun hc => by rw [hgo]; exact zfz hc
    by_cases hkn : g = h.path.steps.length - 1
    ·have heq : ((g : Int) = (h.path.steps.length : Int) - 1) = True := by simp only [eq_iff_iff, iff_true]; omega
     have hdk : decide (g = h.path.steps.length - 1) = true := decide_eq_true hkn
     rw [hdk] at hcan
     cases hwk : wr l im h g
     ·have hst := hstop (by rw [hcan, hwk]; rfl)
      simp [hg, hwn, hle, heq, hgt, hAk, hAn, hwk, hlt, -zaa]
      repeat refine And.intro (by omega) ?_
      refine ⟨fun hL => ?_, fun hL => ?_⟩
      ·refine call (zad h.timer) (by simp) (by simp) ?_
       simp [hL, hst, hrs, hwn, hgt, opnS, zag, hn, hkn2, Bool.or_assoc, Bool.or_comm, -zaa]
      ·simp [hL, hst, hrs, hwn, hgt, opnS, zag, hn, hkn2, Bool.or_comm, -zaa]
     ·simp [hg, hwn, hle, heq, hgt, hAk, hAn, hwk, hlt, Step.cells, -zaa]
      repeat refine And.intro (by omega) ?_
      refine call (zak l im hi (zaL h g)) (by simp [Lay.cells, Img.cells, hlt, Step.cells, za3]) (by simp) ?_
      cases hoc : zai l im (zaL h g)
      ·have hgo3 := hgoon (by rw [hcan, hwk, hoc]; rfl)
       simp [hg, hwn, hle, heq, hgt, hAk, hAn, hwk, hlt, hw, -zaa]
       repeat refine And.intro (by omega) ?_
       have hgo4 := hgo3
       have hwg : IntKind.i64.wrap ((g : Int) + 1) = ((g + 1 : Nat) : Int) := by rw [zaB] <;> omega
       have hlt0 := hlt
       clear hgo3 hwk hAk hAk1 hcan hstop hgoon hle hgt heq hw hdk hkn hkn2 hgo hoc hlt
       refine zae rfl (fun vs => ∃ (k : Nat) (a b c d e f p q r s t z : AV), g ≤ k ∧ k ≤ h.n ∧ vs = [a, b, c, d, e, f, p, q, r, s, t, z] ∧ z = I k ∧ goX l im h g = goX l im h k) (fun vs => match vs with | [_, _, _, _, _, _, _, _, _, _, _, .int _ j] => h.n + 1 - j.toNat | _ => 0) ⟨g + 1, _, _, _, _, _, _, _, _, _, _, _, _, by omega, by omega, rfl, by simp [hg, hwg], hgo4⟩ ?_
       rintro vs - ⟨k, a, b, c, d, e, f, p, q, r, s, t, _, hk1, hk2, rfl, rfl, hgo⟩
       simp only [List.cons_append, List.nil_append]
       by_cases hlt : k < h.path.steps.length
       ·have hAk := zdj (wr l im h) (i := k) (z := (k : Int)) rfl (by omega)
        have hAk1 := fun (hk : ¬ k = h.path.steps.length - 1) => zdj (wr l im h) (i := k + 1) (z := (k : Int) + 1) rfl (by omega)
        have hw : IntKind.i64.wrap ((k : Int) + 1) = (k : Int) + 1 := by rw [zaB] <;> omega
        have hle : ((k : Int) ≤ (h.path.steps.length : Int) - 1) = True := by simp only [eq_iff_iff, iff_true]; omega
        have hgt : ((h.path.steps.length : Int) - 1 < (k : Int)) = False := by simp only [eq_iff_iff, iff_false]; omega
        have hkn2 : ¬ k = h.path.steps.length := by omega
        have hcan : zaW l im h k = (wr l im h k && ((decide (k = h.path.steps.length - 1) || wr l im h (k + 1)) && !zai l im (zaL h k))) := by
         have e : decide (k + 1 = h.path.steps.length) = decide (k = h.path.steps.length - 1) := decide_eq_decide.2 (by omega)
         unfold zaW
         rw [hn, e]; simp [hlt]
        have hstop : zaW l im h k = false → goX l im h g = k := fun hc => by rw [hgo]; exact za9 hc
        have hgoon : zaW l im h k = true → goX l im h g = goX l im h (k + 1) := fun hc => by rw [hgo]; exact zfz hc
        by_cases hkn : k = h.path.steps.length - 1
        ·have heq : ((k : Int) = (h.path.steps.length : Int) - 1) = True := by simp only [eq_iff_iff, iff_true]; omega
         have hdk : decide (k = h.path.steps.length - 1) = true := decide_eq_true hkn
         rw [hdk] at hcan
         cases hwk : wr l im h k
         ·have hst := hstop (by rw [hcan, hwk]; rfl)
          simp [hg, hwn, hle, heq, hgt, hAk, hAn, hwk, hlt, -zaa]
          repeat refine And.intro (by omega) ?_
          refine ⟨fun hL => ?_, fun hL => ?_⟩
          ·refine call (zad h.timer) (by simp) (by simp) ?_
           simp [hL, hst, hrs, hwn, hgt, opnS, zag, hn, hkn2, Bool.or_assoc, Bool.or_comm, -zaa]
          ·simp [hL, hst, hrs, hwn, hgt, opnS, zag, hn, hkn2, Bool.or_comm, -zaa]
         ·simp [hg, hwn, hle, heq, hgt, hAk, hAn, hwk, hlt, Step.cells, -zaa]
          repeat refine And.intro (by omega) ?_
          refine call (zak l im hi (zaL h k)) (by simp [Lay.cells, Img.cells, hlt, Step.cells, za3]) (by simp) ?_
          cases hoc : zai l im (zaL h k)
          ·have hgo3 := hgoon (by rw [hcan, hwk, hoc]; rfl)
           simp [hg, hwn, hle, heq, hgt, hAk, hAn, hwk, hlt, hw, -zaa]
           repeat refine And.intro (by omega) ?_
           refine ⟨⟨k + 1, by omega, by omega, ?_⟩, by omega⟩
           simp [hgo3]
          ·have hst := hstop (by rw [hcan, hwk, hoc]; rfl)
           simp [hg, hwn, hle, heq, hgt, hAk, hAn, hwk, hlt, -zaa]
           repeat refine And.intro (by omega) ?_
           refine ⟨fun hL => ?_, fun hL => ?_⟩
           ·refine call (zad h.timer) (by simp) (by simp) ?_
            simp [hL, hst, hrs, hwn, hgt, opnS, zag, hn, hkn2, Bool.or_assoc, Bool.or_comm, -zaa]
           ·simp [hL, hst, hrs, hwn, hgt, opnS, zag, hn, hkn2, Bool.or_comm, -zaa]
        ·have heq : ((k : Int) = (h.path.steps.length : Int) - 1) = False := by simp only [eq_iff_iff, iff_false]; omega
         have hdk : decide (k = h.path.steps.length - 1) = false := decide_eq_false hkn
         rw [hdk, Bool.false_or] at hcan
         cases hwk : wr l im h k
         ·have hst := hstop (by rw [hcan, hwk]; rfl)
          simp [hg, hwn, hle, heq, hgt, hAk, hAk1 hkn, hAn, hwk, hlt, hw, -zaa]
          repeat refine And.intro (by omega) ?_
          refine ⟨fun hL => ?_, fun hL => ?_⟩
          ·refine call (zad h.timer) (by simp) (by simp) ?_
           simp [hL, hst, hrs, hwn, hgt, opnS, zag, hn, hkn2, Bool.or_assoc, Bool.or_comm, -zaa]
          ·simp [hL, hst, hrs, hwn, hgt, opnS, zag, hn, hkn2, Bool.or_comm, -zaa]
         ·cases hwk2 : wr l im h (k + 1)
          ·have hst := hstop (by rw [hcan, hwk, hwk2]; rfl)
           simp [hg, hwn, hle, heq, hgt, hAk, hAk1 hkn, hAn, hwk, hwk2, hlt, hw, -zaa]
           repeat refine And.intro (by omega) ?_
           refine ⟨fun hL => ?_, fun hL => ?_⟩
           ·refine call (zad h.timer) (by simp) (by simp) ?_
            simp [hL, hst, hrs, hwn, hgt, opnS, zag, hn, hkn2, Bool.or_assoc, Bool.or_comm, -zaa]
           ·simp [hL, hst, hrs, hwn, hgt, opnS, zag, hn, hkn2, Bool.or_comm, -zaa]
          ·simp [hg, hwn, hle, heq, hgt, hAk, hAk1 hkn, hAn, hwk, hwk2, hlt, hw, Step.cells, -zaa]
           repeat refine And.intro (by omega) ?_
           refine call (zak l im hi (zaL h k)) (by simp [Lay.cells, Img.cells, hlt, Step.cells, za3]) (by simp) ?_
           cases hoc : zai l im (zaL h k)
           ·have hgo3 := hgoon (by rw [hcan, hwk, hwk2, hoc]; rfl)
            simp [hg, hwn, hle, heq, hgt, hAk, hAk1 hkn, hAn, hwk, hwk2, hlt, hw, -zaa]
            repeat refine And.intro (by omega) ?_
            refine ⟨⟨k + 1, by omega, by omega, ?_⟩, by omega⟩
            simp [hgo3]
           ·have hst := hstop (by rw [hcan, hwk, hwk2, hoc]; rfl)
            simp [hg, hwn, hle, heq, hgt, hAk, hAk1 hkn, hAn, hwk, hwk2, hlt, hw, -zaa]
            repeat refine And.intro (by omega) ?_
            refine ⟨fun hL => ?_, fun hL => ?_⟩
            ·refine call (zad h.timer) (by simp) (by simp) ?_
             simp [hL, hst, hrs, hwn, hgt, opnS, zag, hn, hkn2, Bool.or_assoc, Bool.or_comm, -zaa]
            ·simp [hL, hst, hrs, hwn, hgt, opnS, zag, hn, hkn2, Bool.or_comm, -zaa]
       ·have hkn3 : k = h.path.steps.length := by omega
        have hle : ((k : Int) ≤ (h.path.steps.length : Int) - 1) = False := by simp only [eq_iff_iff, iff_false]; omega
        have hgt : ((h.path.steps.length : Int) - 1 < (k : Int)) = True := by simp only [eq_iff_iff, iff_true]; omega
        have heq : ((k : Int) = (h.path.steps.length : Int) - 1) = False := by simp only [eq_iff_iff, iff_false]; omega
        have hkn2 : (k = h.path.steps.length) = True := eq_true hkn3
        have hw : IntKind.i64.wrap ((k : Int) + 1) = (k : Int) + 1 := by rw [zaB] <;> omega
        have hst : goX l im h g = k := by
         rw [hgo]; refine za9 ?_
         unfold zaW; rw [hn]; simp [hlt]
        simp [hg, hwn, hle, heq, hgt, hAn, hw, -zaa]
        repeat refine And.intro (by omega) ?_
        refine ⟨fun hL => ?_, fun hL => ?_⟩
        ·refine call (zad h.timer) (by simp) (by simp) ?_
         simp [hL, hst, hrs, hwn, hgt, opnS, zag, hn, hkn2, Bool.or_assoc, Bool.or_comm, -zaa]
        ·simp [hL, hst, hrs, hwn, hgt, opnS, zag, hn, hkn2, Bool.or_comm, -zaa]
      ·have hst := hstop (by rw [hcan, hwk, hoc]; rfl)
       simp [hg, hwn, hle, heq, hgt, hAk, hAn, hwk, hlt, -zaa]
       repeat refine And.intro (by omega) ?_
       refine ⟨fun hL => ?_, fun hL => ?_⟩
       ·refine call (zad h.timer) (by simp) (by simp) ?_
        simp [hL, hst, hrs, hwn, hgt, opnS, zag, hn, hkn2, Bool.or_assoc, Bool.or_comm, -zaa]
       ·simp [hL, hst, hrs, hwn, hgt, opnS, zag, hn, hkn2, Bool.or_comm, -zaa]
    ·have heq : ((g : Int) = (h.path.steps.length : Int) - 1) = False := by simp only [eq_iff_iff, iff_false]; omega
     have hdk : decide (g = h.path.steps.length - 1) = false := decide_eq_false hkn
     rw [hdk, Bool.false_or] at hcan
     cases hwk : wr l im h g
     ·have hst := hstop (by rw [hcan, hwk]; rfl)
      simp [hg, hwn, hle, heq, hgt, hAk, hAk1 hkn, hAn, hwk, hlt, hw, -zaa]
      repeat refine And.intro (by omega) ?_
      refine ⟨fun hL => ?_, fun hL => ?_⟩
      ·refine call (zad h.timer) (by simp) (by simp) ?_
       simp [hL, hst, hrs, hwn, hgt, opnS, zag, hn, hkn2, Bool.or_assoc, Bool.or_comm, -zaa]
      ·simp [hL, hst, hrs, hwn, hgt, opnS, zag, hn, hkn2, Bool.or_comm, -zaa]
     ·cases hwk2 : wr l im h (g + 1)
      ·have hst := hstop (by rw [hcan, hwk, hwk2]; rfl)
       simp [hg, hwn, hle, heq, hgt, hAk, hAk1 hkn, hAn, hwk, hwk2, hlt, hw, -zaa]
       repeat refine And.intro (by omega) ?_
       refine ⟨fun hL => ?_, fun hL => ?_⟩
       ·refine call (zad h.timer) (by simp) (by simp) ?_
        simp [hL, hst, hrs, hwn, hgt, opnS, zag, hn, hkn2, Bool.or_assoc, Bool.or_comm, -zaa]
       ·simp [hL, hst, hrs, hwn, hgt, opnS, zag, hn, hkn2, Bool.or_comm, -zaa]
      ·simp [hg, hwn, hle, heq, hgt, hAk, hAk1 hkn, hAn, hwk, hwk2, hlt, hw, Step.cells, -zaa]
       repeat refine And.intro (by omega) ?_
       refine call (zak l im hi (zaL h g)) (by simp [Lay.cells, Img.cells, hlt, Step.cells, za3]) (by simp) ?_
       cases hoc : zai l im (zaL h g)
       ·have hgo3 := hgoon (by rw [hcan, hwk, hwk2, hoc]; rfl)
        simp [hg, hwn, hle, heq, hgt, hAk, hAk1 hkn, hAn, hwk, hwk2, hlt, hw, -zaa]
        repeat refine And.intro (by omega) ?_
        have hgo4 := hgo3
        have hwg : IntKind.i64.wrap ((g : Int) + 1) = ((g + 1 : Nat) : Int) := by rw [zaB] <;> omega
        have hlt0 := hlt
        clear hgo3 hwk hAk hAk1 hcan hstop hgoon hle hgt heq hw hdk hkn hkn2 hgo hoc hlt
        refine zae rfl (fun vs => ∃ (k : Nat) (a b c d e f p q r s t z : AV), g ≤ k ∧ k ≤ h.n ∧ vs = [a, b, c, d, e, f, p, q, r, s, t, z] ∧ z = I k ∧ goX l im h g = goX l im h k) (fun vs => match vs with | [_, _, _, _, _, _, _, _, _, _, _, .int _ j] => h.n + 1 - j.toNat | _ => 0) ⟨g + 1, _, _, _, _, _, _, _, _, _, _, _, _, by omega, by omega, rfl, by simp [hg, hwg], hgo4⟩ ?_
        rintro vs - ⟨k, a, b, c, d, e, f, p, q, r, s, t, _, hk1, hk2, rfl, rfl, hgo⟩
        simp only [List.cons_append, List.nil_append]
        by_cases hlt : k < h.path.steps.length
        ·have hAk := zdj (wr l im h) (i := k) (z := (k : Int)) rfl (by omega)
         have hAk1 := fun (hk : ¬ k = h.path.steps.length - 1) => zdj (wr l im h) (i := k + 1) (z := (k : Int) + 1) rfl (by omega)
         have hw : IntKind.i64.wrap ((k : Int) + 1) = (k : Int) + 1 := by rw [zaB] <;> omega
         have hle : ((k : Int) ≤ (h.path.steps.length : Int) - 1) = True := by simp only [eq_iff_iff, iff_true]; omega
         have hgt : ((h.path.steps.length : Int) - 1 < (k : Int)) = False := by simp only [eq_iff_iff, iff_false]; omega
         have hkn2 : ¬ k = h.path.steps.length := by omega
         have hcan : zaW l im h k = (wr l im h k && ((decide (k = h.path.steps.length - 1) || wr l im h (k + 1)) && !zai l im (zaL h k))) := by
          have e : decide (k + 1 = h.path.steps.length) = decide (k = h.path.steps.length - 1) := decide_eq_decide.2 (by omega)
          unfold zaW
          rw [hn, e]; simp [hlt]
         have hstop : zaW l im h k = false → goX l im h g = k := fun hc => by rw [hgo]; exact za9 hc
         have hgoon : zaW l im h k = true → goX l im h g = goX l im h (k + 1) := fun hc => by rw [hgo]; exact zfz hc
         by_cases hkn : k = h.path.steps.length - 1
         ·have heq : ((k : Int) = (h.path.steps.length : Int) - 1) = True := by simp only [eq_iff_iff, iff_true]; omega
          have hdk : decide (k = h.path.steps.length - 1) = true := decide_eq_true hkn
          rw [hdk] at hcan
          cases hwk : wr l im h k
          ·have hst := hstop (by rw [hcan, hwk]; rfl)
           simp [hg, hwn, hle, heq, hgt, hAk, hAn, hwk, hlt, -zaa]
           repeat refine And.intro (by omega) ?_
           refine ⟨fun hL => ?_, fun hL => ?_⟩
           ·refine call (zad h.timer) (by simp) (by simp) ?_
            simp [hL, hst, hrs, hwn, hgt, opnS, zag, hn, hkn2, Bool.or_assoc, Bool.or_comm, -zaa]
           ·simp [hL, hst, hrs, hwn, hgt, opnS, zag, hn, hkn2, Bool.or_comm, -zaa]
          ·simp [hg, hwn, hle, heq, hgt, hAk, hAn, hwk, hlt, Step.cells, -zaa]
           repeat refine And.intro (by omega) ?_
           refine call (zak l im hi (zaL h k)) (by simp [Lay.cells, Img.cells, hlt, Step.cells, za3]) (by simp) ?_
           cases hoc : zai l im (zaL h k)
           ·have hgo3 := hgoon (by rw [hcan, hwk, hoc]; rfl)
            simp [hg, hwn, hle, heq, hgt, hAk, hAn, hwk, hlt, hw, -zaa]
            repeat refine And.intro (by omega) ?_
            refine ⟨⟨k + 1, by omega, by omega, ?_⟩, by omega⟩
            simp [hgo3]
           ·have hst := hstop (by rw [hcan, hwk, hoc]; rfl)
            simp [hg, hwn, hle, heq, hgt, hAk, hAn, hwk, hlt, -zaa]
            repeat refine And.intro (by omega) ?_
            refine ⟨fun hL => ?_, fun hL => ?_⟩
            ·refine call (zad h.timer) (by simp) (by simp) ?_
             simp [hL, hst, hrs, hwn, hgt, opnS, zag, hn, hkn2, Bool.or_assoc, Bool.or_comm, -zaa]
            ·simp [hL, hst, hrs, hwn, hgt, opnS, zag, hn, hkn2, Bool.or_comm, -zaa]
         ·have heq : ((k : Int) = (h.path.steps.length : Int) - 1) = False := by simp only [eq_iff_iff, iff_false]; omega
          have hdk : decide (k = h.path.steps.length - 1) = false := decide_eq_false hkn
          rw [hdk, Bool.false_or] at hcan
          cases hwk : wr l im h k
          ·have hst := hstop (by rw [hcan, hwk]; rfl)
           simp [hg, hwn, hle, heq, hgt, hAk, hAk1 hkn, hAn, hwk, hlt, hw, -zaa]
           repeat refine And.intro (by omega) ?_
           refine ⟨fun hL => ?_, fun hL => ?_⟩
           ·refine call (zad h.timer) (by simp) (by simp) ?_
            simp [hL, hst, hrs, hwn, hgt, opnS, zag, hn, hkn2, Bool.or_assoc, Bool.or_comm, -zaa]
           ·simp [hL, hst, hrs, hwn, hgt, opnS, zag, hn, hkn2, Bool.or_comm, -zaa]
          ·cases hwk2 : wr l im h (k + 1)
           ·have hst := hstop (by rw [hcan, hwk, hwk2]; rfl)
            simp [hg, hwn, hle, heq, hgt, hAk, hAk1 hkn, hAn, hwk, hwk2, hlt, hw, -zaa]
            repeat refine And.intro (by omega) ?_
            refine ⟨fun hL => ?_, fun hL => ?_⟩
            ·refine call (zad h.timer) (by simp) (by simp) ?_
             simp [hL, hst, hrs, hwn, hgt, opnS, zag, hn, hkn2, Bool.or_assoc, Bool.or_comm, -zaa]
            ·simp [hL, hst, hrs, hwn, hgt, opnS, zag, hn, hkn2, Bool.or_comm, -zaa]
           ·simp [hg, hwn, hle, heq, hgt, hAk, hAk1 hkn, hAn, hwk, hwk2, hlt, hw, Step.cells, -zaa]
            repeat refine And.intro (by omega) ?_
            refine call (zak l im hi (zaL h k)) (by simp [Lay.cells, Img.cells, hlt, Step.cells, za3]) (by simp) ?_
            cases hoc : zai l im (zaL h k)
            ·have hgo3 := hgoon (by rw [hcan, hwk, hwk2, hoc]; rfl)
             simp [hg, hwn, hle, heq, hgt, hAk, hAk1 hkn, hAn, hwk, hwk2, hlt, hw, -zaa]
             repeat refine And.intro (by omega) ?_
             refine ⟨⟨k + 1, by omega, by omega, ?_⟩, by omega⟩
             simp [hgo3]
            ·have hst := hstop (by rw [hcan, hwk, hwk2, hoc]; rfl)
             simp [hg, hwn, hle, heq, hgt, hAk, hAk1 hkn, hAn, hwk, hwk2, hlt, hw, -zaa]
             repeat refine And.intro (by omega) ?_
             refine ⟨fun hL => ?_, fun hL => ?_⟩
             ·refine call (zad h.timer) (by simp) (by simp) ?_
              simp [hL, hst, hrs, hwn, hgt, opnS, zag, hn, hkn2, Bool.or_assoc, Bool.or_comm, -zaa]
             ·simp [hL, hst, hrs, hwn, hgt, opnS, zag, hn, hkn2, Bool.or_comm, -zaa]
        ·have hkn3 : k = h.path.steps.length := by omega
         have hle : ((k : Int) ≤ (h.path.steps.length : Int) - 1) = False := by simp only [eq_iff_iff, iff_false]; omega
         have hgt : ((h.path.steps.length : Int) - 1 < (k : Int)) = True := by simp only [eq_iff_iff, iff_true]; omega
         have heq : ((k : Int) = (h.path.steps.length : Int) - 1) = False := by simp only [eq_iff_iff, iff_false]; omega
         have hkn2 : (k = h.path.steps.length) = True := eq_true hkn3
         have hw : IntKind.i64.wrap ((k : Int) + 1) = (k : Int) + 1 := by rw [zaB] <;> omega
         have hst : goX l im h g = k := by
          rw [hgo]; refine za9 ?_
          unfold zaW; rw [hn]; simp [hlt]
         simp [hg, hwn, hle, heq, hgt, hAn, hw, -zaa]
         repeat refine And.intro (by omega) ?_
         refine ⟨fun hL => ?_, fun hL => ?_⟩
         ·refine call (zad h.timer) (by simp) (by simp) ?_
          simp [hL, hst, hrs, hwn, hgt, opnS, zag, hn, hkn2, Bool.or_assoc, Bool.or_comm, -zaa]
         ·simp [hL, hst, hrs, hwn, hgt, opnS, zag, hn, hkn2, Bool.or_comm, -zaa]
       ·have hst := hstop (by rw [hcan, hwk, hwk2, hoc]; rfl)
        simp [hg, hwn, hle, heq, hgt, hAk, hAk1 hkn, hAn, hwk, hwk2, hlt, hw, -zaa]
        repeat refine And.intro (by omega) ?_
        refine ⟨fun hL => ?_, fun hL => ?_⟩
        ·refine call (zad h.timer) (by simp) (by simp) ?_
         simp [hL, hst, hrs, hwn, hgt, opnS, zag, hn, hkn2, Bool.or_assoc, Bool.or_comm, -zaa]
        ·simp [hL, hst, hrs, hwn, hgt, opnS, zag, hn, hkn2, Bool.or_comm, -zaa]
   ·have hkn3 : g = h.path.steps.length := by omega
    have hle : ((g : Int) ≤ (h.path.steps.length : Int) - 1) = False := by simp only [eq_iff_iff, iff_false]; omega
    have hgt : ((h.path.steps.length : Int) - 1 < (g : Int)) = True := by simp only [eq_iff_iff, iff_true]; omega
    have heq : ((g : Int) = (h.path.steps.length : Int) - 1) = False := by simp only [eq_iff_iff, iff_false]; omega
    have hkn2 : (g = h.path.steps.length) = True := eq_true hkn3
    have hw : IntKind.i64.wrap ((g : Int) + 1) = (g : Int) + 1 := by rw [zaB] <;> omega
    have hst : goX l im h g = g := by
     rw [hgo]; refine za9 ?_
     unfold zaW; rw [hn]; simp [hlt]
    simp [hg, hwn, hle, heq, hgt, hAn, hw, -zaa]
    repeat refine And.intro (by omega) ?_
    refine ⟨fun hL => ?_, fun hL => ?_⟩
    ·refine call (zad h.timer) (by simp) (by simp) ?_
     simp [hL, hst, hrs, hwn, hgt, opnS, zag, hn, hkn2, Bool.or_assoc, Bool.or_comm, -zaa]
    ·simp [hL, hst, hrs, hwn, hgt, opnS, zag, hn, hkn2, Bool.or_comm, -zaa]
end Go.Lb.LK
namespace Go.Lb.LK
open Go Go.Lb Go.Proofs Go.RowKit
theorem zlx {q : Nat → Bool} {n i : Nat} (h : i < n) (hb : q i = true) : (List.range n).any q = true := List.any_eq_true.2 ⟨i, List.mem_range.2 h, hb⟩
theorem zjU {q : Nat → Bool} {n : Nat} (h : ∀ i, i < n → q i = false) : (List.range n).any q = false := by
 refine List.any_eq_false.2 fun x hx => ?_
 rw [h x (List.mem_range.1 hx)]; simp
def soAt (q : Int → Bool) (h : Hd) (k : Nat) : Bool := match h.path.steps[k]? with
 | some t => decide (h.gone ≤ k) && q t.s
 | none => false
def soN (q : Int → Bool) (h : Hd) : Bool := (List.range h.path.steps.length).any (soAt q h)
theorem zhB {q : Int → Bool} {h : Hd} {k : Nat} (hk : k < h.path.steps.length) : soAt q h k = (decide (h.gone ≤ k) && q h.path.steps[k].s) := by
 simp [soAt, List.getElem?_eq_getElem hk]
def inN (l : Lay) (im : Img) (h : Hd) : Bool := soN (zai l im) h
def zgd (l : Lay) (im : Img) (h : Hd) : Bool := soN (told l im) h
theorem zd0 (l : Lay) (im : Img) (hi : im.ok) (h : Hd) (hl : h.len) : C f_back_In [l.av, im.av, h.av] (.bool (inN l im h)) := by
 have hn := hl.1
 refine ctr (l.cells ++ im.cells ++ h.cells) run_back_In rfl (lih l im h) rfl ?_ rfl
 unfold rt_back_In
 simp [Lay.cells, Img.cells, Hd.cells]
 refine zae rfl (fun vs => ∃ i : Nat, i ≤ h.path.steps.length ∧ vs = [I i] ∧ ∀ j, j < i → soAt (zai l im) h j = false) (fun vs => match vs with | [.int _ j] => h.path.steps.length - j.toNat | _ => 0) ⟨0, by omega, by simp, fun j hj => by omega⟩ ?_
 rintro vs - ⟨i, hii, rfl, hq⟩
 simp
 refine ⟨fun hlt => ?_, fun hge => ?_⟩
 ·have hw := zaf (i := i) (by omega)
  have hse := zhB (q := zai l im) hlt
  have hgood : soAt (zai l im) h i = false → ∀ j, j < i + 1 → soAt (zai l im) h j = false := fun hk j hj => by
   by_cases hji : j = i
   ·subst hji; exact hk
   ·exact hq j (by omega)
  simp [hlt, Step.cells, hw]
  by_cases hg : h.gone ≤ i
  ·have hg2 : ¬ (i : Int) < h.gone := by omega
   simp [hg, hg2]
   refine call (zak l im hi h.path.steps[i].s) (by simp [Lay.cells, Img.cells, hlt, Step.cells]) (by simp) ?_
   cases ho : zai l im h.path.steps[i].s
   ·simp
    exact ⟨⟨i + 1, by omega, by omega, hgood (by rw [hse, ho]; simp)⟩, by omega⟩
   ·have : inN l im h = true := zlx hlt (by rw [hse, ho]; simp [hg])
    simp [this]
  ·have hg2 : (i : Int) < h.gone := by omega
   simp [hg, hg2]
   exact ⟨⟨i + 1, by omega, by omega, hgood (by rw [hse]; simp [hg])⟩, by omega⟩
 ·have : inN l im h = false := zjU fun j hj => hq j (by omega)
  simp [this]
theorem zi0 (l : Lay) (im : Img) (hi : im.ok) (h : Hd) (hl : h.len) : C f_back_told [l.av, im.av, h.av] (.bool (zgd l im h)) := by
 have hn := hl.1
 refine ctr (l.cells ++ im.cells ++ h.cells) run_back_told rfl (lih l im h) rfl ?_ rfl
 unfold rt_back_told
 simp [Lay.cells, Img.cells, Hd.cells]
 refine zae rfl (fun vs => ∃ i : Nat, i ≤ h.path.steps.length ∧ vs = [I i] ∧ ∀ j, j < i → soAt (told l im) h j = false) (fun vs => match vs with | [.int _ j] => h.path.steps.length - j.toNat | _ => 0) ⟨0, by omega, by simp, fun j hj => by omega⟩ ?_
 rintro vs - ⟨i, hii, rfl, hq⟩
 simp
 refine ⟨fun hlt => ?_, fun hge => ?_⟩
 ·have hw := zaf (i := i) (by omega)
  have hse := zhB (q := told l im) hlt
  have hgood : soAt (told l im) h i = false → ∀ j, j < i + 1 → soAt (told l im) h j = false := fun hk j hj => by
   by_cases hji : j = i
   ·subst hji; exact hk
   ·exact hq j (by omega)
  simp [hlt, Step.cells, hw]
  by_cases hg : h.gone ≤ i
  ·have hg2 : ¬ (i : Int) < h.gone := by omega
   simp [hg, hg2]
   refine call (zeN l im hi h.path.steps[i].s) (by simp [Lay.cells, Img.cells, hlt, Step.cells]) (by simp) ?_
   cases ho : told l im h.path.steps[i].s
   ·simp
    exact ⟨⟨i + 1, by omega, by omega, hgood (by rw [hse, ho]; simp)⟩, by omega⟩
   ·have : zgd l im h = true := zlx hlt (by rw [hse, ho]; simp [hg])
    simp [this]
  ·have hg2 : (i : Int) < h.gone := by omega
   simp [hg, hg2]
   exact ⟨⟨i + 1, by omega, by omega, hgood (by rw [hse]; simp [hg])⟩, by omega⟩
 ·have : zgd l im h = false := zjU fun j hj => hq j (by omega)
  simp [this]
end Go.Lb.LK
namespace Go.Lb.LK
open Go Go.Lb Go.Proofs Go.RowKit
theorem zhV (k : Int) (h0 : 0 ≤ k) (h1 : k ≤ 255) : C f_port_Ports [U k] (I (zcl k)) := by
 refine ctr [U k] run_port_Ports rfl rfl rfl ?_ rfl
 unfold rt_port_Ports
 refine call (zkN k h0 h1) (by simp) (by simp) ?_
 rcases zgz h0 h1 with rfl | rfl | rfl | rfl | h
 ·simp [za5, zcl]
 ·simp [za5, zcl]
 ·simp [za5, zcl]
 ·simp [za5, zcl]
 ·simp [za5, zcl, show k ≠ 1 by omega, show k ≠ 2 by omega, show k ≠ 3 by omega]
theorem zj1 (l : Lay) (hl : l.ok) (p : Port) : C f_join_Has [l.av, p.av] (.bool (hasP l p)) := by
 refine ctr (l.cells ++ p.cells) run_join_Has rfl (by simp [zaj]) rfl ?_ rfl
 unfold rt_join_Has
 simp [Lay.cells, Port.cells]
 by_cases hc : 0 ≤ p.s ∧ p.s < l.secs.length
 ·obtain ⟨n, hn, hlt, he⟩ := zfh hc.1 hc.2
  have hls : hasP l p = (decide (0 ≤ p.p) && decide (p.p < zcl l.secs[n].kind)) := by simp [hasP, he]
  have hkd := hl _ (List.getElem_mem hlt)
  rw [hls]
  simp [hn, hlt, Sec.cells]
  refine zap (avs := [U l.secs[n].kind]) (I (zcl l.secs[n].kind)) rfl (fun _ => ⟨by simp [hlt, Sec.cells], zhV _ hkd.1 hkd.2⟩) (fun _ => rfl) ?_
  by_cases h0 : 0 ≤ p.p <;> simp [h0, hlt]
 ·have hls : hasP l p = false := by simp [hasP, ziC hc]
  rw [hls]
  have hc2 : 0 ≤ p.s → ¬ p.s < l.secs.length := fun h1 h2 => hc ⟨h1, h2⟩
  by_cases h0 : 0 ≤ p.s
  ·have h1 := hc2 h0
   simp [h0, h1]
   refine zap (avs := []) (I 0) rfl (fun hh => ?_) (fun _ => rfl) ?_
   ·simp [h0, h1] at hh
   ·simp [h0, h1]
  ·simp [h0]
   refine zap (avs := []) (I 0) rfl (fun hh => ?_) (fun _ => rfl) ?_
   ·simp [h0] at hh
   ·simp [h0]
theorem zg3 (l : Lay) (hl : l.ok) (p : Port) : C f_join_Beyond [l.av, p.av] (zdA l p).av := by
 refine ctr (l.cells ++ p.cells) run_join_Beyond rfl (by simp [zaj]) (by simp [AV.pure]) ?_ rfl
 unfold rt_join_Beyond
 simp [Lay.cells, Port.cells]
 refine call (zj1 l hl p) (by simp [Lay.cells, Port.cells]) (fun _ => rfl) ?_
 cases hh : hasP l p
 ·simp [ziV hh, noP, Port.cells]
 ·obtain ⟨n, m, h1, h2, h3, hlt, h4⟩ := ziU hh
  have hm : m = 0 ∨ m = 1 ∨ m = 2 ∨ m = 3 := by omega
  rcases hm with rfl | rfl | rfl | rfl <;> simp [h1, h2, h4, hlt, Sec.cells, Sec.join, Port.cells]
def zf9 (l : Lay) (x : Int) : Port := if 0 ≤ x then (match l.sigs[x.toNat]? with
 | some p => zdA l p
 | none => noP) else noP
theorem zmH {l : Lay} {x : Int} {n : Nat} (hx : x = n) (hn : n < l.sigs.length) : zf9 l x = zdA l l.sigs[n] := by
 subst hx
 simp [zf9, List.getElem?_eq_getElem hn]
theorem zly {l : Lay} {x : Int} (hx : ¬ (0 ≤ x ∧ x < l.sigs.length)) : zf9 l x = noP := by
 unfold zf9
 split
 ·rw [List.getElem?_eq_none (by omega)]
 ·rfl
theorem zg0 (l : Lay) (hl : l.ok) (x : Int) : C f_beyond_Rear [l.av, I x] (zf9 l x).av := by
 refine ctr (l.cells ++ [I x]) run_beyond_Rear rfl (by simp [zaj, AV.pureAll, AV.pure]) (by simp [AV.pure]) ?_ rfl
 unfold rt_beyond_Rear
 simp [Lay.cells]
 by_cases hc : 0 ≤ x ∧ x < l.sigs.length
 ·obtain ⟨n, hn⟩ : ∃ n : Nat, x = n := ⟨x.toNat, by omega⟩
  have hlt : n < l.sigs.length := by omega
  have h1 : ¬ ((n : Int) < 0) := by omega
  have h2 : ¬ (l.sigs.length ≤ n) := by omega
  rw [zmH hn hlt]
  simp [hn, hlt, h1, h2, Port.cells]
  refine call (zg3 l hl l.sigs[n]) (by simp [Lay.cells, hlt, Port.cells]) (by simp) ?_
  simp [Port.cells]
 ·rw [zly hc]
  simp [noP, Port.cells]
  exact fun a b => absurd ⟨a, b⟩ hc
def zf8 (l : Lay) (im : Img) (x : Int) : Bool := decide (0 ≤ (zf9 l x).s) && zai l im (zf9 l x).s
theorem zb5 (l : Lay) (hl : l.ok) (im : Img) (hi : im.ok) (x : Int) : C f_back_Rear [l.av, im.av, I x] (.bool (zf8 l im x)) := by
 refine ctr (l.cells ++ im.cells ++ [I x]) run_back_Rear rfl (by simp [zaj, AV.pureAll, AV.pure]) rfl ?_ rfl
 unfold rt_back_Rear
 simp [Lay.cells, Img.cells]
 refine call (zg0 l hl x) (by simp [Lay.cells]) (by simp) ?_
 simp [Port.cells]
 refine zap (avs := [l.av, im.av, I (zf9 l x).s]) (.bool (zai l im (zf9 l x).s)) rfl (fun _ => ⟨by simp [Lay.cells, Img.cells, Port.cells], zak l im hi _⟩) (fun _ => rfl) ?_
 by_cases h : 0 ≤ (zf9 l x).s <;> simp [zf8, h, Port.cells]
end Go.Lb.LK
namespace Go.Lb.LK
open Go Go.Lb Go.Proofs Go.RowKit
end Go.Lb.LK
namespace Go.Lb.LK
open Go Go.Lb Go.Proofs Go.RowKit
end Go.Lb.LK
namespace Go.Lb.LK
open Go Go.Lb Go.Proofs Go.RowKit
def zh1 (n : Int) : Int := IntKind.i64.wrap (max n 1 - 1)
theorem zi2 (n : Int) : C f_tick_Down [I n] (I (zh1 n)) := by
 refine ctr [I n] run_tick_Down rfl rfl rfl ?_ rfl
 unfold rt_tick_Down
 simp [zh1]
def zcE (l : Lay) (im : Img) (h : Hd) : Hd × Bool :=
 if h.stage = 4 ∧ stale l im = false then
  if zgd l im h = true then (runS l im { h with stage := 3, timer := 0 }, false)
  else if inN l im h = true then (h, false)
  else ({ h with timer := zh1 h.timer }, decide (zh1 h.timer = 0))
 else (h, false)
abbrev hdB (x : Hd × Bool) : AV := .tup [x.1.av, .bool x.2]
theorem zcz (l : Lay) (im : Img) (hi : im.ok) (h : Hd) (hl : h.len) : C f_back_Tick [l.av, im.av, h.av] (hdB (zcE l im h)) := by
 refine ctr (l.cells ++ im.cells ++ h.cells) run_back_Tick rfl (lih l im h) (by simp [AV.pure, AV.pureAll]) ?_ rfl
 unfold rt_back_Tick
 simp [Lay.cells, Img.cells, Hd.cells]
 refine call (zen h hl) (by simp [Hd.cells]) (by simp) ?_
 simp [Hd.cells]
 refine zap (avs := [l.av, im.av]) (.bool (stale l im)) rfl (fun _ => ⟨by simp [Lay.cells, Img.cells], zbZ l im⟩) (by simp) ?_
 by_cases h4 : h.stage = 4
 ·cases hst : stale l im
  ·simp [h4, zcE, hst, Hd.cells]
   refine call (zi0 l im hi h hl) (by simp [Lay.cells, Img.cells, Hd.cells, h4]) (by simp) ?_
   cases htd : zgd l im h
   ·simp
    refine call (zd0 l im hi h hl) (by simp [Lay.cells, Img.cells, Hd.cells, h4]) (by simp) ?_
    cases hin : inN l im h
    ·simp
     refine call (zi2 h.timer) (by simp [Hd.cells]) (by simp) ?_
     simp [Hd.cells, h4]
     rfl
    ·simp [Hd.cells, h4]
   ·simp
    refine call (zj2 l im hi { h with stage := 3, timer := 0 } hl (by simp)) (by simp [Lay.cells, Img.cells, Hd.cells]) (by simp) ?_
    simp [Hd.cells]
  ·simp [h4, zcE, hst, Hd.cells]
 ·simp [h4, zcE, Hd.cells]
end Go.Lb.LK
namespace Go.Lb.LK
open Go Go.Lb Go.Proofs Go.RowKit
theorem lih2 (l : Lay) (im : Img) (h : Hd) : AV.pureAll (h.cells ++ l.cells ++ im.cells) = true := by simp [zaj]
def zgr (l : Lay) (im : Img) (h : Hd) : Int := if (h.shown && zf8 l im h.path.sig) = true then 2 else 1
def zfs (l : Lay) (im : Img) (h : Hd) : Int := if inN l im h = true then 0 else 2
theorem zl5 (h : Hd) : C f_back_comes_1 [h.av] (I 1) := by
 refine ctr h.cells run_back_comes_1 rfl (by simp) rfl ?_ rfl
 unfold rt_back_comes_1
 simp [Hd.cells]
theorem zl6 (l : Lay) (hl : l.ok) (im : Img) (hi : im.ok) (h : Hd) : C f_back_comes_2 [h.av, .ref l.cells 0, .ref im.cells 0] (I (zgr l im h)) := by
 refine ctr (h.cells ++ l.cells ++ im.cells) run_back_comes_2 rfl (lih2 l im h) rfl ?_ rfl
 unfold rt_back_comes_2
 simp [Lay.cells, Img.cells, Hd.cells]
 refine zap (avs := [l.av, im.av, I h.path.sig]) (.bool (zf8 l im h.path.sig)) rfl (fun _ => ⟨by simp [Lay.cells, Img.cells], zb5 l hl im hi _⟩) (by simp) ?_
 simp [zgr]
theorem zl7 (l : Lay) (im : Img) (hi : im.ok) (h : Hd) (hh : h.len) : C f_back_comes_3 [h.av, .ref l.cells 0, .ref im.cells 0] (I (zfs l im h)) := by
 refine ctr (h.cells ++ l.cells ++ im.cells) run_back_comes_3 rfl (lih2 l im h) rfl ?_ rfl
 unfold rt_back_comes_3
 simp [Lay.cells, Img.cells, Hd.cells]
 refine call (zd0 l im hi h hh) (by simp [Lay.cells, Img.cells, Hd.cells]) (by simp) ?_
 simp [zfs]
def idAt (hs : List Hd) (j : Int) : Int := (hs[j.toNat]?.map (·.id)).getD 0
def atU (hs : List Hd) (x : Int) : Nat → Int
 | 0 => -1
 | i + 1 => match hs[i]? with
  | some h => if h.path.sig = x ∧ (atU hs x i < 0 ∨ idAt hs (atU hs x i) < h.id) then i else atU hs x i
  | none => atU hs x i
theorem zdz (hs : List Hd) (x : Int) : ∀ i, atU hs x i = -1 ∨ ∃ m : Nat, atU hs x i = m ∧ m < i ∧ m < hs.length
 | 0 => .inl rfl
 | i + 1 => by
  simp only [atU]
  split
  ·rename_i h hh
   split
   ·exact .inr ⟨i, rfl, by omega, (List.getElem?_eq_some_iff.1 hh).1⟩
   ·rcases zdz hs x i with h1 | ⟨m, h1, h2, h3⟩
    ·exact .inl h1
    ·exact .inr ⟨m, h1, by omega, h3⟩
  ·rcases zdz hs x i with h1 | ⟨m, h1, h2, h3⟩
   ·exact .inl h1
   ·exact .inr ⟨m, h1, by omega, h3⟩
theorem zjz {hs : List Hd} {x : Int} {i : Nat} (hi : i < hs.length) : atU hs x (i + 1) = if hs[i].path.sig = x ∧ (atU hs x i < 0 ∨ idAt hs (atU hs x i) < hs[i].id) then (i : Int) else atU hs x i := by
 simp [atU, List.getElem?_eq_getElem hi]
theorem zgZ {hs : List Hd} {x : Int} : ∀ {i m : Nat}, atU hs x i = m → ∀ h, hs[m]? = some h → h.path.sig = x
 | 0, m, h0, _, _ => by simp [atU] at h0
 | i + 1, m, h0, h, hh => by
  simp only [atU] at h0
  split at h0
  ·rename_i g hg
   split at h0
   ·rename_i hc
    have : i = m := by omega
    subst this
    rw [hg] at hh; cases hh
    exact hc.1
   ·exact zgZ h0 h hh
  ·exact zgZ h0 h hh
theorem zld {hs : List Hd} {m : Nat} (h : m < hs.length) : idAt hs (m : Int) = hs[m].id := by simp [idAt, h]
end Go.Lb.LK
namespace Go.Lb.LK
open Go Go.Lb Go.Proofs Go.RowKit
def zb7 (l : Lay) (im : Img) (h : Hd) : Int := if h.stage = 1 then 1 else if h.stage = 2 then zgr l im h else if h.stage = 3 then zfs l im h else 0
def atK (k : Kern) (x : Int) : Int := atU k.held x k.held.length
def za8 (l : Lay) (im : Img) (k : Kern) (m : Nat) (h : Hd) : Kern × Bool :=
 if zb7 l im h = 1 then ({ k with held := k.held.take m ++ k.held.drop (m + 1) }, true)
 else if zb7 l im h = 2 then ({ k with held := k.held.set m { h with stage := 4, timer := l.approach } }, true)
 else (k, false)
def zaw (l : Lay) (im : Img) (k : Kern) (x : Int) : Kern × Bool :=
 if atK k x < 0 then (k, false) else match k.held[(atK k x).toNat]? with
 | some h => za8 l im k (atK k x).toNat h
 | none => (k, false)
abbrev kB (x : Kern × Bool) : AV := .tup [x.1.av, .bool x.2]
theorem lik (l : Lay) (im : Img) (k : Kern) (x : Int) : AV.pureAll (l.cells ++ im.cells ++ k.cells ++ [I x]) = true := by simp [zaj, AV.pureAll, AV.pure]
set_option maxHeartbeats 1000000 in
theorem zbw (l : Lay) (hl : l.ok) (im : Img) (hi0 : im.ok) (k : Kern) (hk : k.len) (x : Int) : C f_back_Cancel [l.av, im.av, k.av, I x] (kB (zaw l im k x)) := by
 have h1 := hk.1
 refine ctr (l.cells ++ im.cells ++ k.cells ++ [I x]) run_back_Cancel rfl (lik l im k x) (by simp [AV.pure, AV.pureAll]) ?_ rfl
 unfold rt_back_Cancel
 simp [Lay.cells, Img.cells, Kern.cells]
 refine ⟨⟨fun a _ => a.one, by omega, by omega, ?_⟩, fun he => ?_⟩
 ·refine zae rfl (fun vs => ∃ i : Nat, i ≤ k.held.length ∧ vs = [I i, zoh k.held]) (fun vs => match vs with | [.int _ j, _] => k.held.length - j.toNat | _ => 0) ⟨0, by omega, by simp⟩ ?_
  rintro vs - ⟨i, hi2, rfl⟩
  simp
  refine ⟨fun hlt => ?_, fun hge => ?_⟩
  ·have hw := zaf (i := i) (by omega)
   simp [hlt, Hd.cells]
   refine call (zen k.held[i] (k.at hk hlt)) (by simp [hlt, Hd.cells]) (by simp) ?_
   simp [hlt, Hd.cells, hw]
   refine ⟨⟨i + 1, by omega, by omega, ?_⟩, by omega⟩
   exact zmK k.held hlt
  ·refine zae rfl (fun vs => ∃ i : Nat, i ≤ k.held.length ∧ vs = [I (atU k.held x i), I i]) (fun vs => match vs with | [_, .int _ j] => k.held.length - j.toNat | _ => 0) ⟨0, by omega, by simp [atU]⟩ ?_
   rintro vs - ⟨i, hi, rfl⟩
   by_cases hlt : i < k.held.length
   ·have hw := zaf (i := i) (by omega)
    have hst := zjz (x := x) hlt
    have hgo : ∀ z : Int, atU k.held x (i + 1) = z → ∃ i_1 : Nat, i_1 ≤ k.held.length ∧ [I z, I ((i + 1 : Nat) : Int)] = [I (atU k.held x i_1), I i_1] := fun z h => ⟨i + 1, by omega, by rw [h]⟩
    rcases zdz k.held x i with ha | ⟨m, ha, hm, hml⟩
    ·rw [ha] at hst ⊢
     simp [hlt, Hd.cells, hw]
     refine ⟨fun hc => ⟨⟨i + 1, by omega, by rw [hst, if_pos ⟨hc, .inl (by omega)⟩], rfl⟩, by omega⟩, fun hc => ⟨⟨i + 1, by omega, by rw [hst, if_neg (fun h => hc h.1)], rfl⟩, by omega⟩⟩
    ·rw [ha] at hst ⊢
     rw [zld hml] at hst
     simp [hlt, hml, Hd.cells, hw]
     refine ⟨fun _ => by omega, fun hc hd => ⟨⟨i + 1, by omega, by rw [hst, if_pos ⟨hc, hd⟩], rfl⟩, by omega⟩, fun hc => ⟨⟨i + 1, by omega, by rw [hst, if_neg (fun h => by have := hc h.1; have := h.2; omega)], rfl⟩, by omega⟩⟩
   ·have : i = k.held.length := by omega
    subst this
    rcases zdz k.held x k.held.length with ha | ⟨m, ha, hm, hml⟩
    ·have hcn : zaw l im k x = (k, false) := by simp [zaw, atK, ha]
     rw [ha, hcn]
     simp [Kern.cells]
    ·have hcn : zaw l im k x = za8 l im k m k.held[m] := by
      have : ¬ ((m : Int) < 0) := by omega
      simp [zaw, atK, ha, this, List.getElem?_eq_getElem hml]
     have hm0 : ¬ ((m : Int) < 0) := by omega
     have hmb : (m : Int) < 4294967296 := by omega
     have hw := zaf (i := m) (by omega)
     rw [ha, hcn]
     simp [hml, hm0, hmb, Hd.cells]
     by_cases s1 : k.held[m].stage = 1
     ·simp [s1]
      refine call (zl5 k.held[m]) (by simp [hml, Hd.cells]) (by simp) ?_
      simp [hw, hml, za8, zb7, s1, Kern.cells]
      exact ⟨fun a _ => a.one, by omega, by omega, by omega, by omega⟩
     ·by_cases s2 : k.held[m].stage = 2
      ·simp [s2]
       refine call (zl6 l hl im hi0 k.held[m]) (by simp [hml, Hd.cells, Lay.cells, Img.cells]) (fun _ => rfl) ?_
       cases hc : (k.held[m].shown && zf8 l im k.held[m].path.sig)
       ·simp [hw, hml, za8, zb7, s2, zgr, hc, Kern.cells]
        exact ⟨fun a _ => a.one, by omega, by omega, by omega, by omega⟩
       ·simp [hw, hml, hmb, za8, zb7, s2, zgr, hc, Kern.cells]
        exact ⟨rfl, rfl, rfl⟩
      ·by_cases s3 : k.held[m].stage = 3
       ·simp [s3]
        refine call (zl7 l im hi0 k.held[m] (k.at hk hml)) (by simp [hml, Hd.cells, Lay.cells, Img.cells]) (fun _ => rfl) ?_
        cases hc : inN l im k.held[m]
        ·simp [hw, hml, hmb, za8, zb7, s3, zfs, hc, Kern.cells]
         exact ⟨rfl, rfl, rfl⟩
        ·simp [hw, hml, za8, zb7, s3, zfs, hc, Kern.cells]
       ·simp [s1, s2, s3, za8, zb7, Kern.cells]
 ·have hcn : zaw l im k x = (k, false) := by simp [zaw, atK, he, atU]
  rw [hcn]
  refine zae rfl (fun vs => vs = []) (fun _ => 0) rfl ?_
  rintro vs - rfl
  simp
  refine zae rfl (fun vs => vs = []) (fun _ => 0) rfl ?_
  rintro vs - rfl
  simp [Kern.cells, he]
end Go.Lb.LK
namespace Go.Lb.LK
open Go Go.Lb Go.Proofs Go.RowKit
end Go.Lb.LK
namespace Go.Lb.LK
open Go Go.Lb Go.Proofs Go.RowKit
def zfe (a b : Kern) : Bool := AV.eqs (zdr a.want a.run a.fail) (zdr b.want b.run b.fail)
def zdy (a b : List Hd) : Bool := (List.zipWith zdP a b).all id
def zga (a b : Kern) : Bool := decide (a.held.length = b.held.length) && (zdy a.held b.held && (decide (a.next = b.next) && zfe a b))
theorem zb2 (a : Kern) : zfe a a = true := by
 unfold zfe zdr
 simp [AV.eqs, AV.eq1]
theorem zhQ : ∀ l : List Hd, zdy l l = true
 | [] => rfl
 | x :: l => by simp [zdy, zgN]
theorem zeI (a : Kern) : zga a a = true := by simp [zga, zb2, zhQ]
theorem kk (a b : Kern) : AV.pureAll (a.cells ++ b.cells) = true := by simp [zaj]
theorem zoS {a b : List Hd} {i : Nat} (h1 : i < a.length) (h2 : i < b.length) : (List.zipWith zdP a b)[i]'(by simp; omega) = zdP a[i] b[i] := by simp
theorem zck (a b : Kern) : AV.eqs (zdr a.want a.run a.fail) (zdr b.want b.run b.fail) = zfe a b := rfl
set_option maxHeartbeats 1000000 in
theorem zfr (a b : Kern) (ha : a.len) : C f_lockbarref18_Same [a.av, b.av] (.bool (zga a b)) := by
 have h1 := ha.1
 have hm := zck a b
 simp only [zdr] at hm
 refine ctr (a.cells ++ b.cells) run_lockbarref18_Same rfl (kk a b) rfl ?_ rfl
 unfold rt_lockbarref18_Same
 simp [Kern.cells, -AV.eqs]
 by_cases hl : a.held.length = b.held.length
 ·simp [hl, -AV.eqs]
  refine zae rfl (fun vs => ∃ i : Nat, i ≤ a.held.length ∧ vs = [I i] ∧ zbj (fun x => !x) ((List.zipWith zdP a.held b.held).take i)) (fun vs => match vs with | [.int _ j] => a.held.length - j.toNat | _ => 0) ⟨0, by simp, by simp, rfl⟩ ?_
  rintro vs - ⟨i, hi, rfl, hq⟩
  simp [-AV.eqs]
  refine ⟨fun hlt => ?_, fun hge => ?_⟩
  ·have hlt2 : i < b.held.length := by omega
   have hw := zaf (i := i) (by omega)
   have hz := zoS hlt hlt2
   simp [hlt, hlt2, Hd.cells, -AV.eqs]
   refine call (zfq a.held[i] b.held[i] (a.at ha hlt)) (by simp [hlt, hlt2, Hd.cells]) (by simp) ?_
   cases hs : zdP a.held[i] b.held[i]
   ·have : zdy a.held b.held = false := by
     unfold zdy
     rw [List.all_eq_false]
     exact ⟨(List.zipWith zdP a.held b.held)[i]'(by simp; omega), List.getElem_mem _, by rw [hz, hs]; simp⟩
    simp [zga, this, -AV.eqs]
   ·simp [hw, -AV.eqs]
    exact ⟨⟨i + 1, by omega, by omega, zaS (i := i) (l := List.zipWith zdP a.held b.held) (by simp; omega) hq (by rw [hz, hs]; rfl)⟩, by omega⟩
  ·have ht : (List.zipWith zdP a.held b.held).take i = List.zipWith zdP a.held b.held := List.take_of_length_le (by simp; omega)
   rw [ht] at hq
   have hall : zdy a.held b.held = true := by
    unfold zdy
    unfold zbj at hq
    rw [List.all_eq_true]
    intro x hx
    have := List.any_eq_false.1 hq x hx
    simpa using this
   simp [hm, zga, hl, hall, -AV.eqs]
 ·have hl2 : ¬ (a.held.length : Int) = b.held.length := by omega
  simp [hl, zga, -AV.eqs]
  exact fun h => absurd h hl2
end Go.Lb.LK
namespace Go.Lb.LK
open Go Go.Lb Go.Proofs Go.RowKit
def zao : Lay := ⟨[⟨1, noP, ⟨1, 0⟩, noP, noP, 0, 0⟩, ⟨1, ⟨0, 1⟩, ⟨2, 0⟩, noP, noP, 0, 0⟩, ⟨1, ⟨1, 1⟩, noP, noP, noP, 0, 0⟩], [⟨1, 0⟩], [⟨⟨2, 1⟩, []⟩], [], 1, 1, 9, 2, 1, 1, 1⟩
def im22 : Img := zjs zao zcL 0 0 0 0
def tr22 : Img := zjs zao im22 1 0 0 0
def tr4 : Img := zjs zao tr22 4 0 0 0
def h22 (st tm : Int) : Hd := ⟨5, ⟨0, 0, [⟨1, 0, 1⟩, ⟨2, 0, 1⟩]⟩, [], [], st, 0, fun _ => false, false, tm, true⟩
def k22 (hs : List Hd) : Kern := ⟨6, hs, fun _ => 0, fun _ => 0, fun _ => false⟩
theorem zhj : im22.ok := ⟨⟨by decide, by decide⟩, ⟨by decide, by decide⟩, ⟨by decide, by decide⟩, ⟨by decide, by decide⟩⟩
theorem zfZ : tr22.ok := ⟨⟨by decide, by decide⟩, ⟨by decide, by decide⟩, ⟨by decide, by decide⟩, ⟨by decide, by decide⟩⟩
theorem zoO : tr4.ok := ⟨⟨by decide, by decide⟩, ⟨by decide, by decide⟩, ⟨by decide, by decide⟩, ⟨by decide, by decide⟩⟩
theorem w22a : zaw zao im22 (k22 [h22 2 0]) 0 = (k22 [], true) := by kernel_rfl
theorem w22b : zaw zao tr22 (k22 [h22 2 0]) 0 = (k22 [h22 4 2], true) := by kernel_rfl
theorem w22c : zaw zao im22 (k22 [h22 2 0]) 1 = (k22 [h22 2 0], false) := by kernel_rfl
theorem w22d : zcE zao tr22 (h22 4 2) = (h22 4 1, false) := by kernel_rfl
theorem w22e : zcE zao tr22 (h22 4 1) = (h22 4 0, true) := by kernel_rfl
theorem w22f : (zcE zao tr4 (h22 4 1)).2 = false ∧ (zcE zao tr4 (h22 4 1)).1.stage = 3 ∧ (zcE zao tr4 (h22 4 1)).1.timer = 0 := by decide +kernel
theorem w22g : zf8 zao tr22 0 = true ∧ zf8 zao im22 0 = false ∧ zf8 zao im22 1 = false := by decide +kernel
theorem w22h : inN zao tr22 (h22 2 0) = false ∧ inN zao zcL (h22 2 0) = true := by decide +kernel
theorem zdb : zao.ok := by
 intro s hs
 simp only [zao, List.mem_cons, List.not_mem_nil, or_false] at hs
 rcases hs with rfl | rfl | rfl <;> decide
theorem zev (st tm : Int) : (h22 st tm).len := ⟨by simp [h22], by simp [h22], by simp [h22]⟩
theorem zhl (st tm : Int) : (k22 [h22 st tm]).len := by
 refine ⟨by simp [k22], fun h hh => ?_⟩
 simp only [k22, List.mem_singleton] at hh
 subst hh
 exact zev st tm
theorem y22a : C f_back_Cancel [zao.av, im22.av, (k22 [h22 2 0]).av, I 0] (.tup [(k22 []).av, .bool true]) := by
 have := zbw zao zdb im22 zhj (k22 [h22 2 0]) (zhl 2 0) 0
 rw [w22a] at this; exact this
theorem y22b : C f_back_Cancel [zao.av, tr22.av, (k22 [h22 2 0]).av, I 0] (.tup [(k22 [h22 4 2]).av, .bool true]) := by
 have := zbw zao zdb tr22 zfZ (k22 [h22 2 0]) (zhl 2 0) 0
 rw [w22b] at this; exact this
theorem y22c : C f_back_Cancel [zao.av, im22.av, (k22 [h22 2 0]).av, I 1] (.tup [(k22 [h22 2 0]).av, .bool false]) := by
 have := zbw zao zdb im22 zhj (k22 [h22 2 0]) (zhl 2 0) 1
 rw [w22c] at this; exact this
theorem y22d : C f_back_Tick [zao.av, tr22.av, (h22 4 2).av] (.tup [(h22 4 1).av, .bool false]) := by
 have := zcz zao tr22 zfZ (h22 4 2) (zev 4 2)
 rw [w22d] at this; exact this
theorem y22e : C f_back_Tick [zao.av, tr22.av, (h22 4 1).av] (.tup [(h22 4 0).av, .bool true]) := by
 have := zcz zao tr22 zfZ (h22 4 1) (zev 4 1)
 rw [w22e] at this; exact this
theorem y22f : C f_back_Tick [zao.av, tr4.av, (h22 4 1).av] (.tup [(zcE zao tr4 (h22 4 1)).1.av, .bool false]) := by
 have := zcz zao tr4 zoO (h22 4 1) (zev 4 1)
 rw [hdB, w22f.1] at this; exact this
theorem y22g : C f_back_Rear [zao.av, tr22.av, I 0] (.bool true) := by
 have := zb5 zao zdb tr22 zfZ 0
 rw [w22g.1] at this; exact this
theorem y22h : C f_back_Rear [zao.av, im22.av, I 0] (.bool false) := by
 have := zb5 zao zdb im22 zhj 0
 rw [w22g.2.1] at this; exact this
theorem y22i : C f_back_Rear [zao.av, im22.av, I 1] (.bool false) := by
 have := zb5 zao zdb im22 zhj 1
 rw [w22g.2.2] at this; exact this
theorem y22j : C f_back_In [zao.av, tr22.av, (h22 2 0).av] (.bool false) := by
 have := zd0 zao tr22 zfZ (h22 2 0) (zev 2 0)
 rw [w22h.1] at this; exact this
theorem y22k : C f_back_In [zao.av, zcL.av, (h22 2 0).av] (.bool true) := by
 have := zd0 zao zcL zmq (h22 2 0) (zev 2 0)
 rw [w22h.2] at this; exact this
theorem y22s : C f_lockbarref18_Same [(k22 [h22 2 0]).av, (k22 [h22 2 0]).av] (.bool true) := by
 have := zfr (k22 [h22 2 0]) (k22 [h22 2 0]) (zhl 2 0)
 rw [zeI] at this; exact this
theorem zm8 : C f_lockbarlaw22_three [] (.tup [zao.av, im22.av, tr22.av, (h22 2 0).av]) := by
 refine ctr [] run_lockbarlaw22_three rfl rfl (by simp [AV.pure, AV.pureAll]) ?_ rfl
 unfold rt_lockbarlaw22_three
 simp
 refine call zg5 rfl (by simp) ?_
 simp
 refine call (r := im22.av) (zd3 zao zcL 0 0 0 0 (by omega) (by omega) (by omega) (by omega) (by omega) (by omega) (by omega) (by omega)) (by simp [Lay.cells, zao, noP, Sec.cells, Port.cells, Exi.cells, Step.cells]) (fun h => by first | rfl | cases h) ?_
 simp [Img.cells]
 refine call (r := tr22.av) (zd3 zao im22 1 0 0 0 (by omega) (by omega) (by omega) (by omega) (by omega) (by omega) (by omega) (by omega)) (by simp [Img.cells, Lay.cells, zao, noP, Sec.cells, Port.cells, Exi.cells, Step.cells]) (fun h => by first | rfl | cases h) ?_
 simp [Img.cells, h22, Hd.cells, Lay.cells, zao, noP, Sec.cells, Port.cells, Exi.cells, Step.cells]
end Go.Lb.LK
namespace Go.Lb.LK
open Go Go.Lb Go.Proofs Go.RowKit
set_option maxRecDepth 100000 in
set_option maxHeartbeats 4000000 in
theorem zaV : C f_lockbarlaw22_wakes [] (.bool true) := by
 refine ctr [] run_lockbarlaw22_wakes rfl rfl rfl ?_ rfl
 unfold rt_lockbarlaw22_wakes
 refine call zm8 rfl (by simp) ?_
 simp [Kern.cells, k22, Hd.cells, h22, Step.cells, Img.cells, Lay.cells, zao, noP, Sec.cells, Port.cells, Exi.cells]
 refine call y22a (by simp [Kern.cells, k22, Hd.cells, h22, Step.cells, Img.cells, Lay.cells, zao, noP, Sec.cells, Port.cells, Exi.cells] <;> rfl) (fun h => by first | rfl | cases h) ?_
 simp [Kern.cells, k22, Hd.cells, h22, Step.cells, Img.cells, Lay.cells, zao, noP, Sec.cells, Port.cells, Exi.cells]
 refine call y22b (by simp [Kern.cells, k22, Hd.cells, h22, Step.cells, Img.cells, Lay.cells, zao, noP, Sec.cells, Port.cells, Exi.cells] <;> rfl) (fun h => by first | rfl | cases h) ?_
 simp [Kern.cells, k22, Hd.cells, h22, Step.cells, Img.cells, Lay.cells, zao, noP, Sec.cells, Port.cells, Exi.cells]
 refine call y22c (by simp [Kern.cells, k22, Hd.cells, h22, Step.cells, Img.cells, Lay.cells, zao, noP, Sec.cells, Port.cells, Exi.cells] <;> rfl) (fun h => by first | rfl | cases h) ?_
 simp [Kern.cells, k22, Hd.cells, h22, Step.cells, Img.cells, Lay.cells, zao, noP, Sec.cells, Port.cells, Exi.cells]
 refine call y22d (by simp [Kern.cells, k22, Hd.cells, h22, Step.cells, Img.cells, Lay.cells, zao, noP, Sec.cells, Port.cells, Exi.cells] <;> rfl) (fun h => by first | rfl | cases h) ?_
 simp [Kern.cells, k22, Hd.cells, h22, Step.cells, Img.cells, Lay.cells, zao, noP, Sec.cells, Port.cells, Exi.cells]
 refine call y22e (by simp [Kern.cells, k22, Hd.cells, h22, Step.cells, Img.cells, Lay.cells, zao, noP, Sec.cells, Port.cells, Exi.cells] <;> rfl) (fun h => by first | rfl | cases h) ?_
 simp [Kern.cells, k22, Hd.cells, h22, Step.cells, Img.cells, Lay.cells, zao, noP, Sec.cells, Port.cells, Exi.cells]
 refine call (r := tr4.av) (zd3 zao tr22 4 0 0 0 (by omega) (by omega) (by omega) (by omega) (by omega) (by omega) (by omega) (by omega)) (by simp [Kern.cells, k22, Hd.cells, h22, Step.cells, Img.cells, Lay.cells, zao, noP, Sec.cells, Port.cells, Exi.cells] <;> rfl) (fun h => by first | rfl | cases h) ?_
 simp [Kern.cells, k22, Hd.cells, h22, Step.cells, Img.cells, Lay.cells, zao, noP, Sec.cells, Port.cells, Exi.cells]
 refine call y22f (by simp [Kern.cells, k22, Hd.cells, h22, Step.cells, Img.cells, Lay.cells, zao, noP, Sec.cells, Port.cells, Exi.cells] <;> rfl) (fun h => by first | rfl | cases h) ?_
 simp [Kern.cells, k22, Hd.cells, h22, Step.cells, Img.cells, Lay.cells, zao, noP, Sec.cells, Port.cells, Exi.cells]
 refine zap (avs := [(k22 [h22 2 0]).av, (k22 [h22 2 0]).av]) (.bool true) (by simp [AV.pure]) (fun _ => ⟨by (simp [Kern.cells, k22, Hd.cells, h22, Step.cells, Img.cells, Lay.cells, zao, noP, Sec.cells, Port.cells, Exi.cells, w22f.2.1, w22f.2.2] <;> rfl), y22s⟩) (fun h => by first | rfl | cases h) ?_
 simp [Kern.cells, k22, Hd.cells, h22, Step.cells, Img.cells, Lay.cells, zao, noP, Sec.cells, Port.cells, Exi.cells, w22f.2.1, w22f.2.2]
 refine zap (avs := [zao.av, tr22.av, I 0]) (.bool true) (by simp [AV.pure]) (fun _ => ⟨by (simp [Kern.cells, k22, Hd.cells, h22, Step.cells, Img.cells, Lay.cells, zao, noP, Sec.cells, Port.cells, Exi.cells, w22f.2.1, w22f.2.2] <;> rfl), y22g⟩) (fun h => by first | rfl | cases h) ?_
 simp [Kern.cells, k22, Hd.cells, h22, Step.cells, Img.cells, Lay.cells, zao, noP, Sec.cells, Port.cells, Exi.cells, w22f.2.1, w22f.2.2]
 refine zap (avs := [zao.av, im22.av, I 0]) (.bool false) (by simp [AV.pure]) (fun _ => ⟨by (simp [Kern.cells, k22, Hd.cells, h22, Step.cells, Img.cells, Lay.cells, zao, noP, Sec.cells, Port.cells, Exi.cells, w22f.2.1, w22f.2.2] <;> rfl), y22h⟩) (fun h => by first | rfl | cases h) ?_
 simp [Kern.cells, k22, Hd.cells, h22, Step.cells, Img.cells, Lay.cells, zao, noP, Sec.cells, Port.cells, Exi.cells, w22f.2.1, w22f.2.2]
 refine zap (avs := [zao.av, im22.av, I 1]) (.bool false) (by simp [AV.pure]) (fun _ => ⟨by (simp [Kern.cells, k22, Hd.cells, h22, Step.cells, Img.cells, Lay.cells, zao, noP, Sec.cells, Port.cells, Exi.cells, w22f.2.1, w22f.2.2] <;> rfl), y22i⟩) (fun h => by first | rfl | cases h) ?_
 simp [Kern.cells, k22, Hd.cells, h22, Step.cells, Img.cells, Lay.cells, zao, noP, Sec.cells, Port.cells, Exi.cells, w22f.2.1, w22f.2.2]
 refine zap (avs := [zao.av, tr22.av, (h22 2 0).av]) (.bool false) (by simp [AV.pure]) (fun _ => ⟨by (simp [Kern.cells, k22, Hd.cells, h22, Step.cells, Img.cells, Lay.cells, zao, noP, Sec.cells, Port.cells, Exi.cells, w22f.2.1, w22f.2.2] <;> rfl), y22j⟩) (fun h => by first | rfl | cases h) ?_
 simp [Kern.cells, k22, Hd.cells, h22, Step.cells, Img.cells, Lay.cells, zao, noP, Sec.cells, Port.cells, Exi.cells, w22f.2.1, w22f.2.2]
 refine zap (avs := []) zcL.av (by simp [AV.pure]) (fun _ => ⟨by (rfl), zg5⟩) (fun h => by first | rfl | cases h) ?_
 simp [Kern.cells, k22, Hd.cells, h22, Step.cells, Img.cells, Lay.cells, zao, noP, Sec.cells, Port.cells, Exi.cells, w22f.2.1, w22f.2.2]
 refine zap (avs := [zao.av, zcL.av, (h22 2 0).av]) (.bool true) (by simp [AV.pure]) (fun _ => ⟨by (simp [Kern.cells, k22, Hd.cells, h22, Step.cells, Img.cells, Lay.cells, zao, noP, Sec.cells, Port.cells, Exi.cells, w22f.2.1, w22f.2.2] <;> rfl), y22k⟩) (fun h => by first | rfl | cases h) ?_
 simp [Kern.cells, k22, Hd.cells, h22, Step.cells, Img.cells, Lay.cells, zao, noP, Sec.cells, Port.cells, Exi.cells, w22f.2.1, w22f.2.2]
 exact w22f.2
end Go.Lb.LK
namespace Go.Lb.LK
open Go Go.Lb Go.Proofs
noncomputable section
end
end Go.Lb.LK
namespace Go.Lb.LK
open Go Go.Lb Go.Proofs Go.RowKit
theorem zi4 {l : Lay} {im : Img} {k : Kern} {x : Int} (h : k.len) : (zaw l im k x).1.len := by
 unfold zaw
 split
 ·exact h
 ·split
  ·rename_i g hg
   have hgm := List.mem_of_getElem? hg
   unfold za8
   split
   ·refine ⟨?_, fun y hy => ?_⟩
    ·have := h.1
     simp only [List.length_append, List.length_take, List.length_drop]; omega
    ·rcases List.mem_append.1 hy with hy | hy
     ·exact h.2 y (List.mem_of_mem_take hy)
     ·exact h.2 y (List.mem_of_mem_drop hy)
   ·split
    ·refine ⟨by simpa using h.1, fun y hy => ?_⟩
     rcases List.mem_or_eq_of_mem_set hy with hy | rfl
     ·exact h.2 y hy
     ·exact h.2 g hgm
    ·exact h
  ·exact h
theorem zlC {l : Lay} {im : Img} {h : Hd} (hl : h.len) : (runS l im h).len := by
 unfold runS
 split
 ·exact hl
 ·exact hl
end Go.Lb.LK
