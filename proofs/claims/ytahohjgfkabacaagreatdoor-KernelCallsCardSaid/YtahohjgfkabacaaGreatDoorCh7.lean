/- A train's tick, as the program has it. -/
import Derived.Test.YtahohjgfkabacaaGreatDoorCh6
import Derived.Test.YtahohjgfkabacaaGreatDoorCh5
set_option linter.unusedSimpArgs false
set_option linter.unusedVariables false
namespace Go.Lb.LK
open Go Go.Lb Go.Proofs Go.RowKit
set_option maxHeartbeats 4000000 in
theorem zgD (l : Lay) (im : Img) (hi : im.ok) (h : Hd) (hl : h.len) (hs : 0 ≤ h.stage ∧ h.stage ≤ 255) : C f_pass_Run [l.av, im.av, h.av] (runS l im h).av := by
 refine ctr (l.cells ++ im.cells ++ h.cells) run_pass_Run rfl (lih l im h) (by simp [AV.pure]) ?_ rfl
 unfold rt_pass_Run
 simp [Lay.cells, Img.cells, Hd.cells]
 refine call (zca h hl) (by simp [Hd.cells]) (by simp) ?_
 simp [Hd.av, Hd.cells]
 have hll := hl.1
 have hwn : IntKind.i64.wrap ((h.path.steps.length : Int) - 1) = (h.path.steps.length : Int) - 1 := by rw [zaI] <;> omega
 refine call (zfD l im h hl hs) (by simp [Lay.cells, Img.cells, Hd.cells]) (by simp) ?_
 simp
 refine ⟨fun ha => by rw [zfe ha]; simp, fun ha => ?_⟩
 rw [zdB ha]
 simp only [zbz, Bool.or_eq_false_iff, Bool.not_eq_false'] at ha
 obtain ⟨⟨a1, a2, a3, a4, a5, a6, a7⟩, ⟨d1, d2, d3, d4⟩, _⟩ := zaM ha.1
 obtain ⟨g, hg⟩ : ∃ g : Nat, h.gone = g := ⟨h.gone.toNat, by omega⟩
 refine zac rfl (fun vs => ∃ k : Nat, g ≤ k ∧ k ≤ h.n ∧ vs = I k :: zeb (wrM l im h k)) (fun vs => match vs with | .int _ j :: _ => h.n - j.toNat | _ => 0) ⟨g, by omega, by unfold Hd.n; omega, by simp [zm1 (l := l) (im := im) (h := h) (m := g) (by omega), hg, zeb]⟩ ?_
 rintro vs - ⟨k, hk1, hk2, rfl⟩
 have hn : h.n = h.path.steps.length := rfl
 simp only [zeb, List.cons_append, List.nil_append]
 refine zfY.2 ⟨fun _ => by simp, zeM.2 (zfY.2 ⟨fun _ => by simp, zeM.2 (ziN.2 ⟨decide ((k : Int) < h.path.steps.length), by simp, fun hlt => ?_, fun hge => ?_⟩)⟩)⟩
 ·have hlt : k < h.path.steps.length := by simpa using hlt
  have hAk := zeZ (wrM l im h k) (i := k) (z := (k : Int)) rfl (by omega)
  have hAk1 := fun hk0 : ¬ k = 0 => zeZ (wrM l im h k) (i := k - 1) (z := (k : Int) - 1) (by omega) (by omega)
  have hwk1 : ¬ k = 0 → IntKind.i64.wrap ((k : Int) - 1) = (k : Int) - 1 := fun _ => by rw [zaI] <;> omega
  have hw := zad (i := k) (by omega)
  have hat := zsN (l := l) (im := im) (h := h) (k := k) (by omega) (by omega)
  have hkk : wrM l im h k k = h.was k := by simp [wrM]
  have hpw : ¬ k = 0 → wrM l im h k (k - 1) = wr l im h (k - 1) := fun hk0 => by unfold wrM; rw [if_pos (by omega)]
  simp [hlt, Step.cells, hAk, hkk, -zab]
  cases hwas : h.was k
  ·simp
   repeat refine ⟨by omega, ?_⟩
   refine call (zeg l im hi (zaK h k)) (by simp [Lay.cells, Img.cells, hlt, Step.cells, zbt]) (by simp) ?_
   by_cases hk0 : k = 0
   ·have hkt : (k = 0) = True := eq_true hk0
    have hat2 : wr l im h k = told l im (zaK h k) := by rw [hat, hwas]; simp [hk0]
    simp [hkt, hw, -zab]
    refine ⟨by omega, ⟨k + 1, by omega, by omega, by omega, ?_⟩, by omega⟩
    simp only [zhj, hat2, and_self]
   ·have hat2 : wr l im h k = (told l im (zaK h k) && wr l im h (k - 1)) := by rw [hat, hwas]; simp [hk0]
    simp [hk0, hwk1 hk0, hAk1 hk0, hpw hk0, hw, -zab]
    repeat refine ⟨by intros; omega, ?_⟩
    refine ⟨⟨k + 1, by omega, by omega, by omega, ?_⟩, by omega⟩
    simp only [zhj, hat2, and_self]
  ·have hat2 : wr l im h k = true := by rw [hat, hwas]; rfl
   simp [hw, -zab]
   repeat refine ⟨by intros; omega, ?_⟩
   refine ⟨⟨k + 1, by omega, by omega, by omega, ?_⟩, by omega⟩
   simp only [zpw hat2]
   simp [eq_comm]
 ·have hge : h.path.steps.length ≤ k := by simpa using hge
  have hkn : k = h.n := by omega
  subst hkn
  rw [zo0 (Nat.le_refl _)]
  have hwn : IntKind.i64.wrap ((h.path.steps.length : Int) - 1) = (h.path.steps.length : Int) - 1 := by rw [zaI] <;> omega
  refine zfY.2 ⟨fun _ => by simp [AV.kinds], zeM.2 (zhX.2 (zeM.2 ?_))⟩
  rw [zhJ]
  case h => rfl
  refine ziN.2 ⟨_, rfl, fun hb => ?_, fun hb => ?_⟩
  ·clear hb
   have hrs : h.gone.toNat = g := by omega
   simp only [hrs]
   have hAn := zeZ (wr l im h) (i := h.path.steps.length - 1) (z := (h.path.steps.length : Int) - 1) (by omega) (by omega)
   rw [show wr l im h (h.path.steps.length - 1) = zos l im h from rfl] at hAn
   have hgo : goX l im h g = goX l im h g := rfl
   by_cases hlt : g < h.path.steps.length
   ·have hAk := zeZ (wr l im h) (i := g) (z := (g : Int)) rfl (by omega)
    have hAk1 := fun (hk : ¬ g = h.path.steps.length - 1) => zeZ (wr l im h) (i := g + 1) (z := (g : Int) + 1) rfl (by omega)
    have hw : IntKind.i64.wrap ((g : Int) + 1) = (g : Int) + 1 := by rw [zaI] <;> omega
    have hle : ((g : Int) ≤ (h.path.steps.length : Int) - 1) = True := by simp only [eq_iff_iff, iff_true]; omega
    have hgt : ((h.path.steps.length : Int) - 1 < (g : Int)) = False := by simp only [eq_iff_iff, iff_false]; omega
    have hkn2 : ¬ g = h.path.steps.length := by omega
    have hcan : zbk l im h g = (wr l im h g && ((decide (g = h.path.steps.length - 1) || wr l im h (g + 1)) && !zag l im (zaK h g))) := by
     have e : decide (g + 1 = h.path.steps.length) = decide (g = h.path.steps.length - 1) := decide_eq_decide.2 (by omega)
     unfold zbk
     rw [hn, e]; simp [hlt]
    have hstop : zbk l im h g = false → goX l im h g = g := fun hc => by rw [hgo]; exact zbE hc
    have hgoon : zbk l im h g = true → goX l im h g = goX l im h (g + 1) := fun hc => by rw [hgo]; exact zhR hc
    by_cases hkn : g = h.path.steps.length - 1
    ·have heq : ((g : Int) = (h.path.steps.length : Int) - 1) = True := by simp only [eq_iff_iff, iff_true]; omega
     have hdk : decide (g = h.path.steps.length - 1) = true := decide_eq_true hkn
     rw [hdk] at hcan
     cases hwk : wr l im h g
     ·have hst := hstop (by rw [hcan, hwk]; rfl)
      simp [hg, hwn, hle, heq, hgt, hAk, hAn, hwk, hlt, -zab]
      repeat refine And.intro (by omega) ?_
      refine ⟨fun hL => ?_, fun hL => ?_⟩
      ·refine call (zal h.timer) (by simp) (by simp) ?_
       simp [hL, hst, hrs, hwn, hgt, opnS, zan, hn, hkn2, Bool.or_assoc, Bool.or_comm, -zab]
      ·simp [hL, hst, hrs, hwn, hgt, opnS, zan, hn, hkn2, Bool.or_comm, -zab]
     ·simp [hg, hwn, hle, heq, hgt, hAk, hAn, hwk, hlt, Step.cells, -zab]
      repeat refine And.intro (by omega) ?_
      refine call (zaq l im hi (zaK h g)) (by simp [Lay.cells, Img.cells, hlt, Step.cells, zbt]) (by simp) ?_
      cases hoc : zag l im (zaK h g)
      ·have hgo3 := hgoon (by rw [hcan, hwk, hoc]; rfl)
       simp [hg, hwn, hle, heq, hgt, hAk, hAn, hwk, hlt, hw, -zab]
       repeat refine And.intro (by omega) ?_
       have hgo4 := hgo3
       have hwg : IntKind.i64.wrap ((g : Int) + 1) = ((g + 1 : Nat) : Int) := by rw [zaI] <;> omega
       have hlt0 := hlt
       clear hgo3 hwk hAk hAk1 hcan hstop hgoon hle hgt heq hw hdk hkn hkn2 hgo hoc hlt
       refine zac rfl (fun vs => ∃ (k : Nat) (a b c d e f p q r s t z : AV), g ≤ k ∧ k ≤ h.n ∧ vs = [a, b, c, d, e, f, p, q, r, s, t, z] ∧ z = I k ∧ goX l im h g = goX l im h k) (fun vs => match vs with | [_, _, _, _, _, _, _, _, _, _, _, .int _ j] => h.n + 1 - j.toNat | _ => 0) ⟨g + 1, _, _, _, _, _, _, _, _, _, _, _, _, by omega, by omega, rfl, by simp [hg, hwg], hgo4⟩ ?_
       rintro vs - ⟨k, a, b, c, d, e, f, p, q, r, s, t, _, hk1, hk2, rfl, rfl, hgo⟩
       simp only [List.cons_append, List.nil_append]
       by_cases hlt : k < h.path.steps.length
       ·have hAk := zeZ (wr l im h) (i := k) (z := (k : Int)) rfl (by omega)
        have hAk1 := fun (hk : ¬ k = h.path.steps.length - 1) => zeZ (wr l im h) (i := k + 1) (z := (k : Int) + 1) rfl (by omega)
        have hw : IntKind.i64.wrap ((k : Int) + 1) = (k : Int) + 1 := by rw [zaI] <;> omega
        have hle : ((k : Int) ≤ (h.path.steps.length : Int) - 1) = True := by simp only [eq_iff_iff, iff_true]; omega
        have hgt : ((h.path.steps.length : Int) - 1 < (k : Int)) = False := by simp only [eq_iff_iff, iff_false]; omega
        have hkn2 : ¬ k = h.path.steps.length := by omega
        have hcan : zbk l im h k = (wr l im h k && ((decide (k = h.path.steps.length - 1) || wr l im h (k + 1)) && !zag l im (zaK h k))) := by
         have e : decide (k + 1 = h.path.steps.length) = decide (k = h.path.steps.length - 1) := decide_eq_decide.2 (by omega)
         unfold zbk
         rw [hn, e]; simp [hlt]
        have hstop : zbk l im h k = false → goX l im h g = k := fun hc => by rw [hgo]; exact zbE hc
        have hgoon : zbk l im h k = true → goX l im h g = goX l im h (k + 1) := fun hc => by rw [hgo]; exact zhR hc
        by_cases hkn : k = h.path.steps.length - 1
        ·have heq : ((k : Int) = (h.path.steps.length : Int) - 1) = True := by simp only [eq_iff_iff, iff_true]; omega
         have hdk : decide (k = h.path.steps.length - 1) = true := decide_eq_true hkn
         rw [hdk] at hcan
         cases hwk : wr l im h k
         ·have hst := hstop (by rw [hcan, hwk]; rfl)
          simp [hg, hwn, hle, heq, hgt, hAk, hAn, hwk, hlt, -zab]
          repeat refine And.intro (by omega) ?_
          refine ⟨fun hL => ?_, fun hL => ?_⟩
          ·refine call (zal h.timer) (by simp) (by simp) ?_
           simp [hL, hst, hrs, hwn, hgt, opnS, zan, hn, hkn2, Bool.or_assoc, Bool.or_comm, -zab]
          ·simp [hL, hst, hrs, hwn, hgt, opnS, zan, hn, hkn2, Bool.or_comm, -zab]
         ·simp [hg, hwn, hle, heq, hgt, hAk, hAn, hwk, hlt, Step.cells, -zab]
          repeat refine And.intro (by omega) ?_
          refine call (zaq l im hi (zaK h k)) (by simp [Lay.cells, Img.cells, hlt, Step.cells, zbt]) (by simp) ?_
          cases hoc : zag l im (zaK h k)
          ·have hgo3 := hgoon (by rw [hcan, hwk, hoc]; rfl)
           simp [hg, hwn, hle, heq, hgt, hAk, hAn, hwk, hlt, hw, -zab]
           repeat refine And.intro (by omega) ?_
           refine ⟨⟨k + 1, by omega, by omega, ?_⟩, by omega⟩
           simp [hgo3]
          ·have hst := hstop (by rw [hcan, hwk, hoc]; rfl)
           simp [hg, hwn, hle, heq, hgt, hAk, hAn, hwk, hlt, -zab]
           repeat refine And.intro (by omega) ?_
           refine ⟨fun hL => ?_, fun hL => ?_⟩
           ·refine call (zal h.timer) (by simp) (by simp) ?_
            simp [hL, hst, hrs, hwn, hgt, opnS, zan, hn, hkn2, Bool.or_assoc, Bool.or_comm, -zab]
           ·simp [hL, hst, hrs, hwn, hgt, opnS, zan, hn, hkn2, Bool.or_comm, -zab]
        ·have heq : ((k : Int) = (h.path.steps.length : Int) - 1) = False := by simp only [eq_iff_iff, iff_false]; omega
         have hdk : decide (k = h.path.steps.length - 1) = false := decide_eq_false hkn
         rw [hdk, Bool.false_or] at hcan
         cases hwk : wr l im h k
         ·have hst := hstop (by rw [hcan, hwk]; rfl)
          simp [hg, hwn, hle, heq, hgt, hAk, hAk1 hkn, hAn, hwk, hlt, hw, -zab]
          repeat refine And.intro (by omega) ?_
          refine ⟨fun hL => ?_, fun hL => ?_⟩
          ·refine call (zal h.timer) (by simp) (by simp) ?_
           simp [hL, hst, hrs, hwn, hgt, opnS, zan, hn, hkn2, Bool.or_assoc, Bool.or_comm, -zab]
          ·simp [hL, hst, hrs, hwn, hgt, opnS, zan, hn, hkn2, Bool.or_comm, -zab]
         ·cases hwk2 : wr l im h (k + 1)
          ·have hst := hstop (by rw [hcan, hwk, hwk2]; rfl)
           simp [hg, hwn, hle, heq, hgt, hAk, hAk1 hkn, hAn, hwk, hwk2, hlt, hw, -zab]
           repeat refine And.intro (by omega) ?_
           refine ⟨fun hL => ?_, fun hL => ?_⟩
           ·refine call (zal h.timer) (by simp) (by simp) ?_
            simp [hL, hst, hrs, hwn, hgt, opnS, zan, hn, hkn2, Bool.or_assoc, Bool.or_comm, -zab]
           ·simp [hL, hst, hrs, hwn, hgt, opnS, zan, hn, hkn2, Bool.or_comm, -zab]
          ·simp [hg, hwn, hle, heq, hgt, hAk, hAk1 hkn, hAn, hwk, hwk2, hlt, hw, Step.cells, -zab]
           repeat refine And.intro (by omega) ?_
           refine call (zaq l im hi (zaK h k)) (by simp [Lay.cells, Img.cells, hlt, Step.cells, zbt]) (by simp) ?_
           cases hoc : zag l im (zaK h k)
           ·have hgo3 := hgoon (by rw [hcan, hwk, hwk2, hoc]; rfl)
            simp [hg, hwn, hle, heq, hgt, hAk, hAk1 hkn, hAn, hwk, hwk2, hlt, hw, -zab]
            repeat refine And.intro (by omega) ?_
            refine ⟨⟨k + 1, by omega, by omega, ?_⟩, by omega⟩
            simp [hgo3]
           ·have hst := hstop (by rw [hcan, hwk, hwk2, hoc]; rfl)
            simp [hg, hwn, hle, heq, hgt, hAk, hAk1 hkn, hAn, hwk, hwk2, hlt, hw, -zab]
            repeat refine And.intro (by omega) ?_
            refine ⟨fun hL => ?_, fun hL => ?_⟩
            ·refine call (zal h.timer) (by simp) (by simp) ?_
             simp [hL, hst, hrs, hwn, hgt, opnS, zan, hn, hkn2, Bool.or_assoc, Bool.or_comm, -zab]
            ·simp [hL, hst, hrs, hwn, hgt, opnS, zan, hn, hkn2, Bool.or_comm, -zab]
       ·have hkn3 : k = h.path.steps.length := by omega
        have hle : ((k : Int) ≤ (h.path.steps.length : Int) - 1) = False := by simp only [eq_iff_iff, iff_false]; omega
        have hgt : ((h.path.steps.length : Int) - 1 < (k : Int)) = True := by simp only [eq_iff_iff, iff_true]; omega
        have heq : ((k : Int) = (h.path.steps.length : Int) - 1) = False := by simp only [eq_iff_iff, iff_false]; omega
        have hkn2 : (k = h.path.steps.length) = True := eq_true hkn3
        have hw : IntKind.i64.wrap ((k : Int) + 1) = (k : Int) + 1 := by rw [zaI] <;> omega
        have hst : goX l im h g = k := by
         rw [hgo]; refine zbE ?_
         unfold zbk; rw [hn]; simp [hlt]
        simp [hg, hwn, hle, heq, hgt, hAn, hw, -zab]
        repeat refine And.intro (by omega) ?_
        refine ⟨fun hL => ?_, fun hL => ?_⟩
        ·refine call (zal h.timer) (by simp) (by simp) ?_
         simp [hL, hst, hrs, hwn, hgt, opnS, zan, hn, hkn2, Bool.or_assoc, Bool.or_comm, -zab]
        ·simp [hL, hst, hrs, hwn, hgt, opnS, zan, hn, hkn2, Bool.or_comm, -zab]
      ·have hst := hstop (by rw [hcan, hwk, hoc]; rfl)
       simp [hg, hwn, hle, heq, hgt, hAk, hAn, hwk, hlt, -zab]
       repeat refine And.intro (by omega) ?_
       refine ⟨fun hL => ?_, fun hL => ?_⟩
       ·refine call (zal h.timer) (by simp) (by simp) ?_
        simp [hL, hst, hrs, hwn, hgt, opnS, zan, hn, hkn2, Bool.or_assoc, Bool.or_comm, -zab]
       ·simp [hL, hst, hrs, hwn, hgt, opnS, zan, hn, hkn2, Bool.or_comm, -zab]
    ·have heq : ((g : Int) = (h.path.steps.length : Int) - 1) = False := by simp only [eq_iff_iff, iff_false]; omega
     have hdk : decide (g = h.path.steps.length - 1) = false := decide_eq_false hkn
     rw [hdk, Bool.false_or] at hcan
     cases hwk : wr l im h g
     ·have hst := hstop (by rw [hcan, hwk]; rfl)
      simp [hg, hwn, hle, heq, hgt, hAk, hAk1 hkn, hAn, hwk, hlt, hw, -zab]
      repeat refine And.intro (by omega) ?_
      refine ⟨fun hL => ?_, fun hL => ?_⟩
      ·refine call (zal h.timer) (by simp) (by simp) ?_
       simp [hL, hst, hrs, hwn, hgt, opnS, zan, hn, hkn2, Bool.or_assoc, Bool.or_comm, -zab]
      ·simp [hL, hst, hrs, hwn, hgt, opnS, zan, hn, hkn2, Bool.or_comm, -zab]
     ·cases hwk2 : wr l im h (g + 1)
      ·have hst := hstop (by rw [hcan, hwk, hwk2]; rfl)
       simp [hg, hwn, hle, heq, hgt, hAk, hAk1 hkn, hAn, hwk, hwk2, hlt, hw, -zab]
       repeat refine And.intro (by omega) ?_
       refine ⟨fun hL => ?_, fun hL => ?_⟩
       ·refine call (zal h.timer) (by simp) (by simp) ?_
        simp [hL, hst, hrs, hwn, hgt, opnS, zan, hn, hkn2, Bool.or_assoc, Bool.or_comm, -zab]
       ·simp [hL, hst, hrs, hwn, hgt, opnS, zan, hn, hkn2, Bool.or_comm, -zab]
      ·simp [hg, hwn, hle, heq, hgt, hAk, hAk1 hkn, hAn, hwk, hwk2, hlt, hw, Step.cells, -zab]
       repeat refine And.intro (by omega) ?_
       refine call (zaq l im hi (zaK h g)) (by simp [Lay.cells, Img.cells, hlt, Step.cells, zbt]) (by simp) ?_
       cases hoc : zag l im (zaK h g)
       ·have hgo3 := hgoon (by rw [hcan, hwk, hwk2, hoc]; rfl)
        simp [hg, hwn, hle, heq, hgt, hAk, hAk1 hkn, hAn, hwk, hwk2, hlt, hw, -zab]
        repeat refine And.intro (by omega) ?_
        have hgo4 := hgo3
        have hwg : IntKind.i64.wrap ((g : Int) + 1) = ((g + 1 : Nat) : Int) := by rw [zaI] <;> omega
        have hlt0 := hlt
        clear hgo3 hwk hAk hAk1 hcan hstop hgoon hle hgt heq hw hdk hkn hkn2 hgo hoc hlt
        refine zac rfl (fun vs => ∃ (k : Nat) (a b c d e f p q r s t z : AV), g ≤ k ∧ k ≤ h.n ∧ vs = [a, b, c, d, e, f, p, q, r, s, t, z] ∧ z = I k ∧ goX l im h g = goX l im h k) (fun vs => match vs with | [_, _, _, _, _, _, _, _, _, _, _, .int _ j] => h.n + 1 - j.toNat | _ => 0) ⟨g + 1, _, _, _, _, _, _, _, _, _, _, _, _, by omega, by omega, rfl, by simp [hg, hwg], hgo4⟩ ?_
        rintro vs - ⟨k, a, b, c, d, e, f, p, q, r, s, t, _, hk1, hk2, rfl, rfl, hgo⟩
        simp only [List.cons_append, List.nil_append]
        by_cases hlt : k < h.path.steps.length
        ·have hAk := zeZ (wr l im h) (i := k) (z := (k : Int)) rfl (by omega)
         have hAk1 := fun (hk : ¬ k = h.path.steps.length - 1) => zeZ (wr l im h) (i := k + 1) (z := (k : Int) + 1) rfl (by omega)
         have hw : IntKind.i64.wrap ((k : Int) + 1) = (k : Int) + 1 := by rw [zaI] <;> omega
         have hle : ((k : Int) ≤ (h.path.steps.length : Int) - 1) = True := by simp only [eq_iff_iff, iff_true]; omega
         have hgt : ((h.path.steps.length : Int) - 1 < (k : Int)) = False := by simp only [eq_iff_iff, iff_false]; omega
         have hkn2 : ¬ k = h.path.steps.length := by omega
         have hcan : zbk l im h k = (wr l im h k && ((decide (k = h.path.steps.length - 1) || wr l im h (k + 1)) && !zag l im (zaK h k))) := by
          have e : decide (k + 1 = h.path.steps.length) = decide (k = h.path.steps.length - 1) := decide_eq_decide.2 (by omega)
          unfold zbk
          rw [hn, e]; simp [hlt]
         have hstop : zbk l im h k = false → goX l im h g = k := fun hc => by rw [hgo]; exact zbE hc
         have hgoon : zbk l im h k = true → goX l im h g = goX l im h (k + 1) := fun hc => by rw [hgo]; exact zhR hc
         by_cases hkn : k = h.path.steps.length - 1
         ·have heq : ((k : Int) = (h.path.steps.length : Int) - 1) = True := by simp only [eq_iff_iff, iff_true]; omega
          have hdk : decide (k = h.path.steps.length - 1) = true := decide_eq_true hkn
          rw [hdk] at hcan
          cases hwk : wr l im h k
          ·have hst := hstop (by rw [hcan, hwk]; rfl)
           simp [hg, hwn, hle, heq, hgt, hAk, hAn, hwk, hlt, -zab]
           repeat refine And.intro (by omega) ?_
           refine ⟨fun hL => ?_, fun hL => ?_⟩
           ·refine call (zal h.timer) (by simp) (by simp) ?_
            simp [hL, hst, hrs, hwn, hgt, opnS, zan, hn, hkn2, Bool.or_assoc, Bool.or_comm, -zab]
           ·simp [hL, hst, hrs, hwn, hgt, opnS, zan, hn, hkn2, Bool.or_comm, -zab]
          ·simp [hg, hwn, hle, heq, hgt, hAk, hAn, hwk, hlt, Step.cells, -zab]
           repeat refine And.intro (by omega) ?_
           refine call (zaq l im hi (zaK h k)) (by simp [Lay.cells, Img.cells, hlt, Step.cells, zbt]) (by simp) ?_
           cases hoc : zag l im (zaK h k)
           ·have hgo3 := hgoon (by rw [hcan, hwk, hoc]; rfl)
            simp [hg, hwn, hle, heq, hgt, hAk, hAn, hwk, hlt, hw, -zab]
            repeat refine And.intro (by omega) ?_
            refine ⟨⟨k + 1, by omega, by omega, ?_⟩, by omega⟩
            simp [hgo3]
           ·have hst := hstop (by rw [hcan, hwk, hoc]; rfl)
            simp [hg, hwn, hle, heq, hgt, hAk, hAn, hwk, hlt, -zab]
            repeat refine And.intro (by omega) ?_
            refine ⟨fun hL => ?_, fun hL => ?_⟩
            ·refine call (zal h.timer) (by simp) (by simp) ?_
             simp [hL, hst, hrs, hwn, hgt, opnS, zan, hn, hkn2, Bool.or_assoc, Bool.or_comm, -zab]
            ·simp [hL, hst, hrs, hwn, hgt, opnS, zan, hn, hkn2, Bool.or_comm, -zab]
         ·have heq : ((k : Int) = (h.path.steps.length : Int) - 1) = False := by simp only [eq_iff_iff, iff_false]; omega
          have hdk : decide (k = h.path.steps.length - 1) = false := decide_eq_false hkn
          rw [hdk, Bool.false_or] at hcan
          cases hwk : wr l im h k
          ·have hst := hstop (by rw [hcan, hwk]; rfl)
           simp [hg, hwn, hle, heq, hgt, hAk, hAk1 hkn, hAn, hwk, hlt, hw, -zab]
           repeat refine And.intro (by omega) ?_
           refine ⟨fun hL => ?_, fun hL => ?_⟩
           ·refine call (zal h.timer) (by simp) (by simp) ?_
            simp [hL, hst, hrs, hwn, hgt, opnS, zan, hn, hkn2, Bool.or_assoc, Bool.or_comm, -zab]
           ·simp [hL, hst, hrs, hwn, hgt, opnS, zan, hn, hkn2, Bool.or_comm, -zab]
          ·cases hwk2 : wr l im h (k + 1)
           ·have hst := hstop (by rw [hcan, hwk, hwk2]; rfl)
            simp [hg, hwn, hle, heq, hgt, hAk, hAk1 hkn, hAn, hwk, hwk2, hlt, hw, -zab]
            repeat refine And.intro (by omega) ?_
            refine ⟨fun hL => ?_, fun hL => ?_⟩
            ·refine call (zal h.timer) (by simp) (by simp) ?_
             simp [hL, hst, hrs, hwn, hgt, opnS, zan, hn, hkn2, Bool.or_assoc, Bool.or_comm, -zab]
            ·simp [hL, hst, hrs, hwn, hgt, opnS, zan, hn, hkn2, Bool.or_comm, -zab]
           ·simp [hg, hwn, hle, heq, hgt, hAk, hAk1 hkn, hAn, hwk, hwk2, hlt, hw, Step.cells, -zab]
            repeat refine And.intro (by omega) ?_
            refine call (zaq l im hi (zaK h k)) (by simp [Lay.cells, Img.cells, hlt, Step.cells, zbt]) (by simp) ?_
            cases hoc : zag l im (zaK h k)
            ·have hgo3 := hgoon (by rw [hcan, hwk, hwk2, hoc]; rfl)
             simp [hg, hwn, hle, heq, hgt, hAk, hAk1 hkn, hAn, hwk, hwk2, hlt, hw, -zab]
             repeat refine And.intro (by omega) ?_
             refine ⟨⟨k + 1, by omega, by omega, ?_⟩, by omega⟩
             simp [hgo3]
            ·have hst := hstop (by rw [hcan, hwk, hwk2, hoc]; rfl)
             simp [hg, hwn, hle, heq, hgt, hAk, hAk1 hkn, hAn, hwk, hwk2, hlt, hw, -zab]
             repeat refine And.intro (by omega) ?_
             refine ⟨fun hL => ?_, fun hL => ?_⟩
             ·refine call (zal h.timer) (by simp) (by simp) ?_
              simp [hL, hst, hrs, hwn, hgt, opnS, zan, hn, hkn2, Bool.or_assoc, Bool.or_comm, -zab]
             ·simp [hL, hst, hrs, hwn, hgt, opnS, zan, hn, hkn2, Bool.or_comm, -zab]
        ·have hkn3 : k = h.path.steps.length := by omega
         have hle : ((k : Int) ≤ (h.path.steps.length : Int) - 1) = False := by simp only [eq_iff_iff, iff_false]; omega
         have hgt : ((h.path.steps.length : Int) - 1 < (k : Int)) = True := by simp only [eq_iff_iff, iff_true]; omega
         have heq : ((k : Int) = (h.path.steps.length : Int) - 1) = False := by simp only [eq_iff_iff, iff_false]; omega
         have hkn2 : (k = h.path.steps.length) = True := eq_true hkn3
         have hw : IntKind.i64.wrap ((k : Int) + 1) = (k : Int) + 1 := by rw [zaI] <;> omega
         have hst : goX l im h g = k := by
          rw [hgo]; refine zbE ?_
          unfold zbk; rw [hn]; simp [hlt]
         simp [hg, hwn, hle, heq, hgt, hAn, hw, -zab]
         repeat refine And.intro (by omega) ?_
         refine ⟨fun hL => ?_, fun hL => ?_⟩
         ·refine call (zal h.timer) (by simp) (by simp) ?_
          simp [hL, hst, hrs, hwn, hgt, opnS, zan, hn, hkn2, Bool.or_assoc, Bool.or_comm, -zab]
         ·simp [hL, hst, hrs, hwn, hgt, opnS, zan, hn, hkn2, Bool.or_comm, -zab]
       ·have hst := hstop (by rw [hcan, hwk, hwk2, hoc]; rfl)
        simp [hg, hwn, hle, heq, hgt, hAk, hAk1 hkn, hAn, hwk, hwk2, hlt, hw, -zab]
        repeat refine And.intro (by omega) ?_
        refine ⟨fun hL => ?_, fun hL => ?_⟩
        ·refine call (zal h.timer) (by simp) (by simp) ?_
         simp [hL, hst, hrs, hwn, hgt, opnS, zan, hn, hkn2, Bool.or_assoc, Bool.or_comm, -zab]
        ·simp [hL, hst, hrs, hwn, hgt, opnS, zan, hn, hkn2, Bool.or_comm, -zab]
   ·have hkn3 : g = h.path.steps.length := by omega
    have hle : ((g : Int) ≤ (h.path.steps.length : Int) - 1) = False := by simp only [eq_iff_iff, iff_false]; omega
    have hgt : ((h.path.steps.length : Int) - 1 < (g : Int)) = True := by simp only [eq_iff_iff, iff_true]; omega
    have heq : ((g : Int) = (h.path.steps.length : Int) - 1) = False := by simp only [eq_iff_iff, iff_false]; omega
    have hkn2 : (g = h.path.steps.length) = True := eq_true hkn3
    have hw : IntKind.i64.wrap ((g : Int) + 1) = (g : Int) + 1 := by rw [zaI] <;> omega
    have hst : goX l im h g = g := by
     rw [hgo]; refine zbE ?_
     unfold zbk; rw [hn]; simp [hlt]
    simp [hg, hwn, hle, heq, hgt, hAn, hw, -zab]
    repeat refine And.intro (by omega) ?_
    refine ⟨fun hL => ?_, fun hL => ?_⟩
    ·refine call (zal h.timer) (by simp) (by simp) ?_
     simp [hL, hst, hrs, hwn, hgt, opnS, zan, hn, hkn2, Bool.or_assoc, Bool.or_comm, -zab]
    ·simp [hL, hst, hrs, hwn, hgt, opnS, zan, hn, hkn2, Bool.or_comm, -zab]
  ·simp [AV.eqs, AV.eq1] at hb
   obtain ⟨e0, e1, e2, e3, e4, e5, e6, e7, e8, e9, e10, e11⟩ := hb
   simp only [← e0, ← e1, ← e2, ← e3, ← e4, ← e5, ← e6, ← e7, ← e8, ← e9, ← e10, ← e11]
   have hrs : h.gone.toNat = g := by omega
   simp only [hrs]
   have hAn := zeZ (wr l im h) (i := h.path.steps.length - 1) (z := (h.path.steps.length : Int) - 1) (by omega) (by omega)
   rw [show wr l im h (h.path.steps.length - 1) = zos l im h from rfl] at hAn
   have hgo : goX l im h g = goX l im h g := rfl
   by_cases hlt : g < h.path.steps.length
   ·have hAk := zeZ (wr l im h) (i := g) (z := (g : Int)) rfl (by omega)
    have hAk1 := fun (hk : ¬ g = h.path.steps.length - 1) => zeZ (wr l im h) (i := g + 1) (z := (g : Int) + 1) rfl (by omega)
    have hw : IntKind.i64.wrap ((g : Int) + 1) = (g : Int) + 1 := by rw [zaI] <;> omega
    have hle : ((g : Int) ≤ (h.path.steps.length : Int) - 1) = True := by simp only [eq_iff_iff, iff_true]; omega
    have hgt : ((h.path.steps.length : Int) - 1 < (g : Int)) = False := by simp only [eq_iff_iff, iff_false]; omega
    have hkn2 : ¬ g = h.path.steps.length := by omega
    have hcan : zbk l im h g = (wr l im h g && ((decide (g = h.path.steps.length - 1) || wr l im h (g + 1)) && !zag l im (zaK h g))) := by
     have e : decide (g + 1 = h.path.steps.length) = decide (g = h.path.steps.length - 1) := decide_eq_decide.2 (by omega)
     unfold zbk
     rw [hn, e]; simp [hlt]
    have hstop : zbk l im h g = false → goX l im h g = g := fun hc => by rw [hgo]; exact zbE hc
    have hgoon : zbk l im h g = true → goX l im h g = goX l im h (g + 1) := fun hc => by rw [hgo]; exact zhR hc
    by_cases hkn : g = h.path.steps.length - 1
    ·have heq : ((g : Int) = (h.path.steps.length : Int) - 1) = True := by simp only [eq_iff_iff, iff_true]; omega
     have hdk : decide (g = h.path.steps.length - 1) = true := decide_eq_true hkn
     rw [hdk] at hcan
     cases hwk : wr l im h g
     ·have hst := hstop (by rw [hcan, hwk]; rfl)
      simp [hg, hwn, hle, heq, hgt, hAk, hAn, hwk, hlt, -zab]
      repeat refine And.intro (by omega) ?_
      refine ⟨fun hL => ?_, fun hL => ?_⟩
      ·refine call (zal h.timer) (by simp) (by simp) ?_
       simp [hL, hst, hrs, hwn, hgt, opnS, zan, hn, hkn2, Bool.or_assoc, Bool.or_comm, -zab]
      ·simp [hL, hst, hrs, hwn, hgt, opnS, zan, hn, hkn2, Bool.or_comm, -zab]
     ·simp [hg, hwn, hle, heq, hgt, hAk, hAn, hwk, hlt, Step.cells, -zab]
      repeat refine And.intro (by omega) ?_
      refine call (zaq l im hi (zaK h g)) (by simp [Lay.cells, Img.cells, hlt, Step.cells, zbt]) (by simp) ?_
      cases hoc : zag l im (zaK h g)
      ·have hgo3 := hgoon (by rw [hcan, hwk, hoc]; rfl)
       simp [hg, hwn, hle, heq, hgt, hAk, hAn, hwk, hlt, hw, -zab]
       repeat refine And.intro (by omega) ?_
       have hgo4 := hgo3
       have hwg : IntKind.i64.wrap ((g : Int) + 1) = ((g + 1 : Nat) : Int) := by rw [zaI] <;> omega
       have hlt0 := hlt
       clear hgo3 hwk hAk hAk1 hcan hstop hgoon hle hgt heq hw hdk hkn hkn2 hgo hoc hlt
       refine zac rfl (fun vs => ∃ (k : Nat) (a b c d e f p q r s t z : AV), g ≤ k ∧ k ≤ h.n ∧ vs = [a, b, c, d, e, f, p, q, r, s, t, z] ∧ z = I k ∧ goX l im h g = goX l im h k) (fun vs => match vs with | [_, _, _, _, _, _, _, _, _, _, _, .int _ j] => h.n + 1 - j.toNat | _ => 0) ⟨g + 1, _, _, _, _, _, _, _, _, _, _, _, _, by omega, by omega, rfl, by simp [hg, hwg], hgo4⟩ ?_
       rintro vs - ⟨k, a, b, c, d, e, f, p, q, r, s, t, _, hk1, hk2, rfl, rfl, hgo⟩
       simp only [List.cons_append, List.nil_append]
       by_cases hlt : k < h.path.steps.length
       ·have hAk := zeZ (wr l im h) (i := k) (z := (k : Int)) rfl (by omega)
        have hAk1 := fun (hk : ¬ k = h.path.steps.length - 1) => zeZ (wr l im h) (i := k + 1) (z := (k : Int) + 1) rfl (by omega)
        have hw : IntKind.i64.wrap ((k : Int) + 1) = (k : Int) + 1 := by rw [zaI] <;> omega
        have hle : ((k : Int) ≤ (h.path.steps.length : Int) - 1) = True := by simp only [eq_iff_iff, iff_true]; omega
        have hgt : ((h.path.steps.length : Int) - 1 < (k : Int)) = False := by simp only [eq_iff_iff, iff_false]; omega
        have hkn2 : ¬ k = h.path.steps.length := by omega
        have hcan : zbk l im h k = (wr l im h k && ((decide (k = h.path.steps.length - 1) || wr l im h (k + 1)) && !zag l im (zaK h k))) := by
         have e : decide (k + 1 = h.path.steps.length) = decide (k = h.path.steps.length - 1) := decide_eq_decide.2 (by omega)
         unfold zbk
         rw [hn, e]; simp [hlt]
        have hstop : zbk l im h k = false → goX l im h g = k := fun hc => by rw [hgo]; exact zbE hc
        have hgoon : zbk l im h k = true → goX l im h g = goX l im h (k + 1) := fun hc => by rw [hgo]; exact zhR hc
        by_cases hkn : k = h.path.steps.length - 1
        ·have heq : ((k : Int) = (h.path.steps.length : Int) - 1) = True := by simp only [eq_iff_iff, iff_true]; omega
         have hdk : decide (k = h.path.steps.length - 1) = true := decide_eq_true hkn
         rw [hdk] at hcan
         cases hwk : wr l im h k
         ·have hst := hstop (by rw [hcan, hwk]; rfl)
          simp [hg, hwn, hle, heq, hgt, hAk, hAn, hwk, hlt, -zab]
          repeat refine And.intro (by omega) ?_
          refine ⟨fun hL => ?_, fun hL => ?_⟩
          ·refine call (zal h.timer) (by simp) (by simp) ?_
           simp [hL, hst, hrs, hwn, hgt, opnS, zan, hn, hkn2, Bool.or_assoc, Bool.or_comm, -zab]
          ·simp [hL, hst, hrs, hwn, hgt, opnS, zan, hn, hkn2, Bool.or_comm, -zab]
         ·simp [hg, hwn, hle, heq, hgt, hAk, hAn, hwk, hlt, Step.cells, -zab]
          repeat refine And.intro (by omega) ?_
          refine call (zaq l im hi (zaK h k)) (by simp [Lay.cells, Img.cells, hlt, Step.cells, zbt]) (by simp) ?_
          cases hoc : zag l im (zaK h k)
          ·have hgo3 := hgoon (by rw [hcan, hwk, hoc]; rfl)
           simp [hg, hwn, hle, heq, hgt, hAk, hAn, hwk, hlt, hw, -zab]
           repeat refine And.intro (by omega) ?_
           refine ⟨⟨k + 1, by omega, by omega, ?_⟩, by omega⟩
           simp [hgo3]
          ·have hst := hstop (by rw [hcan, hwk, hoc]; rfl)
           simp [hg, hwn, hle, heq, hgt, hAk, hAn, hwk, hlt, -zab]
           repeat refine And.intro (by omega) ?_
           refine ⟨fun hL => ?_, fun hL => ?_⟩
           ·refine call (zal h.timer) (by simp) (by simp) ?_
            simp [hL, hst, hrs, hwn, hgt, opnS, zan, hn, hkn2, Bool.or_assoc, Bool.or_comm, -zab]
           ·simp [hL, hst, hrs, hwn, hgt, opnS, zan, hn, hkn2, Bool.or_comm, -zab]
        ·have heq : ((k : Int) = (h.path.steps.length : Int) - 1) = False := by simp only [eq_iff_iff, iff_false]; omega
         have hdk : decide (k = h.path.steps.length - 1) = false := decide_eq_false hkn
         rw [hdk, Bool.false_or] at hcan
         cases hwk : wr l im h k
         ·have hst := hstop (by rw [hcan, hwk]; rfl)
          simp [hg, hwn, hle, heq, hgt, hAk, hAk1 hkn, hAn, hwk, hlt, hw, -zab]
          repeat refine And.intro (by omega) ?_
          refine ⟨fun hL => ?_, fun hL => ?_⟩
          ·refine call (zal h.timer) (by simp) (by simp) ?_
           simp [hL, hst, hrs, hwn, hgt, opnS, zan, hn, hkn2, Bool.or_assoc, Bool.or_comm, -zab]
          ·simp [hL, hst, hrs, hwn, hgt, opnS, zan, hn, hkn2, Bool.or_comm, -zab]
         ·cases hwk2 : wr l im h (k + 1)
          ·have hst := hstop (by rw [hcan, hwk, hwk2]; rfl)
           simp [hg, hwn, hle, heq, hgt, hAk, hAk1 hkn, hAn, hwk, hwk2, hlt, hw, -zab]
           repeat refine And.intro (by omega) ?_
           refine ⟨fun hL => ?_, fun hL => ?_⟩
           ·refine call (zal h.timer) (by simp) (by simp) ?_
            simp [hL, hst, hrs, hwn, hgt, opnS, zan, hn, hkn2, Bool.or_assoc, Bool.or_comm, -zab]
           ·simp [hL, hst, hrs, hwn, hgt, opnS, zan, hn, hkn2, Bool.or_comm, -zab]
          ·simp [hg, hwn, hle, heq, hgt, hAk, hAk1 hkn, hAn, hwk, hwk2, hlt, hw, Step.cells, -zab]
           repeat refine And.intro (by omega) ?_
           refine call (zaq l im hi (zaK h k)) (by simp [Lay.cells, Img.cells, hlt, Step.cells, zbt]) (by simp) ?_
           cases hoc : zag l im (zaK h k)
           ·have hgo3 := hgoon (by rw [hcan, hwk, hwk2, hoc]; rfl)
            simp [hg, hwn, hle, heq, hgt, hAk, hAk1 hkn, hAn, hwk, hwk2, hlt, hw, -zab]
            repeat refine And.intro (by omega) ?_
            refine ⟨⟨k + 1, by omega, by omega, ?_⟩, by omega⟩
            simp [hgo3]
           ·have hst := hstop (by rw [hcan, hwk, hwk2, hoc]; rfl)
            simp [hg, hwn, hle, heq, hgt, hAk, hAk1 hkn, hAn, hwk, hwk2, hlt, hw, -zab]
            repeat refine And.intro (by omega) ?_
            refine ⟨fun hL => ?_, fun hL => ?_⟩
            ·refine call (zal h.timer) (by simp) (by simp) ?_
             simp [hL, hst, hrs, hwn, hgt, opnS, zan, hn, hkn2, Bool.or_assoc, Bool.or_comm, -zab]
            ·simp [hL, hst, hrs, hwn, hgt, opnS, zan, hn, hkn2, Bool.or_comm, -zab]
       ·have hkn3 : k = h.path.steps.length := by omega
        have hle : ((k : Int) ≤ (h.path.steps.length : Int) - 1) = False := by simp only [eq_iff_iff, iff_false]; omega
        have hgt : ((h.path.steps.length : Int) - 1 < (k : Int)) = True := by simp only [eq_iff_iff, iff_true]; omega
        have heq : ((k : Int) = (h.path.steps.length : Int) - 1) = False := by simp only [eq_iff_iff, iff_false]; omega
        have hkn2 : (k = h.path.steps.length) = True := eq_true hkn3
        have hw : IntKind.i64.wrap ((k : Int) + 1) = (k : Int) + 1 := by rw [zaI] <;> omega
        have hst : goX l im h g = k := by
         rw [hgo]; refine zbE ?_
         unfold zbk; rw [hn]; simp [hlt]
        simp [hg, hwn, hle, heq, hgt, hAn, hw, -zab]
        repeat refine And.intro (by omega) ?_
        refine ⟨fun hL => ?_, fun hL => ?_⟩
        ·refine call (zal h.timer) (by simp) (by simp) ?_
         simp [hL, hst, hrs, hwn, hgt, opnS, zan, hn, hkn2, Bool.or_assoc, Bool.or_comm, -zab]
        ·simp [hL, hst, hrs, hwn, hgt, opnS, zan, hn, hkn2, Bool.or_comm, -zab]
      ·have hst := hstop (by rw [hcan, hwk, hoc]; rfl)
       simp [hg, hwn, hle, heq, hgt, hAk, hAn, hwk, hlt, -zab]
       repeat refine And.intro (by omega) ?_
       refine ⟨fun hL => ?_, fun hL => ?_⟩
       ·refine call (zal h.timer) (by simp) (by simp) ?_
        simp [hL, hst, hrs, hwn, hgt, opnS, zan, hn, hkn2, Bool.or_assoc, Bool.or_comm, -zab]
       ·simp [hL, hst, hrs, hwn, hgt, opnS, zan, hn, hkn2, Bool.or_comm, -zab]
    ·have heq : ((g : Int) = (h.path.steps.length : Int) - 1) = False := by simp only [eq_iff_iff, iff_false]; omega
     have hdk : decide (g = h.path.steps.length - 1) = false := decide_eq_false hkn
     rw [hdk, Bool.false_or] at hcan
     cases hwk : wr l im h g
     ·have hst := hstop (by rw [hcan, hwk]; rfl)
      simp [hg, hwn, hle, heq, hgt, hAk, hAk1 hkn, hAn, hwk, hlt, hw, -zab]
      repeat refine And.intro (by omega) ?_
      refine ⟨fun hL => ?_, fun hL => ?_⟩
      ·refine call (zal h.timer) (by simp) (by simp) ?_
       simp [hL, hst, hrs, hwn, hgt, opnS, zan, hn, hkn2, Bool.or_assoc, Bool.or_comm, -zab]
      ·simp [hL, hst, hrs, hwn, hgt, opnS, zan, hn, hkn2, Bool.or_comm, -zab]
     ·cases hwk2 : wr l im h (g + 1)
      ·have hst := hstop (by rw [hcan, hwk, hwk2]; rfl)
       simp [hg, hwn, hle, heq, hgt, hAk, hAk1 hkn, hAn, hwk, hwk2, hlt, hw, -zab]
       repeat refine And.intro (by omega) ?_
       refine ⟨fun hL => ?_, fun hL => ?_⟩
       ·refine call (zal h.timer) (by simp) (by simp) ?_
        simp [hL, hst, hrs, hwn, hgt, opnS, zan, hn, hkn2, Bool.or_assoc, Bool.or_comm, -zab]
       ·simp [hL, hst, hrs, hwn, hgt, opnS, zan, hn, hkn2, Bool.or_comm, -zab]
      ·simp [hg, hwn, hle, heq, hgt, hAk, hAk1 hkn, hAn, hwk, hwk2, hlt, hw, Step.cells, -zab]
       repeat refine And.intro (by omega) ?_
       refine call (zaq l im hi (zaK h g)) (by simp [Lay.cells, Img.cells, hlt, Step.cells, zbt]) (by simp) ?_
       cases hoc : zag l im (zaK h g)
       ·have hgo3 := hgoon (by rw [hcan, hwk, hwk2, hoc]; rfl)
        simp [hg, hwn, hle, heq, hgt, hAk, hAk1 hkn, hAn, hwk, hwk2, hlt, hw, -zab]
        repeat refine And.intro (by omega) ?_
        have hgo4 := hgo3
        have hwg : IntKind.i64.wrap ((g : Int) + 1) = ((g + 1 : Nat) : Int) := by rw [zaI] <;> omega
        have hlt0 := hlt
        clear hgo3 hwk hAk hAk1 hcan hstop hgoon hle hgt heq hw hdk hkn hkn2 hgo hoc hlt
        refine zac rfl (fun vs => ∃ (k : Nat) (a b c d e f p q r s t z : AV), g ≤ k ∧ k ≤ h.n ∧ vs = [a, b, c, d, e, f, p, q, r, s, t, z] ∧ z = I k ∧ goX l im h g = goX l im h k) (fun vs => match vs with | [_, _, _, _, _, _, _, _, _, _, _, .int _ j] => h.n + 1 - j.toNat | _ => 0) ⟨g + 1, _, _, _, _, _, _, _, _, _, _, _, _, by omega, by omega, rfl, by simp [hg, hwg], hgo4⟩ ?_
        rintro vs - ⟨k, a, b, c, d, e, f, p, q, r, s, t, _, hk1, hk2, rfl, rfl, hgo⟩
        simp only [List.cons_append, List.nil_append]
        by_cases hlt : k < h.path.steps.length
        ·have hAk := zeZ (wr l im h) (i := k) (z := (k : Int)) rfl (by omega)
         have hAk1 := fun (hk : ¬ k = h.path.steps.length - 1) => zeZ (wr l im h) (i := k + 1) (z := (k : Int) + 1) rfl (by omega)
         have hw : IntKind.i64.wrap ((k : Int) + 1) = (k : Int) + 1 := by rw [zaI] <;> omega
         have hle : ((k : Int) ≤ (h.path.steps.length : Int) - 1) = True := by simp only [eq_iff_iff, iff_true]; omega
         have hgt : ((h.path.steps.length : Int) - 1 < (k : Int)) = False := by simp only [eq_iff_iff, iff_false]; omega
         have hkn2 : ¬ k = h.path.steps.length := by omega
         have hcan : zbk l im h k = (wr l im h k && ((decide (k = h.path.steps.length - 1) || wr l im h (k + 1)) && !zag l im (zaK h k))) := by
          have e : decide (k + 1 = h.path.steps.length) = decide (k = h.path.steps.length - 1) := decide_eq_decide.2 (by omega)
          unfold zbk
          rw [hn, e]; simp [hlt]
         have hstop : zbk l im h k = false → goX l im h g = k := fun hc => by rw [hgo]; exact zbE hc
         have hgoon : zbk l im h k = true → goX l im h g = goX l im h (k + 1) := fun hc => by rw [hgo]; exact zhR hc
         by_cases hkn : k = h.path.steps.length - 1
         ·have heq : ((k : Int) = (h.path.steps.length : Int) - 1) = True := by simp only [eq_iff_iff, iff_true]; omega
          have hdk : decide (k = h.path.steps.length - 1) = true := decide_eq_true hkn
          rw [hdk] at hcan
          cases hwk : wr l im h k
          ·have hst := hstop (by rw [hcan, hwk]; rfl)
           simp [hg, hwn, hle, heq, hgt, hAk, hAn, hwk, hlt, -zab]
           repeat refine And.intro (by omega) ?_
           refine ⟨fun hL => ?_, fun hL => ?_⟩
           ·refine call (zal h.timer) (by simp) (by simp) ?_
            simp [hL, hst, hrs, hwn, hgt, opnS, zan, hn, hkn2, Bool.or_assoc, Bool.or_comm, -zab]
           ·simp [hL, hst, hrs, hwn, hgt, opnS, zan, hn, hkn2, Bool.or_comm, -zab]
          ·simp [hg, hwn, hle, heq, hgt, hAk, hAn, hwk, hlt, Step.cells, -zab]
           repeat refine And.intro (by omega) ?_
           refine call (zaq l im hi (zaK h k)) (by simp [Lay.cells, Img.cells, hlt, Step.cells, zbt]) (by simp) ?_
           cases hoc : zag l im (zaK h k)
           ·have hgo3 := hgoon (by rw [hcan, hwk, hoc]; rfl)
            simp [hg, hwn, hle, heq, hgt, hAk, hAn, hwk, hlt, hw, -zab]
            repeat refine And.intro (by omega) ?_
            refine ⟨⟨k + 1, by omega, by omega, ?_⟩, by omega⟩
            simp [hgo3]
           ·have hst := hstop (by rw [hcan, hwk, hoc]; rfl)
            simp [hg, hwn, hle, heq, hgt, hAk, hAn, hwk, hlt, -zab]
            repeat refine And.intro (by omega) ?_
            refine ⟨fun hL => ?_, fun hL => ?_⟩
            ·refine call (zal h.timer) (by simp) (by simp) ?_
             simp [hL, hst, hrs, hwn, hgt, opnS, zan, hn, hkn2, Bool.or_assoc, Bool.or_comm, -zab]
            ·simp [hL, hst, hrs, hwn, hgt, opnS, zan, hn, hkn2, Bool.or_comm, -zab]
         ·have heq : ((k : Int) = (h.path.steps.length : Int) - 1) = False := by simp only [eq_iff_iff, iff_false]; omega
          have hdk : decide (k = h.path.steps.length - 1) = false := decide_eq_false hkn
          rw [hdk, Bool.false_or] at hcan
          cases hwk : wr l im h k
          ·have hst := hstop (by rw [hcan, hwk]; rfl)
           simp [hg, hwn, hle, heq, hgt, hAk, hAk1 hkn, hAn, hwk, hlt, hw, -zab]
           repeat refine And.intro (by omega) ?_
           refine ⟨fun hL => ?_, fun hL => ?_⟩
           ·refine call (zal h.timer) (by simp) (by simp) ?_
            simp [hL, hst, hrs, hwn, hgt, opnS, zan, hn, hkn2, Bool.or_assoc, Bool.or_comm, -zab]
           ·simp [hL, hst, hrs, hwn, hgt, opnS, zan, hn, hkn2, Bool.or_comm, -zab]
          ·cases hwk2 : wr l im h (k + 1)
           ·have hst := hstop (by rw [hcan, hwk, hwk2]; rfl)
            simp [hg, hwn, hle, heq, hgt, hAk, hAk1 hkn, hAn, hwk, hwk2, hlt, hw, -zab]
            repeat refine And.intro (by omega) ?_
            refine ⟨fun hL => ?_, fun hL => ?_⟩
            ·refine call (zal h.timer) (by simp) (by simp) ?_
             simp [hL, hst, hrs, hwn, hgt, opnS, zan, hn, hkn2, Bool.or_assoc, Bool.or_comm, -zab]
            ·simp [hL, hst, hrs, hwn, hgt, opnS, zan, hn, hkn2, Bool.or_comm, -zab]
           ·simp [hg, hwn, hle, heq, hgt, hAk, hAk1 hkn, hAn, hwk, hwk2, hlt, hw, Step.cells, -zab]
            repeat refine And.intro (by omega) ?_
            refine call (zaq l im hi (zaK h k)) (by simp [Lay.cells, Img.cells, hlt, Step.cells, zbt]) (by simp) ?_
            cases hoc : zag l im (zaK h k)
            ·have hgo3 := hgoon (by rw [hcan, hwk, hwk2, hoc]; rfl)
             simp [hg, hwn, hle, heq, hgt, hAk, hAk1 hkn, hAn, hwk, hwk2, hlt, hw, -zab]
             repeat refine And.intro (by omega) ?_
             refine ⟨⟨k + 1, by omega, by omega, ?_⟩, by omega⟩
             simp [hgo3]
            ·have hst := hstop (by rw [hcan, hwk, hwk2, hoc]; rfl)
             simp [hg, hwn, hle, heq, hgt, hAk, hAk1 hkn, hAn, hwk, hwk2, hlt, hw, -zab]
             repeat refine And.intro (by omega) ?_
             refine ⟨fun hL => ?_, fun hL => ?_⟩
             ·refine call (zal h.timer) (by simp) (by simp) ?_
              simp [hL, hst, hrs, hwn, hgt, opnS, zan, hn, hkn2, Bool.or_assoc, Bool.or_comm, -zab]
             ·simp [hL, hst, hrs, hwn, hgt, opnS, zan, hn, hkn2, Bool.or_comm, -zab]
        ·have hkn3 : k = h.path.steps.length := by omega
         have hle : ((k : Int) ≤ (h.path.steps.length : Int) - 1) = False := by simp only [eq_iff_iff, iff_false]; omega
         have hgt : ((h.path.steps.length : Int) - 1 < (k : Int)) = True := by simp only [eq_iff_iff, iff_true]; omega
         have heq : ((k : Int) = (h.path.steps.length : Int) - 1) = False := by simp only [eq_iff_iff, iff_false]; omega
         have hkn2 : (k = h.path.steps.length) = True := eq_true hkn3
         have hw : IntKind.i64.wrap ((k : Int) + 1) = (k : Int) + 1 := by rw [zaI] <;> omega
         have hst : goX l im h g = k := by
          rw [hgo]; refine zbE ?_
          unfold zbk; rw [hn]; simp [hlt]
         simp [hg, hwn, hle, heq, hgt, hAn, hw, -zab]
         repeat refine And.intro (by omega) ?_
         refine ⟨fun hL => ?_, fun hL => ?_⟩
         ·refine call (zal h.timer) (by simp) (by simp) ?_
          simp [hL, hst, hrs, hwn, hgt, opnS, zan, hn, hkn2, Bool.or_assoc, Bool.or_comm, -zab]
         ·simp [hL, hst, hrs, hwn, hgt, opnS, zan, hn, hkn2, Bool.or_comm, -zab]
       ·have hst := hstop (by rw [hcan, hwk, hwk2, hoc]; rfl)
        simp [hg, hwn, hle, heq, hgt, hAk, hAk1 hkn, hAn, hwk, hwk2, hlt, hw, -zab]
        repeat refine And.intro (by omega) ?_
        refine ⟨fun hL => ?_, fun hL => ?_⟩
        ·refine call (zal h.timer) (by simp) (by simp) ?_
         simp [hL, hst, hrs, hwn, hgt, opnS, zan, hn, hkn2, Bool.or_assoc, Bool.or_comm, -zab]
        ·simp [hL, hst, hrs, hwn, hgt, opnS, zan, hn, hkn2, Bool.or_comm, -zab]
   ·have hkn3 : g = h.path.steps.length := by omega
    have hle : ((g : Int) ≤ (h.path.steps.length : Int) - 1) = False := by simp only [eq_iff_iff, iff_false]; omega
    have hgt : ((h.path.steps.length : Int) - 1 < (g : Int)) = True := by simp only [eq_iff_iff, iff_true]; omega
    have heq : ((g : Int) = (h.path.steps.length : Int) - 1) = False := by simp only [eq_iff_iff, iff_false]; omega
    have hkn2 : (g = h.path.steps.length) = True := eq_true hkn3
    have hw : IntKind.i64.wrap ((g : Int) + 1) = (g : Int) + 1 := by rw [zaI] <;> omega
    have hst : goX l im h g = g := by
     rw [hgo]; refine zbE ?_
     unfold zbk; rw [hn]; simp [hlt]
    simp [hg, hwn, hle, heq, hgt, hAn, hw, -zab]
    repeat refine And.intro (by omega) ?_
    refine ⟨fun hL => ?_, fun hL => ?_⟩
    ·refine call (zal h.timer) (by simp) (by simp) ?_
     simp [hL, hst, hrs, hwn, hgt, opnS, zan, hn, hkn2, Bool.or_assoc, Bool.or_comm, -zab]
    ·simp [hL, hst, hrs, hwn, hgt, opnS, zan, hn, hkn2, Bool.or_comm, -zab]
end Go.Lb.LK
namespace Go.Lb.LK
open Go Go.Lb Go.Proofs Go.RowKit
theorem zju {q : Nat → Bool} {n i : Nat} (h : i < n) (hb : q i = true) : (List.range n).any q = true := List.any_eq_true.2 ⟨i, List.mem_range.2 h, hb⟩
theorem zhl {q : Nat → Bool} {n : Nat} (h : ∀ i, i < n → q i = false) : (List.range n).any q = false := by
 refine List.any_eq_false.2 fun x hx => ?_
 rw [h x (List.mem_range.1 hx)]; simp
def soAt (q : Int → Bool) (h : Hd) (k : Nat) : Bool := match h.path.steps[k]? with
 | some t => decide (h.gone ≤ k) && q t.s
 | none => false
def soN (q : Int → Bool) (h : Hd) : Bool := (List.range h.path.steps.length).any (soAt q h)
theorem zj4 {q : Int → Bool} {h : Hd} {k : Nat} (hk : k < h.path.steps.length) : soAt q h k = (decide (h.gone ≤ k) && q h.path.steps[k].s) := by
 simp [soAt, List.getElem?_eq_getElem hk]
def inN (l : Lay) (im : Img) (h : Hd) : Bool := soN (zag l im) h
def zjN (l : Lay) (im : Img) (h : Hd) : Bool := soN (told l im) h
theorem zpM (l : Lay) (im : Img) (hi : im.ok) (h : Hd) (hl : h.len) : C f_back_In [l.av, im.av, h.av] (.bool (inN l im h)) := by
 have hn := hl.1
 refine ctr (l.cells ++ im.cells ++ h.cells) run_back_In rfl (lih l im h) rfl ?_ rfl
 unfold rt_back_In
 simp [Lay.cells, Img.cells, Hd.cells]
 refine zac rfl (fun vs => ∃ i : Nat, i ≤ h.path.steps.length ∧ vs = [I i] ∧ ∀ j, j < i → soAt (zag l im) h j = false) (fun vs => match vs with | [.int _ j] => h.path.steps.length - j.toNat | _ => 0) ⟨0, by omega, by simp, fun j hj => by omega⟩ ?_
 rintro vs - ⟨i, hii, rfl, hq⟩
 simp
 refine ⟨fun hlt => ?_, fun hge => ?_⟩
 ·have hw := zad (i := i) (by omega)
  have hse := zj4 (q := zag l im) hlt
  have hgood : soAt (zag l im) h i = false → ∀ j, j < i + 1 → soAt (zag l im) h j = false := fun hk j hj => by
   by_cases hji : j = i
   ·subst hji; exact hk
   ·exact hq j (by omega)
  simp [hlt, Step.cells, hw]
  by_cases hg : h.gone ≤ i
  ·have hg2 : ¬ (i : Int) < h.gone := by omega
   simp [hg, hg2]
   refine call (zaq l im hi h.path.steps[i].s) (by simp [Lay.cells, Img.cells, hlt, Step.cells]) (by simp) ?_
   cases ho : zag l im h.path.steps[i].s
   ·simp
    exact ⟨⟨i + 1, by omega, by omega, hgood (by rw [hse, ho]; simp)⟩, by omega⟩
   ·have : inN l im h = true := zju hlt (by rw [hse, ho]; simp [hg])
    simp [this]
  ·have hg2 : (i : Int) < h.gone := by omega
   simp [hg, hg2]
   exact ⟨⟨i + 1, by omega, by omega, hgood (by rw [hse]; simp [hg])⟩, by omega⟩
 ·have : inN l im h = false := zhl fun j hj => hq j (by omega)
  simp [this]
theorem zmO (l : Lay) (im : Img) (hi : im.ok) (h : Hd) (hl : h.len) : C f_back_told [l.av, im.av, h.av] (.bool (zjN l im h)) := by
 have hn := hl.1
 refine ctr (l.cells ++ im.cells ++ h.cells) run_back_told rfl (lih l im h) rfl ?_ rfl
 unfold rt_back_told
 simp [Lay.cells, Img.cells, Hd.cells]
 refine zac rfl (fun vs => ∃ i : Nat, i ≤ h.path.steps.length ∧ vs = [I i] ∧ ∀ j, j < i → soAt (told l im) h j = false) (fun vs => match vs with | [.int _ j] => h.path.steps.length - j.toNat | _ => 0) ⟨0, by omega, by simp, fun j hj => by omega⟩ ?_
 rintro vs - ⟨i, hii, rfl, hq⟩
 simp
 refine ⟨fun hlt => ?_, fun hge => ?_⟩
 ·have hw := zad (i := i) (by omega)
  have hse := zj4 (q := told l im) hlt
  have hgood : soAt (told l im) h i = false → ∀ j, j < i + 1 → soAt (told l im) h j = false := fun hk j hj => by
   by_cases hji : j = i
   ·subst hji; exact hk
   ·exact hq j (by omega)
  simp [hlt, Step.cells, hw]
  by_cases hg : h.gone ≤ i
  ·have hg2 : ¬ (i : Int) < h.gone := by omega
   simp [hg, hg2]
   refine call (zeg l im hi h.path.steps[i].s) (by simp [Lay.cells, Img.cells, hlt, Step.cells]) (by simp) ?_
   cases ho : told l im h.path.steps[i].s
   ·simp
    exact ⟨⟨i + 1, by omega, by omega, hgood (by rw [hse, ho]; simp)⟩, by omega⟩
   ·have : zjN l im h = true := zju hlt (by rw [hse, ho]; simp [hg])
    simp [this]
  ·have hg2 : (i : Int) < h.gone := by omega
   simp [hg, hg2]
   exact ⟨⟨i + 1, by omega, by omega, hgood (by rw [hse]; simp [hg])⟩, by omega⟩
 ·have : zjN l im h = false := zhl fun j hj => hq j (by omega)
  simp [this]
end Go.Lb.LK
namespace Go.Lb.LK
open Go Go.Lb Go.Proofs Go.RowKit
end Go.Lb.LK
namespace Go.Lb.LK
open Go Go.Lb Go.Proofs Go.RowKit
theorem zeB {l : Lay} {im : Img} {h : Hd} (ha : zbz l im h = false) : zay h = true ∧ stale l im = false := by
 simpa only [zbz, Bool.or_eq_false_iff, Bool.not_eq_false'] using ha
theorem zjk {h : Hd} (hn : 1 ≤ h.path.steps.length) : ∃ s r, h.path.steps = s :: r ∧ zaK h 0 = s.s := by
 cases hs : h.path.steps with
 | nil => rw [hs] at hn; simp at hn
 | cons s r => exact ⟨s, r, rfl, by simp [zaK, hs]⟩
end Go.Lb.LK
namespace Go.Lb.LK
open Go Go.Lb Go.Proofs Go.RowKit
theorem zmX (l : Lay) (im : Img) (hi : im.ok) (h : Hd) (hl : h.len) (hs : 0 ≤ h.stage ∧ h.stage ≤ 255) : C f_pass_Tick [l.av, im.av, h.av] (zbW l im h).av := by
 refine ctr (l.cells ++ im.cells ++ h.cells) run_pass_Tick rfl (lih l im h) (by simp [AV.pure]) ?_ rfl
 unfold rt_pass_Tick
 simp [Lay.cells, Img.cells, Hd.cells]
 refine call (zfD l im h hl hs) (by simp [Lay.cells, Img.cells, Hd.cells]) (by simp) ?_
 cases ha : zbz l im h
 ·obtain ⟨a1, a2⟩ := zeB ha
  obtain ⟨⟨_, _, _, _, hn, _, _⟩, _⟩ := zaM a1
  simp [zbW, ha]
  refine zak (avs := [l.av, im.av, h.av]) (.bool (zce l im h)) rfl (fun _ => ⟨by simp [Lay.cells, Img.cells, Hd.cells], zjP l im hi h hl⟩) (by simp) ?_
  obtain ⟨s, r, e1, e2⟩ := zjk hn
  by_cases h1 : h.stage = 1
  ·simp [h1]
   cases hst : zce l im h
   ·simp
    refine zak (avs := [l.av, im.av, I (zaK h 0)]) (.bool (told l im (zaK h 0))) rfl (fun hh => by simp [h1] at hh) (by simp) ?_
    simp [h1]
    refine call (zca h hl) (by simp [Hd.cells, h1]) (by simp) ?_
    simp [Hd.cells, h1]
   ·simp
    refine call (zca { h with stage := 2 } hl) (by simp [Hd.cells]) (by simp) ?_
    simp [Hd.cells]
  ·by_cases h2 : h.stage = 2
   ·simp [h2, e1, Step.cells]
    refine zak (avs := [l.av, im.av, I (zaK h 0)]) (.bool (told l im (zaK h 0))) rfl (fun _ => ⟨by simp [Lay.cells, Img.cells, e2, Step.cells], zeg l im hi _⟩) (by simp) ?_
    cases htd : told l im (zaK h 0)
    ·simp [h2]
     refine call (zca h hl) (by simp [Hd.cells, h2, e1]) (by simp) ?_
     simp [Hd.cells, h2, e1]
    ·simp
     refine call (zgD l im hi { h with stage := 3, timer := 0 } hl (by simp)) (by simp [Lay.cells, Img.cells, Hd.cells, e1]) (by simp) ?_
     simp [Hd.cells]
   ·simp [h1, h2]
    refine zak (avs := [l.av, im.av, I (zaK h 0)]) (.bool (told l im (zaK h 0))) rfl (fun hh => by simp [h2] at hh) (by simp) ?_
    by_cases h3 : h.stage = 3
    ·simp [h3]
     refine call (zgD l im hi h hl hs) (by simp [Lay.cells, Img.cells, Hd.cells, h3]) (by simp) ?_
     simp [Hd.cells]
    ·simp [h2, h3]
     refine call (zca h hl) (by simp [Hd.cells]) (by simp) ?_
     simp [Hd.cells]
 ·simp [zbW, ha]
  refine call (zca h hl) (by simp [Hd.cells]) (by simp) ?_
  simp [Hd.cells]
end Go.Lb.LK
namespace Go.Lb.LK
open Go Go.Lb Go.Proofs Go.RowKit
def zjI (n : Int) : Int := IntKind.i64.wrap (max n 1 - 1)
theorem zl0 (n : Int) : C f_tick_Down [I n] (I (zjI n)) := by
 refine ctr [I n] run_tick_Down rfl rfl rfl ?_ rfl
 unfold rt_tick_Down
 simp [zjI]
def zc7 (l : Lay) (im : Img) (h : Hd) : Hd × Bool :=
 if h.stage = 4 ∧ stale l im = false then
  if zjN l im h = true then (runS l im { h with stage := 3, timer := 0 }, false)
  else if inN l im h = true then (h, false)
  else ({ h with timer := zjI h.timer }, decide (zjI h.timer = 0))
 else (h, false)
abbrev hdB (x : Hd × Bool) : AV := .tup [x.1.av, .bool x.2]
theorem zlT (l : Lay) (im : Img) (hi : im.ok) (h : Hd) (hl : h.len) : C f_back_Tick [l.av, im.av, h.av] (hdB (zc7 l im h)) := by
 refine ctr (l.cells ++ im.cells ++ h.cells) run_back_Tick rfl (lih l im h) (by simp [AV.pure, AV.pureAll]) ?_ rfl
 unfold rt_back_Tick
 simp [Lay.cells, Img.cells, Hd.cells]
 refine call (zca h hl) (by simp [Hd.cells]) (by simp) ?_
 simp [Hd.cells]
 refine zak (avs := [l.av, im.av]) (.bool (stale l im)) rfl (fun _ => ⟨by simp [Lay.cells, Img.cells], zbe l im⟩) (by simp) ?_
 by_cases h4 : h.stage = 4
 ·cases hst : stale l im
  ·simp [h4, zc7, hst, Hd.cells]
   refine call (zmO l im hi h hl) (by simp [Lay.cells, Img.cells, Hd.cells, h4]) (by simp) ?_
   cases htd : zjN l im h
   ·simp
    refine call (zpM l im hi h hl) (by simp [Lay.cells, Img.cells, Hd.cells, h4]) (by simp) ?_
    cases hin : inN l im h
    ·simp
     refine call (zl0 h.timer) (by simp [Hd.cells]) (by simp) ?_
     simp [Hd.cells, h4]
     rfl
    ·simp [Hd.cells, h4]
   ·simp
    refine call (zgD l im hi { h with stage := 3, timer := 0 } hl (by simp)) (by simp [Lay.cells, Img.cells, Hd.cells]) (by simp) ?_
    simp [Hd.cells]
  ·simp [h4, zc7, hst, Hd.cells]
 ·simp [h4, zc7, Hd.cells]
end Go.Lb.LK
namespace Go.Lb.LK
open Go Go.Lb Go.Proofs Go.RowKit
theorem zdC (l : Lay) (im : Img) (h : Hd) : (runS l im h).path = h.path ∧ (runS l im h).over = h.over ∧ (runS l im h).needs = h.needs ∧ (runS l im h).id = h.id ∧ (runS l im h).shown = h.shown ∧ (runS l im h).stage = h.stage := by
 unfold runS; split <;> exact ⟨rfl, rfl, rfl, rfl, rfl, rfl⟩
theorem zir (l : Lay) (im : Img) (h : Hd) : (zbW l im h).path = h.path ∧ (zbW l im h).over = h.over ∧ (zbW l im h).needs = h.needs ∧ (zbW l im h).id = h.id ∧ (zbW l im h).shown = h.shown := by
 unfold zbW
 repeat' split
 all_goals first | exact ⟨rfl, rfl, rfl, rfl, rfl⟩ | (have := zdC l im h; exact ⟨this.1, this.2.1, this.2.2.1, this.2.2.2.1, this.2.2.2.2.1⟩) | (have := zdC l im { h with stage := 3, timer := 0 }; exact ⟨this.1, this.2.1, this.2.2.1, this.2.2.2.1, this.2.2.2.2.1⟩)
theorem zgC (l : Lay) (im : Img) (h : Hd) : h.gone ≤ (runS l im h).gone := by
 unfold runS
 split
 ·exact Int.le_refl _
 ·rename_i ha
  have ha : zbz l im h = false := by simpa using ha
  obtain ⟨_, ⟨_, _, d3, _⟩, _⟩ := zaM (zeB ha).1
  have := @zrb l im h (h.n - h.gone.toNat) h.gone.toNat
  show h.gone ≤ ((goX l im h h.gone.toNat : Nat) : Int)
  unfold goX; omega
theorem zhT (l : Lay) (im : Img) (h : Hd) (ho : h.opn = true) : (runS l im h).opn = true := by
 unfold runS
 split
 ·exact ho
 ·show opnS l im h = true
  simp [opnS, ho]
theorem zpk {l : Lay} {im : Img} {h : Hd} (hl : h.len) : (runS l im h).len := by
 obtain ⟨e1, e2, e3, _⟩ := zdC l im h
 unfold Hd.len; rw [e1, e2, e3]; exact hl
theorem znY {l : Lay} {im : Img} {h : Hd} (hl : h.len) : (zbW l im h).len := by
 obtain ⟨e1, e2, e3, _⟩ := zir l im h
 unfold Hd.len; rw [e1, e2, e3]; exact hl
theorem zmR (l : Lay) (im : Img) (h : Hd) : h.gone ≤ (zbW l im h).gone := by
 unfold zbW
 repeat' split
 all_goals first | exact Int.le_refl _ | exact zgC l im h | exact zgC l im { h with stage := 3, timer := 0 }
theorem znL (l : Lay) (im : Img) (h : Hd) (ho : h.opn = true) : (zbW l im h).opn = true := by
 unfold zbW
 repeat' split
 all_goals first | exact ho | exact zhT l im h ho | exact zhT l im { h with stage := 3, timer := 0 } ho
theorem zol {h o : Hd} (hg : h.gone ≤ o.gone) (hp : o.path = h.path) (hv : o.over = h.over) (ho : h.opn = true → o.opn = true) {s : Int} (hs : s ∈ zaG o) : s ∈ zaG h := by
 unfold zaG at hs ⊢
 rw [hp, hv] at hs
 rcases List.mem_append.1 hs with hs | hs
 ·refine List.mem_append_left _ ?_
  obtain ⟨x, hx, rfl⟩ := List.mem_map.1 hs
  refine List.mem_map_of_mem ?_
  have e : o.gone.toNat = h.gone.toNat + (o.gone.toNat - h.gone.toNat) := by omega
  rw [e, ← List.drop_drop] at hx
  exact List.mem_of_mem_drop hx
 ·refine List.mem_append_right _ ?_
  cases h1 : h.opn
  ·simp only [Bool.false_eq_true, if_false]
   split at hs
   ·simp at hs
   ·exact hs
  ·rw [ho h1] at hs; simp at hs
theorem zow {h o : Hd} (hr : zay h = true) (h1 : o.id = h.id) (h2 : o.path = h.path) (h3 : o.over = h.over) (h4 : o.needs = h.needs) (h5 : o.stage = h.stage) (h6 : 0 ≤ o.timer ∧ o.timer ≤ 1073741824) (h7 : 0 ≤ o.gone ∧ o.gone ≤ h.path.steps.length) (h8 : ∀ k, h.path.steps.length ≤ k → o.was k = h.was k) : zay o = true := by
 obtain ⟨⟨a1, a2, a3, a4, a5, a6, a7⟩, ⟨d1, d2, d3, d4⟩, b1, b2, b3, b4⟩ := zaM hr
 have g1 : o.g1 := by unfold Hd.g1; rw [h1, h2, h3]; exact ⟨a1, a2, h6.1, h6.2, a5, a6, a7⟩
 have g2 : o.g2 := by unfold Hd.g2; rw [h2, h5]; exact ⟨d1, d2, h7.1, h7.2⟩
 have g3 : o.wasOk = true := by
  unfold Hd.wasOk at b2 ⊢
  rw [List.all_eq_true] at b2 ⊢
  intro k hk
  have := b2 k hk
  rw [h2]
  by_cases hn : k < h.path.steps.length
  ·simp [hn]
  ·rw [h8 k (by omega)]; exact this
 have g4 : o.secs = h.secs := by unfold Hd.secs; rw [h2, h3]
 simp only [zay, g1, g2, g3, g4, h2, h4, b1, b3, b4, decide_true, Bool.not_false, Bool.and_self]
theorem zpA {n : Int} : 0 ≤ zkf n ∧ zkf n ≤ 1073741824 := by unfold zkf; omega
theorem zfz {l : Lay} {im : Img} {h : Hd} (hr : zay h = true) : zay (runS l im h) = true := by
 cases ha : zbz l im h
 ·obtain ⟨⟨a1, a2, a3, a4, a5, a6, a7⟩, ⟨d1, d2, d3, d4⟩, _⟩ := zaM hr
  have ⟨e1, e2, e3, e4, e5, e6⟩ := zdC l im h
  refine zow hr e4 e1 e2 e3 e6 ?_ ?_ ?_
  ·rw [zdB ha]
   show 0 ≤ zan l im h ∧ zan l im h ≤ 1073741824
   unfold zan
   split
   ·exact zpA
   ·exact ⟨a3, a4⟩
  ·rw [zdB ha]
   have : goX l im h h.gone.toNat ≤ h.n := zrc (by unfold Hd.n; omega)
   show 0 ≤ ((goX l im h h.gone.toNat : Nat) : Int) ∧ ((goX l im h h.gone.toNat : Nat) : Int) ≤ h.path.steps.length
   unfold Hd.n at this; omega
  ·intro k hk
   rw [zdB ha]
   exact zpb hk
 ·rw [zfe ha]; exact hr
theorem zpQ {h o : Hd} (hg : h.gone ≤ o.gone) (hp : o.path = h.path) (hn : o.needs = h.needs) (ho : h.opn = true → o.opn = true) {x : Need} (hx : x ∈ zai o) : x ∈ zai h := by
 unfold zai at hx ⊢
 rw [hn] at hx
 obtain ⟨h1, h2⟩ := List.mem_filter.1 hx
 refine List.mem_filter.2 ⟨h1, ?_⟩
 simp only [zdo, hp, Bool.and_eq_true, decide_eq_true_eq, Bool.or_eq_true, Bool.not_eq_true', decide_eq_false_iff_not] at h2 ⊢
 refine ⟨by omega, ?_⟩
 rcases h2.2 with h3 | h3
 ·exact .inl h3
 ·right
  cases h4 : h.opn
  ·rfl
  ·rw [ho h4] at h3; cases h3
theorem zpP {h o : Hd} (hi : o.id = h.id) (hg : h.gone ≤ o.gone) (hp : o.path = h.path) (hv : o.over = h.over) (hn : o.needs = h.needs) (ho : h.opn = true → o.opn = true) : Less o h :=
 ⟨hi, fun _ hs => zol hg hp hv ho hs, fun _ hx => zpQ hg hp hn ho hx⟩
theorem zp9 (l : Lay) (im : Img) (h : Hd) : Less (runS l im h) h := by
 obtain ⟨a, b, c, d, _⟩ := zdC l im h
 exact zpP d (zgC l im h) a b c (zhT l im h)
theorem zn8 (l : Lay) (im : Img) (h : Hd) : Less (zbW l im h) h := by
 obtain ⟨a, b, c, d, _⟩ := zir l im h
 exact zpP d (zmR l im h) a b c (znL l im h)
theorem Less.trans {a b c : Hd} (h1 : Less a b) (h2 : Less b c) : Less a c := ⟨h1.id.trans h2.id, fun s h => h2.secs s (h1.secs s h), fun s h => h2.needs s (h1.needs s h)⟩
theorem znO (l : Lay) (im : Img) (h : Hd) : Less (zc7 l im h).1 h := by
 unfold zc7
 split
 ·split
  ·exact (zp9 l im _).trans (zln h 0 3)
  ·split
   ·exact Less.refl h
   ·exact zln h _ h.stage
 ·exact Less.refl h
theorem zmK {l : Lay} {im : Img} {h : Hd} (hr : zay h = true) : zay (zbW l im h) = true := by
 obtain ⟨⟨a1, a2, a3, a4, a5, a6, a7⟩, _⟩ := zaM hr
 unfold zbW
 repeat' split
 all_goals first | exact hr | exact zeV (st := 2) (t := h.timer) hr (by omega) ⟨a3, a4⟩ | exact zfz hr | exact zfz (zeV (st := 3) (t := 0) hr (by omega) (by omega))
theorem zmI {l : Lay} {im : Img} {h : Hd} (hr : zay h = true) : zay (zc7 l im h).1 = true := by
 obtain ⟨⟨a1, a2, a3, a4, a5, a6, a7⟩, ⟨b1, b2, _, _⟩, _⟩ := zaM hr
 unfold zc7
 split
 ·split
  ·exact zfz (zeV (st := 3) (t := 0) hr (by omega) (by omega))
  ·split
   ·exact hr
   ·refine zeV (st := h.stage) (t := zjI h.timer) hr ⟨b1, b2⟩ ?_
    have : zjI h.timer = max h.timer 1 - 1 := by unfold zjI; rw [zaI] <;> omega
    omega
 ·exact hr
theorem GoodL.fmap {nx : Int} {f : Hd → Option Hd} : ∀ {hs : List Hd}, GoodL nx hs → (∀ h ∈ hs, ∀ o, f h = some o → Less o h ∧ zay o = true) → GoodL nx (hs.filterMap f)
 | [], _, _ => ⟨fun _ h => by simp at h, fun _ h => by simp at h, by simp⟩
 | h :: hs, hg, hf => by
  have hg2 : GoodL nx hs := hg.sub (List.sublist_cons_self h hs)
  have ih := GoodL.fmap hg2 fun x hx => hf x (List.mem_cons_of_mem _ hx)
  cases e : f h with
  | none => rw [List.filterMap_cons_none e]; exact ih
  | some o =>
   rw [List.filterMap_cons_some e]
   obtain ⟨hl, hr⟩ := hf h (by simp) o e
   have hp := (List.pairwise_cons.1 hg.pw).1
   refine ⟨fun x hx => ?_, fun x hx => ?_, List.pairwise_cons.2 ⟨fun x hx => ?_, ih.pw⟩⟩
   ·rcases List.mem_cons.1 hx with rfl | hx
    ·exact hr
    ·exact ih.right x hx
   ·rcases List.mem_cons.1 hx with rfl | hx
    ·rw [hl.id]; exact hg.lt h (by simp)
    ·exact ih.lt x hx
   ·obtain ⟨y, hy, hy2⟩ := List.mem_filterMap.1 hx
    obtain ⟨hl2, _⟩ := hf y (List.mem_cons_of_mem _ hy) x hy2
    have := hp y hy
    exact ⟨by rw [hl.id, hl2.id]; exact this.1, hl2.apart hl this.2⟩
end Go.Lb.LK
namespace Go.Lb.LK
open Go Go.Lb Go.Proofs Go.RowKit
def znc (l : Lay) : Bool := (l.exits.take 21).any (fun e => decide ((e.over.length : Int) > 20)) || decide ((l.secs.length : Int) > 30) || decide ((l.sigs.length : Int) > 20) || decide ((l.exits.length : Int) > 20) || decide ((l.flanks.length : Int) > 30)
theorem zif (l : Lay) : C f_lockbarref07_Great [l.av] (.bool (znc l)) := by
 refine ctr l.cells run_lockbarref07_Great rfl (by simp) rfl ?_ rfl
 unfold rt_lockbarref07_Great
 simp [Lay.cells]
 refine zac rfl (fun vs => ∃ j : Nat, j ≤ l.exits.length ∧ j ≤ 21 ∧ vs = [I j] ∧ (l.exits.take j).any (fun e => decide ((e.over.length : Int) > 20)) = false) (fun vs => match vs with | [.int _ j] => 22 - j.toNat | _ => 0) ⟨0, by simp⟩ ?_
 rintro vs - ⟨j, hj, hj2, rfl, hprev⟩
 simp
 refine ⟨fun hlt hle => ?_, fun hstop => ?_⟩
 ·have hw := zad (i := j) (by omega)
  simp [hlt, Exi.cells]
  by_cases hbig : 20 < (l.exits[j].over.length : Int)
  ·refine .inr ⟨by omega, ?_⟩
   have : (l.exits.take 21).any (fun e => decide ((e.over.length : Int) > 20)) = true := by
    refine List.any_eq_true.2 ⟨l.exits[j], List.mem_iff_getElem.2 ⟨j, by rw [List.length_take]; omega, by rw [List.getElem_take]⟩, by simpa using hbig⟩
   simp only [znc, this, Bool.true_or]
  ·refine .inl ⟨by omega, ⟨j + 1, by omega, by omega, hw, fun y hy => ?_⟩, by rw [hw]; omega⟩
   rw [List.take_add_one, List.getElem?_eq_getElem hlt] at hy
   rcases List.mem_append.1 hy with hy | hy
   ·have := List.any_eq_false.1 hprev y hy
    simp at this; omega
   ·simp at hy; subst hy; omega
 ·have hno : (l.exits.take 21).any (fun e => decide ((e.over.length : Int) > 20)) = false := by
   by_cases hlt : j < l.exits.length
   ·have : j = 21 := by have := hstop hlt; omega
    rw [← this]; exact hprev
   ·rw [List.take_of_length_le (show l.exits.length ≤ j by omega)] at hprev
    refine List.any_eq_false.2 fun y hy => ?_
    have := List.any_eq_false.1 hprev y (List.mem_of_mem_take hy)
    exact this
  simp only [znc, hno, Bool.false_or]
def zfB (h : Hd) : Bool := decide ((h.path.steps.length : Int) ≤ max h.gone 0) && h.opn
def zdZ (h : Hd) : Bool := decide (30 < h.path.steps.length) || (decide (20 < h.over.length) || decide (60 < h.needs.length))
theorem zoe (h : Hd) : C f_lockbarref17_Great [h.av] (.bool (zdZ h)) := by
 refine ctr h.cells run_lockbarref17_Great rfl (by simp) rfl ?_ rfl
 unfold rt_lockbarref17_Great
 simp [Hd.cells]
 have e1 : decide (30 < (h.path.steps.length : Int)) = decide (30 < h.path.steps.length) := decide_eq_decide.2 (by omega)
 have e2 : decide (20 < (h.over.length : Int)) = decide (20 < h.over.length) := decide_eq_decide.2 (by omega)
 have e3 : decide (60 < (h.needs.length : Int)) = decide (60 < h.needs.length) := decide_eq_decide.2 (by omega)
 simp [zdZ, e1, e2, e3, Bool.or_assoc]
theorem zrr {h : Hd} (hg : zdZ h = false) : h.len ∧ h.path.steps.length ≤ 30 ∧ h.over.length ≤ 20 ∧ h.needs.length ≤ 60 := by
 simp only [zdZ, Bool.or_eq_false_iff, decide_eq_false_iff_not] at hg
 exact ⟨⟨by omega, by omega, by omega⟩, by omega, by omega, by omega⟩
end Go.Lb.LK
namespace Go.Lb.LK
open Go Go.Lb Go.Proofs Go.RowKit
def zdl : Mach := ⟨-1, 0, false⟩
def zbS (m : Mach) (pos : Int) : Mach := if zaZ m = true ∧ (pos = 0 ∨ pos = 1) then (if m.want = pos ∧ m.fail = false then m else ⟨pos, 0, false⟩) else zdl
def zbO (m : Mach) (a : Int) (occ lck : Bool) : Int := if zaZ m = true ∧ m.fail = false ∧ occ = false ∧ lck = false ∧ m.want ≠ a then m.want else -1
def zel (m : Mach) (a : Int) (occ lck : Bool) (drive : Int) : Mach :=
 if zaZ m = true then
  (if (m.want = 0 ∨ m.want = 1) ∧ m.want = a then zdl
  else if zbO m a occ lck < 0 then m
  else ⟨m.want, min m.run 999 + 1, decide (drive ≤ min m.run 999 + 1)⟩)
 else zdl
theorem zdI (m : Mach) : zaZ m = true ↔ ((m.want = 0 ∨ m.want = 1) ∧ 0 ≤ m.run ∧ m.run ≤ 1000) ∨ m = zdl := by
 simp [zaZ, zdl]
theorem zfy : zaZ zdl = true := by decide
theorem zim {m : Mach} (h : zaZ m = true) : m.want = -1 ∨ m.want = 0 ∨ m.want = 1 := by
 rcases (zdI m).1 h with h | h
 ·omega
 ·rw [h]; exact .inl rfl
theorem zhw {m : Mach} {p : Int} : zaZ (zbS m p) = true := by
 unfold zbS
 split
 ·rename_i h
  split
  ·exact h.1
  ·rw [zdI]; exact .inl ⟨h.2, by simp, by simp⟩
 ·exact zfy
theorem zi5 {m : Mach} {a : Int} {o l : Bool} : zbO m a o l = -1 ∨ ((zbO m a o l = 0 ∨ zbO m a o l = 1) ∧ o = false ∧ l = false ∧ zaZ m = true ∧ m.fail = false ∧ zbO m a o l = m.want ∧ m.want ≠ a) := by
 unfold zbO
 split
 ·rename_i h
  rcases zim h.1 with h1 | h1
  ·exact .inl h1
  ·exact .inr ⟨h1, h.2.2.1, h.2.2.2.1, h.1, h.2.1, rfl, h.2.2.2.2⟩
 ·exact .inl rfl
theorem zmq {m : Mach} {a : Int} {o l : Bool} {d : Int} : zaZ (zel m a o l d) = true := by
 unfold zel
 split
 ·rename_i h
  split
  ·exact zfy
  ·split
   ·exact h
   ·rename_i hd
    rcases zi5 (m := m) (a := a) (o := o) (l := l) with h1 | h1
    ·omega
    ·rw [zdI]
     refine .inl ⟨by show m.want = 0 ∨ m.want = 1; omega, ?_⟩
     have : 0 ≤ m.run := by
      rcases (zdI m).1 h with h2 | h2
      ·exact h2.2.1
      ·rw [h2]; decide
     show 0 ≤ min m.run 999 + 1 ∧ min m.run 999 + 1 ≤ 1000
     omega
 ·exact zfy
def Kern.put (k : Kern) (p : Nat) (m : Mach) : Kern := { k with want := upd k.want p m.want, run := upd k.run p m.run, fail := upd k.fail p m.fail }
theorem znr (k : Kern) (p q : Nat) (m : Mach) : (k.put p m).mach q = if q = p then m else k.mach q := by
 unfold Kern.mach Kern.put upd
 by_cases h : q = p <;> simp [h]
theorem zmu (k : Kern) : zbU k = true ↔ ∀ p, p < 24 → zaZ (k.mach p) = true := by
 unfold zbU
 rw [List.all_eq_true]
 exact ⟨fun h p hp => h p (List.mem_range.2 hp), fun h p hp => h p (List.mem_range.1 hp)⟩
theorem zfr {k : Kern} {p : Nat} {m : Mach} (hk : zbU k = true) (hm : zaZ m = true) : zbU (k.put p m) = true := by
 rw [zmu] at hk ⊢
 intro q hq
 rw [znr]
 split
 ·exact hm
 ·exact hk q hq
def isPt (l : Lay) (p : Nat) : Bool := match l.secs[p]? with
 | some s => decide (s.kind = 2)
 | none => false
def zpy (l : Lay) (im : Img) (k : Kern) (p : Nat) : Mach := if isPt l p = true then zel (k.mach p) (atP l im p) (zag l im p) (zaA k p) l.drive else k.mach p
def zbq (l : Lay) (im : Img) (k : Kern) : Nat → Kern
 | 0 => k
 | p + 1 => if isPt l p = true then (zbq l im k p).put p (zel (k.mach p) (atP l im p) (zag l im p) (zaA k p) l.drive) else zbq l im k p
def zbX (l : Lay) (im : Img) (k : Kern) : Kern := zbq l im k 24
theorem zby (l : Lay) (im : Img) (k : Kern) : ∀ n, (zbq l im k n).held = k.held ∧ (zbq l im k n).next = k.next
 | 0 => ⟨rfl, rfl⟩
 | n + 1 => by
  simp only [zbq]
  split
  ·exact zby l im k n
  ·exact zby l im k n
theorem ziV (l : Lay) (im : Img) (k : Kern) (q : Nat) : ∀ n, (zbq l im k n).mach q = if q < n then zpy l im k q else k.mach q
 | 0 => by simp [zbq]
 | n + 1 => by
  have ih := ziV l im k q n
  by_cases hp : isPt l n = true
  ·rw [show zbq l im k (n + 1) = (zbq l im k n).put n (zel (k.mach n) (atP l im n) (zag l im n) (zaA k n) l.drive) by simp only [zbq, if_pos hp], znr]
   by_cases hq : q = n
   ·subst hq
    rw [if_pos rfl, if_pos (by omega), zpy, if_pos hp]
   ·rw [if_neg hq, ih]
    by_cases h2 : q < n
    ·rw [if_pos h2, if_pos (by omega)]
    ·rw [if_neg h2, if_neg (by omega)]
  ·rw [show zbq l im k (n + 1) = zbq l im k n by simp only [zbq, if_neg hp], ih]
   by_cases hq : q = n
   ·subst hq
    rw [if_neg (by omega), if_pos (by omega), zpy, if_neg hp]
   ·by_cases h2 : q < n
    ·rw [if_pos h2, if_pos (by omega)]
    ·rw [if_neg h2, if_neg (by omega)]
theorem zd1 {l : Lay} {im : Img} {k : Kern} (hk : zbU k = true) : ∀ n, zbU (zbq l im k n) = true
 | 0 => hk
 | n + 1 => by
  simp only [zbq]
  split
  ·exact zfr (zd1 hk n) zmq
  ·exact zd1 hk n
def zkZ (l : Lay) (im : Img) (h : Hd) : List Need := (zai h).filter fun x => !decide (atP l im x.p = x.pos)
def za0 (l : Lay) (im : Img) (k : Kern) (h : Hd) : Bool := decide (h.stage = 1) && (zkZ l im h).any fun x => k.fail x.p.toNat
def zgm (l : Lay) (im : Img) (h : Hd) : Hd × Bool := if h.stage = 4 then zc7 l im h else (zbW l im h, false)
def zbi (l : Lay) (im : Img) (k : Kern) (h : Hd) : Option Hd :=
 if za0 l im k h = true then none else if ((zgm l im h).2 || zfB (zgm l im h).1) = true then none else some (zgm l im h).1
def za8 (k : Kern) (x : Need) : Kern := k.put x.p.toNat (zbS (k.mach x.p.toNat) x.pos)
def zbr (l : Lay) (im : Img) (hs : List Hd) : List Need := hs.flatMap fun h => if h.stage = 1 then zkZ l im h else []
def zc1 (l : Lay) (im : Img) (k : Kern) : Kern × List Int :=
 if (zas k && !stale l im) = true then
  ((zbr l im ((zbX l im k).held.filterMap (zbi l im (zbX l im k)))).foldl za8 { zbX l im k with held := (zbX l im k).held.filterMap (zbi l im (zbX l im k)) },
   ((zbX l im k).held.filter (za0 l im (zbX l im k))).map (·.id))
 else (k, [])
def toN (l : Lay) (im : Img) (k : Kern) (p : Nat) : Int := if isPt l p = true then zbO (k.mach p) (atP l im p) (zag l im p) (zaA k p) else -1
def zhf (l : Lay) (im : Img) (k : Kern) (p pos : Int) : Bool := decide (0 ≤ p ∧ p < 24) && (isPt l p.toNat && (decide (pos = 0 ∨ pos = 1) && (zas k && (zcF l im k p && (zbB k p).isNone))))
def keyK (l : Lay) (im : Img) (k : Kern) (p pos : Int) : Kern × Bool := if zhf l im k p pos = true then (k.put p.toNat (zbS (k.mach p.toNat) pos), true) else (k, false)
def zcI (f : Nat → Int) (n : Int) : Nat → Nat
 | 0 => 0
 | i + 1 => if f i = n then zcI f n i ||| 1 <<< i else zcI f n i
theorem zex (f : Nat → Int) (n : Int) (s : Nat) : ∀ i, (zcI f n i).testBit s = (decide (s < i) && decide (f s = n))
 | 0 => by simp [zcI]
 | i + 1 => by
  have ih := zex f n s i
  simp only [zcI]
  split
  ·rename_i h
   rw [Nat.testBit_or, ih, Nat.one_shiftLeft, Nat.testBit_two_pow]
   by_cases hs : s = i
   ·subst hs; simp [h]
   ·by_cases h2 : s < i
    ·simp [h2, show s < i + 1 by omega]; omega
    ·have : ¬ s < i + 1 := by omega
     simp [h2, this]; omega
  ·rename_i h
   rw [ih]
   by_cases hs : s = i
   ·subst hs; simp [h]
   ·by_cases h2 : s < i
    ·simp [h2, show s < i + 1 by omega]
    ·simp [h2, show ¬ s < i + 1 by omega]
theorem znw (f : Nat → Int) (n : Int) : ∀ i, zcI f n i < 2 ^ i
 | 0 => by simp [zcI]
 | i + 1 => by
  have ih := znw f n i
  have h1 : zcI f n i < 2 ^ (i + 1) := by rw [Nat.pow_succ]; omega
  simp only [zcI]
  split
  ·exact Nat.or_lt_two_pow h1 (by rw [Nat.one_shiftLeft]; exact Nat.pow_lt_pow_right (by omega) (by omega))
  ·exact h1
end Go.Lb.LK
namespace Go.Lb.LK
open Go Go.Lb Go.Proofs Go.RowKit
theorem mp1 (m : Mach) (p : Int) : AV.pureAll (m.cells ++ [I p]) = true := by simp [zaf, AV.pureAll, AV.pure]
theorem zgY (m : Mach) (p : Int) : C f_point_Call [m.av, I p] (zbS m p).av := by
 refine ctr (m.cells ++ [I p]) run_point_Call rfl (mp1 m p) (by simp [AV.pure]) ?_ rfl
 unfold rt_point_Call
 simp [Mach.cells]
 refine call (zcV m) (by simp [Mach.cells]) (by simp) ?_
 cases h : zaZ m
 ·simp [zbS, h]
  refine call zcA rfl (by simp) ?_
  simp [zdl, Mach.cells]
 ·simp
  refine call (zcK p) (by simp) (by simp) ?_
  by_cases hp : p = 0 ∨ p = 1
  ·by_cases hc : m.want = p ∧ m.fail = false
   ·simp [zbS, h, hp, hc, Mach.cells]
   ·have hc2 : ¬ m.want = p ∨ m.fail = true := by
     by_cases h1 : m.want = p
     ·right; cases h2 : m.fail
      ·exact absurd ⟨h1, h2⟩ hc
      ·rfl
     ·exact .inl h1
    simp [zbS, h, hp, hc, hc2, Mach.cells]
  ·simp [zbS, h, hp]
   refine call zcA rfl (by simp) ?_
   simp [zdl, Mach.cells]
theorem zfP (m : Mach) (p : Int) : C f_lockbarref16_Call [m.av, I p] (zbS m p).av := by
 refine ctr (m.cells ++ [I p]) run_lockbarref16_Call rfl (mp1 m p) (by simp [AV.pure]) ?_ rfl
 unfold rt_lockbarref16_Call
 simp [Mach.cells]
 refine call (zeX m) (by simp [Mach.cells]) (by simp) ?_
 by_cases hp : p = 0 ∨ p = 1
 ·cases h : zaZ m
  ·simp [zbS, h]
   refine call zdL rfl (by simp) ?_
   simp [zdl, Mach.cells]
  ·have hp2 : ¬ p = 0 → p = 1 := fun h => by omega
   by_cases hc : m.want = p ∧ m.fail = false
   ·simp [zbS, h, hp, hc, Mach.cells]
    intro h1 h2
    omega
   ·simp [zbS, h, hp, hc, Mach.cells]
    intro h1 h2
    omega
 ·have hp2 : ¬ p = 0 ∧ ¬ p = 1 := by omega
  simp [zbS, hp, hp2]
  refine call zdL rfl (by simp) ?_
  simp [zdl, Mach.cells]
theorem mp4 (m : Mach) (a : Int) (o l : Bool) : AV.pureAll (m.cells ++ [I a, .bool o, .bool l]) = true := by simp [zaf, AV.pureAll, AV.pure]
theorem zdw (m : Mach) (a : Int) (o l : Bool) : C f_point_Drives [m.av, I a, .bool o, .bool l] (I (zbO m a o l)) := by
 refine ctr (m.cells ++ [I a, .bool o, .bool l]) run_point_Drives rfl (mp4 m a o l) rfl ?_ rfl
 unfold rt_point_Drives
 simp [Mach.cells]
 refine zak (avs := [m.av]) (.bool (zaZ m)) rfl (fun _ => ⟨by simp [Mach.cells], zcV m⟩) (by simp) ?_
 cases h : zaZ m <;> cases hf : m.fail <;> cases o <;> cases l <;> by_cases ha : m.want = a <;> simp [zbO, h, hf, ha]
theorem mp5 (m : Mach) (a : Int) (o l : Bool) (d : Int) : AV.pureAll (m.cells ++ [I a, .bool o, .bool l, I d]) = true := by simp [zaf, AV.pureAll, AV.pure]
theorem zkO {m : Mach} (h : zaZ m = true) : IntKind.i64.wrap (min m.run 999 + 1) = min m.run 999 + 1 ∧ IntKind.i64.wrap (m.run + 1) = m.run + 1 ∧ min (m.run + 1) 1000 = min m.run 999 + 1 := by
 have : 0 ≤ m.run ∧ m.run ≤ 1000 := by
  rcases (zdI m).1 h with h1 | h1
  ·exact h1.2
  ·rw [h1]; decide
 refine ⟨?_, ?_, by omega⟩
 ·rw [zaI] <;> omega
 ·rw [zaI] <;> omega
theorem zlf (m : Mach) (a : Int) (o l : Bool) (d : Int) : C f_point_Pass [m.av, I a, .bool o, .bool l, I d] (zel m a o l d).av := by
 refine ctr (m.cells ++ [I a, .bool o, .bool l, I d]) run_point_Pass rfl (mp5 m a o l d) (by simp [AV.pure]) ?_ rfl
 unfold rt_point_Pass
 simp [Mach.cells]
 refine call (zcV m) (by simp [Mach.cells]) (by simp) ?_
 cases h : zaZ m
 ·simp [zel, h]
  refine call zcA rfl (by simp) ?_
  simp [zdl, Mach.cells]
 ·obtain ⟨w1, _, _⟩ := zkO h
  simp
  refine call (zcK m.want) (by simp) (by simp) ?_
  by_cases hp : (m.want = 0 ∨ m.want = 1) ∧ m.want = a
  ·have ha : a = 0 ∨ a = 1 := by omega
   simp [zel, h, hp, ha]
   refine call zcA rfl (by simp) ?_
   simp [zdl, Mach.cells]
  ·simp [zel, h, hp]
   intro hx
   refine call (zdw m a o l) (by simp [Mach.cells]) (by simp) ?_
   by_cases hd : zbO m a o l < 0
   ·simp [hd, Mach.cells]
   ·simp [hd, Mach.cells, w1]
end Go.Lb.LK
