/- Counting, an image. -/
import Derived.Test.YtmaldhbaihlmbaaGreatDoorCh3
import Derived.Test.YtmaldhbaihlmbaaGreatDoorFw11
set_option linter.unusedSimpArgs false
set_option linter.unusedVariables false
namespace Go.Lb.LK
open Go Go.Lb Go.Proofs Go.RowKit
theorem zke (a t : Int) : C f_tick_Late [I a, I t] (.bool (decide (t < a))) := by
 refine ctr [I a, I t] run_tick_Late rfl rfl rfl ?_ rfl
 unfold rt_tick_Late
 simp
theorem zlZ (a t : Int) : C f_lockbarref03_Late [I a, I t] (.bool (decide (t < a))) := by
 refine ctr [I a, I t] run_lockbarref03_Late rfl rfl rfl ?_ rfl
 unfold rt_lockbarref03_Late
 simp
theorem li (l : Lay) (im : Img) : AV.pureAll (l.cells ++ im.cells) = true := by simp [zac]
theorem lii (l : Lay) (im : Img) (s : Int) : AV.pureAll (l.cells ++ im.cells ++ [I s]) = true := by simp [zac, AV.pureAll, AV.pure]
theorem zci (l : Lay) (im : Img) : C f_image_Stale [l.av, im.av] (.bool (stale l im)) := by
 refine ctr (l.cells ++ im.cells) run_image_Stale rfl (li l im) rfl ?_ rfl
 unfold rt_image_Stale
 simp [Lay.cells, Img.cells]
 refine call (zke im.age l.stale) (by simp) (by simp) ?_
 simp [stale]
theorem zco (l : Lay) (im : Img) : C f_lockbarref15_Stale [l.av, im.av] (.bool (stale l im)) := by
 refine ctr (l.cells ++ im.cells) run_lockbarref15_Stale rfl (li l im) rfl ?_ rfl
 unfold rt_lockbarref15_Stale
 simp [Lay.cells, Img.cells]
 refine call (zlZ im.age l.stale) (by simp) (by simp) ?_
 simp [stale]
abbrev cloB (x : Int) : AV := .clo f_image_bit_1 [] [.ref [W x] 0]
theorem zhQ (l : Lay) (im : Img) : C f_image_clear [l.av, im.av] (.clo f_image_clear_1 [] [.ref [.bool (stale l im)] 0, .ref [cloB im.occ] 0]) := by
 refine ctr (l.cells ++ im.cells) run_image_clear rfl (li l im) rfl ?_ rfl
 unfold rt_image_clear
 simp [Lay.cells, Img.cells]
 refine call (zci l im) (by simp [Lay.cells, Img.cells]) (by simp) ?_
 simp
 refine call (zoj im.occ) (by simp) (by simp) ?_
 simp
theorem zg1 (s occ : Int) (st : Bool) (h0 : 0 ≤ occ) (h1 : occ ≤ 4294967295) : C f_image_clear_1 [I s, .ref [.bool st] 0, .ref [cloB occ] 0] (.bool (!st && !zb5 occ s)) := by
 refine ctr [I s, .bool st, W occ] run_image_clear_1 rfl rfl rfl ?_ rfl
 unfold rt_image_clear_1
 simp
 refine zai (avs := [I s, .ref [W occ] 0]) (.bool (zb5 occ s)) rfl (fun _ => ⟨by simp, zlX occ s h0 h1⟩) (by simp) ?_
 cases st <;> simp
def zbf (l : Lay) (im : Img) (s : Int) : Bool := !decide (0 ≤ s ∧ s < l.secs.length ∧ s < 24) || (stale l im || (zb5 im.occ s || decide (im.free s.toNat < l.clear)))
end Go.Lb.LK
namespace Go.Lb.LK
open Go Go.Lb Go.Proofs Go.RowKit
theorem zmq (im : Img) (s : Int) (h0 : 0 ≤ s) (h1 : s < 24) : im.cells.getD (s.toNat * 1 + 1) .undef = I (im.free s.toNat) := by
 rw [Nat.mul_one]; exact zny im (by omega) _
theorem zfc (im : Img) (s : Int) (h0 : 0 ≤ s) (h1 : s < 24) : (im.cells[s.toNat * 1 + 1]?).getD .undef = I (im.free s.toNat) := by
 rw [← List.getD_eq_getElem?_getD]; exact zmq im s h0 h1
def atP (l : Lay) (im : Img) (p : Int) : Int :=
 if 0 ≤ p ∧ p < l.secs.length ∧ (l.secs[p.toNat]?.map (·.kind)) = some 2 ∧ stale l im = false then
  (if zb5 im.nor p = zb5 im.rev p then -1 else if zb5 im.nor p = true then 0 else 1) else -1
theorem zfP (l : Lay) (im : Img) (hi : im.ok) (s : Int) : C f_image_Occupied [l.av, im.av, I s] (.bool (zbf l im s)) := by
 refine ctr (l.cells ++ im.cells ++ [I s]) run_image_Occupied rfl (lii l im s) rfl ?_ rfl
 unfold rt_image_Occupied
 simp [Lay.cells, Img.cells]
 by_cases hr : 0 ≤ s ∧ s < l.secs.length ∧ s < 24
 ·have h1 : ¬ s < 0 := by omega
  have h2 : ¬ min (l.secs.length : Int) 24 ≤ s := by omega
  simp [h1, h2]
  intro _ _
  refine call (zhQ l im) (by simp [Lay.cells, Img.cells]) (by simp) ?_
  simp [stale]
  refine call (zg1 s im.occ (stale l im) hi.1.1 hi.1.2) (by simp [stale]) (by simp) ?_
  have hc := zfc im s hr.1 hr.2.2
  simp only [Img.cells] at hc
  simp at hc
  simp [hc, zbf, hr]
  refine ⟨fun _ => by omega, ?_⟩
  cases stale l im <;> cases zb5 im.occ s <;> simp
 ·have h1 : s < 0 ∨ min (l.secs.length : Int) 24 ≤ s := by omega
  rcases h1 with h1 | h1
  ·have h2 : ¬ 0 ≤ s := by omega
   simp [zbf, h1, h2]
  ·have h2 : 0 ≤ s := by omega
   have h3 : ¬ s < 0 := by omega
   have h5 : ¬ s < min (l.secs.length : Int) 24 := by omega
   simp [zbf, h1, h2, h3, h5]
   exact .inl (by omega)
theorem zhW (l : Lay) (im : Img) (hi : im.ok) (s : Int) : C f_lockbarref15_Occupied [l.av, im.av, I s] (.bool (zbf l im s)) := by
 refine ctr (l.cells ++ im.cells ++ [I s]) run_lockbarref15_Occupied rfl (lii l im s) rfl ?_ rfl
 unfold rt_lockbarref15_Occupied
 simp [Lay.cells, Img.cells]
 by_cases hr : 0 ≤ s ∧ s < l.secs.length ∧ s < 24
 ·have h1 : ¬ s < 0 := by omega
  have h2 : ¬ (l.secs.length : Int) ≤ s := by omega
  have h3 : ¬ 24 ≤ s := by omega
  simp [h1, h2, h3]
  intro _ _ _
  refine call (zco l im) (by simp [Lay.cells, Img.cells]) (by simp) ?_
  simp
  refine zai (avs := [W im.occ, I s]) (.bool (zb5 im.occ s)) rfl (fun _ => ⟨by simp, zf1 im.occ s hi.1.1 hi.1.2⟩) (by simp) ?_
  have hc := zfc im s hr.1 hr.2.2
  simp only [Img.cells] at hc
  simp at hc
  simp [hc, zbf, hr]
  refine ⟨?_, ?_⟩
  ·intros; omega
  ·cases stale l im <;> cases zb5 im.occ s <;> simp
 ·have h1 : s < 0 ∨ (l.secs.length : Int) ≤ s ∨ 24 ≤ s := by omega
  by_cases h2 : s < 0
  ·have h0 : ¬ 0 ≤ s := by omega
   simp [zbf, h2, h0]
  ·by_cases h3 : (l.secs.length : Int) ≤ s
   ·simp [zbf, h2, h3]
    intros; omega
   ·have h4 : 24 ≤ s := by omega
    simp [zbf, h2, h3, h4]
    intros; omega
theorem zle (l : Lay) (im : Img) (hi : im.ok) (p : Int) : C f_image_At [l.av, im.av, I p] (I (atP l im p)) := by
 refine ctr (l.cells ++ im.cells ++ [I p]) run_image_At rfl (lii l im p) rfl ?_ rfl
 unfold rt_image_At
 simp [Lay.cells, Img.cells]
 by_cases hr : 0 ≤ p ∧ p < l.secs.length
 ·obtain ⟨n, rfl⟩ : ∃ n : Nat, p = n := ⟨p.toNat, by omega⟩
  have hlt : n < l.secs.length := by omega
  have h1 : ¬ ((n : Nat) : Int) < 0 := by omega
  have h2 : ¬ (l.secs.length : Int) ≤ n := by omega
  simp [h1, h2, hlt, Sec.cells]
  refine zai (avs := [l.av, im.av]) (.bool (stale l im)) rfl (fun _ => ⟨by simp [Lay.cells, Img.cells], zci l im⟩) (by simp) ?_
  by_cases hk : (l.secs[n]).kind = 2
  ·simp [hk, hlt, Sec.cells]
   cases hs : stale l im
   ·simp
    refine ⟨fun h => absurd h (by omega), ?_⟩
    refine call (zoj im.nor) (by simp) (by simp) ?_
    simp
    refine call (zlX im.nor n hi.2.1.1 hi.2.1.2) (by simp) (by simp) ?_
    simp
    refine call (zoj im.rev) (by simp) (by simp) ?_
    simp
    refine call (zlX im.rev n hi.2.2.1.1 hi.2.2.1.2) (by simp) (by simp) ?_
    simp [atP, hlt, hk, hs]
    cases zb5 im.nor n <;> cases zb5 im.rev n <;> simp
   ·simp [atP, hs]
  ·simp [hk, hlt, Sec.cells, atP]
 ·have h3 : p < 0 ∨ (l.secs.length : Int) ≤ p := by omega
  have ha : atP l im p = -1 := by
   unfold atP; rw [if_neg (by omega)]
  rw [ha]
  rcases h3 with h3 | h3
  ·have h5 : ¬ 0 ≤ p := by omega
   simp [h3, h5]
   refine zai (avs := [l.av, im.av]) (.bool (stale l im)) rfl (fun _ => ⟨by simp [Lay.cells, Img.cells], zci l im⟩) (by simp) ?_
   simp [h3, h5]
  ·have h4 : ¬ p < 0 := by omega
   have h5 : ¬ p < l.secs.length := by omega
   simp [h3, h4, h5]
   refine zai (avs := [l.av, im.av]) (.bool (stale l im)) rfl (fun _ => ⟨by simp [Lay.cells, Img.cells], zci l im⟩) (by simp) ?_
   simp [h3, h4, h5]
theorem zok (l : Lay) (im : Img) (hi : im.ok) (p : Int) : C f_lockbarref15_At [l.av, im.av, I p] (I (atP l im p)) := by
 refine ctr (l.cells ++ im.cells ++ [I p]) run_lockbarref15_At rfl (lii l im p) rfl ?_ rfl
 unfold rt_lockbarref15_At
 simp [Lay.cells, Img.cells]
 by_cases hr : 0 ≤ p ∧ p < l.secs.length
 ·obtain ⟨n, rfl⟩ : ∃ n : Nat, p = n := ⟨p.toNat, by omega⟩
  have hlt : n < l.secs.length := by omega
  have h1 : ¬ ((n : Nat) : Int) < 0 := by omega
  have h2 : ¬ (l.secs.length : Int) ≤ n := by omega
  simp [h1, h2, hlt, Sec.cells]
  refine zai (avs := [l.av, im.av]) (.bool (stale l im)) rfl (fun _ => ⟨by simp [Lay.cells, Img.cells], zco l im⟩) (by simp) ?_
  by_cases hk : (l.secs[n]).kind = 2
  ·simp [hk, hlt, Sec.cells]
   cases hs : stale l im
   ·simp
    refine ⟨fun h => absurd h (by omega), ?_⟩
    refine call (zf1 im.nor n hi.2.1.1 hi.2.1.2) (by simp) (by simp) ?_
    simp
    refine call (zf1 im.rev n hi.2.2.1.1 hi.2.2.1.2) (by simp) (by simp) ?_
    simp [atP, hlt, hk, hs]
    cases zb5 im.nor n <;> cases zb5 im.rev n <;> simp
   ·simp [atP, hs]
  ·simp [hk, hlt, Sec.cells, atP]
 ·have h3 : p < 0 ∨ (l.secs.length : Int) ≤ p := by omega
  have ha : atP l im p = -1 := by
   unfold atP; rw [if_neg (by omega)]
  rw [ha]
  rcases h3 with h3 | h3
  ·have h5 : ¬ 0 ≤ p := by omega
   simp [h3, h5]
   refine zai (avs := [l.av, im.av]) (.bool (stale l im)) rfl (fun _ => ⟨by simp [Lay.cells, Img.cells], zco l im⟩) (by simp) ?_
   simp [h3, h5]
  ·have h4 : ¬ p < 0 := by omega
   have h5 : ¬ p < l.secs.length := by omega
   simp [h3, h4, h5]
   refine zai (avs := [l.av, im.av]) (.bool (stale l im)) rfl (fun _ => ⟨by simp [Lay.cells, Img.cells], zco l im⟩) (by simp) ?_
   simp [h3, h4, h5]
end Go.Lb.LK
namespace Go.Lb.LK
open Go Go.Lb Go.Proofs Go.RowKit
theorem zmA {α : Type} {c d : Prop} [Decidable c] [Decidable d] (h : c ↔ d) (x y : α) : (if c then x else y) = if d then x else y := by
 by_cases hc : c
 ·rw [if_pos hc, if_pos (h.1 hc)]
 ·rw [if_neg hc, if_neg (fun hd => hc (h.2 hd))]
def zhi (n : Int) : Int := min (max n 0) 65535
def zpK (n k : Int) : Int := min (zhi n + zhi k) 65535
def rowT (b : Bool) (n : Int) : Int := if b = true then zpK n 1 else 0
theorem zj1 (n t : Int) : C f_lockbarref03_within [I n, I t] (I (min (max n 0) t)) := by
 refine ctr [I n, I t] run_lockbarref03_within rfl rfl rfl ?_ rfl
 unfold rt_lockbarref03_within
 simp
theorem zhb (n : Int) : C f_lockbarref03_Count [I n] (I (zhi n)) := by
 refine ctr [I n] run_lockbarref03_Count rfl rfl rfl ?_ rfl
 unfold rt_lockbarref03_Count
 refine call (zj1 n 65535) (by simp) (by simp) ?_
 simp [zhi]
theorem zl0 (n k : Int) : C f_lockbarref03_More [I n, I k] (I (zpK n k)) := by
 refine ctr [I n, I k] run_lockbarref03_More rfl rfl rfl ?_ rfl
 unfold rt_lockbarref03_More
 refine call (zhb n) (by simp) (by simp) ?_
 simp
 refine call (zhb k) (by simp) (by simp) ?_
 simp
 rw [zeb (by simp only [zhi]; omega) (by simp only [zhi]; omega)]; rfl
theorem znk (b : Bool) (n : Int) : C f_lockbarref03_Row [.bool b, I n] (I (rowT b n)) := by
 refine ctr [.bool b, I n] run_lockbarref03_Row rfl rfl rfl ?_ rfl
 unfold rt_lockbarref03_Row
 simp
 cases b
 ·simp [rowT]
 ·simp
  refine call (zl0 n 1) (by simp) (by simp) ?_
  simp [rowT]
def zfT : Img := ⟨65535, fun _ => 0, 0, 0, 0, 0⟩
theorem zkT : zfT.ok := by simp [Img.ok, zfT]
theorem zhV : C f_lockbarref15_New [] zfT.av := by
 refine ctr [] run_lockbarref15_New rfl rfl (by simp [AV.pure]) ?_ rfl
 unfold rt_lockbarref15_New
 simp [Img.cells, zfT]
def zdi (l : Lay) (im : Img) (m : Nat) : Img := { im with free := fun i => if i < m then rowT (!stale l im && !zb5 im.occ i) (im.free i) else im.free i }
theorem zlF (l : Lay) (im : Img) : zdi l im 0 = im := by simp [zdi]
theorem zlE (l : Lay) (im : Img) (m j : Nat) : (zdi l im (m + 1)).free j = if j = m then rowT (!stale l im && !zb5 im.occ m) (im.free m) else (zdi l im m).free j := by
 simp only [zdi]
 by_cases h : j = m
 ·subst h; simp
 ·by_cases h2 : j < m
  ·simp [h, h2, show j < m + 1 by omega]
  ·simp [h, h2, show ¬ j < m + 1 by omega]
theorem zlL (l : Lay) (im : Img) (m : Nat) : stale l (zdi l im m) = stale l im := rfl
def zoU (l : Lay) (im : Img) (o n r p : Int) : Img := zdi l { im with age := 0, occ := o, nor := n, rev := r, lamp := p } 24
def zoA (f : Img) : List AV := [I (f.free 0), I (f.free 1), I (f.free 2), I (f.free 3), I (f.free 4), I (f.free 5), I (f.free 6), I (f.free 7), I (f.free 8), I (f.free 9), I (f.free 10), I (f.free 11), I (f.free 12), I (f.free 13), I (f.free 14), I (f.free 15), I (f.free 16), I (f.free 17), I (f.free 18), I (f.free 19), I (f.free 20), I (f.free 21), I (f.free 22), I (f.free 23)]
@[simp] theorem ite_I (c : Prop) [Decidable c] (a b : Int) : (if c then I a else I b) = I (if c then a else b) := by split <;> rfl
theorem zl5 (l : Lay) (im : Img) (hi : im.ok) : C f_lockbarref15_rows [l.av, im.av] (zdi l im 24).av := by
 refine ctr (l.cells ++ im.cells) run_lockbarref15_rows rfl (li l im) (by simp [AV.pure]) ?_ rfl
 unfold rt_lockbarref15_rows
 simp [Lay.cells, Img.cells]
 refine zaa rfl (fun vs => ∃ m : Nat, m ≤ 24 ∧ vs = I m :: zoA (zdi l im m)) (fun vs => match vs with | .int _ m :: _ => 24 - m.toNat | _ => 0) ⟨0, by omega, by simp [zoA, zlF]⟩ ?_
 rintro vs - ⟨m, hm, rfl⟩
 simp [zoA]
 refine ⟨fun hlt => ?_, fun hge => ?_⟩
 ·have hlt' : m < 24 := by omega
  refine call (zco l (zdi l im m)) (by simp [Lay.cells, Img.cells]; exact ⟨rfl, rfl, rfl, rfl, rfl⟩) (by simp) ?_
  simp [zlL]
  refine zai (avs := [W im.occ, I m]) (.bool (zb5 im.occ m)) rfl (fun _ => ⟨by simp, zf1 im.occ m hi.1.1 hi.1.2⟩) (by simp) ?_
  simp
  have hc := zfc (zdi l im m) m (by omega) (by omega)
  simp only [Img.cells] at hc
  simp at hc
  simp only [show (zdi l im m).occ = im.occ from rfl, show (zdi l im m).nor = im.nor from rfl, show (zdi l im m).rev = im.rev from rfl, show (zdi l im m).lamp = im.lamp from rfl] at hc
  refine ⟨hlt, ⟨hlt, by omega⟩, ?_⟩
  refine call (avs := [.bool (!stale l im && !zb5 im.occ m), I (im.free m)]) (znk _ _) (by
   have h1 : (zdi l im m).free m = im.free m := by simp [zdi]
   simp [hc, h1]) (by simp) ?_
  simp [hlt]
  refine ⟨⟨m + 1, by omega, ?_⟩, ?_⟩
  ·rw [zab (by omega)]
   simp [zlE]
   and_intros <;> exact zmA (by omega) _ _
  ·rw [zab (by omega)]
   simp; omega
 ·have : m = 24 := by omega
  subst this
  simp [Img.cells, zdi]
theorem zl4 (l : Lay) (im : Img) (o n r p : Int) (h0 : 0 ≤ o) (h1 : o ≤ 4294967295) (n0 : 0 ≤ n) (n1 : n ≤ 4294967295) (r0 : 0 ≤ r) (r1 : r ≤ 4294967295) (p0 : 0 ≤ p) (p1 : p ≤ 4294967295) :
  C f_lockbarref15_Take [l.av, im.av, .agg [W o, W n, W r, W p]] (zoU l im o n r p).av := by
 refine ctr (l.cells ++ im.cells ++ [W o, W n, W r, W p]) run_lockbarref15_Take rfl (by simp [zac, AV.pureAll, AV.pure]) (by simp [AV.pure]) ?_ rfl
 unfold rt_lockbarref15_Take
 simp [Lay.cells, Img.cells]
 refine call (zl5 l { im with age := 0, occ := o, nor := n, rev := r, lamp := p } ⟨⟨h0, h1⟩, ⟨n0, n1⟩, ⟨r0, r1⟩, ⟨p0, p1⟩⟩) (by simp [Lay.cells, Img.cells]) (by simp [Img.cells, AV.scalar, AV.scalars]) ?_
 simp [Img.cells, zoU]
end Go.Lb.LK
namespace Go.Lb.LK
open Go Go.Lb Go.Proofs Go.RowKit
theorem zjD (l : List Int) : (zbK l).Pairwise (fun x y => x ≤ y) := by
 have := List.pairwise_mergeSort (le := fun x y : Int => decide (x ≤ y)) (fun a b c h1 h2 => by simp at *; omega) (fun a b => by simp; omega) l
 exact this.imp (fun h => by simpa using h)
theorem zfz {l : List Int} (hs : l.Pairwise (fun x y => x ≤ y)) : ∀ m, m ≤ l.length → (∀ n, n ∈ Go.Lib.compactUpTo l.toArray m ↔ n ∈ l.take m) ∧ (Go.Lib.compactUpTo l.toArray m).Pairwise (fun x y => x < y)
 | 0, _ => by simp [Go.Lib.compactUpTo]
 | m + 1, h => by
  obtain ⟨h1, h2⟩ := zfz hs m (by omega)
  have hm : l.toArray[m]! = l[m] := by simp [show m < l.length by omega]
  rw [Go.Lib.compactUpTo_succ, hm]
  have ht : l.take (m + 1) = l.take m ++ [l[m]] := by rw [List.take_add_one, List.getElem?_eq_getElem (by omega)]; rfl
  have hle : ∀ x ∈ l.take m, x ≤ l[m] := by
   intro x hx
   obtain ⟨j, hj, rfl⟩ := List.mem_iff_getElem.1 hx
   rw [List.getElem_take]
   rw [List.length_take] at hj
   exact List.pairwise_iff_getElem.1 hs j m (by omega) (by omega) (by omega)
  cases hk : Go.Lib.keeps l.toArray m with
  | true =>
   refine ⟨fun n => ?_, ?_⟩
   ·rw [ht]; simp only [h1, if_true, List.mem_append, List.mem_singleton]
   ·simp only [if_true]
    rw [List.pairwise_append]
    refine ⟨h2, by simp, fun x hx y hy => ?_⟩
    simp only [List.mem_singleton] at hy; subst hy
    have hx' := (h1 x).1 hx
    have := hle x hx'
    simp only [Go.Lib.keeps, decide_eq_true_eq] at hk
    rcases hk with h0 | hk
    ·subst h0; simp at hx'
    ·have hm1 : l.toArray[m - 1]! = l[m - 1] := by simp [show m - 1 < l.length by omega]
     rw [hm, hm1] at hk
     obtain ⟨j, hj, rfl⟩ := List.mem_iff_getElem.1 hx'
     rw [List.getElem_take]
     rw [List.length_take] at hj
     have a1 : l[j] ≤ l[m - 1] := by
      rcases Nat.lt_or_ge j (m - 1) with hlt | hge
      ·exact List.pairwise_iff_getElem.1 hs j (m - 1) (by omega) (by omega) hlt
      ·have : j = m - 1 := by omega
       subst this; exact Int.le_refl _
     have a2 : l[m - 1] ≤ l[m] := by
      rcases Nat.eq_zero_or_pos m with h0 | h0
      ·subst h0; exact Int.le_refl _
      ·exact List.pairwise_iff_getElem.1 hs (m - 1) m (by omega) (by omega) (by omega)
     omega
  | false =>
   refine ⟨fun n => ?_, by simpa using h2⟩
   rw [ht]
   simp only [Bool.false_eq_true, if_false, List.append_nil, List.mem_append, List.mem_singleton, h1]
   refine ⟨.inl, fun h => h.elim id ?_⟩
   rintro rfl
   have hk' : ¬ (m = 0 ∨ l.toArray[m]! ≠ l.toArray[m - 1]!) := by simpa [Go.Lib.keeps] using hk
   have hm0 : m ≠ 0 := fun h => hk' (.inl h)
   have hm1 : l.toArray[m - 1]! = l[m - 1] := by simp [show m - 1 < l.length by omega]
   rw [hm, hm1] at hk'
   have : l[m] = l[m - 1] := Classical.byContradiction fun h => hk' (.inr h)
   rw [this]
   exact List.mem_iff_getElem.2 ⟨m - 1, by rw [List.length_take]; omega, by rw [List.getElem_take]⟩
theorem zhZ {l : List Int} (hs : l.Pairwise (fun x y => x ≤ y)) : (∀ n, n ∈ zaS l ↔ n ∈ l) ∧ (zaS l).Pairwise (fun x y => x < y) := by
 have := zfz hs l.length (Nat.le_refl _)
 rwa [List.take_length] at this
theorem zgk (l : List Int) : ∀ m, m ≤ l.length → (Go.Lib.compactUpTo l.toArray m).Sublist (l.take m)
 | 0, _ => by simp [Go.Lib.compactUpTo]
 | m + 1, h => by
  have ih := zgk l m (by omega)
  have hm : l.toArray[m]! = l[m] := by simp [show m < l.length by omega]
  rw [Go.Lib.compactUpTo_succ, hm]
  have ht : l.take (m + 1) = l.take m ++ [l[m]] := by rw [List.take_add_one, List.getElem?_eq_getElem (by omega)]; rfl
  rw [ht]
  split
  ·exact ih.append (List.Sublist.refl _)
  ·exact ih.append (List.nil_sublist [l[m]])
theorem zfy {l : List Int} (hs : l.Pairwise (fun x y => x < y)) : ∀ m, m ≤ l.length → (Go.Lib.compactUpTo l.toArray m).length = m
 | 0, _ => by simp [Go.Lib.compactUpTo]
 | m + 1, h => by
  have ih := zfy hs m (by omega)
  have hm : l.toArray[m]! = l[m] := by simp [show m < l.length by omega]
  rw [Go.Lib.compactUpTo_succ]
  have hk : Go.Lib.keeps l.toArray m = true := by
   simp only [Go.Lib.keeps, decide_eq_true_eq]
   rcases Nat.eq_zero_or_pos m with h0 | h0
   ·exact .inl h0
   ·right
    have hm1 : l.toArray[m - 1]! = l[m - 1] := by simp [show m - 1 < l.length by omega]
    rw [hm, hm1]
    have := List.pairwise_iff_getElem.1 hs (m - 1) m (by omega) (by omega) (by omega)
    omega
  simp [hk, ih]
theorem zh0 (l : List Int) : (zaS (zbK l)).length < l.length ↔ ¬ l.Nodup := by
 have hp : (zbK l).Perm l := List.mergeSort_perm _ _
 have hlen : (zbK l).length = l.length := hp.length_eq
 have hs := zjD l
 constructor
 ·intro h hn
  have hn2 : (zbK l).Nodup := hp.nodup_iff.2 hn
  have hlt : (zbK l).Pairwise (fun x y => x < y) := by
   refine List.Pairwise.imp₂ (R := fun x y => x ≤ y) (S := fun x y => x ≠ y) (fun a b h1 h2 => by omega) hs hn2
  have := zfy hlt (zbK l).length (Nat.le_refl _)
  have e : zaS (zbK l) = Go.Lib.compactUpTo (zbK l).toArray (zbK l).length := by simp [zaS, Go.Lib.compact]
  rw [e] at h
  omega
 ·intro hn
  refine Classical.byContradiction fun h => hn ?_
  have hsub := zgk (zbK l) (zbK l).length (Nat.le_refl _)
  have e : zaS (zbK l) = Go.Lib.compactUpTo (zbK l).toArray (zbK l).length := by simp [zaS, Go.Lib.compact]
  rw [← e, List.take_length] at hsub
  have heq := hsub.eq_of_length_le (by omega)
  have h2 := (zhZ hs).2
  rw [heq] at h2
  exact hp.nodup_iff.1 (h2.imp (fun h => by omega))
end Go.Lb.LK
namespace Go.Lb.LK
open Go Go.Lb Go.Proofs Go.RowKit
theorem zbz (l : List Step) (h : l.length ≤ 8796093022208) : C f_slices_Clone_Step [steps l] (steps l) := by
 refine ctr [steps l] run_slices_Clone_Step rfl (by simp [AV.pureAll, AV.pure]) (by simp [AV.pure]) ?_ rfl
 unfold rt_slices_Clone_Step
 simp
 exact ⟨fun x _ => by simp [Step.cells], h⟩
theorem zef (l : List Need) (h : l.length ≤ 8796093022208) : C f_slices_Clone_Need [needs l] (needs l) := by
 refine ctr [needs l] run_slices_Clone_Need rfl (by simp [AV.pureAll, AV.pure]) (by simp [AV.pure]) ?_ rfl
 unfold rt_slices_Clone_Need
 simp
 exact ⟨fun x _ => by simp [Need.cells], h⟩
def zcb (xs : List (List Step)) : Nat := (xs.map List.length).sum
theorem zd1 (xs : List (List Step)) : xs.flatten.length = zcb xs := by simp [zcb, List.length_flatten]
theorem zfD (xs : List (List Step)) {i : Nat} (h : i < xs.length) : (xs.take (i + 1)).flatten = (xs.take i).flatten ++ xs[i] := by
 rw [List.take_add_one, List.getElem?_eq_getElem h, List.flatten_append]; simp
theorem zhF (xs : List (List Step)) {i : Nat} (h : i < xs.length) : zcb (xs.take (i + 1)) = zcb (xs.take i) + xs[i].length := by
 rw [← zd1, ← zd1, zfD xs h, List.length_append]
theorem zf8 (xs : List (List Step)) (i : Nat) : zcb (xs.take i) ≤ zcb xs := by
 unfold zcb
 conv => rhs; rw [← List.take_append_drop i xs, List.map_append, List.sum_append]
 omega
theorem zd2 (xs : List (List Step)) (hx : xs.length ≤ 1000000) (ht : zcb xs ≤ 1000000000) : C f_slices_Concat_Step [.sl (xs.map steps)] (steps xs.flatten) := by
 refine ctr [.sl (xs.map steps)] run_slices_Concat_Step rfl (by simp [AV.pureAll, AV.pure, zbn steps (fun x => by simp [AV.pure])]) (by simp only [AV.pure]; exact zlM _) ?_ rfl
 unfold rt_slices_Concat_Step
 simp
 refine zaa rfl (fun vs => ∃ i : Nat, i ≤ xs.length ∧ vs = [I (zcb (xs.take i)), I i]) (fun vs => match vs with | [_, .int _ j] => xs.length - j.toNat | _ => 0) ⟨0, by simp, by simp [zcb]⟩ ?_
 rintro vs - ⟨i, hi, rfl⟩
 have hti := zf8 xs i
 simp
 refine ⟨fun hlt => ?_, fun hge => ?_⟩
 ·have hw := zab (i := i) (by omega)
  have ht1 := zhF xs hlt
  have ht2 := zf8 xs (i + 1)
  have hw2 : IntKind.i64.wrap ((zcb (xs.take i) : Int) + xs[i].length) = (zcb (xs.take (i + 1)) : Int) := by rw [zeb] <;> omega
  simp [hlt, hw2]
  exact ⟨⟨i + 1, by omega, rfl, hw⟩, by rw [hw]; omega⟩
 ·have hti : xs.take i = xs := List.take_of_length_le hge
  have w0 : IntKind.i64.wrap 0 = 0 := by decide
  have wt : IntKind.i64.wrap (zcb xs : Int) = zcb xs := by rw [zeb] <;> omega
  simp [hti, w0, wt]
  refine ⟨fun hpos => ⟨by omega, ?_⟩, fun hz => ?_⟩
  all_goals
   refine zaa rfl (fun vs => ∃ i : Nat, i ≤ xs.length ∧ vs = [steps (xs.take i).flatten, I i]) (fun vs => match vs with | [_, .int _ j] => xs.length - j.toNat | _ => 0) ⟨0, by simp, by simp⟩ ?_
   rintro vs - ⟨j, hj, rfl⟩
   have htj := zf8 xs j
   rw [← zd1] at htj
   simp only [zc5, List.cons_append, List.nil_append]
   have hfl := fun h => zfD xs (i := j) h
   generalize hcur : (xs.take j).flatten = cur at htj hfl ⊢
   simp
   refine ⟨fun hlt => ?_, fun hge => ?_⟩
   ·have hw := zab (i := j) (by omega)
    have ht1 := zhF xs hlt
    have ht2 := zf8 xs (j + 1)
    rw [← zd1 (xs.take j), hcur] at ht1
    simp [hlt]
    refine ⟨fun x _ => by simp [Step.cells], by omega, ⟨j + 1, by omega, ?_, hw⟩, by rw [hw]; omega⟩
    have := congrArg (List.map Step.av) (hfl hlt)
    simpa using this.symm
   ·have : xs.take j = xs := List.take_of_length_le hge
    simp [← hcur, this]
def zaj {α : Type} (q : α → Bool) (l : List α) : Prop := l.any q = false
theorem zaj.nil {α : Type} (q : α → Bool) : zaj q [] := rfl
theorem zbO {α : Type} {q : α → Bool} {l : List α} {i : Nat} (hi : i < l.length) (hq : q l[i] = true) : l.any q = true := List.any_eq_true.2 ⟨l[i], List.getElem_mem hi, hq⟩
theorem zah {α : Type} {q : α → Bool} {l : List α} {i : Nat} (hi : i < l.length) (h : zaj q (l.take i)) (hq : q l[i] = false) : zaj q (l.take (i + 1)) := by
 unfold zaj at *
 rw [List.take_add_one, List.getElem?_eq_getElem hi, List.any_append, h]; simp [hq]
def both (x y : Need) : Bool := decide (x.p = y.p) && !decide (x.pos = y.pos)
def zct (a b : List Need) : Bool := a.any fun x => b.any fun y => both x y
theorem zfw (a b : List Need) (ha : a.length ≤ 8796093022208) (hb : b.length ≤ 8796093022208) : C f_held_clash [needs a, needs b] (.bool (zct a b)) := by
 refine ctr [needs a, needs b] run_held_clash rfl (by simp [AV.pureAll, AV.pure]) rfl ?_ rfl
 unfold rt_held_clash
 simp
 refine zaa rfl (fun vs => ∃ i : Nat, i ≤ a.length ∧ vs = [I i] ∧ zaj (fun x => b.any fun y => both x y) (a.take i)) (fun vs => match vs with | [.int _ j] => a.length - j.toNat | _ => 0) ⟨0, by simp, by simp, rfl⟩ ?_
 rintro vs - ⟨i, hi, rfl, hn⟩
 simp
 refine ⟨fun hlt => ?_, fun hge => ?_⟩
 ·simp [hlt, Need.cells]
  refine zaa rfl (fun vs => ∃ j : Nat, j ≤ b.length ∧ vs = [I j] ∧ zaj (fun y => both a[i] y) (b.take j)) (fun vs => match vs with | [.int _ k] => b.length - k.toNat | _ => 0) ⟨0, by simp, by simp, rfl⟩ ?_
  rintro vs - ⟨j, hj, rfl, hm⟩
  simp
  refine ⟨fun hlt2 => ?_, fun hge2 => ?_⟩
  ·have hw := zab (i := j) (by omega)
   simp [hlt, hlt2, Need.cells]
   by_cases h1 : a[i].p = b[j].p <;> by_cases h2 : a[i].pos = b[j].pos
   ·simp [h1, h2, hw]
    exact ⟨⟨j + 1, by omega, rfl, zah hlt2 hm (by simp [both, h1, h2])⟩, by omega⟩
   ·simp [h1, h2]
    exact zbO hlt (zbO hlt2 (by simp [both, h1, h2]))
   ·simp [h1, hw]
    exact ⟨⟨j + 1, by omega, rfl, zah hlt2 hm (by simp [both, h1])⟩, by omega⟩
   ·simp [h1, hw]
    exact ⟨⟨j + 1, by omega, rfl, zah hlt2 hm (by simp [both, h1])⟩, by omega⟩
  ·have hb2 : b.take j = b := List.take_of_length_le (by omega)
   rw [hb2] at hm
   have hw := zab (i := i) (by omega)
   simp [hw]
   exact ⟨⟨i + 1, by omega, rfl, zah hlt hn hm⟩, by omega⟩
 ·have ha2 : a.take i = a := List.take_of_length_le (by omega)
  rw [ha2] at hn
  have hn2 : zct a b = false := hn
  simp [hn2]
theorem zkd (p : Path) (h : p.steps.length ≤ 8796093022208) : C f_route_Own [p.av] p.av := by
 refine ctr p.cells run_route_Own rfl (by simp) (by simp [AV.pure]) ?_ rfl
 unfold rt_route_Own
 simp [Path.cells]
 refine call (zbz p.steps h) (by simp) (by simp) ?_
 simp [Path.cells]
def Hd.wide (h : Hd) : Prop := h.path.steps.length ≤ 6000000000000 ∧ h.over.length ≤ 6000000000000 ∧ h.needs.length ≤ 6000000000000
def Hd.len (h : Hd) : Prop := h.path.steps.length ≤ 1048576 ∧ h.over.length ≤ 1048576 ∧ h.needs.length ≤ 6000000000000
theorem Hd.len.wide {h : Hd} (hl : h.len) : h.wide := by
 obtain ⟨h1, h2, h3⟩ := hl
 exact ⟨by omega, by omega, h3⟩
theorem zld (h : Hd) (hl : h.len) : C f_held_Own [h.av] h.av := by
 obtain ⟨h1, h2, h3⟩ := hl
 refine ctr h.cells run_held_Own rfl (by simp) (by simp [AV.pure]) ?_ rfl
 unfold rt_held_Own
 simp [Hd.cells]
 refine call (zkd h.path (by omega)) (by simp [Path.cells]) (by simp) ?_
 simp
 refine call (zbz h.over (by omega)) (by simp) (by simp) ?_
 simp
 refine call (zef h.needs (by omega)) (by simp) (by simp) ?_
 simp [Path.cells, Hd.cells]
def zcX (h : Hd) (x : Need) : Bool := decide (max h.gone 0 ≤ x.k) && (!decide (x.k = h.path.steps.length) || !h.opn)
def zaZ (h : Hd) : List Need := h.needs.filter (zcX h)
theorem zdp (h : Hd) (hl : h.len) : C f_held_Needs [h.av] (needs (zaZ h)) := by
 obtain ⟨h1, h2, h3⟩ := hl
 refine ctr h.cells run_held_Needs rfl (by simp) (by simp [AV.pure]) ?_ rfl
 unfold rt_held_Needs
 simp [Hd.cells]
 refine zaa rfl (fun vs => ∃ i : Nat, i ≤ h.needs.length ∧ vs = [needs ((h.needs.take i).filter (zcX h)), I i]) (fun vs => match vs with | [_, .int _ j] => h.needs.length - j.toNat | _ => 0) ⟨0, by simp, by simp⟩ ?_
 rintro vs - ⟨i, hi, rfl⟩
 simp
 refine ⟨fun hlt => ?_, fun hge => ?_⟩
 ·have hw := zab (i := i) (by omega)
  have hfl := zdy (zcX h) h.needs i
  have hft := zcw (zcX h) h.needs hlt
  simp [hlt, Need.cells]
  rw [hw]
  cases hq : zcX h h.needs[i]
  ·left
   refine ⟨?_, ⟨i + 1, by omega, by rw [hft, hq]; simp, rfl⟩, by omega⟩
   intro hk
   simpa [zcX, hk] using hq
  ·right
   refine ⟨by simpa [zcX] using hq, by omega, ⟨i + 1, by omega, by rw [hft, hq]; simp [Need.cells], rfl⟩, by omega⟩
 ·have : h.needs.take i = h.needs := List.take_of_length_le (by omega)
  simp [this, zaZ]
end Go.Lb.LK
namespace Go.Lb.LK
open Go Go.Lb Go.Proofs Go.RowKit
def Hd.g1 (h : Hd) : Prop := 1 ≤ h.id ∧ h.id ≤ 1073741824 ∧ 0 ≤ h.timer ∧ h.timer ≤ 1073741824 ∧ 1 ≤ h.path.steps.length ∧ h.path.steps.length ≤ 12 ∧ h.over.length ≤ 2
def Hd.g2 (h : Hd) : Prop := 1 ≤ h.stage ∧ h.stage < 5 ∧ 0 ≤ h.gone ∧ h.gone ≤ h.path.steps.length
def Hd.wasOk (h : Hd) : Bool := (List.range 12).all fun k => decide (k < h.path.steps.length) || !h.was k
def zdf (n : Nat) (x : Need) : Bool := decide (0 ≤ x.k ∧ x.k ≤ n ∧ 0 ≤ x.p ∧ x.p < 24 ∧ 0 ≤ x.pos ∧ x.pos ≤ 1)
def Hd.secs (h : Hd) : List Int := (h.path.steps ++ h.over).map (·.s)
instance (h : Hd) : Decidable h.g1 := by unfold Hd.g1; infer_instance
instance (h : Hd) : Decidable h.g2 := by unfold Hd.g2; infer_instance
def za0 (h : Hd) : Bool := decide h.g1 && (decide h.g2 && (!zct h.needs h.needs && (h.wasOk && (decide h.secs.Nodup && h.needs.all (zdf h.path.steps.length)))))
theorem wc (w : Nat → Bool) (n j : Nat) (hn : n ≤ 12) (hj : j < 12) : (if j < min n 12 then ((List.take n (zhI w))[j]?.getD .undef).cells[0]?.getD .undef else B false) = B (decide (j < n) && w j) := by
 by_cases h : j < n
 ·have h2 : j < min n 12 := by omega
  rw [if_pos h2, List.getElem?_take, if_pos h]
  have := wget w hj .undef
  rw [List.getD_eq_getElem?_getD] at this
  rw [this]; simp [h]
 ·have h2 : ¬ j < min n 12 := by omega
  rw [if_neg h2]; simp [h]
theorem wci (w : Nat → Bool) (n j : Nat) (i : Int) (hi : i = j) (hn : n ≤ 12) (hj : j < 12) : (if i < ((min n 12 : Nat) : Int) then ((List.take n (zhI w))[j]?.getD .undef).cells[0]?.getD .undef else B false) = B (decide (j < n) && w j) := by
 rw [← wc w n j hn hj]
 exact zmA (by omega) _ _
theorem zoV (w : Nat → Bool) (n : Nat) : ∀ e ∈ List.take n (zhI w), e.cells.length = 1 ∧ AV.ones e.cells = true := by
 intro e he
 have := List.mem_of_mem_take he
 simp only [zhI, List.mem_cons, List.not_mem_nil, or_false] at this
 rcases this with rfl | rfl | rfl | rfl | rfl | rfl | rfl | rfl | rfl | rfl | rfl | rfl <;> simp
theorem zhP (h : Hd) (hl : h.wide) (hs : 0 ≤ h.stage ∧ h.stage ≤ 255) : C f_held_Right [h.av] (.bool (za0 h)) := by
 obtain ⟨l1, l2, l3⟩ := hl
 refine ctr h.cells run_held_Right rfl (by simp) rfl ?_ rfl
 unfold rt_held_Right
 simp [Hd.cells]
 by_cases g1 : h.g1
 ·have g1' := g1
  obtain ⟨a1, a2, a3, a4, a5, a6, a7⟩ := g1
  have b1 : ¬ h.id < 1 := by omega
  have b2 : ¬ 1073741824 < max h.id h.timer := by omega
  have b3 : ¬ h.timer < 0 := by omega
  have b4 : ¬ ((h.path.steps.length : Int) < 1) := by omega
  have b5 : ¬ (12 < (h.path.steps.length : Int)) := by omega
  have b6 : ¬ (2 < (h.over.length : Int)) := by omega
  have b7 : (0 : Int) < h.path.steps.length := by omega
  refine ⟨fun hh => by simp [b1, b2, b3, b5, b6] at hh; omega, ?_⟩
  intro _ _ _ _ _ _
  refine zai (avs := [needs h.needs, needs h.needs]) (.bool (zct h.needs h.needs)) rfl (fun _ => ⟨by simp, zfw _ _ (by omega) (by omega)⟩) (by simp) ?_
  by_cases g2 : h.g2
  ·have g2' := g2
   obtain ⟨d1, d2, d3, d4⟩ := g2
   have e1 : ¬ h.stage = 0 := by omega
   have e2 : ¬ 5 ≤ h.stage := by omega
   have e3 : ¬ h.gone < 0 := by omega
   have e4 : ¬ (h.path.steps.length : Int) < h.gone := by omega
   cases hc : zct h.needs h.needs
   ·have tk := zoV h.was h.path.steps.length
    have c0 := wc h.was h.path.steps.length 0 a6 (by omega)
    have c1 := wci h.was h.path.steps.length 1 1 rfl a6 (by omega)
    have c2 := wci h.was h.path.steps.length 2 2 rfl a6 (by omega)
    have c3 := wci h.was h.path.steps.length 3 3 rfl a6 (by omega)
    have c4 := wci h.was h.path.steps.length 4 4 rfl a6 (by omega)
    have c5 := wci h.was h.path.steps.length 5 5 rfl a6 (by omega)
    have c6 := wci h.was h.path.steps.length 6 6 rfl a6 (by omega)
    have c7 := wci h.was h.path.steps.length 7 7 rfl a6 (by omega)
    have c8 := wci h.was h.path.steps.length 8 8 rfl a6 (by omega)
    have c9 := wci h.was h.path.steps.length 9 9 rfl a6 (by omega)
    have c10 := wci h.was h.path.steps.length 10 10 rfl a6 (by omega)
    have c11 := wci h.was h.path.steps.length 11 11 rfl a6 (by omega)
    simp only [AV.cells, zhI] at tk c0 c1 c2 c3 c4 c5 c6 c7 c8 c9 c10 c11
    simp [e1, e2, e3, e4, c0, c1, c2, c3, c4, c5, c6, c7, c8, c9, c10, c11]
    refine ⟨by omega, tk, fun hh => ?_, ?_⟩
    ·have hw : h.wasOk = false := by
      cases hq : h.wasOk
      ·rfl
      ·exfalso
       simp only [Hd.wasOk, List.all_eq_true, List.mem_range, Bool.or_eq_true, decide_eq_true_eq, Bool.not_eq_true'] at hq
       have hstep : ∀ k, k < 12 → h.was k = true → h.path.steps.length ≤ k → False := fun k hk h1 h2 => by
        rcases hq k hk with h3 | h3
        ·omega
        ·rw [h1] at h3; cases h3
       rcases hh with ⟨h1, h2⟩ | ⟨h1, h2⟩ | ⟨h1, h2⟩ | ⟨h1, h2⟩ | ⟨h1, h2⟩ | ⟨h1, h2⟩ | ⟨h1, h2⟩ | ⟨h1, h2⟩ | ⟨h1, h2⟩ | ⟨h1, h2⟩ | ⟨h1, h2⟩ | ⟨h1, h2⟩
       ·rw [h2] at a5; simp at a5
       all_goals exact hstep _ (by omega) h1 h2
     simp [za0, hw]
    ·intro w0 w1 w2 w3 w4 w5 w6 w7 w8 w9 w10 w11
     have hw : h.wasOk = true := by
      simp only [Hd.wasOk, List.all_eq_true, List.mem_range, Bool.or_eq_true, decide_eq_true_eq, Bool.not_eq_true']
      intro k hk
      cases hq : h.was k
      ·exact .inr rfl
      ·left
       match k, hk, hq with
       | 0, _, hq => exact w0 hq
       | 1, _, hq => exact w1 hq
       | 2, _, hq => exact w2 hq
       | 3, _, hq => exact w3 hq
       | 4, _, hq => exact w4 hq
       | 5, _, hq => exact w5 hq
       | 6, _, hq => exact w6 hq
       | 7, _, hq => exact w7 hq
       | 8, _, hq => exact w8 hq
       | 9, _, hq => exact w9 hq
       | 10, _, hq => exact w10 hq
       | 11, _, hq => exact w11 hq
     refine call (zd2 [h.path.steps, h.over] (by simp) (by simp [zcb]; omega)) (by simp) (by simp) ?_
     generalize hall : [h.path.steps, h.over].flatten = all
     have hal : all = h.path.steps ++ h.over := by rw [← hall]; simp
     have hlen : all.length = h.path.steps.length + h.over.length := by rw [hal]; simp
     simp
     refine zaa rfl (fun vs => ∃ i : Nat, i ≤ all.length ∧ vs = [ints ((all.take i).map (·.s)), I i]) (fun vs => match vs with | [_, .int _ j] => all.length - j.toNat | _ => 0) ⟨0, by simp, by simp⟩ ?_
     rintro vs - ⟨i, hi, rfl⟩
     simp
     refine ⟨fun hlt => ?_, fun hge => ?_⟩
     ·have hwr := zab (i := i) (by omega)
      have hmt := map_take (fun x : Step => x.s) all hlt
      simp [hlt, Step.cells, hwr]
      refine ⟨by omega, ⟨i + 1, by omega, ?_, by omega⟩, by omega⟩
      rw [List.take_add_one, List.getElem?_map, List.getElem?_eq_getElem hlt]; rfl
     ·have hta : List.take i (List.map (I ∘ fun x : Step => x.s) all) = (all.map (·.s)).map I := by
       rw [List.take_of_length_le (by simp; omega), List.map_map]
      rw [hta]
      refine ⟨all.map (·.s), by simp; omega, by simp, ?_⟩
      refine ⟨zbK (all.map (·.s)), by simp [zbK]; omega, rfl, ?_⟩
      have hsec : h.secs = all.map (·.s) := by rw [hal]; rfl
      have hcl := zei (zbK (all.map (·.s)))
      have hsl : (zbK (all.map (·.s))).length = all.length := by simp [zbK]
      have hwa : IntKind.i64.wrap ((h.path.steps.length : Int) + h.over.length) = h.path.steps.length + h.over.length := by rw [zeb] <;> omega
      simp [hwa]
      have hnd := zh0 (all.map (·.s))
      rw [List.length_map, hlen] at hnd
      refine ⟨fun hh => ?_, fun hh => ?_⟩
      ·have : ¬ h.secs.Nodup := by rw [hsec]; exact hnd.1 (by omega)
       simp [za0, this]
      ·have hno : h.secs.Nodup := by
        rw [hsec]
        refine Classical.byContradiction fun hn => ?_
        have := hnd.2 hn
        omega
       have hr : za0 h = h.needs.all (zdf h.path.steps.length) := by simp [za0, g1', g2', hc, hw, hno]
       rw [hr]
       refine zaa rfl (fun vs => ∃ i : Nat, i ≤ h.needs.length ∧ vs = [I i] ∧ zaj (fun x => !zdf h.path.steps.length x) (h.needs.take i)) (fun vs => match vs with | [.int _ j] => h.needs.length - j.toNat | _ => 0) ⟨0, by simp, by simp, rfl⟩ ?_
       rintro vs - ⟨k, hk, rfl, hq⟩
       simp
       refine ⟨fun hlt => ?_, fun hge => ?_⟩
       ·have hwr := zab (i := k) (by omega)
        simp [hlt, Need.cells, hwr]
        have hf : h.needs[k].pos.fdiv (2 ^ min 1 IntKind.i64.bits) = 0 ↔ 0 ≤ h.needs[k].pos ∧ h.needs[k].pos ≤ 1 := by
         have e : (2 : Int) ^ min 1 IntKind.i64.bits = 2 := by decide
         rw [e, Int.fdiv_eq_ediv_of_nonneg _ (by omega)]; omega
        rw [hf]
        cases hok : zdf h.path.steps.length h.needs[k]
        ·right
         refine ⟨?_, h.needs[k], List.getElem_mem hlt, hok⟩
         simp only [zdf, decide_eq_false_iff_not] at hok
         omega
        ·left
         have hok2 := hok
         simp only [zdf, decide_eq_true_eq] at hok2
         exact ⟨by omega, ⟨k + 1, by omega, by omega, zah hlt hq (by simp [hok])⟩, by omega⟩
       ·have : h.needs.take k = h.needs := List.take_of_length_le (by omega)
        rw [this] at hq
        unfold zaj at hq
        simp at hq
        exact fun x hx => hq x hx
   ·have hr : za0 h = false := by simp [za0, g1', g2', hc]
    simp [e1, e2, e3, e4, hr]
  ·have hr : za0 h = false := by simp [za0, g2]
   rw [hr]
   have hg : h.stage = 0 ∨ 5 ≤ h.stage ∨ h.gone < 0 ∨ (h.path.steps.length : Int) < h.gone := by
    unfold Hd.g2 at g2; omega
   by_cases e1 : h.stage = 0
   ·simp [e1]
   ·by_cases e2 : 5 ≤ h.stage
    ·simp [e1, e2]
    ·by_cases e3 : h.gone < 0
     ·simp [e1, e2, e3]
     ·have e4 : (h.path.steps.length : Int) < h.gone := by omega
      simp [e1, e2, e3, e4]
 ·have hr : za0 h = false := by simp [za0, g1]
  rw [hr]
  refine ⟨fun _ => rfl, ?_⟩
  intro h1 h2 h3 h4 h5 h6
  exfalso
  unfold Hd.g1 at g1
  omega
theorem ziP (h : Hd) (hl : h.len) (hs : 0 ≤ h.stage ∧ h.stage ≤ 255) : C f_held_Right [h.av] (.bool (za0 h)) := zhP h hl.wide hs
end Go.Lb.LK
namespace Go.Lb.LK
open Go Go.Lb Go.Proofs Go.RowKit
theorem zhf (a b : List Need) (ha : a.length ≤ 8796093022208) (hb : b.length ≤ 8796093022208) : C f_lockbarref17_clash [needs a, needs b] (.bool (zct a b)) := by
 refine ctr [needs a, needs b] run_lockbarref17_clash rfl (by simp [AV.pureAll, AV.pure]) rfl ?_ rfl
 unfold rt_lockbarref17_clash
 refine zaa rfl (fun vs => ∃ i : Nat, i ≤ a.length ∧ vs = [I i] ∧ zaj (fun x => b.any fun y => both x y) (a.take i)) (fun vs => match vs with | [.int _ j] => a.length - j.toNat | _ => 0) ⟨0, by simp, by simp, rfl⟩ ?_
 rintro vs - ⟨i, hi, rfl, hn⟩
 simp
 refine ⟨fun hlt => ?_, fun hge => ?_⟩
 ·refine zaa rfl (fun vs => ∃ j : Nat, j ≤ b.length ∧ vs = [I j] ∧ zaj (fun y => both a[i] y) (b.take j)) (fun vs => match vs with | [.int _ k] => b.length - k.toNat | _ => 0) ⟨0, by simp, by simp, rfl⟩ ?_
  rintro vs - ⟨j, hj, rfl, hm⟩
  simp
  refine ⟨fun hlt2 => ?_, fun hge2 => ?_⟩
  ·have hw := zab (i := j) (by omega)
   simp [hlt, hlt2, Need.cells]
   by_cases h1 : a[i].p = b[j].p <;> by_cases h2 : a[i].pos = b[j].pos
   ·simp [h1, h2, hw]
    exact ⟨⟨j + 1, by omega, rfl, zah hlt2 hm (by simp [both, h1, h2])⟩, by omega⟩
   ·simp [h1, h2]
    exact zbO hlt (zbO hlt2 (by simp [both, h1, h2]))
   ·simp [h1, hw]
    exact ⟨⟨j + 1, by omega, rfl, zah hlt2 hm (by simp [both, h1])⟩, by omega⟩
   ·simp [h1, hw]
    exact ⟨⟨j + 1, by omega, rfl, zah hlt2 hm (by simp [both, h1])⟩, by omega⟩
  ·have hb2 : b.take j = b := List.take_of_length_le (by omega)
   rw [hb2] at hm
   have hw := zab (i := i) (by omega)
   simp [hw]
   exact ⟨⟨i + 1, by omega, rfl, zah hlt hn hm⟩, by omega⟩
 ·have ha2 : a.take i = a := List.take_of_length_le (by omega)
  rw [ha2] at hn
  have hn2 : zct a b = false := hn
  simp [hn2]
theorem ze4 (h : Hd) (hl : h.len) : C f_lockbarref17_Needs [h.av] (needs (zaZ h)) := by
 obtain ⟨h1, h2, h3⟩ := hl
 refine ctr h.cells run_lockbarref17_Needs rfl (by simp) (by simp [AV.pure]) ?_ rfl
 unfold rt_lockbarref17_Needs
 simp [Hd.cells]
 refine zaa rfl (fun vs => ∃ i : Nat, i ≤ h.needs.length ∧ vs = [needs ((h.needs.take i).filter (zcX h)), I i]) (fun vs => match vs with | [_, .int _ j] => h.needs.length - j.toNat | _ => 0) ⟨0, by simp, by simp⟩ ?_
 rintro vs - ⟨i, hi, rfl⟩
 simp
 refine ⟨fun hlt => ?_, fun hge => ?_⟩
 ·have hw := zab (i := i) (by omega)
  have hfl := zdy (zcX h) h.needs i
  have hft := zcw (zcX h) h.needs hlt
  simp [hlt, Need.cells]
  rw [hw]
  cases hq : zcX h h.needs[i]
  ·left
   refine ⟨?_, ⟨i + 1, by omega, by rw [hft, hq]; simp, rfl⟩, by omega⟩
   intro hk
   simpa [zcX, hk] using hq
  ·right
   refine ⟨by simpa [zcX] using hq, by omega, ⟨i + 1, by omega, by rw [hft, hq]; simp [Need.cells], rfl⟩, by omega⟩
 ·have : h.needs.take i = h.needs := List.take_of_length_le (by omega)
  simp [this, zaZ]
theorem znY (x y : Step) : AV.eqs x.cells y.cells = decide (x = y) := by
 obtain ⟨a, b, c⟩ := x
 obtain ⟨d, e, f⟩ := y
 simp [Step.cells, AV.eqs, AV.eq1]
 by_cases h1 : a = d <;> by_cases h2 : b = e <;> by_cases h3 : c = f <;> simp [h1, h2, h3]
theorem znL (x y : Need) : AV.eqs x.cells y.cells = decide (x = y) := by
 obtain ⟨a, b, c⟩ := x
 obtain ⟨d, e, f⟩ := y
 simp [Need.cells, AV.eqs, AV.eq1]
 by_cases h1 : a = d <;> by_cases h2 : b = e <;> by_cases h3 : c = f <;> simp [h1, h2, h3]
theorem znZ {x y : Step} (h1 : x.s = y.s) (h2 : x.i = y.i) (h3 : x.o = y.o) : x = y := by
 obtain ⟨a, b, c⟩ := x
 obtain ⟨d, e, f⟩ := y
 simp only at h1 h2 h3
 rw [h1, h2, h3]
theorem znM {x y : Need} (h1 : x.p = y.p) (h2 : x.pos = y.pos) (h3 : x.k = y.k) : x = y := by
 obtain ⟨a, b, c⟩ := x
 obtain ⟨d, e, f⟩ := y
 simp only at h1 h2 h3
 rw [h1, h2, h3]
def zeQ (a b : Path) : Bool := decide (a.sig = b.sig) && (decide (a.exit = b.exit) && decide (a.steps = b.steps))
theorem bdec (x y : Bool) : decide (x = y) = (x == y) := by cases x <;> cases y <;> rfl
def ziE (a b : Hd) : Bool := AV.eqs [.bool (a.was 0), .bool (a.was 1), .bool (a.was 2), .bool (a.was 3), .bool (a.was 4), .bool (a.was 5), .bool (a.was 6), .bool (a.was 7), .bool (a.was 8), .bool (a.was 9), .bool (a.was 10), .bool (a.was 11)] [.bool (b.was 0), .bool (b.was 1), .bool (b.was 2), .bool (b.was 3), .bool (b.was 4), .bool (b.was 5), .bool (b.was 6), .bool (b.was 7), .bool (b.was 8), .bool (b.was 9), .bool (b.was 10), .bool (b.was 11)]
theorem zjM (a : Hd) : ziE a a = true := by simp [ziE]
def zfq (a b : Hd) : Bool := decide (a.id = b.id) && (zeQ a.path b.path && (decide (a.over = b.over) && (decide (a.needs = b.needs) && (decide (a.stage = b.stage) && (decide (a.gone = b.gone) && (ziE a b && ((a.opn == b.opn) && (decide (a.timer = b.timer) && (a.shown == b.shown)))))))))
theorem zlJ (a : Hd) : zfq a a = true := by simp [zfq, zjM, zeQ]
end Go.Lb.LK
namespace Go.Lb.LK
open Go Go.Lb Go.Proofs Go.RowKit
theorem zcq (h : Hd) : (zaZ h).length ≤ h.needs.length := List.length_filter_le _ _
def zat (h : Hd) : List Int := (h.path.steps.drop h.gone.toNat).map (·.s) ++ if h.opn = true then [] else h.over.map (·.s)
theorem zcR {α : Type} (l : List α) {g i : Nat} (hg : g ≤ i) (h : i < l.length) : (l.take (i + 1)).drop g = (l.take i).drop g ++ [l[i]] := by
 rw [List.take_add_one, List.getElem?_eq_getElem h, List.drop_append_of_le_length (by rw [List.length_take]; omega)]; rfl
theorem zgM (h : Hd) : (zat h).length ≤ h.path.steps.length + h.over.length := by
 unfold zat
 rw [List.length_append, List.length_map, List.length_drop]
 split <;> simp <;> omega
theorem zeG (h : Hd) (hl : h.len) : C f_lockbarref17_Sections [h.av] (ints (zat h)) := by
 obtain ⟨h1, h2, h3⟩ := hl
 refine ctr h.cells run_lockbarref17_Sections rfl (by simp) (by simp) ?_ rfl
 unfold rt_lockbarref17_Sections
 simp [Hd.cells]
 obtain ⟨g, hg⟩ : ∃ g : Nat, g = h.gone.toNat := ⟨_, rfl⟩
 refine zaa rfl (fun vs => ∃ i : Nat, g ≤ i ∧ vs = [ints (((h.path.steps.take i).drop g).map (·.s)), I i]) (fun vs => match vs with | [_, .int _ j] => h.path.steps.length - j.toNat | _ => 0) ⟨g, by omega, by simp; omega⟩ ?_
 rintro vs - ⟨i, hgi, rfl⟩
 simp
 refine ⟨fun hlt => ?_, fun hge => ?_⟩
 ·have hw := zab (i := i) (by omega)
  have := zcR h.path.steps hgi hlt
  simp [hlt, Step.cells, hw]
  refine ⟨by omega, ⟨i + 1, by omega, ?_, by omega⟩, by omega⟩
  have e := congrArg (List.map (I ∘ fun x : Step => x.s)) this
  simp at e
  exact e.symm
 ·have ht : (h.path.steps.map (fun x => x.s)).take i = h.path.steps.map (fun x => x.s) := List.take_of_length_le (by simp; omega)
  rw [ht]
  refine zaa rfl (fun vs => ∃ k : Nat, k ≤ h.over.length ∧ (h.opn = true → k = 0) ∧ vs = [ints ((h.path.steps.drop g).map (·.s) ++ (h.over.take k).map (·.s)), I k]) (fun vs => match vs with | [_, .int _ j] => h.over.length - j.toNat | _ => 0) ⟨0, by omega, by simp, by simp⟩ ?_
  rintro vs - ⟨k, hk, hko, rfl⟩
  simp
  cases ho : h.opn
  ·simp
   refine ⟨fun hlt => ?_, fun hge => ?_⟩
   ·have hw := zab (i := k) (by omega)
    have hmt := map_take (I ∘ fun x : Step => x.s) h.over hlt
    simp [hlt, Step.cells, hw]
    refine ⟨by omega, ⟨k + 1, by omega, ?_, by omega⟩, by omega⟩
    simpa using hmt.symm
   ·have : h.over.take k = h.over := List.take_of_length_le (by omega)
    simp [zat, ho, this, hg]
    rw [List.take_of_length_le (by simpa using hge)]
  ·simp [zat, ho, hg, hko ho]
theorem zkJ (h : Hd) (hl : h.len) (s : Int) : C f_lockbarref17_Has [h.av, I s] (.bool (decide (s ∈ zat h))) := by
 have hl' := hl
 obtain ⟨h1, h2, h3⟩ := hl
 have hsl := zgM h
 refine ctr (h.cells ++ [I s]) run_lockbarref17_Has rfl (by simp [zac, AV.pureAll, AV.pure]) rfl ?_ rfl
 unfold rt_lockbarref17_Has
 simp [Hd.cells]
 refine call (zeG h hl') (by simp [Hd.cells]) (by simp) ?_
 simp
 refine zaa rfl (fun vs => ∃ i : Nat, i ≤ (zat h).length ∧ vs = [I i] ∧ zaj (fun x => decide (x = s)) ((zat h).take i)) (fun vs => match vs with | [.int _ j] => (zat h).length - j.toNat | _ => 0) ⟨0, by simp, by simp, rfl⟩ ?_
 rintro vs - ⟨i, hik, rfl, hq⟩
 simp
 refine ⟨fun hlt => ?_, fun hge => ?_⟩
 ·have hw := zab (i := i) (by omega)
  simp [hlt, hw]
  by_cases he : (zat h)[i] = s
  ·right
   exact ⟨he, he ▸ List.getElem_mem hlt⟩
  ·left
   exact ⟨he, ⟨i + 1, by omega, by omega, zah hlt hq (by simpa using he)⟩, by omega⟩
 ·have : (zat h).take i = zat h := List.take_of_length_le (by omega)
  rw [this] at hq
  unfold zaj at hq
  simp at hq
  exact fun hm => hq s hm rfl
end Go.Lb.LK
namespace Go.Lb.LK
open Go Go.Lb Go.Proofs Go.RowKit
theorem zgd (h : Hd) (hl : h.len) : C f_held_Sections [h.av] (ints (zat h)) := by
 obtain ⟨h1, h2, h3⟩ := hl
 refine ctr h.cells run_held_Sections rfl (by simp) (by simp) ?_ rfl
 unfold rt_held_Sections
 simp [Hd.cells]
 obtain ⟨g, hg⟩ : ∃ g : Nat, g = h.gone.toNat := ⟨_, rfl⟩
 refine zaa rfl (fun vs => ∃ i : Nat, i ≤ h.path.steps.length ∧ vs = [I i, ints (((h.path.steps.take i).drop g).map (·.s))]) (fun vs => match vs with | [.int _ j, _] => h.path.steps.length - j.toNat | _ => 0) ⟨0, by omega, by simp⟩ ?_
 rintro vs - ⟨i, hi, rfl⟩
 simp
 refine ⟨fun hlt => ?_, fun hge => ?_⟩
 ·have hw := zab (i := i) (by omega)
  simp [hlt, Step.cells, hw]
  refine ⟨fun hle => ?_, fun hle => ?_⟩
  ·have hgi : g ≤ i := by omega
   have := zcR h.path.steps hgi hlt
   have e := congrArg (List.map (I ∘ fun x : Step => x.s)) this
   simp at e
   refine ⟨by omega, ⟨i + 1, by omega, by omega, ?_⟩, by omega⟩
   exact e.symm
  ·refine ⟨⟨i + 1, by omega, by omega, ?_⟩, by omega⟩
   rw [List.drop_of_length_le (by simp; omega), List.drop_of_length_le (by simp; omega)]
 ·have ht : (h.path.steps.map (fun x => x.s)).take i = h.path.steps.map (fun x => x.s) := List.take_of_length_le (by simp; omega)
  rw [ht]
  refine zaa rfl (fun vs => ∃ k : Nat, k ≤ h.over.length ∧ vs = [I k, ints ((h.path.steps.drop g).map (·.s) ++ if h.opn = true then [] else (h.over.take k).map (·.s))]) (fun vs => match vs with | [.int _ j, _] => h.over.length - j.toNat | _ => 0) ⟨0, by omega, by simp⟩ ?_
  rintro vs - ⟨k, hk, rfl⟩
  cases ho : h.opn
  ·simp
   refine ⟨fun hlt => ?_, fun hge => ?_⟩
   ·have hw := zab (i := k) (by omega)
    have hmt := map_take (I ∘ fun x : Step => x.s) h.over hlt
    simp [hlt, Step.cells, hw]
    refine ⟨by omega, ⟨k + 1, by omega, by omega, ?_⟩, by omega⟩
    simpa using hmt.symm
   ·have : h.over.take k = h.over := List.take_of_length_le (by omega)
    simp [zat, ho, this, hg]
    rw [List.take_of_length_le (by simpa using hge)]
  ·simp
   refine ⟨fun hlt => ?_, fun hge => ?_⟩
   ·have hw := zab (i := k) (by omega)
    simp [hlt, Step.cells, hw]
    exact ⟨⟨k + 1, by omega, by omega⟩, by omega⟩
   ·simp [zat, ho, hg]
theorem ze2 (h : Hd) (hl : h.len) (s : Int) : C f_held_Has [h.av, I s] (.bool (decide (s ∈ zat h))) := by
 have hl' := hl
 obtain ⟨h1, h2, h3⟩ := hl
 have hsl := zgM h
 refine ctr (h.cells ++ [I s]) run_held_Has rfl (by simp [zac, AV.pureAll, AV.pure]) rfl ?_ rfl
 unfold rt_held_Has
 simp [Hd.cells]
 refine call (zgd h hl') (by simp [Hd.cells]) (by simp) ?_
 simp
 refine zaa rfl (fun vs => ∃ i : Nat, i ≤ (zat h).length ∧ vs = [I i] ∧ zaj (fun x => decide (x = s)) ((zat h).take i)) (fun vs => match vs with | [.int _ j] => (zat h).length - j.toNat | _ => 0) ⟨0, by simp, by simp, rfl⟩ ?_
 rintro vs - ⟨i, hik, rfl, hq⟩
 simp
 refine ⟨fun hlt => ?_, fun hge => ?_⟩
 ·have hw := zab (i := i) (by omega)
  simp [hlt, hw]
  by_cases he : s = (zat h)[i]
  ·simp [he]
  ·have he2 : ¬ (zat h)[i] = s := fun h => he h.symm
   simp [he]
   exact ⟨⟨i + 1, by omega, by omega, zah hlt hq (by simpa using he2)⟩, by omega⟩
 ·have : (zat h).take i = zat h := List.take_of_length_le (by omega)
  rw [this] at hq
  unfold zaj at hq
  simp at hq
  exact fun hm => hq s hm rfl
def zaW (h : Hd) (p : Int) : Option Int := ((zaZ h).find? fun x => decide (x.p = p)).map (·.pos)
def optP (o : Option Int) : AV := .tup [I (o.getD 0), .bool o.isSome]
theorem zcG {α : Type} {q : α → Bool} {l : List α} {i : Nat} (hi : i < l.length) (h : zaj q (l.take i)) (hq : q l[i] = true) : l.find? q = some l[i] := by
 have e : l.find? q = (l.take i ++ l.drop i).find? q := by rw [List.take_append_drop]
 rw [e, List.find?_append]
 have h1 : (l.take i).find? q = none := by
  rw [List.find?_eq_none]
  intro x hx hqx
  have := List.any_eq_false.1 h x hx
  exact this hqx
 rw [h1, List.drop_eq_getElem_cons hi, List.find?_cons, hq]
 rfl
theorem zgo {α : Type} {q : α → Bool} {l : List α} (h : zaj q l) : l.find? q = none := by
 rw [List.find?_eq_none]
 intro x hx hqx
 exact List.any_eq_false.1 h x hx hqx
theorem zfv (h : Hd) (hl : h.len) (p : Int) : C f_held_Wants [h.av, I p] (optP (zaW h p)) := by
 have hnn := zcq h
 have hl3 := hl.2.2
 refine ctr (h.cells ++ [I p]) run_held_Wants rfl (by simp [zac, AV.pureAll, AV.pure]) rfl ?_ rfl
 unfold rt_held_Wants
 simp [Hd.cells]
 refine call (zdp h hl) (by simp [Hd.cells]) (by simp) ?_
 simp
 refine zaa rfl (fun vs => ∃ i : Nat, i ≤ (zaZ h).length ∧ vs = [I i] ∧ zaj (fun x => decide (x.p = p)) ((zaZ h).take i)) (fun vs => match vs with | [.int _ j] => (zaZ h).length - j.toNat | _ => 0) ⟨0, by simp, by simp, rfl⟩ ?_
 rintro vs - ⟨i, hik, rfl, hq⟩
 simp
 refine ⟨fun hlt => ?_, fun hge => ?_⟩
 ·have hw := zab (i := i) (by omega)
  by_cases he : (zaZ h)[i].p = p
  ·simp [hlt, Need.cells, hw, he, zaW, zcG hlt hq (by simpa using he), optP]
  ·simp [hlt, Need.cells, hw, he]
   exact ⟨⟨i + 1, by omega, by omega, zah hlt hq (by simpa using he)⟩, by omega⟩
 ·have : (zaZ h).take i = zaZ h := List.take_of_length_le (by omega)
  rw [this] at hq
  simp [zaW, zgo hq, optP]
theorem zhe (h : Hd) (hl : h.len) (p : Int) : C f_lockbarref17_Wants [h.av, I p] (optP (zaW h p)) := by
 have hnn := zcq h
 have hl3 := hl.2.2
 refine ctr (h.cells ++ [I p]) run_lockbarref17_Wants rfl (by simp [zac, AV.pureAll, AV.pure]) rfl ?_ rfl
 unfold rt_lockbarref17_Wants
 simp [Hd.cells]
 refine call (ze4 h hl) (by simp [Hd.cells]) (by simp) ?_
 simp
 refine zaa rfl (fun vs => ∃ i : Nat, i ≤ (zaZ h).length ∧ vs = [I i] ∧ zaj (fun x => decide (x.p = p)) ((zaZ h).take i)) (fun vs => match vs with | [.int _ j] => (zaZ h).length - j.toNat | _ => 0) ⟨0, by simp, by simp, rfl⟩ ?_
 rintro vs - ⟨i, hik, rfl, hq⟩
 simp
 refine ⟨fun hlt => ?_, fun hge => ?_⟩
 ·have hw := zab (i := i) (by omega)
  by_cases he : (zaZ h)[i].p = p
  ·simp [hlt, Need.cells, hw, he, zaW, zcG hlt hq (by simpa using he), optP]
  ·simp [hlt, Need.cells, hw, he]
   exact ⟨⟨i + 1, by omega, by omega, zah hlt hq (by simpa using he)⟩, by omega⟩
 ·have : (zaZ h).take i = zaZ h := List.take_of_length_le (by omega)
  rw [this] at hq
  simp [zaW, zgo hq, optP]
end Go.Lb.LK
namespace Go.Lb.LK
open Go Go.Lb
@[simp] theorem zoY : IntKind.u32.min = 0 := by decide +kernel
@[simp] theorem zoX : IntKind.u32.max = 4294967295 := by decide +kernel
theorem zpE {cs : List AV} (h : imgT.fits cs) : ∃ x : Img, AV.agg cs = x.av ∧ x.ok := by
 simp only [imgT, inT, uT, iT, zbw, zaG, zaF, zaH, List.append_nil, List.cons_append, List.nil_append] at h
 obtain ⟨age, q, rfl, _, f0, q, rfl, _, f1, q, rfl, _, f2, q, rfl, _, f3, q, rfl, _, f4, q, rfl, _, f5, q, rfl, _, f6, q, rfl, _, f7, q, rfl, _, f8, q, rfl, _, f9, q, rfl, _, f10, q, rfl, _, f11, q, rfl, _, f12, q, rfl, _, f13, q, rfl, _, f14, q, rfl, _, f15, q, rfl, _, f16, q, rfl, _, f17, q, rfl, _, f18, q, rfl, _, f19, q, rfl, _, f20, q, rfl, _, f21, q, rfl, _, f22, q, rfl, _, f23, q, rfl, _, oc, q, rfl, h1, no, q, rfl, h2, re, q, rfl, h3, la, q, rfl, h4, rfl⟩ := h
 simp only [zoY, zoX] at h1 h2 h3 h4
 exact ⟨⟨age, fun i => [f0, f1, f2, f3, f4, f5, f6, f7, f8, f9, f10, f11, f12, f13, f14, f15, f16, f17, f18, f19, f20, f21, f22, f23].getD i 0, oc, no, re, la⟩, rfl, h1, h2, h3, h4⟩
theorem zoz {cs : List AV} (h : zoy.fits cs) : ∃ x : Hd, AV.agg cs = x.av ∧ 0 ≤ x.stage ∧ x.stage ≤ 255 := by
 simp only [zoy, zlD, iT, zbw, zaG, zfC, zaF, zbq, zaH, List.append_nil, List.cons_append, List.nil_append] at h
 obtain ⟨id, q, rfl, _, sig, q, rfl, _, ex, q, rfl, _, es, q, rfl, hs, ov, q, rfl, ho, ne, q, rfl, hn, st, q, rfl, h1, go, q, rfl, _, w0, q, rfl, w1, q, rfl, w2, q, rfl, w3, q, rfl, w4, q, rfl, w5, q, rfl, w6, q, rfl, w7, q, rfl, w8, q, rfl, w9, q, rfl, w10, q, rfl, w11, q, rfl, op, q, rfl, ti, q, rfl, _, sh, q, rfl, rfl⟩ := h
 obtain ⟨es, rfl⟩ := zeU (g := Step.av) (fun cs h => ziz h) es hs.2
 obtain ⟨ov, rfl⟩ := zeU (g := Step.av) (fun cs h => ziz h) ov ho.2
 obtain ⟨ne, rfl⟩ := zeU (g := Need.av) (fun cs h => zmL h) ne hn.2
 exact ⟨⟨id, ⟨sig, ex, es⟩, ov, ne, st, go, fun i => [w0, w1, w2, w3, w4, w5, w6, w7, w8, w9, w10, w11].getD i false, op, ti, sh⟩, rfl, by simpa using h1⟩
theorem zmx {x : AV} (h : imgT.fits x.cells) (h2 : ze1 true x) : ∃ l : Img, x = l.av ∧ l.ok := by
 obtain ⟨cs, rfl⟩ := h2.1 rfl
 exact zpE h
end Go.Lb.LK
namespace Go.Lb.LK
open Go Go.Lb
structure Kern where
 next : Int
 held : List Hd
 want : Nat → Int
 run : Nat → Int
 fail : Nat → Bool
def zcZ (w r : Nat → Int) (f : Nat → Bool) : List AV := [I (w 0), I (r 0), .bool (f 0), I (w 1), I (r 1), .bool (f 1), I (w 2), I (r 2), .bool (f 2), I (w 3), I (r 3), .bool (f 3), I (w 4), I (r 4), .bool (f 4), I (w 5), I (r 5), .bool (f 5), I (w 6), I (r 6), .bool (f 6), I (w 7), I (r 7), .bool (f 7), I (w 8), I (r 8), .bool (f 8), I (w 9), I (r 9), .bool (f 9), I (w 10), I (r 10), .bool (f 10), I (w 11), I (r 11), .bool (f 11), I (w 12), I (r 12), .bool (f 12), I (w 13), I (r 13), .bool (f 13), I (w 14), I (r 14), .bool (f 14), I (w 15), I (r 15), .bool (f 15), I (w 16), I (r 16), .bool (f 16), I (w 17), I (r 17), .bool (f 17), I (w 18), I (r 18), .bool (f 18), I (w 19), I (r 19), .bool (f 19), I (w 20), I (r 20), .bool (f 20), I (w 21), I (r 21), .bool (f 21), I (w 22), I (r 22), .bool (f 22), I (w 23), I (r 23), .bool (f 23)]
def Kern.cells (k : Kern) : List AV := [I k.next, .sl (k.held.map Hd.av), I (k.want 0), I (k.run 0), .bool (k.fail 0), I (k.want 1), I (k.run 1), .bool (k.fail 1), I (k.want 2), I (k.run 2), .bool (k.fail 2), I (k.want 3), I (k.run 3), .bool (k.fail 3), I (k.want 4), I (k.run 4), .bool (k.fail 4), I (k.want 5), I (k.run 5), .bool (k.fail 5), I (k.want 6), I (k.run 6), .bool (k.fail 6), I (k.want 7), I (k.run 7), .bool (k.fail 7), I (k.want 8), I (k.run 8), .bool (k.fail 8), I (k.want 9), I (k.run 9), .bool (k.fail 9), I (k.want 10), I (k.run 10), .bool (k.fail 10), I (k.want 11), I (k.run 11), .bool (k.fail 11), I (k.want 12), I (k.run 12), .bool (k.fail 12), I (k.want 13), I (k.run 13), .bool (k.fail 13), I (k.want 14), I (k.run 14), .bool (k.fail 14), I (k.want 15), I (k.run 15), .bool (k.fail 15), I (k.want 16), I (k.run 16), .bool (k.fail 16), I (k.want 17), I (k.run 17), .bool (k.fail 17), I (k.want 18), I (k.run 18), .bool (k.fail 18), I (k.want 19), I (k.run 19), .bool (k.fail 19), I (k.want 20), I (k.run 20), .bool (k.fail 20), I (k.want 21), I (k.run 21), .bool (k.fail 21), I (k.want 22), I (k.run 22), .bool (k.fail 22), I (k.want 23), I (k.run 23), .bool (k.fail 23)]
abbrev Kern.av (k : Kern) : AV := .agg k.cells
abbrev zpC (l : List Hd) : AV := .sl (l.map Hd.av)
@[simp] theorem zo8 (l : List Hd) : AV.pureAll (l.map Hd.av) = true := zbn _ (fun x => by simp [AV.pure]) l
@[simp] theorem Kern.pure (k : Kern) : AV.pureAll k.cells = true := by simp [Kern.cells, AV.pureAll, AV.pure]
structure Mach where
 want : Int
 run : Int
 fail : Bool
 deriving DecidableEq
def Mach.cells (m : Mach) : List AV := [I m.want, I m.run, .bool m.fail]
abbrev Mach.av (m : Mach) : AV := .agg m.cells
@[simp] theorem Mach.pure (m : Mach) : AV.pureAll m.cells = true := by simp [Mach.cells, AV.pureAll, AV.pure]
def Kern.mach (k : Kern) (i : Nat) : Mach := ⟨k.want i, k.run i, k.fail i⟩
theorem zmH (w r : Nat → Int) (f : Nat → Bool) {i : Nat} (h : i < 24) (d : AV) : (zcZ w r f).getD (i * 3 + 2) d = .bool (f i) := by
 match i, h with
 | 0, _ => rfl
 | 1, _ => rfl
 | 2, _ => rfl
 | 3, _ => rfl
 | 4, _ => rfl
 | 5, _ => rfl
 | 6, _ => rfl
 | 7, _ => rfl
 | 8, _ => rfl
 | 9, _ => rfl
 | 10, _ => rfl
 | 11, _ => rfl
 | 12, _ => rfl
 | 13, _ => rfl
 | 14, _ => rfl
 | 15, _ => rfl
 | 16, _ => rfl
 | 17, _ => rfl
 | 18, _ => rfl
 | 19, _ => rfl
 | 20, _ => rfl
 | 21, _ => rfl
 | 22, _ => rfl
 | 23, _ => rfl
 | n + 24, h => exact absurd h (by omega)
def Kern.ok (k : Kern) : Prop := ∀ h ∈ k.held, 0 ≤ h.stage ∧ h.stage ≤ 255
def zb1 : TS := .agg [iT, iT, .bool]
def zlu : TS := .agg [iT, .sl true zoy, .agg [zb1, zb1, zb1, zb1, zb1, zb1, zb1, zb1, zb1, zb1, zb1, zb1, zb1, zb1, zb1, zb1, zb1, zb1, zb1, zb1, zb1, zb1, zb1, zb1]]
theorem zkZ : ∀ (n : Nat) (vals : List AV), TS.fitsAll (List.replicate n zb1) vals → ∃ ms : List Mach, ms.length = n ∧ vals = ms.flatMap Mach.cells
 | 0, vals, h => ⟨[], rfl, by rw [List.replicate_zero, zaH] at h; rw [h]; rfl⟩
 | n + 1, vals, h => by
  rw [List.replicate_succ, zb1, zaF] at h
  simp only [iT, List.cons_append, List.nil_append, zaG, zfC] at h
  obtain ⟨w, q, rfl, _, r, q, rfl, _, f, q, rfl, h⟩ := h
  obtain ⟨ms, h1, rfl⟩ := zkZ n q h
  exact ⟨⟨w, r, f⟩ :: ms, by simp [h1], rfl⟩
theorem zmI {ms : List Mach} (h : ms.length = 24) : ms.flatMap Mach.cells = zcZ (fun i => (ms[i]?.map (·.want)).getD 0) (fun i => (ms[i]?.map (·.run)).getD 0) (fun i => (ms[i]?.map (·.fail)).getD false) := by
 match ms, h with
 | [m0, m1, m2, m3, m4, m5, m6, m7, m8, m9, m10, m11, m12, m13, m14, m15, m16, m17, m18, m19, m20, m21, m22, m23], _ => rfl
theorem zoD {cs : List AV} (h : zlu.fits cs) : ∃ x : Kern, AV.agg cs = x.av ∧ x.ok := by
 rw [zlu, zbw, iT, zaG] at h
 obtain ⟨n, q, rfl, _, h⟩ := h
 rw [zbq] at h
 obtain ⟨hs, q, rfl, hh, h⟩ := h
 rw [zaF, List.append_nil] at h
 obtain ⟨ms, h1, rfl⟩ := zkZ 24 q h
 obtain ⟨hs, rfl, hq⟩ := zkw (g := Hd.av) (Q := fun h => 0 ≤ h.stage ∧ h.stage ≤ 255) (fun cs h => zoz h) hs hh.2
 rw [zmI h1]
 exact ⟨⟨n, hs, fun i => (ms[i]?.map (·.want)).getD 0, fun i => (ms[i]?.map (·.run)).getD 0, fun i => (ms[i]?.map (·.fail)).getD false⟩, rfl, hq⟩
theorem zic {x : AV} (h : zlu.fits x.cells) (h2 : ze1 true x) : ∃ l : Kern, x = l.av ∧ l.ok := by
 obtain ⟨cs, rfl⟩ := h2.1 rfl
 exact zoD h
end Go.Lb.LK
namespace Go.Lb.LK
open Go Go.Lb Go.Proofs Go.RowKit
def za8 (a b : Hd) : Bool := !((zat a).any fun s => decide (s ∈ zat b)) && !zct (zaZ a) (zaZ b)
theorem hh (a b : Hd) : AV.pureAll (a.cells ++ b.cells) = true := by simp [zac]
theorem zeB {a b : Hd} {s : Int} (h1 : s ∈ zat a) (h2 : s ∈ zat b) : za8 a b = false := by
 have : ((zat a).any fun s => decide (s ∈ zat b)) = true := List.any_eq_true.2 ⟨s, h1, by simpa using h2⟩
 simp [za8, this]
theorem ziO (a b : Hd) (ha : a.len) (hb : b.len) : C f_held_Apart [a.av, b.av] (.bool (za8 a b)) := by
 have hna := zcq a
 have hnb := zcq b
 have ha' := ha
 have hb' := hb
 obtain ⟨h1, h2, h3⟩ := ha
 obtain ⟨k1, k2, k3⟩ := hb
 refine ctr (a.cells ++ b.cells) run_held_Apart rfl (hh a b) rfl ?_ rfl
 unfold rt_held_Apart
 simp [Hd.cells]
 obtain ⟨g, hg⟩ : ∃ g : Nat, g = a.gone.toNat := ⟨_, rfl⟩
 refine zaa rfl (fun vs => ∃ i : Nat, i ≤ a.path.steps.length ∧ vs = [I i] ∧ zaj (fun s => decide (s ∈ zat b)) (((a.path.steps.map fun x => x.s).take i).drop g)) (fun vs => match vs with | [.int _ j] => a.path.steps.length - j.toNat | _ => 0) ⟨0, by omega, by simp, by simp [zaj]⟩ ?_
 rintro vs - ⟨i, hi, rfl, hq⟩
 simp
 refine ⟨fun hlt => ?_, fun hge => ?_⟩
 ·have hw := zab (i := i) (by omega)
  simp [hlt, Step.cells, hw]
  refine ⟨fun hle => ?_, fun hle => ?_⟩
  ·have hgi : g ≤ i := by omega
   have htd := zcR (a.path.steps.map fun x => x.s) hgi (by simpa using hlt)
   refine call (ze2 b hb' a.path.steps[i].s) (by simp [Hd.cells, hlt, Step.cells]) (by simp) ?_
   by_cases hm : a.path.steps[i].s ∈ zat b
   ·have hma : a.path.steps[i].s ∈ zat a := by
     unfold zat
     refine List.mem_append_left _ (List.mem_map.2 ⟨a.path.steps[i], ?_, rfl⟩)
     rw [← hg]
     exact List.mem_drop_iff_getElem.2 ⟨i - g, by omega, by simp [show g + (i - g) = i by omega]⟩
    simp [hm, zeB hma hm]
   ·simp [hm, hw]
    refine ⟨⟨i + 1, by omega, by omega, ?_⟩, by omega⟩
    unfold zaj at hq ⊢
    rw [htd, List.any_append, hq]
    simpa using hm
  ·refine ⟨⟨i + 1, by omega, by omega, ?_⟩, by omega⟩
   rw [List.drop_of_length_le (by simp; omega)]; simp [zaj]
 ·have ht : (a.path.steps.map fun x => x.s).take i = a.path.steps.map fun x => x.s := List.take_of_length_le (by simp; omega)
  rw [ht] at hq
  refine zaa rfl (fun vs => ∃ k : Nat, k ≤ a.over.length ∧ vs = [I k] ∧ (a.opn = false → zaj (fun s => decide (s ∈ zat b)) ((a.over.map fun x => x.s).take k))) (fun vs => match vs with | [.int _ j] => a.over.length - j.toNat | _ => 0) ⟨0, by omega, by simp, fun _ => by simp [zaj]⟩ ?_
  rintro vs - ⟨k, hk, rfl, hq2⟩
  simp
  refine ⟨fun hlt => ?_, fun hge => ?_⟩
  ·have hw := zab (i := k) (by omega)
   simp [hlt, Step.cells, hw]
   cases ho : a.opn
   ·simp
    refine call (ze2 b hb' a.over[k].s) (by simp [Hd.cells, hlt, Step.cells, ho]) (by simp) ?_
    by_cases hm : a.over[k].s ∈ zat b
    ·have hma : a.over[k].s ∈ zat a := by
      unfold zat
      refine List.mem_append_right _ ?_
      simp only [ho, Bool.false_eq_true, if_false]
      exact List.mem_map_of_mem (List.getElem_mem hlt)
     simp [hm, zeB hma hm]
    ·simp [hm, hw]
     refine ⟨⟨k + 1, by omega, by omega, ?_⟩, by omega⟩
     exact zah (q := fun s => decide (s ∈ zat b)) (by simpa using hlt) (hq2 ho) (by simpa using hm)
   ·simp
    exact ⟨⟨k + 1, by omega, by omega⟩, by omega⟩
  ·have hov : (a.over.map fun x => x.s).take k = a.over.map fun x => x.s := List.take_of_length_le (by simp; omega)
   rw [hov] at hq2
   have hsa : zat a = (a.path.steps.map fun x => x.s).drop g ++ if a.opn = true then [] else a.over.map fun x => x.s := by
    unfold zat; rw [← hg, List.map_drop]
   have hnone : ((zat a).any fun s => decide (s ∈ zat b)) = false := by
    rw [hsa, List.any_append]
    unfold zaj at hq hq2
    rw [hq]
    cases ho : a.opn
    ·simpa using hq2 ho
    ·simp
   refine call (zdp a ha') (by simp [Hd.cells]) (by simp) ?_
   simp
   refine call (zdp b hb') (by simp [Hd.cells]) (by simp) ?_
   simp
   refine call (zfw (zaZ a) (zaZ b) (by omega) (by omega)) (by simp) (by simp) ?_
   simp only [za8, hnone]
   simp
theorem ze3 (a b : Hd) (ha : a.len) (hb : b.len) : C f_lockbarref17_Apart [a.av, b.av] (.bool (za8 a b)) := by
 have hna := zcq a
 have hnb := zcq b
 have hsl := zgM a
 have ha' := ha
 have hb' := hb
 obtain ⟨h1, h2, h3⟩ := ha
 obtain ⟨k1, k2, k3⟩ := hb
 refine ctr (a.cells ++ b.cells) run_lockbarref17_Apart rfl (hh a b) rfl ?_ rfl
 unfold rt_lockbarref17_Apart
 simp [Hd.cells]
 refine call (zeG a ha') (by simp [Hd.cells]) (by simp) ?_
 simp
 refine zaa rfl (fun vs => ∃ i : Nat, i ≤ (zat a).length ∧ vs = [I i] ∧ zaj (fun s => decide (s ∈ zat b)) ((zat a).take i)) (fun vs => match vs with | [.int _ j] => (zat a).length - j.toNat | _ => 0) ⟨0, by omega, by simp, rfl⟩ ?_
 rintro vs - ⟨i, hi, rfl, hq⟩
 simp
 refine ⟨fun hlt => ?_, fun hge => ?_⟩
 ·have hw := zab (i := i) (by omega)
  simp [hlt]
  refine call (zkJ b hb' (zat a)[i]) (by simp [Hd.cells, hlt]) (by simp) ?_
  by_cases hm : (zat a)[i] ∈ zat b
  ·simp [hm, zeB (List.getElem_mem hlt) hm]
  ·simp [hm, hw]
   exact ⟨⟨i + 1, by omega, by omega, zah hlt hq (by simpa using hm)⟩, by omega⟩
 ·have ht : (zat a).take i = zat a := List.take_of_length_le (by omega)
  rw [ht] at hq
  unfold zaj at hq
  refine call (ze4 a ha') (by simp [Hd.cells]) (by simp) ?_
  simp
  refine call (ze4 b hb') (by simp [Hd.cells]) (by simp) ?_
  simp
  refine call (zhf (zaZ a) (zaZ b) (by omega) (by omega)) (by simp) (by simp) ?_
  simp only [za8, hq]
  simp
def zd8 (m : Mach) : Bool := (decide (m.want = 0 ∨ m.want = 1) && decide (0 ≤ m.run ∧ m.run ≤ 1000)) || decide (m = ⟨-1, 0, false⟩)
theorem znH {a b : Mach} : a = b ↔ a.want = b.want ∧ a.run = b.run ∧ a.fail = b.fail := by
 cases a; cases b; simp
theorem zfQ (n : Int) : C f_point_position [I n] (.bool (decide (n = 0 ∨ n = 1))) := by
 refine ctr [I n] run_point_position rfl rfl rfl ?_ rfl
 unfold rt_point_position
 simp
 by_cases h1 : n = 0 <;> by_cases h2 : n = 1 <;> simp [h1, h2]
theorem ziQ : C f_point_Rest [] (Mach.av ⟨-1, 0, false⟩) := by
 refine ctr [] run_point_Rest rfl rfl rfl ?_ rfl
 unfold rt_point_Rest
 simp [Mach.cells]
theorem zl6 : C f_lockbarref16_Rest [] (Mach.av ⟨-1, 0, false⟩) := by
 refine ctr [] run_lockbarref16_Rest rfl rfl rfl ?_ rfl
 unfold rt_lockbarref16_Rest
 simp [Mach.cells]
theorem zkY (a b c d : Int) (e f : Bool) : AV.eqs [I a, I b, .bool e] [I c, I d, .bool f] = decide ((⟨a, b, e⟩ : Mach) = ⟨c, d, f⟩) := by
 by_cases h1 : a = c <;> by_cases h2 : b = d <;> cases e <;> cases f <;> simp [AV.eqs, AV.eq1, h1, h2]
theorem zhR (m : Mach) : C f_point_Right [m.av] (.bool (zd8 m)) := by
 refine ctr m.cells run_point_Right rfl (by simp) rfl ?_ rfl
 unfold rt_point_Right
 obtain ⟨w, r, f⟩ := m
 simp [Mach.cells]
 refine call (zfQ w) (by simp) (by simp) ?_
 simp
 refine zai (avs := []) (Mach.av ⟨-1, 0, false⟩) rfl (fun _ => ⟨rfl, ziQ⟩) (fun _ => rfl) ?_
 simp [Mach.cells, zkY, zd8]
 by_cases h1 : w = 0 <;> by_cases h2 : w = 1 <;> by_cases h3 : w = -1 <;> by_cases h4 : r = 0 <;> cases f <;> simp [h1, h2, h3, h4, Bool.and_assoc]
theorem zll (m : Mach) : C f_lockbarref16_Right [m.av] (.bool (zd8 m)) := by
 refine ctr m.cells run_lockbarref16_Right rfl (by simp) rfl ?_ rfl
 unfold rt_lockbarref16_Right
 obtain ⟨w, r, f⟩ := m
 simp [Mach.cells]
 refine ⟨fun hb => ?_, fun h1 h2 h3 h4 => ?_⟩
 ·have e1 : ¬ (w = 0 ∨ w = 1) ∨ ¬ (0 ≤ r ∧ r ≤ 1000) := by omega
  have e2 : (⟨w, r, f⟩ : Mach) ≠ ⟨-1, 0, false⟩ := by
   intro h; rw [znH] at h; simp at h; omega
  simp only [zd8, e2, decide_false, Bool.or_false]
  rcases e1 with e1 | e1 <;> simp [e1]
 ·refine zai (avs := []) (Mach.av ⟨-1, 0, false⟩) rfl (fun _ => ⟨rfl, zl6⟩) (fun _ => rfl) ?_
  have hw : w = -1 ∨ w = 0 ∨ w = 1 := by omega
  rcases hw with rfl | rfl | rfl <;> simp [Mach.cells, zkY, zd8, h3, h4] <;> rfl
end Go.Lb.LK
namespace Go.Lb.LK
open Go Go.Lb Go.Proofs Go.RowKit
def Kern.wide (k : Kern) : Prop := k.held.length ≤ 2000000000000 ∧ ∀ h ∈ k.held, h.wide
def Kern.len (k : Kern) : Prop := k.held.length ≤ 1048576 ∧ ∀ h ∈ k.held, h.len
theorem ks (k : Kern) (s : Int) : AV.pureAll (k.cells ++ [I s]) = true := by simp [zac, AV.pureAll, AV.pure]
theorem Kern.len.wide {k : Kern} (hl : k.len) : k.wide := by
 have h1 := hl.1
 exact ⟨by omega, fun h hh => (hl.2 h hh).wide⟩
theorem Kern.atW (k : Kern) (hl : k.wide) {i : Nat} (h : i < k.held.length) : k.held[i].wide := hl.2 _ (List.getElem_mem h)
theorem Kern.at (k : Kern) (hl : k.len) {i : Nat} (h : i < k.held.length) : k.held[i].len := hl.2 _ (List.getElem_mem h)
def zbR (k : Kern) (s : Int) : Option Int := (k.held.find? fun h => decide (s ∈ zat h)).map (·.id)
theorem zcg (k : Kern) (hl : k.len) (s : Int) : C f_free_Holder [k.av, I s] (optP (zbR k s)) := by
 have h1 := hl.1
 refine ctr (k.cells ++ [I s]) run_free_Holder rfl (ks k s) rfl ?_ rfl
 unfold rt_free_Holder
 simp [Kern.cells]
 refine zaa rfl (fun vs => ∃ i : Nat, i ≤ k.held.length ∧ vs = [I i] ∧ zaj (fun h => decide (s ∈ zat h)) (k.held.take i)) (fun vs => match vs with | [.int _ j] => k.held.length - j.toNat | _ => 0) ⟨0, by omega, by simp, rfl⟩ ?_
 rintro vs - ⟨i, hi, rfl, hq⟩
 simp
 refine ⟨fun hlt => ?_, fun hge => ?_⟩
 ·have hw := zab (i := i) (by omega)
  simp [hlt, Hd.cells]
  refine call (ze2 k.held[i] (k.at hl hlt) s) (by simp [hlt, Hd.cells]) (by simp) ?_
  by_cases hm : s ∈ zat k.held[i]
  ·simp [hm, hlt, Hd.cells, zbR, zcG hlt hq (by simpa using hm), optP]
  ·simp [hm, hw]
   exact ⟨⟨i + 1, by omega, by omega, zah hlt hq (by simpa using hm)⟩, by omega⟩
 ·have : k.held.take i = k.held := List.take_of_length_le (by omega)
  rw [this] at hq
  simp [zbR, zgo hq, optP]
def zcc (k : Kern) (p : Int) : Option Int := k.held.findSome? fun h => zaW h p
theorem zpy {α β : Type} {q : α → Option β} {l : List α} {i : Nat} {b : β} (hi : i < l.length) (h : zaj (fun x => (q x).isSome) (l.take i)) (hq : q l[i] = some b) : l.findSome? q = some b := by
 have e : l.findSome? q = (l.take i ++ l.drop i).findSome? q := by rw [List.take_append_drop]
 rw [e, List.findSome?_append]
 have h1 : (l.take i).findSome? q = none := by
  rw [List.findSome?_eq_none_iff]
  intro x hx
  have := List.any_eq_false.1 h x hx
  simpa using this
 rw [h1, List.drop_eq_getElem_cons hi, List.findSome?_cons, hq]
 rfl
theorem zox {α β : Type} {q : α → Option β} {l : List α} (h : zaj (fun x => (q x).isSome) l) : l.findSome? q = none := by
 rw [List.findSome?_eq_none_iff]
 intro x hx
 have := List.any_eq_false.1 h x hx
 simpa using this
theorem zch (k : Kern) (hl : k.len) (p : Int) : C f_free_Wanted [k.av, I p] (optP (zcc k p)) := by
 have h1 := hl.1
 refine ctr (k.cells ++ [I p]) run_free_Wanted rfl (ks k p) rfl ?_ rfl
 unfold rt_free_Wanted
 simp [Kern.cells]
 refine zaa rfl (fun vs => ∃ i : Nat, i ≤ k.held.length ∧ vs = [I i] ∧ zaj (fun h => (zaW h p).isSome) (k.held.take i)) (fun vs => match vs with | [.int _ j] => k.held.length - j.toNat | _ => 0) ⟨0, by omega, by simp, rfl⟩ ?_
 rintro vs - ⟨i, hi, rfl, hq⟩
 simp
 refine ⟨fun hlt => ?_, fun hge => ?_⟩
 ·have hw := zab (i := i) (by omega)
  simp [hlt, Hd.cells]
  refine call (zfv k.held[i] (k.at hl hlt) p) (by simp [hlt, Hd.cells]) (by simp [optP]) ?_
  cases hm : zaW k.held[i] p with
  | some b => simp [optP, zcc, zpy hlt hq hm]
  | none =>
   simp [optP, hw]
   exact ⟨⟨i + 1, by omega, by omega, zah hlt hq (by simp [hm])⟩, by omega⟩
 ·have : k.held.take i = k.held := List.take_of_length_le (by omega)
  rw [this] at hq
  simp [zcc, zox hq, optP]
def zb8 (k : Kern) (p : Int) : Bool := k.held.any fun h => (zaW h p).isSome && !decide (h.stage = 1)
theorem zbE (k : Kern) (hl : k.len) (p : Int) : C f_free_Locked [k.av, I p] (.bool (zb8 k p)) := by
 have h1 := hl.1
 refine ctr (k.cells ++ [I p]) run_free_Locked rfl (ks k p) rfl ?_ rfl
 unfold rt_free_Locked
 simp [Kern.cells]
 refine zaa rfl (fun vs => ∃ i : Nat, i ≤ k.held.length ∧ vs = [I i] ∧ zaj (fun h => (zaW h p).isSome && !decide (h.stage = 1)) (k.held.take i)) (fun vs => match vs with | [.int _ j] => k.held.length - j.toNat | _ => 0) ⟨0, by omega, by simp, rfl⟩ ?_
 rintro vs - ⟨i, hi, rfl, hq⟩
 simp
 refine ⟨fun hlt => ?_, fun hge => ?_⟩
 ·have hw := zab (i := i) (by omega)
  simp [hlt, Hd.cells]
  refine call (zfv k.held[i] (k.at hl hlt) p) (by simp [hlt, Hd.cells]) (by simp [optP]) ?_
  cases hm : zaW k.held[i] p with
  | some b =>
   by_cases hs : k.held[i].stage = 1
   ·simp [optP, hlt, Hd.cells, hs, hw]
    exact ⟨⟨i + 1, by omega, by omega, zah hlt hq (by simp [hs])⟩, by omega⟩
   ·have : zb8 k p = true := zbO hlt (by simp [hm, hs])
    simp [optP, hlt, Hd.cells, hs, this]
  | none =>
   simp [optP, hlt, Hd.cells, hw]
   exact ⟨⟨i + 1, by omega, by omega, zah hlt hq (by simp [hm])⟩, by omega⟩
 ·have : k.held.take i = k.held := List.take_of_length_le (by omega)
  rw [this] at hq
  have : zb8 k p = false := hq
  simp [this]
end Go.Lb.LK
namespace Go.Lb.LK
open Go Go.Lb Go.Proofs Go.RowKit
theorem Hd.one (h : Hd) : h.cells.length = 23 ∧ AV.ones h.cells = true := by simp [Hd.cells]
theorem znV (l : List Hd) {i : Nat} (h : i < l.length) : (l.map Hd.av).set i l[i].av = l.map Hd.av := by
 have : (l.map Hd.av)[i]'(by simpa using h) = l[i].av := by simp
 rw [← this, List.set_getElem_self]
theorem zlc (k : Kern) (hl : k.len) : C f_free_Own [k.av] k.av := by
 have h1 := hl.1
 refine ctr k.cells run_free_Own rfl (by simp) (by simp [AV.pure]) ?_ rfl
 unfold rt_free_Own
 simp [Kern.cells]
 refine ⟨⟨fun a _ => a.one, by omega, by omega, ?_⟩, fun he => ?_⟩
 ·refine zaa rfl (fun vs => ∃ i : Nat, i ≤ k.held.length ∧ vs = [I i, zpC k.held]) (fun vs => match vs with | [.int _ j, _] => k.held.length - j.toNat | _ => 0) ⟨0, by omega, by simp⟩ ?_
  rintro vs - ⟨i, hi, rfl⟩
  simp
  refine ⟨fun hlt => ?_, fun hge => ?_⟩
  ·have hw := zab (i := i) (by omega)
   simp [hlt, Hd.cells]
   refine call (zld k.held[i] (k.at hl hlt)) (by simp [hlt, Hd.cells]) (by simp) ?_
   simp [hlt, Hd.cells, hw]
   refine ⟨⟨i + 1, by omega, by omega, ?_⟩, by omega⟩
   exact znV k.held hlt
  ·simp [Kern.cells]
 ·refine zaa rfl (fun vs => vs = []) (fun _ => 0) rfl ?_
  rintro vs - rfl
  simp [Kern.cells, he]
def zd6 (l : Lay) : Bool := (l.exits.take 31).any (fun e => decide (20 < e.over.length)) || (decide (40 < l.secs.length) || (decide (30 < l.sigs.length) || (decide (30 < l.exits.length) || decide (40 < l.flanks.length))))
theorem zgg (l : Lay) : C f_lockbarref06_Great [l.av] (.bool (zd6 l)) := by
 refine ctr l.cells run_lockbarref06_Great rfl (by simp) rfl ?_ rfl
 unfold rt_lockbarref06_Great
 simp [Lay.cells]
 refine zaa rfl (fun vs => ∃ j : Nat, j ≤ l.exits.length ∧ j ≤ 31 ∧ vs = [I j] ∧ zaj (fun e => decide (20 < e.over.length)) (l.exits.take j)) (fun vs => match vs with | [.int _ j] => 32 - j.toNat | _ => 0) ⟨0, by omega, by omega, by simp, rfl⟩ ?_
 rintro vs - ⟨i, hi, hi2, rfl, hq⟩
 simp
 refine ⟨fun hlt hle => ?_, fun hstop => ?_⟩
 ·have hw := zab (i := i) (by omega)
  simp [hlt, Exi.cells, hw]
  by_cases hb : 20 < l.exits[i].over.length
  ·right
   refine ⟨by omega, ?_⟩
   have : (l.exits.take 31).any (fun e => decide (20 < e.over.length)) = true := List.any_eq_true.2 ⟨l.exits[i], List.mem_take_iff_getElem.2 ⟨i, by omega, rfl⟩, by simpa using hb⟩
   simp [zd6, this]
  ·left
   exact ⟨by omega, ⟨i + 1, by omega, by omega, by omega, zah hlt hq (by simpa using hb)⟩, by omega⟩
 ·have : (l.exits.take 31).any (fun e => decide (20 < e.over.length)) = false := by
   by_cases hl : i < l.exits.length
   ·have := hstop hl
    have : i = 31 := by omega
    subst this; exact hq
   ·rw [List.take_of_length_le (show l.exits.length ≤ i by omega)] at hq
    refine List.any_eq_false.2 fun x hx => ?_
    exact List.any_eq_false.1 hq x (List.mem_of_mem_take hx)
  have e1 : decide (40 < (l.secs.length : Int)) = decide (40 < l.secs.length) := decide_eq_decide.2 (by omega)
  have e2 : decide (30 < (l.sigs.length : Int)) = decide (30 < l.sigs.length) := decide_eq_decide.2 (by omega)
  have e3 : decide (30 < (l.exits.length : Int)) = decide (30 < l.exits.length) := decide_eq_decide.2 (by omega)
  have e4 : decide (40 < (l.flanks.length : Int)) = decide (40 < l.flanks.length) := decide_eq_decide.2 (by omega)
  simp [zd6, this, e1, e2, e3, e4, Bool.or_assoc]
theorem zk9 {l : Lay} (h : zd6 l = false) : l.secs.length ≤ 40 ∧ l.sigs.length ≤ 30 ∧ l.exits.length ≤ 30 ∧ l.flanks.length ≤ 40 ∧ ∀ e ∈ l.exits, e.over.length ≤ 20 := by
 simp only [zd6, Bool.or_eq_false_iff, decide_eq_false_iff_not] at h
 obtain ⟨h1, h2, h3, h4, h5⟩ := h
 refine ⟨by omega, by omega, by omega, by omega, fun e he => ?_⟩
 rw [List.take_of_length_le (by omega)] at h1
 have := List.any_eq_false.1 h1 e he
 simp at this; omega
end Go.Lb.LK
