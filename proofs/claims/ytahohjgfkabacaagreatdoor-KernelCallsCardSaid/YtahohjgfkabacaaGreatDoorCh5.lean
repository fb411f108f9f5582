/- Counting on; an image behind a tick. -/
import Derived.Test.YtahohjgfkabacaaGreatDoorCh4
import Derived.Test.YtahohjgfkabacaaGreatDoorFw11
set_option linter.unusedSimpArgs false
set_option linter.unusedVariables false
namespace Go.Lb.LK
open Go Go.Lb Go.Proofs Go.RowKit
theorem zpU {α : Type} {c d : Prop} [Decidable c] [Decidable d] (h : c ↔ d) (x y : α) : (if c then x else y) = if d then x else y := by
 by_cases hc : c
 ·rw [if_pos hc, if_pos (h.1 hc)]
 ·rw [if_neg hc, if_neg (fun hd => hc (h.2 hd))]
def ziQ (n : Int) : Int := min (max n 0) 65535
def zti (n k : Int) : Int := min (ziQ n + ziQ k) 65535
def rowT (b : Bool) (n : Int) : Int := if b = true then zti n 1 else 0
theorem zid (n t : Int) : C f_lockbarref03_within [I n, I t] (I (min (max n 0) t)) := by
 refine ctr [I n, I t] run_lockbarref03_within rfl rfl rfl ?_ rfl
 unfold rt_lockbarref03_within
 simp
theorem ziZ (n : Int) : C f_lockbarref03_Count [I n] (I (ziQ n)) := by
 refine ctr [I n] run_lockbarref03_Count rfl rfl rfl ?_ rfl
 unfold rt_lockbarref03_Count
 refine call (zid n 65535) (by simp) (by simp) ?_
 simp [ziQ]
theorem zoR (n k : Int) : C f_lockbarref03_More [I n, I k] (I (zti n k)) := by
 refine ctr [I n, I k] run_lockbarref03_More rfl rfl rfl ?_ rfl
 unfold rt_lockbarref03_More
 refine call (ziZ n) (by simp) (by simp) ?_
 simp
 refine call (ziZ k) (by simp) (by simp) ?_
 simp
 rw [zaI (by simp only [ziQ]; omega) (by simp only [ziQ]; omega)]; rfl
theorem zqV (b : Bool) (n : Int) : C f_lockbarref03_Row [.bool b, I n] (I (rowT b n)) := by
 refine ctr [.bool b, I n] run_lockbarref03_Row rfl rfl rfl ?_ rfl
 unfold rt_lockbarref03_Row
 simp
 cases b
 ·simp [rowT]
 ·simp
  refine call (zoR n 1) (by simp) (by simp) ?_
  simp [rowT]
def zk7 : Img := ⟨65535, fun _ => 0, 0, 0, 0, 0⟩
theorem zqy : C f_lockbarref15_New [] zk7.av := by
 refine ctr [] run_lockbarref15_New rfl rfl (by simp [AV.pure]) ?_ rfl
 unfold rt_lockbarref15_New
 simp [Img.cells, zk7]
def zed (l : Lay) (im : Img) (m : Nat) : Img := { im with free := fun i => if i < m then rowT (!stale l im && !zb0 im.occ i) (im.free i) else im.free i }
theorem zn1 (l : Lay) (im : Img) : zed l im 0 = im := by simp [zed]
theorem znN (l : Lay) (im : Img) (m j : Nat) : (zed l im (m + 1)).free j = if j = m then rowT (!stale l im && !zb0 im.occ m) (im.free m) else (zed l im m).free j := by
 simp only [zed]
 by_cases h : j = m
 ·subst h; simp
 ·by_cases h2 : j < m
  ·simp [h, h2, show j < m + 1 by omega]
  ·simp [h, h2, show ¬ j < m + 1 by omega]
theorem zog (l : Lay) (im : Img) (m : Nat) : stale l (zed l im m) = stale l im := rfl
def zmd (l : Lay) (im : Img) (o n r p : Int) : Img := zed l { im with age := 0, occ := o, nor := n, rev := r, lamp := p } 24
def zrE (f : Img) : List AV := [I (f.free 0), I (f.free 1), I (f.free 2), I (f.free 3), I (f.free 4), I (f.free 5), I (f.free 6), I (f.free 7), I (f.free 8), I (f.free 9), I (f.free 10), I (f.free 11), I (f.free 12), I (f.free 13), I (f.free 14), I (f.free 15), I (f.free 16), I (f.free 17), I (f.free 18), I (f.free 19), I (f.free 20), I (f.free 21), I (f.free 22), I (f.free 23)]
@[simp] theorem ite_I (c : Prop) [Decidable c] (a b : Int) : (if c then I a else I b) = I (if c then a else b) := by split <;> rfl
theorem zpG (l : Lay) (im : Img) (hi : im.ok) : C f_lockbarref15_rows [l.av, im.av] (zed l im 24).av := by
 refine ctr (l.cells ++ im.cells) run_lockbarref15_rows rfl (li l im) (by simp [AV.pure]) ?_ rfl
 unfold rt_lockbarref15_rows
 simp [Lay.cells, Img.cells]
 refine zac rfl (fun vs => ∃ m : Nat, m ≤ 24 ∧ vs = I m :: zrE (zed l im m)) (fun vs => match vs with | .int _ m :: _ => 24 - m.toNat | _ => 0) ⟨0, by omega, by simp [zrE, zn1]⟩ ?_
 rintro vs - ⟨m, hm, rfl⟩
 simp [zrE]
 refine ⟨fun hlt => ?_, fun hge => ?_⟩
 ·have hlt' : m < 24 := by omega
  refine call (zbn l (zed l im m)) (by simp [Lay.cells, Img.cells]; exact ⟨rfl, rfl, rfl, rfl, rfl⟩) (by simp) ?_
  simp [zog]
  refine zak (avs := [W im.occ, I m]) (.bool (zb0 im.occ m)) rfl (fun _ => ⟨by simp, zfS im.occ m hi.1.1 hi.1.2⟩) (by simp) ?_
  simp
  have hc := zgy (zed l im m) m (by omega) (by omega)
  simp only [Img.cells] at hc
  simp at hc
  simp only [show (zed l im m).occ = im.occ from rfl, show (zed l im m).nor = im.nor from rfl, show (zed l im m).rev = im.rev from rfl, show (zed l im m).lamp = im.lamp from rfl] at hc
  refine ⟨hlt, ⟨hlt, by omega⟩, ?_⟩
  refine call (avs := [.bool (!stale l im && !zb0 im.occ m), I (im.free m)]) (zqV _ _) (by
   have h1 : (zed l im m).free m = im.free m := by simp [zed]
   simp [hc, h1]) (by simp) ?_
  simp [hlt]
  refine ⟨⟨m + 1, by omega, ?_⟩, ?_⟩
  ·rw [zad (by omega)]
   simp [znN]
   and_intros <;> exact zpU (by omega) _ _
  ·rw [zad (by omega)]
   simp; omega
 ·have : m = 24 := by omega
  subst this
  simp [Img.cells, zed]
theorem zk4 (l : Lay) (im : Img) (o n r p : Int) (h0 : 0 ≤ o) (h1 : o ≤ 4294967295) (n0 : 0 ≤ n) (n1 : n ≤ 4294967295) (r0 : 0 ≤ r) (r1 : r ≤ 4294967295) (p0 : 0 ≤ p) (p1 : p ≤ 4294967295) :
  C f_lockbarref15_Take [l.av, im.av, .agg [W o, W n, W r, W p]] (zmd l im o n r p).av := by
 refine ctr (l.cells ++ im.cells ++ [W o, W n, W r, W p]) run_lockbarref15_Take rfl (by simp [zaf, AV.pureAll, AV.pure]) (by simp [AV.pure]) ?_ rfl
 unfold rt_lockbarref15_Take
 simp [Lay.cells, Img.cells]
 refine call (zpG l { im with age := 0, occ := o, nor := n, rev := r, lamp := p } ⟨⟨h0, h1⟩, ⟨n0, n1⟩, ⟨r0, r1⟩, ⟨p0, p1⟩⟩) (by simp [Lay.cells, Img.cells]) (by simp [Img.cells, AV.scalar, AV.scalars]) ?_
 simp [Img.cells, zmd]
end Go.Lb.LK
namespace Go.Lb.LK
open Go Go.Lb Go.Proofs Go.RowKit
theorem zkw (l : List Int) : (zcg l).Pairwise (fun x y => x ≤ y) := by
 have := List.pairwise_mergeSort (le := fun x y : Int => decide (x ≤ y)) (fun a b c h1 h2 => by simp at *; omega) (fun a b => by simp; omega) l
 exact this.imp (fun h => by simpa using h)
theorem zgS {l : List Int} (hs : l.Pairwise (fun x y => x ≤ y)) : ∀ m, m ≤ l.length → (∀ n, n ∈ Go.Lib.compactUpTo l.toArray m ↔ n ∈ l.take m) ∧ (Go.Lib.compactUpTo l.toArray m).Pairwise (fun x y => x < y)
 | 0, _ => by simp [Go.Lib.compactUpTo]
 | m + 1, h => by
  obtain ⟨h1, h2⟩ := zgS hs m (by omega)
  have hm : l.toArray[m]! = l[m] := by simp [show m < l.length by omega]
  rw [Go.Lib.compactUpTo_succ, hm]
  have ht : l.take (m + 1) = l.take m ++ [l[m]] := by rw [List.take_add_one, List.getElem?_eq_getElem (by omega)]; rfl
  have hle : ∀ x ∈ l.take m, x ≤ l[m] := by
   intro x hx
   obtain ⟨j, hj, rfl⟩ := List.mem_iff_getElem.1 hx
   rw [List.getElem_take]
   rw [List.length_take] at hj
   exact List.pairwise_iff_getElem.1 hs j m (by omega) (by omega) (by omega)
  cases hk : Go.Lib.keeps l.toArray m with
  | true =>
   refine ⟨fun n => ?_, ?_⟩
   ·rw [ht]; simp only [h1, if_true, List.mem_append, List.mem_singleton]
   ·simp only [if_true]
    rw [List.pairwise_append]
    refine ⟨h2, by simp, fun x hx y hy => ?_⟩
    simp only [List.mem_singleton] at hy; subst hy
    have hx' := (h1 x).1 hx
    have := hle x hx'
    simp only [Go.Lib.keeps, decide_eq_true_eq] at hk
    rcases hk with h0 | hk
    ·subst h0; simp at hx'
    ·have hm1 : l.toArray[m - 1]! = l[m - 1] := by simp [show m - 1 < l.length by omega]
     rw [hm, hm1] at hk
     obtain ⟨j, hj, rfl⟩ := List.mem_iff_getElem.1 hx'
     rw [List.getElem_take]
     rw [List.length_take] at hj
     have a1 : l[j] ≤ l[m - 1] := by
      rcases Nat.lt_or_ge j (m - 1) with hlt | hge
      ·exact List.pairwise_iff_getElem.1 hs j (m - 1) (by omega) (by omega) hlt
      ·have : j = m - 1 := by omega
       subst this; exact Int.le_refl _
     have a2 : l[m - 1] ≤ l[m] := by
      rcases Nat.eq_zero_or_pos m with h0 | h0
      ·subst h0; exact Int.le_refl _
      ·exact List.pairwise_iff_getElem.1 hs (m - 1) m (by omega) (by omega) (by omega)
     omega
  | false =>
   refine ⟨fun n => ?_, by simpa using h2⟩
   rw [ht]
   simp only [Bool.false_eq_true, if_false, List.append_nil, List.mem_append, List.mem_singleton, h1]
   refine ⟨.inl, fun h => h.elim id ?_⟩
   rintro rfl
   have hk' : ¬ (m = 0 ∨ l.toArray[m]! ≠ l.toArray[m - 1]!) := by simpa [Go.Lib.keeps] using hk
   have hm0 : m ≠ 0 := fun h => hk' (.inl h)
   have hm1 : l.toArray[m - 1]! = l[m - 1] := by simp [show m - 1 < l.length by omega]
   rw [hm, hm1] at hk'
   have : l[m] = l[m - 1] := Classical.byContradiction fun h => hk' (.inr h)
   rw [this]
   exact List.mem_iff_getElem.2 ⟨m - 1, by rw [List.length_take]; omega, by rw [List.getElem_take]⟩
theorem zjE {l : List Int} (hs : l.Pairwise (fun x y => x ≤ y)) : (∀ n, n ∈ zbd l ↔ n ∈ l) ∧ (zbd l).Pairwise (fun x y => x < y) := by
 have := zgS hs l.length (Nat.le_refl _)
 rwa [List.take_length] at this
theorem zhZ (l : List Int) : ∀ m, m ≤ l.length → (Go.Lib.compactUpTo l.toArray m).Sublist (l.take m)
 | 0, _ => by simp [Go.Lib.compactUpTo]
 | m + 1, h => by
  have ih := zhZ l m (by omega)
  have hm : l.toArray[m]! = l[m] := by simp [show m < l.length by omega]
  rw [Go.Lib.compactUpTo_succ, hm]
  have ht : l.take (m + 1) = l.take m ++ [l[m]] := by rw [List.take_add_one, List.getElem?_eq_getElem (by omega)]; rfl
  rw [ht]
  split
  ·exact ih.append (List.Sublist.refl _)
  ·exact ih.append (List.nil_sublist [l[m]])
theorem zg6 {l : List Int} (hs : l.Pairwise (fun x y => x < y)) : ∀ m, m ≤ l.length → (Go.Lib.compactUpTo l.toArray m).length = m
 | 0, _ => by simp [Go.Lib.compactUpTo]
 | m + 1, h => by
  have ih := zg6 hs m (by omega)
  have hm : l.toArray[m]! = l[m] := by simp [show m < l.length by omega]
  rw [Go.Lib.compactUpTo_succ]
  have hk : Go.Lib.keeps l.toArray m = true := by
   simp only [Go.Lib.keeps, decide_eq_true_eq]
   rcases Nat.eq_zero_or_pos m with h0 | h0
   ·exact .inl h0
   ·right
    have hm1 : l.toArray[m - 1]! = l[m - 1] := by simp [show m - 1 < l.length by omega]
    rw [hm, hm1]
    have := List.pairwise_iff_getElem.1 hs (m - 1) m (by omega) (by omega) (by omega)
    omega
  simp [hk, ih]
theorem zjW (l : List Int) : (zbd (zcg l)).length < l.length ↔ ¬ l.Nodup := by
 have hp : (zcg l).Perm l := List.mergeSort_perm _ _
 have hlen : (zcg l).length = l.length := hp.length_eq
 have hs := zkw l
 constructor
 ·intro h hn
  have hn2 : (zcg l).Nodup := hp.nodup_iff.2 hn
  have hlt : (zcg l).Pairwise (fun x y => x < y) := by
   refine List.Pairwise.imp₂ (R := fun x y => x ≤ y) (S := fun x y => x ≠ y) (fun a b h1 h2 => by omega) hs hn2
  have := zg6 hlt (zcg l).length (Nat.le_refl _)
  have e : zbd (zcg l) = Go.Lib.compactUpTo (zcg l).toArray (zcg l).length := by simp [zbd, Go.Lib.compact]
  rw [e] at h
  omega
 ·intro hn
  refine Classical.byContradiction fun h => hn ?_
  have hsub := zhZ (zcg l) (zcg l).length (Nat.le_refl _)
  have e : zbd (zcg l) = Go.Lib.compactUpTo (zcg l).toArray (zcg l).length := by simp [zbd, Go.Lib.compact]
  rw [← e, List.take_length] at hsub
  have heq := hsub.eq_of_length_le (by omega)
  have h2 := (zjE hs).2
  rw [heq] at h2
  exact hp.nodup_iff.1 (h2.imp (fun h => by omega))
end Go.Lb.LK
namespace Go.Lb.LK
open Go Go.Lb Go.Proofs Go.RowKit
theorem zdd (l : List Step) (h : l.length ≤ 4294967296) : C f_slices_Clone_Step [steps l] (steps l) := by
 refine ctr [steps l] run_slices_Clone_Step rfl (by simp [AV.pureAll, AV.pure]) (by simp [AV.pure]) ?_ rfl
 unfold rt_slices_Clone_Step
 simp
 exact ⟨fun x _ => by simp [Step.cells], h⟩
theorem zfv (l : List Need) (h : l.length ≤ 4294967296) : C f_slices_Clone_Need [needs l] (needs l) := by
 refine ctr [needs l] run_slices_Clone_Need rfl (by simp [AV.pureAll, AV.pure]) (by simp [AV.pure]) ?_ rfl
 unfold rt_slices_Clone_Need
 simp
 exact ⟨fun x _ => by simp [Need.cells], h⟩
def zcR (xs : List (List Step)) : Nat := (xs.map List.length).sum
theorem zeI (xs : List (List Step)) : xs.flatten.length = zcR xs := by simp [zcR, List.length_flatten]
theorem zgJ (xs : List (List Step)) {i : Nat} (h : i < xs.length) : (xs.take (i + 1)).flatten = (xs.take i).flatten ++ xs[i] := by
 rw [List.take_add_one, List.getElem?_eq_getElem h, List.flatten_append]; simp
theorem zjf (xs : List (List Step)) {i : Nat} (h : i < xs.length) : zcR (xs.take (i + 1)) = zcR (xs.take i) + xs[i].length := by
 rw [← zeI, ← zeI, zgJ xs h, List.length_append]
theorem zho (xs : List (List Step)) (i : Nat) : zcR (xs.take i) ≤ zcR xs := by
 unfold zcR
 conv => rhs; rw [← List.take_append_drop i xs, List.map_append, List.sum_append]
 omega
theorem ze0 (xs : List (List Step)) (hx : xs.length ≤ 1000000) (ht : zcR xs ≤ 1000000000) : C f_slices_Concat_Step [.sl (xs.map steps)] (steps xs.flatten) := by
 refine ctr [.sl (xs.map steps)] run_slices_Concat_Step rfl (by simp [AV.pureAll, AV.pure, zbJ steps (fun x => by simp [AV.pure])]) (by simp only [AV.pure]; exact zn0 _) ?_ rfl
 unfold rt_slices_Concat_Step
 simp
 refine zac rfl (fun vs => ∃ i : Nat, i ≤ xs.length ∧ vs = [I (zcR (xs.take i)), I i]) (fun vs => match vs with | [_, .int _ j] => xs.length - j.toNat | _ => 0) ⟨0, by simp, by simp [zcR]⟩ ?_
 rintro vs - ⟨i, hi, rfl⟩
 have hti := zho xs i
 simp
 refine ⟨fun hlt => ?_, fun hge => ?_⟩
 ·have hw := zad (i := i) (by omega)
  have ht1 := zjf xs hlt
  have ht2 := zho xs (i + 1)
  have hw2 : IntKind.i64.wrap ((zcR (xs.take i) : Int) + xs[i].length) = (zcR (xs.take (i + 1)) : Int) := by rw [zaI] <;> omega
  simp [hlt, hw2]
  exact ⟨⟨i + 1, by omega, rfl, hw⟩, by rw [hw]; omega⟩
 ·have hti : xs.take i = xs := List.take_of_length_le hge
  have w0 : IntKind.i64.wrap 0 = 0 := by decide
  have wt : IntKind.i64.wrap (zcR xs : Int) = zcR xs := by rw [zaI] <;> omega
  simp [hti, w0, wt]
  refine ⟨fun hpos => ⟨by omega, ?_⟩, fun hz => ?_⟩
  all_goals
   refine zac rfl (fun vs => ∃ i : Nat, i ≤ xs.length ∧ vs = [steps (xs.take i).flatten, I i]) (fun vs => match vs with | [_, .int _ j] => xs.length - j.toNat | _ => 0) ⟨0, by simp, by simp⟩ ?_
   rintro vs - ⟨j, hj, rfl⟩
   have htj := zho xs j
   rw [← zeI] at htj
   simp only [zaH, List.cons_append, List.nil_append]
   have hfl := fun h => zgJ xs (i := j) h
   generalize hcur : (xs.take j).flatten = cur at htj hfl ⊢
   simp
   refine ⟨fun hlt => ?_, fun hge => ?_⟩
   ·have hw := zad (i := j) (by omega)
    have ht1 := zjf xs hlt
    have ht2 := zho xs (j + 1)
    rw [← zeI (xs.take j), hcur] at ht1
    simp [hlt]
    refine ⟨fun x _ => by simp [Step.cells], by omega, ⟨j + 1, by omega, ?_, hw⟩, by rw [hw]; omega⟩
    have := congrArg (List.map Step.av) (hfl hlt)
    simpa using this.symm
   ·have : xs.take j = xs := List.take_of_length_le hge
    simp [← hcur, this]
def zar {α : Type} (q : α → Bool) (l : List α) : Prop := l.any q = false
theorem zar.nil {α : Type} (q : α → Bool) : zar q [] := rfl
theorem zcc {α : Type} {q : α → Bool} {l : List α} {i : Nat} (hi : i < l.length) (hq : q l[i] = true) : l.any q = true := List.any_eq_true.2 ⟨l[i], List.getElem_mem hi, hq⟩
theorem zao {α : Type} {q : α → Bool} {l : List α} {i : Nat} (hi : i < l.length) (h : zar q (l.take i)) (hq : q l[i] = false) : zar q (l.take (i + 1)) := by
 unfold zar at *
 rw [List.take_add_one, List.getElem?_eq_getElem hi, List.any_append, h]; simp [hq]
def both (x y : Need) : Bool := decide (x.p = y.p) && !decide (x.pos = y.pos)
def ze6 (a b : List Need) : Bool := a.any fun x => b.any fun y => both x y
theorem zg1 (a b : List Need) (ha : a.length ≤ 4294967296) (hb : b.length ≤ 4294967296) : C f_held_clash [needs a, needs b] (.bool (ze6 a b)) := by
 refine ctr [needs a, needs b] run_held_clash rfl (by simp [AV.pureAll, AV.pure]) rfl ?_ rfl
 unfold rt_held_clash
 simp
 refine zac rfl (fun vs => ∃ i : Nat, i ≤ a.length ∧ vs = [I i] ∧ zar (fun x => b.any fun y => both x y) (a.take i)) (fun vs => match vs with | [.int _ j] => a.length - j.toNat | _ => 0) ⟨0, by simp, by simp, rfl⟩ ?_
 rintro vs - ⟨i, hi, rfl, hn⟩
 simp
 refine ⟨fun hlt => ?_, fun hge => ?_⟩
 ·simp [hlt, Need.cells]
  refine zac rfl (fun vs => ∃ j : Nat, j ≤ b.length ∧ vs = [I j] ∧ zar (fun y => both a[i] y) (b.take j)) (fun vs => match vs with | [.int _ k] => b.length - k.toNat | _ => 0) ⟨0, by simp, by simp, rfl⟩ ?_
  rintro vs - ⟨j, hj, rfl, hm⟩
  simp
  refine ⟨fun hlt2 => ?_, fun hge2 => ?_⟩
  ·have hw := zad (i := j) (by omega)
   simp [hlt, hlt2, Need.cells]
   by_cases h1 : a[i].p = b[j].p <;> by_cases h2 : a[i].pos = b[j].pos
   ·simp [h1, h2, hw]
    exact ⟨⟨j + 1, by omega, rfl, zao hlt2 hm (by simp [both, h1, h2])⟩, by omega⟩
   ·simp [h1, h2]
    exact zcc hlt (zcc hlt2 (by simp [both, h1, h2]))
   ·simp [h1, hw]
    exact ⟨⟨j + 1, by omega, rfl, zao hlt2 hm (by simp [both, h1])⟩, by omega⟩
   ·simp [h1, hw]
    exact ⟨⟨j + 1, by omega, rfl, zao hlt2 hm (by simp [both, h1])⟩, by omega⟩
  ·have hb2 : b.take j = b := List.take_of_length_le (by omega)
   rw [hb2] at hm
   have hw := zad (i := i) (by omega)
   simp [hw]
   exact ⟨⟨i + 1, by omega, rfl, zao hlt hn hm⟩, by omega⟩
 ·have ha2 : a.take i = a := List.take_of_length_le (by omega)
  rw [ha2] at hn
  have hn2 : ze6 a b = false := hn
  simp [hn2]
theorem zlV (p : Path) (h : p.steps.length ≤ 4294967296) : C f_route_Own [p.av] p.av := by
 refine ctr p.cells run_route_Own rfl (by simp) (by simp [AV.pure]) ?_ rfl
 unfold rt_route_Own
 simp [Path.cells]
 refine call (zdd p.steps h) (by simp) (by simp) ?_
 simp [Path.cells]
def Hd.len (h : Hd) : Prop := h.path.steps.length ≤ 1048576 ∧ h.over.length ≤ 1048576 ∧ h.needs.length ≤ 1048576
theorem zca (h : Hd) (hl : h.len) : C f_held_Own [h.av] h.av := by
 obtain ⟨h1, h2, h3⟩ := hl
 refine ctr h.cells run_held_Own rfl (by simp) (by simp [AV.pure]) ?_ rfl
 unfold rt_held_Own
 simp [Hd.cells]
 refine call (zlV h.path (by omega)) (by simp [Path.cells]) (by simp) ?_
 simp
 refine call (zdd h.over (by omega)) (by simp) (by simp) ?_
 simp
 refine call (zfv h.needs (by omega)) (by simp) (by simp) ?_
 simp [Path.cells, Hd.cells]
def zdo (h : Hd) (x : Need) : Bool := decide (max h.gone 0 ≤ x.k) && (!decide (x.k = h.path.steps.length) || !h.opn)
def zai (h : Hd) : List Need := h.needs.filter (zdo h)
theorem zb8 (h : Hd) (hl : h.len) : C f_held_Needs [h.av] (needs (zai h)) := by
 obtain ⟨h1, h2, h3⟩ := hl
 refine ctr h.cells run_held_Needs rfl (by simp) (by simp [AV.pure]) ?_ rfl
 unfold rt_held_Needs
 simp [Hd.cells]
 refine zac rfl (fun vs => ∃ i : Nat, i ≤ h.needs.length ∧ vs = [needs ((h.needs.take i).filter (zdo h)), I i]) (fun vs => match vs with | [_, .int _ j] => h.needs.length - j.toNat | _ => 0) ⟨0, by simp, by simp⟩ ?_
 rintro vs - ⟨i, hi, rfl⟩
 simp
 refine ⟨fun hlt => ?_, fun hge => ?_⟩
 ·have hw := zad (i := i) (by omega)
  have hfl := zcj (zdo h) h.needs i
  have hft := zbN (zdo h) h.needs hlt
  simp [hlt, Need.cells]
  rw [hw]
  cases hq : zdo h h.needs[i]
  ·left
   refine ⟨?_, ⟨i + 1, by omega, by rw [hft, hq]; simp, rfl⟩, by omega⟩
   intro hk
   simpa [zdo, hk] using hq
  ·right
   refine ⟨by simpa [zdo] using hq, by omega, ⟨i + 1, by omega, by rw [hft, hq]; simp [Need.cells], rfl⟩, by omega⟩
 ·have : h.needs.take i = h.needs := List.take_of_length_le (by omega)
  simp [this, zai]
end Go.Lb.LK
namespace Go.Lb.LK
open Go Go.Lb Go.Proofs Go.RowKit
def Hd.g1 (h : Hd) : Prop := 1 ≤ h.id ∧ h.id ≤ 1073741824 ∧ 0 ≤ h.timer ∧ h.timer ≤ 1073741824 ∧ 1 ≤ h.path.steps.length ∧ h.path.steps.length ≤ 12 ∧ h.over.length ≤ 2
def Hd.g2 (h : Hd) : Prop := 1 ≤ h.stage ∧ h.stage < 5 ∧ 0 ≤ h.gone ∧ h.gone ≤ h.path.steps.length
def Hd.wasOk (h : Hd) : Bool := (List.range 12).all fun k => decide (k < h.path.steps.length) || !h.was k
def zdP (n : Nat) (x : Need) : Bool := decide (0 ≤ x.k ∧ x.k ≤ n ∧ 0 ≤ x.p ∧ x.p < 24 ∧ 0 ≤ x.pos ∧ x.pos ≤ 1)
def Hd.secs (h : Hd) : List Int := (h.path.steps ++ h.over).map (·.s)
instance (h : Hd) : Decidable h.g1 := by unfold Hd.g1; infer_instance
instance (h : Hd) : Decidable h.g2 := by unfold Hd.g2; infer_instance
def zay (h : Hd) : Bool := decide h.g1 && (decide h.g2 && (!ze6 h.needs h.needs && (h.wasOk && (decide h.secs.Nodup && h.needs.all (zdP h.path.steps.length)))))
theorem wc (w : Nat → Bool) (n j : Nat) (hn : n ≤ 12) (hj : j < 12) : (if j < min n 12 then ((List.take n (zeb w))[j]?.getD .undef).cells[0]?.getD .undef else B false) = B (decide (j < n) && w j) := by
 by_cases h : j < n
 ·have h2 : j < min n 12 := by omega
  rw [if_pos h2, List.getElem?_take, if_pos h]
  have := wget w hj .undef
  rw [List.getD_eq_getElem?_getD] at this
  rw [this]; simp [h]
 ·have h2 : ¬ j < min n 12 := by omega
  rw [if_neg h2]; simp [h]
theorem wci (w : Nat → Bool) (n j : Nat) (i : Int) (hi : i = j) (hn : n ≤ 12) (hj : j < 12) : (if i < ((min n 12 : Nat) : Int) then ((List.take n (zeb w))[j]?.getD .undef).cells[0]?.getD .undef else B false) = B (decide (j < n) && w j) := by
 rw [← wc w n j hn hj]
 exact zpU (by omega) _ _
theorem zrN (w : Nat → Bool) (n : Nat) : ∀ e ∈ List.take n (zeb w), e.cells.length = 1 ∧ AV.ones e.cells = true := by
 intro e he
 have := List.mem_of_mem_take he
 simp only [zeb, List.mem_cons, List.not_mem_nil, or_false] at this
 rcases this with rfl | rfl | rfl | rfl | rfl | rfl | rfl | rfl | rfl | rfl | rfl | rfl <;> simp
theorem zgX (h : Hd) (hl : h.len) (hs : 0 ≤ h.stage ∧ h.stage ≤ 255) : C f_held_Right [h.av] (.bool (zay h)) := by
 obtain ⟨l1, l2, l3⟩ := hl
 refine ctr h.cells run_held_Right rfl (by simp) rfl ?_ rfl
 unfold rt_held_Right
 simp [Hd.cells]
 by_cases g1 : h.g1
 ·have g1' := g1
  obtain ⟨a1, a2, a3, a4, a5, a6, a7⟩ := g1
  have b1 : ¬ h.id < 1 := by omega
  have b2 : ¬ 1073741824 < max h.id h.timer := by omega
  have b3 : ¬ h.timer < 0 := by omega
  have b4 : ¬ ((h.path.steps.length : Int) < 1) := by omega
  have b5 : ¬ (12 < (h.path.steps.length : Int)) := by omega
  have b6 : ¬ (2 < (h.over.length : Int)) := by omega
  have b7 : (0 : Int) < h.path.steps.length := by omega
  refine ⟨fun hh => by simp [b1, b2, b3, b5, b6] at hh; omega, ?_⟩
  intro _ _ _ _ _ _
  refine zak (avs := [needs h.needs, needs h.needs]) (.bool (ze6 h.needs h.needs)) rfl (fun _ => ⟨by simp, zg1 _ _ (by omega) (by omega)⟩) (by simp) ?_
  by_cases g2 : h.g2
  ·have g2' := g2
   obtain ⟨d1, d2, d3, d4⟩ := g2
   have e1 : ¬ h.stage = 0 := by omega
   have e2 : ¬ 5 ≤ h.stage := by omega
   have e3 : ¬ h.gone < 0 := by omega
   have e4 : ¬ (h.path.steps.length : Int) < h.gone := by omega
   cases hc : ze6 h.needs h.needs
   ·have tk := zrN h.was h.path.steps.length
    have c0 := wc h.was h.path.steps.length 0 a6 (by omega)
    have c1 := wci h.was h.path.steps.length 1 1 rfl a6 (by omega)
    have c2 := wci h.was h.path.steps.length 2 2 rfl a6 (by omega)
    have c3 := wci h.was h.path.steps.length 3 3 rfl a6 (by omega)
    have c4 := wci h.was h.path.steps.length 4 4 rfl a6 (by omega)
    have c5 := wci h.was h.path.steps.length 5 5 rfl a6 (by omega)
    have c6 := wci h.was h.path.steps.length 6 6 rfl a6 (by omega)
    have c7 := wci h.was h.path.steps.length 7 7 rfl a6 (by omega)
    have c8 := wci h.was h.path.steps.length 8 8 rfl a6 (by omega)
    have c9 := wci h.was h.path.steps.length 9 9 rfl a6 (by omega)
    have c10 := wci h.was h.path.steps.length 10 10 rfl a6 (by omega)
    have c11 := wci h.was h.path.steps.length 11 11 rfl a6 (by omega)
    simp only [AV.cells, zeb] at tk c0 c1 c2 c3 c4 c5 c6 c7 c8 c9 c10 c11
    simp [e1, e2, e3, e4, c0, c1, c2, c3, c4, c5, c6, c7, c8, c9, c10, c11]
    refine ⟨by omega, tk, fun hh => ?_, ?_⟩
    ·have hw : h.wasOk = false := by
      cases hq : h.wasOk
      ·rfl
      ·exfalso
       simp only [Hd.wasOk, List.all_eq_true, List.mem_range, Bool.or_eq_true, decide_eq_true_eq, Bool.not_eq_true'] at hq
       have hstep : ∀ k, k < 12 → h.was k = true → h.path.steps.length ≤ k → False := fun k hk h1 h2 => by
        rcases hq k hk with h3 | h3
        ·omega
        ·rw [h1] at h3; cases h3
       rcases hh with ⟨h1, h2⟩ | ⟨h1, h2⟩ | ⟨h1, h2⟩ | ⟨h1, h2⟩ | ⟨h1, h2⟩ | ⟨h1, h2⟩ | ⟨h1, h2⟩ | ⟨h1, h2⟩ | ⟨h1, h2⟩ | ⟨h1, h2⟩ | ⟨h1, h2⟩ | ⟨h1, h2⟩
       ·rw [h2] at a5; simp at a5
       all_goals exact hstep _ (by omega) h1 h2
     simp [zay, hw]
    ·intro w0 w1 w2 w3 w4 w5 w6 w7 w8 w9 w10 w11
     have hw : h.wasOk = true := by
      simp only [Hd.wasOk, List.all_eq_true, List.mem_range, Bool.or_eq_true, decide_eq_true_eq, Bool.not_eq_true']
      intro k hk
      cases hq : h.was k
      ·exact .inr rfl
      ·left
       match k, hk, hq with
       | 0, _, hq => exact w0 hq
       | 1, _, hq => exact w1 hq
       | 2, _, hq => exact w2 hq
       | 3, _, hq => exact w3 hq
       | 4, _, hq => exact w4 hq
       | 5, _, hq => exact w5 hq
       | 6, _, hq => exact w6 hq
       | 7, _, hq => exact w7 hq
       | 8, _, hq => exact w8 hq
       | 9, _, hq => exact w9 hq
       | 10, _, hq => exact w10 hq
       | 11, _, hq => exact w11 hq
     refine call (ze0 [h.path.steps, h.over] (by simp) (by simp [zcR]; omega)) (by simp) (by simp) ?_
     generalize hall : [h.path.steps, h.over].flatten = all
     have hal : all = h.path.steps ++ h.over := by rw [← hall]; simp
     have hlen : all.length = h.path.steps.length + h.over.length := by rw [hal]; simp
     simp
     refine zac rfl (fun vs => ∃ i : Nat, i ≤ all.length ∧ vs = [ints ((all.take i).map (·.s)), I i]) (fun vs => match vs with | [_, .int _ j] => all.length - j.toNat | _ => 0) ⟨0, by simp, by simp⟩ ?_
     rintro vs - ⟨i, hi, rfl⟩
     simp
     refine ⟨fun hlt => ?_, fun hge => ?_⟩
     ·have hwr := zad (i := i) (by omega)
      have hmt := map_take (fun x : Step => x.s) all hlt
      simp [hlt, Step.cells, hwr]
      refine ⟨by omega, ⟨i + 1, by omega, ?_, by omega⟩, by omega⟩
      rw [List.take_add_one, List.getElem?_map, List.getElem?_eq_getElem hlt]; rfl
     ·have hta : List.take i (List.map (I ∘ fun x : Step => x.s) all) = (all.map (·.s)).map I := by
       rw [List.take_of_length_le (by simp; omega), List.map_map]
      rw [hta]
      refine ⟨all.map (·.s), by simp; omega, by simp, ?_⟩
      refine ⟨zcg (all.map (·.s)), by simp [zcg]; omega, rfl, ?_⟩
      have hsec : h.secs = all.map (·.s) := by rw [hal]; rfl
      have hcl := zfA (zcg (all.map (·.s)))
      have hsl : (zcg (all.map (·.s))).length = all.length := by simp [zcg]
      have hwa : IntKind.i64.wrap ((h.path.steps.length : Int) + h.over.length) = h.path.steps.length + h.over.length := by rw [zaI] <;> omega
      simp [hwa]
      have hnd := zjW (all.map (·.s))
      rw [List.length_map, hlen] at hnd
      refine ⟨fun hh => ?_, fun hh => ?_⟩
      ·have : ¬ h.secs.Nodup := by rw [hsec]; exact hnd.1 (by omega)
       simp [zay, this]
      ·have hno : h.secs.Nodup := by
        rw [hsec]
        refine Classical.byContradiction fun hn => ?_
        have := hnd.2 hn
        omega
       have hr : zay h = h.needs.all (zdP h.path.steps.length) := by simp [zay, g1', g2', hc, hw, hno]
       rw [hr]
       refine zac rfl (fun vs => ∃ i : Nat, i ≤ h.needs.length ∧ vs = [I i] ∧ zar (fun x => !zdP h.path.steps.length x) (h.needs.take i)) (fun vs => match vs with | [.int _ j] => h.needs.length - j.toNat | _ => 0) ⟨0, by simp, by simp, rfl⟩ ?_
       rintro vs - ⟨k, hk, rfl, hq⟩
       simp
       refine ⟨fun hlt => ?_, fun hge => ?_⟩
       ·have hwr := zad (i := k) (by omega)
        simp [hlt, Need.cells, hwr]
        have hf : h.needs[k].pos.fdiv (2 ^ min 1 IntKind.i64.bits) = 0 ↔ 0 ≤ h.needs[k].pos ∧ h.needs[k].pos ≤ 1 := by
         have e : (2 : Int) ^ min 1 IntKind.i64.bits = 2 := by decide
         rw [e, Int.fdiv_eq_ediv_of_nonneg _ (by omega)]; omega
        rw [hf]
        cases hok : zdP h.path.steps.length h.needs[k]
        ·right
         refine ⟨?_, h.needs[k], List.getElem_mem hlt, hok⟩
         simp only [zdP, decide_eq_false_iff_not] at hok
         omega
        ·left
         have hok2 := hok
         simp only [zdP, decide_eq_true_eq] at hok2
         exact ⟨by omega, ⟨k + 1, by omega, by omega, zao hlt hq (by simp [hok])⟩, by omega⟩
       ·have : h.needs.take k = h.needs := List.take_of_length_le (by omega)
        rw [this] at hq
        unfold zar at hq
        simp at hq
        exact fun x hx => hq x hx
   ·have hr : zay h = false := by simp [zay, g1', g2', hc]
    simp [e1, e2, e3, e4, hr]
  ·have hr : zay h = false := by simp [zay, g2]
   rw [hr]
   have hg : h.stage = 0 ∨ 5 ≤ h.stage ∨ h.gone < 0 ∨ (h.path.steps.length : Int) < h.gone := by
    unfold Hd.g2 at g2; omega
   by_cases e1 : h.stage = 0
   ·simp [e1]
   ·by_cases e2 : 5 ≤ h.stage
    ·simp [e1, e2]
    ·by_cases e3 : h.gone < 0
     ·simp [e1, e2, e3]
     ·have e4 : (h.path.steps.length : Int) < h.gone := by omega
      simp [e1, e2, e3, e4]
 ·have hr : zay h = false := by simp [zay, g1]
  rw [hr]
  refine ⟨fun _ => rfl, ?_⟩
  intro h1 h2 h3 h4 h5 h6
  exfalso
  unfold Hd.g1 at g1
  omega
end Go.Lb.LK
namespace Go.Lb.LK
open Go Go.Lb Go.Proofs Go.RowKit
theorem ziT (a b : List Need) (ha : a.length ≤ 4294967296) (hb : b.length ≤ 4294967296) : C f_lockbarref17_clash [needs a, needs b] (.bool (ze6 a b)) := by
 refine ctr [needs a, needs b] run_lockbarref17_clash rfl (by simp [AV.pureAll, AV.pure]) rfl ?_ rfl
 unfold rt_lockbarref17_clash
 refine zac rfl (fun vs => ∃ i : Nat, i ≤ a.length ∧ vs = [I i] ∧ zar (fun x => b.any fun y => both x y) (a.take i)) (fun vs => match vs with | [.int _ j] => a.length - j.toNat | _ => 0) ⟨0, by simp, by simp, rfl⟩ ?_
 rintro vs - ⟨i, hi, rfl, hn⟩
 simp
 refine ⟨fun hlt => ?_, fun hge => ?_⟩
 ·refine zac rfl (fun vs => ∃ j : Nat, j ≤ b.length ∧ vs = [I j] ∧ zar (fun y => both a[i] y) (b.take j)) (fun vs => match vs with | [.int _ k] => b.length - k.toNat | _ => 0) ⟨0, by simp, by simp, rfl⟩ ?_
  rintro vs - ⟨j, hj, rfl, hm⟩
  simp
  refine ⟨fun hlt2 => ?_, fun hge2 => ?_⟩
  ·have hw := zad (i := j) (by omega)
   simp [hlt, hlt2, Need.cells]
   by_cases h1 : a[i].p = b[j].p <;> by_cases h2 : a[i].pos = b[j].pos
   ·simp [h1, h2, hw]
    exact ⟨⟨j + 1, by omega, rfl, zao hlt2 hm (by simp [both, h1, h2])⟩, by omega⟩
   ·simp [h1, h2]
    exact zcc hlt (zcc hlt2 (by simp [both, h1, h2]))
   ·simp [h1, hw]
    exact ⟨⟨j + 1, by omega, rfl, zao hlt2 hm (by simp [both, h1])⟩, by omega⟩
   ·simp [h1, hw]
    exact ⟨⟨j + 1, by omega, rfl, zao hlt2 hm (by simp [both, h1])⟩, by omega⟩
  ·have hb2 : b.take j = b := List.take_of_length_le (by omega)
   rw [hb2] at hm
   have hw := zad (i := i) (by omega)
   simp [hw]
   exact ⟨⟨i + 1, by omega, rfl, zao hlt hn hm⟩, by omega⟩
 ·have ha2 : a.take i = a := List.take_of_length_le (by omega)
  rw [ha2] at hn
  have hn2 : ze6 a b = false := hn
  simp [hn2]
theorem zc6 (h : Hd) (hl : h.len) : C f_lockbarref17_Needs [h.av] (needs (zai h)) := by
 obtain ⟨h1, h2, h3⟩ := hl
 refine ctr h.cells run_lockbarref17_Needs rfl (by simp) (by simp [AV.pure]) ?_ rfl
 unfold rt_lockbarref17_Needs
 simp [Hd.cells]
 refine zac rfl (fun vs => ∃ i : Nat, i ≤ h.needs.length ∧ vs = [needs ((h.needs.take i).filter (zdo h)), I i]) (fun vs => match vs with | [_, .int _ j] => h.needs.length - j.toNat | _ => 0) ⟨0, by simp, by simp⟩ ?_
 rintro vs - ⟨i, hi, rfl⟩
 simp
 refine ⟨fun hlt => ?_, fun hge => ?_⟩
 ·have hw := zad (i := i) (by omega)
  have hfl := zcj (zdo h) h.needs i
  have hft := zbN (zdo h) h.needs hlt
  simp [hlt, Need.cells]
  rw [hw]
  cases hq : zdo h h.needs[i]
  ·left
   refine ⟨?_, ⟨i + 1, by omega, by rw [hft, hq]; simp, rfl⟩, by omega⟩
   intro hk
   simpa [zdo, hk] using hq
  ·right
   refine ⟨by simpa [zdo] using hq, by omega, ⟨i + 1, by omega, by rw [hft, hq]; simp [Need.cells], rfl⟩, by omega⟩
 ·have : h.needs.take i = h.needs := List.take_of_length_le (by omega)
  simp [this, zai]
theorem znz (p : Path) (h : p.steps.length ≤ 4294967296) : C f_lockbarref11_Own [p.av] p.av := by
 refine ctr p.cells run_lockbarref11_Own rfl (by simp) (by simp [AV.pure]) ?_ rfl
 unfold rt_lockbarref11_Own
 simp [Path.cells]
 exact ⟨fun x _ => by simp [Step.cells], h⟩
theorem zeT (h : Hd) (hl : h.len) : C f_lockbarref17_Own [h.av] h.av := by
 obtain ⟨h1, h2, h3⟩ := hl
 refine ctr h.cells run_lockbarref17_Own rfl (by simp) (by simp [AV.pure]) ?_ rfl
 unfold rt_lockbarref17_Own
 simp [Hd.cells]
 refine call (znz h.path (by omega)) (by simp [Path.cells]) (by simp) ?_
 simp [Path.cells, Hd.cells]
 exact ⟨fun x _ => by simp [Step.cells], by omega, fun x _ => by simp [Need.cells], by omega⟩
theorem zqn (x y : Step) : AV.eqs x.cells y.cells = decide (x = y) := by
 obtain ⟨a, b, c⟩ := x
 obtain ⟨d, e, f⟩ := y
 simp [Step.cells, AV.eqs, AV.eq1]
 by_cases h1 : a = d <;> by_cases h2 : b = e <;> by_cases h3 : c = f <;> simp [h1, h2, h3]
theorem zqP (x y : Need) : AV.eqs x.cells y.cells = decide (x = y) := by
 obtain ⟨a, b, c⟩ := x
 obtain ⟨d, e, f⟩ := y
 simp [Need.cells, AV.eqs, AV.eq1]
 by_cases h1 : a = d <;> by_cases h2 : b = e <;> by_cases h3 : c = f <;> simp [h1, h2, h3]
theorem zq3 {x y : Step} (h1 : x.s = y.s) (h2 : x.i = y.i) (h3 : x.o = y.o) : x = y := by
 obtain ⟨a, b, c⟩ := x
 obtain ⟨d, e, f⟩ := y
 simp only at h1 h2 h3
 rw [h1, h2, h3]
theorem zcU (a b : List Step) (ha : a.length ≤ 4294967296) : C f_lockbarref11_Steps [steps a, steps b] (.bool (decide (a = b))) := by
 refine ctr [steps a, steps b] run_lockbarref11_Steps rfl (by simp [AV.pureAll, AV.pure]) rfl ?_ rfl
 unfold rt_lockbarref11_Steps
 simp
 by_cases hl : a.length = b.length
 ·simp [hl]
  refine zac rfl (fun vs => ∃ i : Nat, i ≤ a.length ∧ vs = [I i] ∧ a.take i = b.take i) (fun vs => match vs with | [.int _ j] => a.length - j.toNat | _ => 0) ⟨0, by simp, by simp, by simp⟩ ?_
  rintro vs - ⟨i, hi, rfl, hq⟩
  simp
  refine ⟨fun hlt => ?_, fun hge => ?_⟩
  ·have hlt2 : i < b.length := by omega
   have hw := zad (i := i) (by omega)
   have he := zqn a[i] b[i]
   simp [hlt, hlt2, Step.cells] at he ⊢
   by_cases hab : a[i] = b[i]
   ·simp [hab] at he ⊢
    rw [hw]
    refine ⟨⟨i + 1, by omega, rfl, ?_⟩, by omega⟩
    rw [List.take_add_one, List.take_add_one, List.getElem?_eq_getElem hlt, List.getElem?_eq_getElem hlt2, hq, hab]
   ·right
    refine ⟨fun h1 h2 h3 => hab (zq3 h1 h2 h3), ?_⟩
    rintro rfl
    exact hab rfl
  ·have h1 : a.take i = a := List.take_of_length_le (by omega)
   have h2 : b.take i = b := List.take_of_length_le (by omega)
   rw [h1, h2] at hq
   simp [hq]
 ·have hne : a ≠ b := fun h => hl (by rw [h])
  have hl2 : ¬ (a.length : Int) = b.length := by omega
  simp [hne]
  exact fun h => absurd h hl2
theorem zq4 {x y : Need} (h1 : x.p = y.p) (h2 : x.pos = y.pos) (h3 : x.k = y.k) : x = y := by
 obtain ⟨a, b, c⟩ := x
 obtain ⟨d, e, f⟩ := y
 simp only at h1 h2 h3
 rw [h1, h2, h3]
theorem zf0 (a b : List Need) (ha : a.length ≤ 4294967296) : C f_lockbarref17_All [needs a, needs b] (.bool (decide (a = b))) := by
 refine ctr [needs a, needs b] run_lockbarref17_All rfl (by simp [AV.pureAll, AV.pure]) rfl ?_ rfl
 unfold rt_lockbarref17_All
 simp
 by_cases hl : a.length = b.length
 ·simp [hl]
  refine zac rfl (fun vs => ∃ i : Nat, i ≤ a.length ∧ vs = [I i] ∧ a.take i = b.take i) (fun vs => match vs with | [.int _ j] => a.length - j.toNat | _ => 0) ⟨0, by simp, by simp, by simp⟩ ?_
  rintro vs - ⟨i, hi, rfl, hq⟩
  simp
  refine ⟨fun hlt => ?_, fun hge => ?_⟩
  ·have hlt2 : i < b.length := by omega
   have hw := zad (i := i) (by omega)
   have he := zqP a[i] b[i]
   simp [hlt, hlt2, Need.cells] at he ⊢
   by_cases hab : a[i] = b[i]
   ·simp [hab] at he ⊢
    rw [hw]
    refine ⟨⟨i + 1, by omega, rfl, ?_⟩, by omega⟩
    rw [List.take_add_one, List.take_add_one, List.getElem?_eq_getElem hlt, List.getElem?_eq_getElem hlt2, hq, hab]
   ·right
    refine ⟨fun h1 h2 h3 => hab (zq4 h1 h2 h3), ?_⟩
    rintro rfl
    exact hab rfl
  ·have h1 : a.take i = a := List.take_of_length_le (by omega)
   have h2 : b.take i = b := List.take_of_length_le (by omega)
   rw [h1, h2] at hq
   simp [hq]
 ·have hne : a ≠ b := fun h => hl (by rw [h])
  have hl2 : ¬ (a.length : Int) = b.length := by omega
  simp [hne]
  exact fun h => absurd h hl2
def zfK (a b : Path) : Bool := decide (a.sig = b.sig) && (decide (a.exit = b.exit) && decide (a.steps = b.steps))
theorem zpx (a b : Path) (ha : a.steps.length ≤ 4294967296) : C f_lockbarref11_Same [a.av, b.av] (.bool (zfK a b)) := by
 refine ctr (a.cells ++ b.cells) run_lockbarref11_Same rfl (by simp [zaf]) rfl ?_ rfl
 unfold rt_lockbarref11_Same
 simp [Path.cells]
 refine zak (avs := [steps a.steps, steps b.steps]) (.bool (decide (a.steps = b.steps))) rfl (fun _ => ⟨by simp, zcU _ _ ha⟩) (by simp) ?_
 by_cases h1 : a.sig = b.sig <;> by_cases h2 : a.exit = b.exit <;> simp [zfK, h1, h2]
theorem bdec (x y : Bool) : decide (x = y) = (x == y) := by cases x <;> cases y <;> rfl
def zkb (a b : Hd) : Bool := AV.eqs [.bool (a.was 0), .bool (a.was 1), .bool (a.was 2), .bool (a.was 3), .bool (a.was 4), .bool (a.was 5), .bool (a.was 6), .bool (a.was 7), .bool (a.was 8), .bool (a.was 9), .bool (a.was 10), .bool (a.was 11)] [.bool (b.was 0), .bool (b.was 1), .bool (b.was 2), .bool (b.was 3), .bool (b.was 4), .bool (b.was 5), .bool (b.was 6), .bool (b.was 7), .bool (b.was 8), .bool (b.was 9), .bool (b.was 10), .bool (b.was 11)]
theorem zkB (a : Hd) : zkb a a = true := by simp [zkb]
def zgv (a b : Hd) : Bool := decide (a.id = b.id) && (zfK a.path b.path && (decide (a.over = b.over) && (decide (a.needs = b.needs) && (decide (a.stage = b.stage) && (decide (a.gone = b.gone) && (zkb a b && ((a.opn == b.opn) && (decide (a.timer = b.timer) && (a.shown == b.shown)))))))))
theorem zoo (a : Hd) : zgv a a = true := by simp [zgv, zkB, zfK]
theorem zpn (a b : Hd) (ha : a.len) : C f_lockbarref17_Same [a.av, b.av] (.bool (zgv a b)) := by
 obtain ⟨l1, l2, l3⟩ := ha
 refine ctr (a.cells ++ b.cells) run_lockbarref17_Same rfl (by simp [zaf]) rfl ?_ rfl
 unfold rt_lockbarref17_Same
 simp [Hd.cells]
 refine zak (avs := [a.path.av, b.path.av]) (.bool (zfK a.path b.path)) rfl (fun _ => ⟨by simp [Path.cells], zpx _ _ (by omega)⟩) (by simp) ?_
 simp
 refine zak (avs := [steps a.over, steps b.over]) (.bool (decide (a.over = b.over))) rfl (fun _ => ⟨by simp, zcU _ _ (by omega)⟩) (by simp) ?_
 simp
 refine zak (avs := [needs a.needs, needs b.needs]) (.bool (decide (a.needs = b.needs))) rfl (fun _ => ⟨by simp, zf0 _ _ (by omega)⟩) (by simp) ?_
 simp [zgv, zkb, Bool.and_assoc]
 simp only [bdec]
end Go.Lb.LK
namespace Go.Lb.LK
open Go Go.Lb Go.Proofs Go.RowKit
theorem lih (l : Lay) (im : Img) (h : Hd) : AV.pureAll (l.cells ++ im.cells ++ h.cells) = true := by simp [zaf]
theorem zbb (h : Hd) : (zai h).length ≤ h.needs.length := List.length_filter_le _ _
def zaG (h : Hd) : List Int := (h.path.steps.drop h.gone.toNat).map (·.s) ++ if h.opn = true then [] else h.over.map (·.s)
theorem zdA {α : Type} (l : List α) {g i : Nat} (hg : g ≤ i) (h : i < l.length) : (l.take (i + 1)).drop g = (l.take i).drop g ++ [l[i]] := by
 rw [List.take_add_one, List.getElem?_eq_getElem h, List.drop_append_of_le_length (by rw [List.length_take]; omega)]; rfl
theorem zh2 (h : Hd) : (zaG h).length ≤ h.path.steps.length + h.over.length := by
 unfold zaG
 rw [List.length_append, List.length_map, List.length_drop]
 split <;> simp <;> omega
theorem zfV (h : Hd) (hl : h.len) : C f_lockbarref17_Sections [h.av] (ints (zaG h)) := by
 obtain ⟨h1, h2, h3⟩ := hl
 refine ctr h.cells run_lockbarref17_Sections rfl (by simp) (by simp) ?_ rfl
 unfold rt_lockbarref17_Sections
 simp [Hd.cells]
 obtain ⟨g, hg⟩ : ∃ g : Nat, g = h.gone.toNat := ⟨_, rfl⟩
 refine zac rfl (fun vs => ∃ i : Nat, g ≤ i ∧ vs = [ints (((h.path.steps.take i).drop g).map (·.s)), I i]) (fun vs => match vs with | [_, .int _ j] => h.path.steps.length - j.toNat | _ => 0) ⟨g, by omega, by simp; omega⟩ ?_
 rintro vs - ⟨i, hgi, rfl⟩
 simp
 refine ⟨fun hlt => ?_, fun hge => ?_⟩
 ·have hw := zad (i := i) (by omega)
  have := zdA h.path.steps hgi hlt
  simp [hlt, Step.cells, hw]
  refine ⟨by omega, ⟨i + 1, by omega, ?_, by omega⟩, by omega⟩
  have e := congrArg (List.map (I ∘ fun x : Step => x.s)) this
  simp at e
  exact e.symm
 ·have ht : (h.path.steps.map (fun x => x.s)).take i = h.path.steps.map (fun x => x.s) := List.take_of_length_le (by simp; omega)
  rw [ht]
  refine zac rfl (fun vs => ∃ k : Nat, k ≤ h.over.length ∧ (h.opn = true → k = 0) ∧ vs = [ints ((h.path.steps.drop g).map (·.s) ++ (h.over.take k).map (·.s)), I k]) (fun vs => match vs with | [_, .int _ j] => h.over.length - j.toNat | _ => 0) ⟨0, by omega, by simp, by simp⟩ ?_
  rintro vs - ⟨k, hk, hko, rfl⟩
  simp
  cases ho : h.opn
  ·simp
   refine ⟨fun hlt => ?_, fun hge => ?_⟩
   ·have hw := zad (i := k) (by omega)
    have hmt := map_take (I ∘ fun x : Step => x.s) h.over hlt
    simp [hlt, Step.cells, hw]
    refine ⟨by omega, ⟨k + 1, by omega, ?_, by omega⟩, by omega⟩
    simpa using hmt.symm
   ·have : h.over.take k = h.over := List.take_of_length_le (by omega)
    simp [zaG, ho, this, hg]
    rw [List.take_of_length_le (by simpa using hge)]
  ·simp [zaG, ho, hg, hko ho]
theorem znE (h : Hd) (hl : h.len) (s : Int) : C f_lockbarref17_Has [h.av, I s] (.bool (decide (s ∈ zaG h))) := by
 have hl' := hl
 obtain ⟨h1, h2, h3⟩ := hl
 have hsl := zh2 h
 refine ctr (h.cells ++ [I s]) run_lockbarref17_Has rfl (by simp [zaf, AV.pureAll, AV.pure]) rfl ?_ rfl
 unfold rt_lockbarref17_Has
 simp [Hd.cells]
 refine call (zfV h hl') (by simp [Hd.cells]) (by simp) ?_
 simp
 refine zac rfl (fun vs => ∃ i : Nat, i ≤ (zaG h).length ∧ vs = [I i] ∧ zar (fun x => decide (x = s)) ((zaG h).take i)) (fun vs => match vs with | [.int _ j] => (zaG h).length - j.toNat | _ => 0) ⟨0, by simp, by simp, rfl⟩ ?_
 rintro vs - ⟨i, hik, rfl, hq⟩
 simp
 refine ⟨fun hlt => ?_, fun hge => ?_⟩
 ·have hw := zad (i := i) (by omega)
  simp [hlt, hw]
  by_cases he : (zaG h)[i] = s
  ·right
   exact ⟨he, he ▸ List.getElem_mem hlt⟩
  ·left
   exact ⟨he, ⟨i + 1, by omega, by omega, zao hlt hq (by simpa using he)⟩, by omega⟩
 ·have : (zaG h).take i = zaG h := List.take_of_length_le (by omega)
  rw [this] at hq
  unfold zar at hq
  simp at hq
  exact fun hm => hq s hm rfl
end Go.Lb.LK
namespace Go.Lb.LK
open Go Go.Lb Go.Proofs Go.RowKit
theorem zij (h : Hd) (hl : h.len) : C f_held_Sections [h.av] (ints (zaG h)) := by
 obtain ⟨h1, h2, h3⟩ := hl
 refine ctr h.cells run_held_Sections rfl (by simp) (by simp) ?_ rfl
 unfold rt_held_Sections
 simp [Hd.cells]
 obtain ⟨g, hg⟩ : ∃ g : Nat, g = h.gone.toNat := ⟨_, rfl⟩
 refine zac rfl (fun vs => ∃ i : Nat, i ≤ h.path.steps.length ∧ vs = [I i, ints (((h.path.steps.take i).drop g).map (·.s))]) (fun vs => match vs with | [.int _ j, _] => h.path.steps.length - j.toNat | _ => 0) ⟨0, by omega, by simp⟩ ?_
 rintro vs - ⟨i, hi, rfl⟩
 simp
 refine ⟨fun hlt => ?_, fun hge => ?_⟩
 ·have hw := zad (i := i) (by omega)
  simp [hlt, Step.cells, hw]
  refine ⟨fun hle => ?_, fun hle => ?_⟩
  ·have hgi : g ≤ i := by omega
   have := zdA h.path.steps hgi hlt
   have e := congrArg (List.map (I ∘ fun x : Step => x.s)) this
   simp at e
   refine ⟨by omega, ⟨i + 1, by omega, by omega, ?_⟩, by omega⟩
   exact e.symm
  ·refine ⟨⟨i + 1, by omega, by omega, ?_⟩, by omega⟩
   rw [List.drop_of_length_le (by simp; omega), List.drop_of_length_le (by simp; omega)]
 ·have ht : (h.path.steps.map (fun x => x.s)).take i = h.path.steps.map (fun x => x.s) := List.take_of_length_le (by simp; omega)
  rw [ht]
  refine zac rfl (fun vs => ∃ k : Nat, k ≤ h.over.length ∧ vs = [I k, ints ((h.path.steps.drop g).map (·.s) ++ if h.opn = true then [] else (h.over.take k).map (·.s))]) (fun vs => match vs with | [.int _ j, _] => h.over.length - j.toNat | _ => 0) ⟨0, by omega, by simp⟩ ?_
  rintro vs - ⟨k, hk, rfl⟩
  cases ho : h.opn
  ·simp
   refine ⟨fun hlt => ?_, fun hge => ?_⟩
   ·have hw := zad (i := k) (by omega)
    have hmt := map_take (I ∘ fun x : Step => x.s) h.over hlt
    simp [hlt, Step.cells, hw]
    refine ⟨by omega, ⟨k + 1, by omega, by omega, ?_⟩, by omega⟩
    simpa using hmt.symm
   ·have : h.over.take k = h.over := List.take_of_length_le (by omega)
    simp [zaG, ho, this, hg]
    rw [List.take_of_length_le (by simpa using hge)]
  ·simp
   refine ⟨fun hlt => ?_, fun hge => ?_⟩
   ·have hw := zad (i := k) (by omega)
    simp [hlt, Step.cells, hw]
    exact ⟨⟨k + 1, by omega, by omega⟩, by omega⟩
   ·simp [zaG, ho, hg]
theorem zf8 (h : Hd) (hl : h.len) (s : Int) : C f_held_Has [h.av, I s] (.bool (decide (s ∈ zaG h))) := by
 have hl' := hl
 obtain ⟨h1, h2, h3⟩ := hl
 have hsl := zh2 h
 refine ctr (h.cells ++ [I s]) run_held_Has rfl (by simp [zaf, AV.pureAll, AV.pure]) rfl ?_ rfl
 unfold rt_held_Has
 simp [Hd.cells]
 refine call (zij h hl') (by simp [Hd.cells]) (by simp) ?_
 simp
 refine zac rfl (fun vs => ∃ i : Nat, i ≤ (zaG h).length ∧ vs = [I i] ∧ zar (fun x => decide (x = s)) ((zaG h).take i)) (fun vs => match vs with | [.int _ j] => (zaG h).length - j.toNat | _ => 0) ⟨0, by simp, by simp, rfl⟩ ?_
 rintro vs - ⟨i, hik, rfl, hq⟩
 simp
 refine ⟨fun hlt => ?_, fun hge => ?_⟩
 ·have hw := zad (i := i) (by omega)
  simp [hlt, hw]
  by_cases he : s = (zaG h)[i]
  ·simp [he]
  ·have he2 : ¬ (zaG h)[i] = s := fun h => he h.symm
   simp [he]
   exact ⟨⟨i + 1, by omega, by omega, zao hlt hq (by simpa using he2)⟩, by omega⟩
 ·have : (zaG h).take i = zaG h := List.take_of_length_le (by omega)
  rw [this] at hq
  unfold zar at hq
  simp at hq
  exact fun hm => hq s hm rfl
def zcS (h : Hd) (p : Int) : Option Int := ((zai h).find? fun x => decide (x.p = p)).map (·.pos)
def optP (o : Option Int) : AV := .tup [I (o.getD 0), .bool o.isSome]
theorem zdn {α : Type} {q : α → Bool} {l : List α} {i : Nat} (hi : i < l.length) (h : zar q (l.take i)) (hq : q l[i] = true) : l.find? q = some l[i] := by
 have e : l.find? q = (l.take i ++ l.drop i).find? q := by rw [List.take_append_drop]
 rw [e, List.find?_append]
 have h1 : (l.take i).find? q = none := by
  rw [List.find?_eq_none]
  intro x hx hqx
  have := List.any_eq_false.1 h x hx
  exact this hqx
 rw [h1, List.drop_eq_getElem_cons hi, List.find?_cons, hq]
 rfl
theorem zfF {α : Type} {q : α → Bool} {l : List α} (h : zar q l) : l.find? q = none := by
 rw [List.find?_eq_none]
 intro x hx hqx
 exact List.any_eq_false.1 h x hx hqx
theorem zgK (h : Hd) (hl : h.len) (p : Int) : C f_held_Wants [h.av, I p] (optP (zcS h p)) := by
 have hnn := zbb h
 have hl3 := hl.2.2
 refine ctr (h.cells ++ [I p]) run_held_Wants rfl (by simp [zaf, AV.pureAll, AV.pure]) rfl ?_ rfl
 unfold rt_held_Wants
 simp [Hd.cells]
 refine call (zb8 h hl) (by simp [Hd.cells]) (by simp) ?_
 simp
 refine zac rfl (fun vs => ∃ i : Nat, i ≤ (zai h).length ∧ vs = [I i] ∧ zar (fun x => decide (x.p = p)) ((zai h).take i)) (fun vs => match vs with | [.int _ j] => (zai h).length - j.toNat | _ => 0) ⟨0, by simp, by simp, rfl⟩ ?_
 rintro vs - ⟨i, hik, rfl, hq⟩
 simp
 refine ⟨fun hlt => ?_, fun hge => ?_⟩
 ·have hw := zad (i := i) (by omega)
  by_cases he : (zai h)[i].p = p
  ·simp [hlt, Need.cells, hw, he, zcS, zdn hlt hq (by simpa using he), optP]
  ·simp [hlt, Need.cells, hw, he]
   exact ⟨⟨i + 1, by omega, by omega, zao hlt hq (by simpa using he)⟩, by omega⟩
 ·have : (zai h).take i = zai h := List.take_of_length_le (by omega)
  rw [this] at hq
  simp [zcS, zfF hq, optP]
theorem ziI (h : Hd) (hl : h.len) (p : Int) : C f_lockbarref17_Wants [h.av, I p] (optP (zcS h p)) := by
 have hnn := zbb h
 have hl3 := hl.2.2
 refine ctr (h.cells ++ [I p]) run_lockbarref17_Wants rfl (by simp [zaf, AV.pureAll, AV.pure]) rfl ?_ rfl
 unfold rt_lockbarref17_Wants
 simp [Hd.cells]
 refine call (zc6 h hl) (by simp [Hd.cells]) (by simp) ?_
 simp
 refine zac rfl (fun vs => ∃ i : Nat, i ≤ (zai h).length ∧ vs = [I i] ∧ zar (fun x => decide (x.p = p)) ((zai h).take i)) (fun vs => match vs with | [.int _ j] => (zai h).length - j.toNat | _ => 0) ⟨0, by simp, by simp, rfl⟩ ?_
 rintro vs - ⟨i, hik, rfl, hq⟩
 simp
 refine ⟨fun hlt => ?_, fun hge => ?_⟩
 ·have hw := zad (i := i) (by omega)
  by_cases he : (zai h)[i].p = p
  ·simp [hlt, Need.cells, hw, he, zcS, zdn hlt hq (by simpa using he), optP]
  ·simp [hlt, Need.cells, hw, he]
   exact ⟨⟨i + 1, by omega, by omega, zao hlt hq (by simpa using he)⟩, by omega⟩
 ·have : (zai h).take i = zai h := List.take_of_length_le (by omega)
  rw [this] at hq
  simp [zcS, zfF hq, optP]
end Go.Lb.LK
namespace Go.Lb.LK
open Go Go.Lb
@[simp] theorem zr1 : IntKind.u32.min = 0 := by decide +kernel
@[simp] theorem zrJ : IntKind.u32.max = 4294967295 := by decide +kernel
theorem zsI {cs : List AV} (h : imgT.fits cs) : ∃ x : Img, AV.agg cs = x.av ∧ x.ok := by
 simp only [imgT, inT, uT, iT, zcd, za3, zaY, za2, List.append_nil, List.cons_append, List.nil_append] at h
 obtain ⟨age, q, rfl, _, f0, q, rfl, _, f1, q, rfl, _, f2, q, rfl, _, f3, q, rfl, _, f4, q, rfl, _, f5, q, rfl, _, f6, q, rfl, _, f7, q, rfl, _, f8, q, rfl, _, f9, q, rfl, _, f10, q, rfl, _, f11, q, rfl, _, f12, q, rfl, _, f13, q, rfl, _, f14, q, rfl, _, f15, q, rfl, _, f16, q, rfl, _, f17, q, rfl, _, f18, q, rfl, _, f19, q, rfl, _, f20, q, rfl, _, f21, q, rfl, _, f22, q, rfl, _, f23, q, rfl, _, oc, q, rfl, h1, no, q, rfl, h2, re, q, rfl, h3, la, q, rfl, h4, rfl⟩ := h
 simp only [zr1, zrJ] at h1 h2 h3 h4
 exact ⟨⟨age, fun i => [f0, f1, f2, f3, f4, f5, f6, f7, f8, f9, f10, f11, f12, f13, f14, f15, f16, f17, f18, f19, f20, f21, f22, f23].getD i 0, oc, no, re, la⟩, rfl, h1, h2, h3, h4⟩
theorem zr3 {cs : List AV} (h : zsa.fits cs) : ∃ x : Hd, AV.agg cs = x.av ∧ 0 ≤ x.stage ∧ x.stage ≤ 255 := by
 simp only [zsa, zs4, iT, zcd, za3, zgM, zaY, zb7, za2, List.append_nil, List.cons_append, List.nil_append] at h
 obtain ⟨id, q, rfl, _, sig, q, rfl, _, ex, q, rfl, _, es, q, rfl, hs, ov, q, rfl, ho, ne, q, rfl, hn, st, q, rfl, h1, go, q, rfl, _, w0, q, rfl, w1, q, rfl, w2, q, rfl, w3, q, rfl, w4, q, rfl, w5, q, rfl, w6, q, rfl, w7, q, rfl, w8, q, rfl, w9, q, rfl, w10, q, rfl, w11, q, rfl, op, q, rfl, ti, q, rfl, _, sh, q, rfl, rfl⟩ := h
 obtain ⟨es, rfl⟩ := zgQ (g := Step.av) (fun cs h => zmv h) es hs.2
 obtain ⟨ov, rfl⟩ := zgQ (g := Step.av) (fun cs h => zmv h) ov ho.2
 obtain ⟨ne, rfl⟩ := zgQ (g := Need.av) (fun cs h => zrI h) ne hn.2
 exact ⟨⟨id, ⟨sig, ex, es⟩, ov, ne, st, go, fun i => [w0, w1, w2, w3, w4, w5, w6, w7, w8, w9, w10, w11].getD i false, op, ti, sh⟩, rfl, by simpa using h1⟩
theorem zl1 {x : AV} (h : imgT.fits x.cells) (h2 : zgg true x) : ∃ l : Img, x = l.av ∧ l.ok := by
 obtain ⟨cs, rfl⟩ := h2.1 rfl
 exact zsI h
end Go.Lb.LK
namespace Go.Lb.LK
open Go Go.Lb
structure Kern where
 next : Int
 held : List Hd
 want : Nat → Int
 run : Nat → Int
 fail : Nat → Bool
def zau (w r : Nat → Int) (f : Nat → Bool) : List AV := [I (w 0), I (r 0), .bool (f 0), I (w 1), I (r 1), .bool (f 1), I (w 2), I (r 2), .bool (f 2), I (w 3), I (r 3), .bool (f 3), I (w 4), I (r 4), .bool (f 4), I (w 5), I (r 5), .bool (f 5), I (w 6), I (r 6), .bool (f 6), I (w 7), I (r 7), .bool (f 7), I (w 8), I (r 8), .bool (f 8), I (w 9), I (r 9), .bool (f 9), I (w 10), I (r 10), .bool (f 10), I (w 11), I (r 11), .bool (f 11), I (w 12), I (r 12), .bool (f 12), I (w 13), I (r 13), .bool (f 13), I (w 14), I (r 14), .bool (f 14), I (w 15), I (r 15), .bool (f 15), I (w 16), I (r 16), .bool (f 16), I (w 17), I (r 17), .bool (f 17), I (w 18), I (r 18), .bool (f 18), I (w 19), I (r 19), .bool (f 19), I (w 20), I (r 20), .bool (f 20), I (w 21), I (r 21), .bool (f 21), I (w 22), I (r 22), .bool (f 22), I (w 23), I (r 23), .bool (f 23)]
def Kern.cells (k : Kern) : List AV := [I k.next, .sl (k.held.map Hd.av), I (k.want 0), I (k.run 0), .bool (k.fail 0), I (k.want 1), I (k.run 1), .bool (k.fail 1), I (k.want 2), I (k.run 2), .bool (k.fail 2), I (k.want 3), I (k.run 3), .bool (k.fail 3), I (k.want 4), I (k.run 4), .bool (k.fail 4), I (k.want 5), I (k.run 5), .bool (k.fail 5), I (k.want 6), I (k.run 6), .bool (k.fail 6), I (k.want 7), I (k.run 7), .bool (k.fail 7), I (k.want 8), I (k.run 8), .bool (k.fail 8), I (k.want 9), I (k.run 9), .bool (k.fail 9), I (k.want 10), I (k.run 10), .bool (k.fail 10), I (k.want 11), I (k.run 11), .bool (k.fail 11), I (k.want 12), I (k.run 12), .bool (k.fail 12), I (k.want 13), I (k.run 13), .bool (k.fail 13), I (k.want 14), I (k.run 14), .bool (k.fail 14), I (k.want 15), I (k.run 15), .bool (k.fail 15), I (k.want 16), I (k.run 16), .bool (k.fail 16), I (k.want 17), I (k.run 17), .bool (k.fail 17), I (k.want 18), I (k.run 18), .bool (k.fail 18), I (k.want 19), I (k.run 19), .bool (k.fail 19), I (k.want 20), I (k.run 20), .bool (k.fail 20), I (k.want 21), I (k.run 21), .bool (k.fail 21), I (k.want 22), I (k.run 22), .bool (k.fail 22), I (k.want 23), I (k.run 23), .bool (k.fail 23)]
abbrev Kern.av (k : Kern) : AV := .agg k.cells
abbrev zig (l : List Hd) : AV := .sl (l.map Hd.av)
@[simp] theorem zsv (l : List Hd) : AV.pureAll (l.map Hd.av) = true := zbJ _ (fun x => by simp [AV.pure]) l
@[simp] theorem Kern.pure (k : Kern) : AV.pureAll k.cells = true := by simp [Kern.cells, AV.pureAll, AV.pure]
structure Mach where
 want : Int
 run : Int
 fail : Bool
 deriving DecidableEq
def Mach.cells (m : Mach) : List AV := [I m.want, I m.run, .bool m.fail]
abbrev Mach.av (m : Mach) : AV := .agg m.cells
@[simp] theorem Mach.pure (m : Mach) : AV.pureAll m.cells = true := by simp [Mach.cells, AV.pureAll, AV.pure]
def Kern.mach (k : Kern) (i : Nat) : Mach := ⟨k.want i, k.run i, k.fail i⟩
theorem ztM (w r : Nat → Int) (f : Nat → Bool) {i : Nat} (h : i < 24) (d : AV) : (zau w r f).getD (i * 3) d = I (w i) := by
 match i, h with
 | 0, _ => rfl
 | 1, _ => rfl
 | 2, _ => rfl
 | 3, _ => rfl
 | 4, _ => rfl
 | 5, _ => rfl
 | 6, _ => rfl
 | 7, _ => rfl
 | 8, _ => rfl
 | 9, _ => rfl
 | 10, _ => rfl
 | 11, _ => rfl
 | 12, _ => rfl
 | 13, _ => rfl
 | 14, _ => rfl
 | 15, _ => rfl
 | 16, _ => rfl
 | 17, _ => rfl
 | 18, _ => rfl
 | 19, _ => rfl
 | 20, _ => rfl
 | 21, _ => rfl
 | 22, _ => rfl
 | 23, _ => rfl
 | n + 24, h => exact absurd h (by omega)
theorem zlu (w r : Nat → Int) (f : Nat → Bool) {i : Nat} (h : i < 24) (d : AV) : (zau w r f).getD (i * 3 + 2) d = .bool (f i) := by
 match i, h with
 | 0, _ => rfl
 | 1, _ => rfl
 | 2, _ => rfl
 | 3, _ => rfl
 | 4, _ => rfl
 | 5, _ => rfl
 | 6, _ => rfl
 | 7, _ => rfl
 | 8, _ => rfl
 | 9, _ => rfl
 | 10, _ => rfl
 | 11, _ => rfl
 | 12, _ => rfl
 | 13, _ => rfl
 | 14, _ => rfl
 | 15, _ => rfl
 | 16, _ => rfl
 | 17, _ => rfl
 | 18, _ => rfl
 | 19, _ => rfl
 | 20, _ => rfl
 | 21, _ => rfl
 | 22, _ => rfl
 | 23, _ => rfl
 | n + 24, h => exact absurd h (by omega)
def Kern.ok (k : Kern) : Prop := ∀ h ∈ k.held, 0 ≤ h.stage ∧ h.stage ≤ 255
def zcB : TS := .agg [iT, iT, .bool]
def zot : TS := .agg [iT, .sl true zsa, .agg [zcB, zcB, zcB, zcB, zcB, zcB, zcB, zcB, zcB, zcB, zcB, zcB, zcB, zcB, zcB, zcB, zcB, zcB, zcB, zcB, zcB, zcB, zcB, zcB]]
theorem zni : ∀ (n : Nat) (vals : List AV), TS.fitsAll (List.replicate n zcB) vals → ∃ ms : List Mach, ms.length = n ∧ vals = ms.flatMap Mach.cells
 | 0, vals, h => ⟨[], rfl, by rw [List.replicate_zero, za2] at h; rw [h]; rfl⟩
 | n + 1, vals, h => by
  rw [List.replicate_succ, zcB, zaY] at h
  simp only [iT, List.cons_append, List.nil_append, za3, zgM] at h
  obtain ⟨w, q, rfl, _, r, q, rfl, _, f, q, rfl, h⟩ := h
  obtain ⟨ms, h1, rfl⟩ := zni n q h
  exact ⟨⟨w, r, f⟩ :: ms, by simp [h1], rfl⟩
theorem zpt {ms : List Mach} (h : ms.length = 24) : ms.flatMap Mach.cells = zau (fun i => (ms[i]?.map (·.want)).getD 0) (fun i => (ms[i]?.map (·.run)).getD 0) (fun i => (ms[i]?.map (·.fail)).getD false) := by
 match ms, h with
 | [m0, m1, m2, m3, m4, m5, m6, m7, m8, m9, m10, m11, m12, m13, m14, m15, m16, m17, m18, m19, m20, m21, m22, m23], _ => rfl
theorem zam (k : Kern) : k.cells = I k.next :: zig k.held :: zau k.want k.run k.fail := rfl
theorem zrR {cs : List AV} (h : zot.fits cs) : ∃ x : Kern, AV.agg cs = x.av ∧ x.ok := by
 rw [zot, zcd, iT, za3] at h
 obtain ⟨n, q, rfl, _, h⟩ := h
 rw [zb7] at h
 obtain ⟨hs, q, rfl, hh, h⟩ := h
 rw [zaY, List.append_nil] at h
 obtain ⟨ms, h1, rfl⟩ := zni 24 q h
 obtain ⟨hs, rfl, hq⟩ := zmr (g := Hd.av) (Q := fun h => 0 ≤ h.stage ∧ h.stage ≤ 255) (fun cs h => zr3 h) hs hh.2
 rw [zpt h1]
 exact ⟨⟨n, hs, fun i => (ms[i]?.map (·.want)).getD 0, fun i => (ms[i]?.map (·.run)).getD 0, fun i => (ms[i]?.map (·.fail)).getD false⟩, rfl, hq⟩
theorem zkd {x : AV} (h : zot.fits x.cells) (h2 : zgg true x) : ∃ l : Kern, x = l.av ∧ l.ok := by
 obtain ⟨cs, rfl⟩ := h2.1 rfl
 exact zrR h
end Go.Lb.LK
namespace Go.Lb.LK
open Go Go.Lb Go.Proofs Go.RowKit
def zbm (a b : Hd) : Bool := !((zaG a).any fun s => decide (s ∈ zaG b)) && !ze6 (zai a) (zai b)
theorem hh (a b : Hd) : AV.pureAll (a.cells ++ b.cells) = true := by simp [zaf]
theorem zhQ {a b : Hd} {s : Int} (h1 : s ∈ zaG a) (h2 : s ∈ zaG b) : zbm a b = false := by
 have : ((zaG a).any fun s => decide (s ∈ zaG b)) = true := List.any_eq_true.2 ⟨s, h1, by simpa using h2⟩
 simp [zbm, this]
theorem zlm (a b : Hd) (ha : a.len) (hb : b.len) : C f_held_Apart [a.av, b.av] (.bool (zbm a b)) := by
 have hna := zbb a
 have hnb := zbb b
 have ha' := ha
 have hb' := hb
 obtain ⟨h1, h2, h3⟩ := ha
 obtain ⟨k1, k2, k3⟩ := hb
 refine ctr (a.cells ++ b.cells) run_held_Apart rfl (hh a b) rfl ?_ rfl
 unfold rt_held_Apart
 simp [Hd.cells]
 obtain ⟨g, hg⟩ : ∃ g : Nat, g = a.gone.toNat := ⟨_, rfl⟩
 refine zac rfl (fun vs => ∃ i : Nat, i ≤ a.path.steps.length ∧ vs = [I i] ∧ zar (fun s => decide (s ∈ zaG b)) (((a.path.steps.map fun x => x.s).take i).drop g)) (fun vs => match vs with | [.int _ j] => a.path.steps.length - j.toNat | _ => 0) ⟨0, by omega, by simp, by simp [zar]⟩ ?_
 rintro vs - ⟨i, hi, rfl, hq⟩
 simp
 refine ⟨fun hlt => ?_, fun hge => ?_⟩
 ·have hw := zad (i := i) (by omega)
  simp [hlt, Step.cells, hw]
  refine ⟨fun hle => ?_, fun hle => ?_⟩
  ·have hgi : g ≤ i := by omega
   have htd := zdA (a.path.steps.map fun x => x.s) hgi (by simpa using hlt)
   refine call (zf8 b hb' a.path.steps[i].s) (by simp [Hd.cells, hlt, Step.cells]) (by simp) ?_
   by_cases hm : a.path.steps[i].s ∈ zaG b
   ·have hma : a.path.steps[i].s ∈ zaG a := by
     unfold zaG
     refine List.mem_append_left _ (List.mem_map.2 ⟨a.path.steps[i], ?_, rfl⟩)
     rw [← hg]
     exact List.mem_drop_iff_getElem.2 ⟨i - g, by omega, by simp [show g + (i - g) = i by omega]⟩
    simp [hm, zhQ hma hm]
   ·simp [hm, hw]
    refine ⟨⟨i + 1, by omega, by omega, ?_⟩, by omega⟩
    unfold zar at hq ⊢
    rw [htd, List.any_append, hq]
    simpa using hm
  ·refine ⟨⟨i + 1, by omega, by omega, ?_⟩, by omega⟩
   rw [List.drop_of_length_le (by simp; omega)]; simp [zar]
 ·have ht : (a.path.steps.map fun x => x.s).take i = a.path.steps.map fun x => x.s := List.take_of_length_le (by simp; omega)
  rw [ht] at hq
  refine zac rfl (fun vs => ∃ k : Nat, k ≤ a.over.length ∧ vs = [I k] ∧ (a.opn = false → zar (fun s => decide (s ∈ zaG b)) ((a.over.map fun x => x.s).take k))) (fun vs => match vs with | [.int _ j] => a.over.length - j.toNat | _ => 0) ⟨0, by omega, by simp, fun _ => by simp [zar]⟩ ?_
  rintro vs - ⟨k, hk, rfl, hq2⟩
  simp
  refine ⟨fun hlt => ?_, fun hge => ?_⟩
  ·have hw := zad (i := k) (by omega)
   simp [hlt, Step.cells, hw]
   cases ho : a.opn
   ·simp
    refine call (zf8 b hb' a.over[k].s) (by simp [Hd.cells, hlt, Step.cells, ho]) (by simp) ?_
    by_cases hm : a.over[k].s ∈ zaG b
    ·have hma : a.over[k].s ∈ zaG a := by
      unfold zaG
      refine List.mem_append_right _ ?_
      simp only [ho, Bool.false_eq_true, if_false]
      exact List.mem_map_of_mem (List.getElem_mem hlt)
     simp [hm, zhQ hma hm]
    ·simp [hm, hw]
     refine ⟨⟨k + 1, by omega, by omega, ?_⟩, by omega⟩
     exact zao (q := fun s => decide (s ∈ zaG b)) (by simpa using hlt) (hq2 ho) (by simpa using hm)
   ·simp
    exact ⟨⟨k + 1, by omega, by omega⟩, by omega⟩
  ·have hov : (a.over.map fun x => x.s).take k = a.over.map fun x => x.s := List.take_of_length_le (by simp; omega)
   rw [hov] at hq2
   have hsa : zaG a = (a.path.steps.map fun x => x.s).drop g ++ if a.opn = true then [] else a.over.map fun x => x.s := by
    unfold zaG; rw [← hg, List.map_drop]
   have hnone : ((zaG a).any fun s => decide (s ∈ zaG b)) = false := by
    rw [hsa, List.any_append]
    unfold zar at hq hq2
    rw [hq]
    cases ho : a.opn
    ·simpa using hq2 ho
    ·simp
   refine call (zb8 a ha') (by simp [Hd.cells]) (by simp) ?_
   simp
   refine call (zb8 b hb') (by simp [Hd.cells]) (by simp) ?_
   simp
   refine call (zg1 (zai a) (zai b) (by omega) (by omega)) (by simp) (by simp) ?_
   simp only [zbm, hnone]
   simp
theorem zf9 (a b : Hd) (ha : a.len) (hb : b.len) : C f_lockbarref17_Apart [a.av, b.av] (.bool (zbm a b)) := by
 have hna := zbb a
 have hnb := zbb b
 have hsl := zh2 a
 have ha' := ha
 have hb' := hb
 obtain ⟨h1, h2, h3⟩ := ha
 obtain ⟨k1, k2, k3⟩ := hb
 refine ctr (a.cells ++ b.cells) run_lockbarref17_Apart rfl (hh a b) rfl ?_ rfl
 unfold rt_lockbarref17_Apart
 simp [Hd.cells]
 refine call (zfV a ha') (by simp [Hd.cells]) (by simp) ?_
 simp
 refine zac rfl (fun vs => ∃ i : Nat, i ≤ (zaG a).length ∧ vs = [I i] ∧ zar (fun s => decide (s ∈ zaG b)) ((zaG a).take i)) (fun vs => match vs with | [.int _ j] => (zaG a).length - j.toNat | _ => 0) ⟨0, by omega, by simp, rfl⟩ ?_
 rintro vs - ⟨i, hi, rfl, hq⟩
 simp
 refine ⟨fun hlt => ?_, fun hge => ?_⟩
 ·have hw := zad (i := i) (by omega)
  simp [hlt]
  refine call (znE b hb' (zaG a)[i]) (by simp [Hd.cells, hlt]) (by simp) ?_
  by_cases hm : (zaG a)[i] ∈ zaG b
  ·simp [hm, zhQ (List.getElem_mem hlt) hm]
  ·simp [hm, hw]
   exact ⟨⟨i + 1, by omega, by omega, zao hlt hq (by simpa using hm)⟩, by omega⟩
 ·have ht : (zaG a).take i = zaG a := List.take_of_length_le (by omega)
  rw [ht] at hq
  unfold zar at hq
  refine call (zc6 a ha') (by simp [Hd.cells]) (by simp) ?_
  simp
  refine call (zc6 b hb') (by simp [Hd.cells]) (by simp) ?_
  simp
  refine call (ziT (zai a) (zai b) (by omega) (by omega)) (by simp) (by simp) ?_
  simp only [zbm, hq]
  simp
def zaZ (m : Mach) : Bool := (decide (m.want = 0 ∨ m.want = 1) && decide (0 ≤ m.run ∧ m.run ≤ 1000)) || decide (m = ⟨-1, 0, false⟩)
theorem zqD {a b : Mach} : a = b ↔ a.want = b.want ∧ a.run = b.run ∧ a.fail = b.fail := by
 cases a; cases b; simp
theorem zcK (n : Int) : C f_point_position [I n] (.bool (decide (n = 0 ∨ n = 1))) := by
 refine ctr [I n] run_point_position rfl rfl rfl ?_ rfl
 unfold rt_point_position
 simp
 by_cases h1 : n = 0 <;> by_cases h2 : n = 1 <;> simp [h1, h2]
theorem zcA : C f_point_Rest [] (Mach.av ⟨-1, 0, false⟩) := by
 refine ctr [] run_point_Rest rfl rfl rfl ?_ rfl
 unfold rt_point_Rest
 simp [Mach.cells]
theorem zdL : C f_lockbarref16_Rest [] (Mach.av ⟨-1, 0, false⟩) := by
 refine ctr [] run_lockbarref16_Rest rfl rfl rfl ?_ rfl
 unfold rt_lockbarref16_Rest
 simp [Mach.cells]
theorem zno (a b c d : Int) (e f : Bool) : AV.eqs [I a, I b, .bool e] [I c, I d, .bool f] = decide ((⟨a, b, e⟩ : Mach) = ⟨c, d, f⟩) := by
 by_cases h1 : a = c <;> by_cases h2 : b = d <;> cases e <;> cases f <;> simp [AV.eqs, AV.eq1, h1, h2]
theorem zcV (m : Mach) : C f_point_Right [m.av] (.bool (zaZ m)) := by
 refine ctr m.cells run_point_Right rfl (by simp) rfl ?_ rfl
 unfold rt_point_Right
 obtain ⟨w, r, f⟩ := m
 simp [Mach.cells]
 refine call (zcK w) (by simp) (by simp) ?_
 simp
 refine zak (avs := []) (Mach.av ⟨-1, 0, false⟩) rfl (fun _ => ⟨rfl, zcA⟩) (fun _ => rfl) ?_
 simp [Mach.cells, zno, zaZ]
 by_cases h1 : w = 0 <;> by_cases h2 : w = 1 <;> by_cases h3 : w = -1 <;> by_cases h4 : r = 0 <;> cases f <;> simp [h1, h2, h3, h4, Bool.and_assoc]
theorem zeX (m : Mach) : C f_lockbarref16_Right [m.av] (.bool (zaZ m)) := by
 refine ctr m.cells run_lockbarref16_Right rfl (by simp) rfl ?_ rfl
 unfold rt_lockbarref16_Right
 obtain ⟨w, r, f⟩ := m
 simp [Mach.cells]
 refine ⟨fun hb => ?_, fun h1 h2 h3 h4 => ?_⟩
 ·have e1 : ¬ (w = 0 ∨ w = 1) ∨ ¬ (0 ≤ r ∧ r ≤ 1000) := by omega
  have e2 : (⟨w, r, f⟩ : Mach) ≠ ⟨-1, 0, false⟩ := by
   intro h; rw [zqD] at h; simp at h; omega
  simp only [zaZ, e2, decide_false, Bool.or_false]
  rcases e1 with e1 | e1 <;> simp [e1]
 ·refine zak (avs := []) (Mach.av ⟨-1, 0, false⟩) rfl (fun _ => ⟨rfl, zdL⟩) (fun _ => rfl) ?_
  have hw : w = -1 ∨ w = 0 ∨ w = 1 := by omega
  rcases hw with rfl | rfl | rfl <;> simp [Mach.cells, zno, zaZ, h3, h4] <;> rfl
end Go.Lb.LK
namespace Go.Lb.LK
open Go Go.Lb Go.Proofs Go.RowKit
def Kern.len (k : Kern) : Prop := k.held.length ≤ 1048576 ∧ ∀ h ∈ k.held, h.len
theorem ks (k : Kern) (s : Int) : AV.pureAll (k.cells ++ [I s]) = true := by simp [zaf, AV.pureAll, AV.pure]
theorem Kern.at (k : Kern) (hl : k.len) {i : Nat} (h : i < k.held.length) : k.held[i].len := hl.2 _ (List.getElem_mem h)
def zbV (k : Kern) (s : Int) : Option Int := (k.held.find? fun h => decide (s ∈ zaG h)).map (·.id)
theorem zjv (k : Kern) (hl : k.len) (s : Int) : C f_free_Holder [k.av, I s] (optP (zbV k s)) := by
 have h1 := hl.1
 refine ctr (k.cells ++ [I s]) run_free_Holder rfl (ks k s) rfl ?_ rfl
 unfold rt_free_Holder
 simp [Kern.cells]
 refine zac rfl (fun vs => ∃ i : Nat, i ≤ k.held.length ∧ vs = [I i] ∧ zar (fun h => decide (s ∈ zaG h)) (k.held.take i)) (fun vs => match vs with | [.int _ j] => k.held.length - j.toNat | _ => 0) ⟨0, by omega, by simp, rfl⟩ ?_
 rintro vs - ⟨i, hi, rfl, hq⟩
 simp
 refine ⟨fun hlt => ?_, fun hge => ?_⟩
 ·have hw := zad (i := i) (by omega)
  simp [hlt, Hd.cells]
  refine call (zf8 k.held[i] (k.at hl hlt) s) (by simp [hlt, Hd.cells]) (by simp) ?_
  by_cases hm : s ∈ zaG k.held[i]
  ·simp [hm, hlt, Hd.cells, zbV, zdn hlt hq (by simpa using hm), optP]
  ·simp [hm, hw]
   exact ⟨⟨i + 1, by omega, by omega, zao hlt hq (by simpa using hm)⟩, by omega⟩
 ·have : k.held.take i = k.held := List.take_of_length_le (by omega)
  rw [this] at hq
  simp [zbV, zfF hq, optP]
theorem zfu (k : Kern) (hl : k.len) (s : Int) : C f_lockbarref18_Holder [k.av, I s] (optP (zbV k s)) := by
 have h1 := hl.1
 refine ctr (k.cells ++ [I s]) run_lockbarref18_Holder rfl (ks k s) rfl ?_ rfl
 unfold rt_lockbarref18_Holder
 simp [Kern.cells]
 refine zac rfl (fun vs => ∃ i : Nat, i ≤ k.held.length ∧ vs = [I i] ∧ zar (fun h => decide (s ∈ zaG h)) (k.held.take i)) (fun vs => match vs with | [.int _ j] => k.held.length - j.toNat | _ => 0) ⟨0, by omega, by simp, rfl⟩ ?_
 rintro vs - ⟨i, hi, rfl, hq⟩
 simp
 refine ⟨fun hlt => ?_, fun hge => ?_⟩
 ·have hw := zad (i := i) (by omega)
  simp [hlt, Hd.cells]
  refine call (znE k.held[i] (k.at hl hlt) s) (by simp [hlt, Hd.cells]) (by simp) ?_
  by_cases hm : s ∈ zaG k.held[i]
  ·simp [hm, hlt, Hd.cells, zbV, zdn hlt hq (by simpa using hm), optP]
  ·simp [hm, hw]
   exact ⟨⟨i + 1, by omega, by omega, zao hlt hq (by simpa using hm)⟩, by omega⟩
 ·have : k.held.take i = k.held := List.take_of_length_le (by omega)
  rw [this] at hq
  simp [zbV, zfF hq, optP]
def zbB (k : Kern) (p : Int) : Option Int := k.held.findSome? fun h => zcS h p
theorem zq8 {α β : Type} {q : α → Option β} {l : List α} {i : Nat} {b : β} (hi : i < l.length) (h : zar (fun x => (q x).isSome) (l.take i)) (hq : q l[i] = some b) : l.findSome? q = some b := by
 have e : l.findSome? q = (l.take i ++ l.drop i).findSome? q := by rw [List.take_append_drop]
 rw [e, List.findSome?_append]
 have h1 : (l.take i).findSome? q = none := by
  rw [List.findSome?_eq_none_iff]
  intro x hx
  have := List.any_eq_false.1 h x hx
  simpa using this
 rw [h1, List.drop_eq_getElem_cons hi, List.findSome?_cons, hq]
 rfl
theorem zpC {α β : Type} {q : α → Option β} {l : List α} (h : zar (fun x => (q x).isSome) l) : l.findSome? q = none := by
 rw [List.findSome?_eq_none_iff]
 intro x hx
 have := List.any_eq_false.1 h x hx
 simpa using this
theorem zj1 (k : Kern) (hl : k.len) (p : Int) : C f_free_Wanted [k.av, I p] (optP (zbB k p)) := by
 have h1 := hl.1
 refine ctr (k.cells ++ [I p]) run_free_Wanted rfl (ks k p) rfl ?_ rfl
 unfold rt_free_Wanted
 simp [Kern.cells]
 refine zac rfl (fun vs => ∃ i : Nat, i ≤ k.held.length ∧ vs = [I i] ∧ zar (fun h => (zcS h p).isSome) (k.held.take i)) (fun vs => match vs with | [.int _ j] => k.held.length - j.toNat | _ => 0) ⟨0, by omega, by simp, rfl⟩ ?_
 rintro vs - ⟨i, hi, rfl, hq⟩
 simp
 refine ⟨fun hlt => ?_, fun hge => ?_⟩
 ·have hw := zad (i := i) (by omega)
  simp [hlt, Hd.cells]
  refine call (zgK k.held[i] (k.at hl hlt) p) (by simp [hlt, Hd.cells]) (by simp [optP]) ?_
  cases hm : zcS k.held[i] p with
  | some b => simp [optP, zbB, zq8 hlt hq hm]
  | none =>
   simp [optP, hw]
   exact ⟨⟨i + 1, by omega, by omega, zao hlt hq (by simp [hm])⟩, by omega⟩
 ·have : k.held.take i = k.held := List.take_of_length_le (by omega)
  rw [this] at hq
  simp [zbB, zpC hq, optP]
theorem zdS (k : Kern) (hl : k.len) (p : Int) : C f_lockbarref18_Wanted [k.av, I p] (optP (zbB k p)) := by
 have h1 := hl.1
 refine ctr (k.cells ++ [I p]) run_lockbarref18_Wanted rfl (ks k p) rfl ?_ rfl
 unfold rt_lockbarref18_Wanted
 simp [Kern.cells]
 refine zac rfl (fun vs => ∃ i : Nat, i ≤ k.held.length ∧ vs = [I i] ∧ zar (fun h => (zcS h p).isSome) (k.held.take i)) (fun vs => match vs with | [.int _ j] => k.held.length - j.toNat | _ => 0) ⟨0, by omega, by simp, rfl⟩ ?_
 rintro vs - ⟨i, hi, rfl, hq⟩
 simp
 refine ⟨fun hlt => ?_, fun hge => ?_⟩
 ·have hw := zad (i := i) (by omega)
  simp [hlt, Hd.cells]
  refine call (ziI k.held[i] (k.at hl hlt) p) (by simp [hlt, Hd.cells]) (by simp [optP]) ?_
  cases hm : zcS k.held[i] p with
  | some b => simp [optP, zbB, zq8 hlt hq hm]
  | none =>
   simp [optP, hw]
   exact ⟨⟨i + 1, by omega, by omega, zao hlt hq (by simp [hm])⟩, by omega⟩
 ·have : k.held.take i = k.held := List.take_of_length_le (by omega)
  rw [this] at hq
  simp [zbB, zpC hq, optP]
def zaA (k : Kern) (p : Int) : Bool := k.held.any fun h => (zcS h p).isSome && !decide (h.stage = 1)
theorem zd3 (k : Kern) (hl : k.len) (p : Int) : C f_free_Locked [k.av, I p] (.bool (zaA k p)) := by
 have h1 := hl.1
 refine ctr (k.cells ++ [I p]) run_free_Locked rfl (ks k p) rfl ?_ rfl
 unfold rt_free_Locked
 simp [Kern.cells]
 refine zac rfl (fun vs => ∃ i : Nat, i ≤ k.held.length ∧ vs = [I i] ∧ zar (fun h => (zcS h p).isSome && !decide (h.stage = 1)) (k.held.take i)) (fun vs => match vs with | [.int _ j] => k.held.length - j.toNat | _ => 0) ⟨0, by omega, by simp, rfl⟩ ?_
 rintro vs - ⟨i, hi, rfl, hq⟩
 simp
 refine ⟨fun hlt => ?_, fun hge => ?_⟩
 ·have hw := zad (i := i) (by omega)
  simp [hlt, Hd.cells]
  refine call (zgK k.held[i] (k.at hl hlt) p) (by simp [hlt, Hd.cells]) (by simp [optP]) ?_
  cases hm : zcS k.held[i] p with
  | some b =>
   by_cases hs : k.held[i].stage = 1
   ·simp [optP, hlt, Hd.cells, hs, hw]
    exact ⟨⟨i + 1, by omega, by omega, zao hlt hq (by simp [hs])⟩, by omega⟩
   ·have : zaA k p = true := zcc hlt (by simp [hm, hs])
    simp [optP, hlt, Hd.cells, hs, this]
  | none =>
   simp [optP, hlt, Hd.cells, hw]
   exact ⟨⟨i + 1, by omega, by omega, zao hlt hq (by simp [hm])⟩, by omega⟩
 ·have : k.held.take i = k.held := List.take_of_length_le (by omega)
  rw [this] at hq
  have : zaA k p = false := hq
  simp [this]
theorem zdh (k : Kern) (hl : k.len) (p : Int) : C f_lockbarref18_Locked [k.av, I p] (.bool (zaA k p)) := by
 have h1 := hl.1
 refine ctr (k.cells ++ [I p]) run_lockbarref18_Locked rfl (ks k p) rfl ?_ rfl
 unfold rt_lockbarref18_Locked
 simp [Kern.cells]
 refine zac rfl (fun vs => ∃ i : Nat, i ≤ k.held.length ∧ vs = [I i] ∧ zar (fun h => (zcS h p).isSome && !decide (h.stage = 1)) (k.held.take i)) (fun vs => match vs with | [.int _ j] => k.held.length - j.toNat | _ => 0) ⟨0, by omega, by simp, rfl⟩ ?_
 rintro vs - ⟨i, hi, rfl, hq⟩
 simp
 refine ⟨fun hlt => ?_, fun hge => ?_⟩
 ·have hw := zad (i := i) (by omega)
  simp [hlt, Hd.cells]
  refine call (ziI k.held[i] (k.at hl hlt) p) (by simp [hlt, Hd.cells]) (by simp [optP]) ?_
  cases hm : zcS k.held[i] p with
  | some b =>
   by_cases hs : k.held[i].stage = 1
   ·simp [optP, hlt, Hd.cells, hs, hw]
    exact ⟨⟨i + 1, by omega, by omega, zao hlt hq (by simp [hs])⟩, by omega⟩
   ·have : zaA k p = true := zcc hlt (by simp [hm, hs])
    simp [optP, hlt, Hd.cells, hs, this]
  | none =>
   simp [optP, hlt, Hd.cells, hw]
   exact ⟨⟨i + 1, by omega, by omega, zao hlt hq (by simp [hm])⟩, by omega⟩
 ·have : k.held.take i = k.held := List.take_of_length_le (by omega)
  rw [this] at hq
  have : zaA k p = false := hq
  simp [this]
end Go.Lb.LK
namespace Go.Lb.LK
open Go Go.Lb Go.Proofs Go.RowKit
theorem Hd.one (h : Hd) : h.cells.length = 23 ∧ AV.ones h.cells = true := by simp [Hd.cells]
theorem zqE (l : List Hd) {i : Nat} (h : i < l.length) : (l.map Hd.av).set i l[i].av = l.map Hd.av := by
 have : (l.map Hd.av)[i]'(by simpa using h) = l[i].av := by simp
 rw [← this, List.set_getElem_self]
theorem zgu (k : Kern) (hl : k.len) : C f_free_Own [k.av] k.av := by
 have h1 := hl.1
 refine ctr k.cells run_free_Own rfl (by simp) (by simp [AV.pure]) ?_ rfl
 unfold rt_free_Own
 simp [Kern.cells]
 refine ⟨⟨fun a _ => a.one, by omega, ?_⟩, fun he => ?_⟩
 ·refine zac rfl (fun vs => ∃ i : Nat, i ≤ k.held.length ∧ vs = [I i, zig k.held]) (fun vs => match vs with | [.int _ j, _] => k.held.length - j.toNat | _ => 0) ⟨0, by omega, by simp⟩ ?_
  rintro vs - ⟨i, hi, rfl⟩
  simp
  refine ⟨fun hlt => ?_, fun hge => ?_⟩
  ·have hw := zad (i := i) (by omega)
   simp [hlt, Hd.cells]
   refine call (zca k.held[i] (k.at hl hlt)) (by simp [hlt, Hd.cells]) (by simp) ?_
   simp [hlt, Hd.cells, hw]
   refine ⟨⟨i + 1, by omega, by omega, ?_⟩, by omega⟩
   exact zqE k.held hlt
  ·simp [Kern.cells]
 ·refine zac rfl (fun vs => vs = []) (fun _ => 0) rfl ?_
  rintro vs - rfl
  simp [Kern.cells, he]
end Go.Lb.LK
namespace Go.Lb.LK
open Go Go.Lb Go.Proofs Go.RowKit
theorem zaM {h : Hd} (hr : zay h = true) : h.g1 ∧ h.g2 ∧ ze6 h.needs h.needs = false ∧ h.wasOk = true ∧ h.secs.Nodup ∧ h.needs.all (zdP h.path.steps.length) = true := by
 simp only [zay, Bool.and_eq_true, decide_eq_true_eq, Bool.not_eq_true'] at hr
 exact ⟨hr.1, hr.2.1, hr.2.2.1, hr.2.2.2.1, hr.2.2.2.2.1, hr.2.2.2.2.2⟩
theorem zqt (h : Hd) (k : Nat) (hk : k < 12) : (h.cells[k * 1 + 8]?).getD .undef = .bool (h.was k) := by
 rw [Nat.mul_one, ← List.getD_eq_getElem?_getD]; exact zrC h hk _
theorem zlF {l : List Int} {i j : Nat} (hij : i < j) (hj : j < l.length) (he : l[i] = l[j]) : ¬ l.Nodup := by
 intro hn
 have := List.pairwise_iff_getElem.1 hn i j (by omega) hj hij
 exact this he
theorem zob {l : List Int} {k : Nat} (hk : k < l.length) (hn : (l.take k).Nodup) (hi : ∀ i, (h : i < k) → l[i] ≠ l[k]) : (l.take (k + 1)).Nodup := by
 rw [List.take_add_one, List.getElem?_eq_getElem hk]
 simp only [Option.toList_some]
 rw [List.nodup_append]
 refine ⟨hn, by simp, ?_⟩
 intro a ha b hb
 simp at hb; subst hb
 obtain ⟨i, hi2, rfl⟩ := List.mem_iff_getElem.1 ha
 rw [List.length_take] at hi2
 rw [List.getElem_take]
 exact hi i (by omega)
theorem zgr (h : Hd) (hl : h.len) (hs : 0 ≤ h.stage ∧ h.stage ≤ 255) : C f_lockbarref17_Right [h.av] (.bool (zay h)) := by
 obtain ⟨l1, l2, l3⟩ := hl
 refine ctr h.cells run_lockbarref17_Right rfl (by simp) rfl ?_ rfl
 unfold rt_lockbarref17_Right
 simp [Hd.cells]
 refine zak (avs := [needs h.needs, needs h.needs]) (.bool (ze6 h.needs h.needs)) rfl (fun _ => ⟨by simp, ziT _ _ (by omega) (by omega)⟩) (by simp) ?_
 by_cases g1 : h.g1 ∧ h.g2
 ·have g1' := g1.1
  have g2' := g1.2
  obtain ⟨⟨a1, a2, a3, a4, a5, a6, a7⟩, d1, d2, d3, d4⟩ := g1
  have b1 : ¬ h.id < 1 := by omega
  have b2 : ¬ 1073741824 < h.id := by omega
  have b2' : ¬ 1073741824 < h.timer := by omega
  have b3 : ¬ h.timer < 0 := by omega
  have b4 : ¬ ((h.path.steps.length : Int) < 1) := by omega
  have b5 : ¬ (12 < (h.path.steps.length : Int)) := by omega
  have b6 : ¬ (2 < (h.over.length : Int)) := by omega
  have e1 : ¬ h.stage < 1 := by omega
  have e2 : ¬ 5 ≤ h.stage := by omega
  have e3 : ¬ h.gone < 0 := by omega
  have e4 : ¬ (h.path.steps.length : Int) < h.gone := by omega
  simp [b1, b2, b2', b3, b4, b5, b6, e1, e2, e3, e4]
  refine ⟨fun hc => by simp [zay, hc], fun hc => ⟨fun a _ => by simp [Step.cells], by omega, fun a _ => by simp [Step.cells], by omega, ?_⟩⟩
  have hsecs : h.secs = (h.path.steps ++ h.over).map (·.s) := rfl
  have hlen : (h.path.steps ++ h.over).length = h.path.steps.length + h.over.length := by simp
  generalize hall : h.path.steps ++ h.over = all at hsecs hlen
  have hmap : List.map Step.av h.path.steps ++ List.map Step.av h.over = all.map Step.av := by rw [← hall, List.map_append]
  refine zac rfl (fun vs => ∃ k : Nat, k ≤ all.length ∧ vs = [I k] ∧ ((all.map (·.s)).take k).Nodup) (fun vs => match vs with | [.int _ j] => all.length - j.toNat | _ => 0) ⟨0, by simp, by simp, by simp⟩ ?_
  rintro vs - ⟨k, hk, rfl, hnd⟩
  simp [hmap, ← hlen]
  refine ⟨fun hlt => ?_, fun hge => ?_⟩
  ·have hltm : k < (all.map (·.s)).length := by simpa using hlt
   refine zac rfl (fun vs => ∃ j : Nat, j ≤ k ∧ vs = [I j] ∧ ∀ i, i < j → ∀ x, all[i]? = some x → ¬ x.s = all[k].s) (fun vs => match vs with | [.int _ j] => k - j.toNat | _ => 0) ⟨0, by simp, by simp, by simp⟩ ?_
   rintro vs - ⟨j, hj, rfl, hne⟩
   simp [hmap]
   refine ⟨fun hjk => ?_, fun hjk => ?_⟩
   ·have hja : j < all.length := by omega
    have hwr := zad (i := j) (by omega)
    simp [hlt, hja, Step.cells, hwr]
    refine ⟨by omega, by omega, ?_⟩
    by_cases he : all[j].s = all[k].s
    ·right
     refine ⟨he, ?_⟩
     have : ¬ h.secs.Nodup := by
      rw [hsecs]
      exact zlF (i := j) (j := k) (by omega) (by simpa using hlt) (by simpa using he)
     simp [zay, this]
    ·left
     refine ⟨he, ⟨j + 1, by omega, by omega, fun i hi x hx => ?_⟩, by omega⟩
     by_cases hij : i = j
     ·subst hij
      rw [List.getElem?_eq_getElem hja] at hx
      cases hx; exact he
     ·exact hne i (by omega) x hx
   ·have hwr := zad (i := k) (by omega)
    have hjk2 : j = k := by omega
    subst hjk2
    simp [hwr]
    refine ⟨⟨j + 1, by omega, by omega, ?_⟩, by omega⟩
    have := zob hltm hnd (fun i hi he => hne i hi all[i] (List.getElem?_eq_getElem (by omega)) (by simpa using he))
    simpa using this
  ·have hta : (all.map (·.s)).take k = all.map (·.s) := List.take_of_length_le (by simp; omega)
   rw [hta] at hnd
   have hno : h.secs.Nodup := by rw [hsecs]; exact hnd
   refine zac rfl (fun vs => ∃ k : Nat, h.path.steps.length ≤ k ∧ k ≤ 12 ∧ vs = [I k] ∧ ∀ m, h.path.steps.length ≤ m → m < k → h.was m = false) (fun vs => match vs with | [.int _ j] => 12 - j.toNat | _ => 0) ⟨h.path.steps.length, by simp, by omega, by simp, fun m h1 h2 => by omega⟩ ?_
   rintro vs - ⟨m, hm1, hm2, rfl, hwm⟩
   simp
   refine ⟨fun hlt => ?_, fun hge => ?_⟩
   ·have hlt2 : m < 12 := by omega
    have hwr := zad (i := m) (by omega)
    have hc2 := zqt h m hlt2
    simp only [Hd.cells] at hc2
    simp at hc2
    simp [hc2, hwr]
    refine ⟨by omega, by omega, ?_⟩
    cases hw : h.was m
    ·left
     refine ⟨rfl, ⟨m + 1, by omega, by omega, by omega, fun i h1 h2 => ?_⟩, by omega⟩
     by_cases him : i = m
     ·subst him; exact hw
     ·exact hwm i h1 (by omega)
    ·right
     refine ⟨rfl, ?_⟩
     have : h.wasOk = false := by
      unfold Hd.wasOk
      rw [List.all_eq_false]
      refine ⟨m, by simpa using hlt2, ?_⟩
      simp [hw]; omega
     simp [zay, this]
   ·have hwo : h.wasOk = true := by
     unfold Hd.wasOk
     rw [List.all_eq_true]
     intro i hi
     simp only [List.mem_range] at hi
     by_cases hin : i < h.path.steps.length
     ·simp [hin]
     ·rw [hwm i (by omega) (by omega)]; simp
    have hr : zay h = h.needs.all (zdP h.path.steps.length) := by simp [zay, g1', g2', hc, hwo, hno]
    rw [hr]
    refine zac rfl (fun vs => ∃ i : Nat, i ≤ h.needs.length ∧ vs = [I i] ∧ zar (fun x => !zdP h.path.steps.length x) (h.needs.take i)) (fun vs => match vs with | [.int _ j] => h.needs.length - j.toNat | _ => 0) ⟨0, by simp, by simp, rfl⟩ ?_
    rintro vs - ⟨i, hi, rfl, hq⟩
    simp
    refine ⟨fun hlt => ?_, fun hge => ?_⟩
    ·have hwr := zad (i := i) (by omega)
     simp [hlt, Need.cells, hwr]
     cases hok : zdP h.path.steps.length h.needs[i]
     ·right
      refine ⟨?_, h.needs[i], List.getElem_mem hlt, hok⟩
      simp only [zdP, decide_eq_false_iff_not] at hok
      omega
     ·left
      have hok2 := hok
      simp only [zdP, decide_eq_true_eq] at hok2
      exact ⟨by omega, ⟨i + 1, by omega, by omega, zao hlt hq (by simp [hok])⟩, by omega⟩
    ·have : h.needs.take i = h.needs := List.take_of_length_le (by omega)
     rw [this] at hq
     unfold zar at hq
     simp at hq
     exact fun x hx => hq x hx
 ·have hr : zay h = false := by
   simp only [zay]
   by_cases hg : h.g1
   ·have : ¬ h.g2 := fun h2 => g1 ⟨hg, h2⟩
    simp [this]
   ·simp [hg]
  rw [hr]
  simp
  intro q1 q2 q3 q4 q5 q6 q7 q8 q9 q10 q11 q12
  exfalso
  apply g1
  unfold Hd.g1 Hd.g2
  omega
end Go.Lb.LK
