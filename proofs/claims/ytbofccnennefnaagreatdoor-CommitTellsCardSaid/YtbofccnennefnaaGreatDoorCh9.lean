/- What the document says of a new image; of a route in two sections: the values. -/
import Derived.Test.YtbofccnennefnaaGreatDoorCh8
import Derived.Test.YtbofccnennefnaaGreatDoorCh6
import Derived.Test.YtbofccnennefnaaGreatDoorFw11
import Derived.Test.YtbofccnennefnaaGreatDoorCh5
import Derived.Test.YtbofccnennefnaaGreatDoorCh1
import Derived.Test.YtbofccnennefnaaGreatDoorCh7
set_option linter.unusedSimpArgs false
set_option linter.unusedVariables false
namespace Go.Lb.LK
open Go Go.Lb Go.Proofs Go.RowKit
def p18 : Path := ⟨0, 0, [⟨0, 0, 1⟩]⟩
def q18 : Path := ⟨5, 0, [⟨1, 0, 0⟩]⟩
def hd18 (st : Int) : Hd := ⟨3, p18, [⟨1, 0, 1⟩], [⟨7, 1, 0⟩], st, 0, fun _ => false, false, 0, false⟩
def k18 (st : Int) : Kern := ⟨4, [hd18 st], fun _ => -1, fun _ => 0, fun _ => false⟩
def zeroK : Kern := ⟨0, [], fun _ => 0, fun _ => 0, fun _ => false⟩
theorem f1 : canN zkG im18 znd p18 = 0 := by decide +kernel
theorem f2 : canN zkG zgW znd p18 = 190 := by decide +kernel
theorem f3 : zcY zkG im18 znd 1 = true ∧ zcY zkG zgW znd 1 = false := by decide +kernel
theorem f4 : zc1 (k18 1) 1 = some 3 ∧ zc1 (k18 1) 2 = none := by decide +kernel
theorem f5 : zdn (k18 1) 7 = some 1 := by decide +kernel
theorem f6 : zcu (k18 1) 7 = false ∧ zcu (k18 2) 7 = true := by decide +kernel
theorem f7 : canN zkG im18 (k18 2) q18 = 190 := by decide +kernel
theorem f8 : zbr zkG im18 (k18 2) ⟨7, 0, 0⟩ = false ∧ zbr zkG im18 (k18 2) ⟨-1, 0, 0⟩ = false := by decide +kernel
theorem f9 : zaO (k18 2) = true ∧ zaO znd = true ∧ zaO zeroK = false := by decide +kernel
theorem f10 : zlU (k18 2) znd = false := by decide +kernel
end Go.Lb.LK
namespace Go.Lb.LK
open Go Go.Lb Go.Proofs Go.RowKit
end Go.Lb.LK
namespace Go.Lb.LK
open Go Go.Lb Go.Proofs Go.RowKit
end Go.Lb.LK
namespace Go.Lb.LK
open Go Go.Lb Go.Proofs Go.RowKit
theorem zfI {k : Kern} (h : zaO k = true) {i : Nat} (hi : i < k.held.length) : zbf k.held[i] = true ∧ k.held[i].id < k.next ∧ zdA k i < k.held[i].id ∧ ∀ j, j < i → ∀ hj : j < k.held.length, zbn k.held[i] k.held[j] = true := by
 simp only [zaO, Bool.and_eq_true] at h
 have h1 := List.all_eq_true.1 h.2.1 i (List.mem_range.2 hi)
 rw [zlM hi] at h1
 simp only [Bool.and_eq_true, decide_eq_true_eq] at h1
 refine ⟨h1.1, h1.2.1, h1.2.2.1, fun j hj hj2 => ?_⟩
 exact List.all_eq_true.1 h1.2.2.2 _ (List.mem_take_iff_getElem.2 ⟨j, by omega, rfl⟩)
theorem zsj {a b : Hd} (h : zbn a b = true) {s : Int} (h1 : s ∈ zaI a) (h2 : s ∈ zaI b) : False := by
 rw [zhd h1 h2] at h; cases h
theorem zr9 {h : Hd} {p a : Int} (hw : zcF h p = some a) : ∃ n ∈ zbi h, n.p = p ∧ n.pos = a := by
 unfold zcF at hw
 obtain ⟨n, h1, h2⟩ := Option.map_eq_some_iff.1 hw
 exact ⟨n, List.mem_of_find?_eq_some h1, by simpa using List.find?_some h1, h2⟩
theorem zsa {a b : Hd} (h : zbn a b = true) {p x y : Int} (h1 : zcF a p = some x) (h2 : zcF b p = some y) : x = y := by
 obtain ⟨n, n1, n2, n3⟩ := zr9 h1
 obtain ⟨m, m1, m2, m3⟩ := zr9 h2
 by_cases hxy : x = y
 ·exact hxy
 ·exfalso
  have hc : zeN (zbi a) (zbi b) = true := by
   unfold zeN
   refine List.any_eq_true.2 ⟨n, n1, List.any_eq_true.2 ⟨m, m1, ?_⟩⟩
   simp [both, n2, m2, n3, m3, hxy]
  simp [zbn, hc] at h
theorem zsz {k : Kern} (hr : zaO k = true) {i : Nat} (hi : i < k.held.length) {s : Int} (hs : s ∈ zaI k.held[i]) : zc1 k s = some k.held[i].id := by
 have : zal (fun h => decide (s ∈ zaI h)) (k.held.take i) := by
  refine List.any_eq_false.2 fun x hx => ?_
  obtain ⟨j, hj, rfl⟩ := List.mem_take_iff_getElem.1 hx
  have := (zfI hr hi).2.2.2 j (by omega) (by omega)
  simp only [decide_eq_true_eq]
  exact fun h => zsj this hs h
 unfold zc1
 rw [zbM hi this (by simpa using hs)]; rfl
theorem zsF {k : Kern} (hr : zaO k = true) {i : Nat} (hi : i < k.held.length) {p a : Int} (hw : zcF k.held[i] p = some a) : zdn k p = some a := by
 unfold zdn
 cases hf : k.held.findSome? fun h => zcF h p with
 | none =>
  rw [List.findSome?_eq_none_iff] at hf
  rw [hf _ (List.getElem_mem hi)] at hw; cases hw
 | some b =>
  obtain ⟨l1, x, l2, e, h1, h2⟩ := List.findSome?_eq_some_iff.1 hf
  have hj : l1.length < k.held.length := by rw [e]; simp
  have hx : k.held[l1.length] = x := by simp [e]
  by_cases hij : i = l1.length
  ·subst hij
   rw [hx, h1] at hw; exact hw
  ·rcases Nat.lt_or_gt_of_ne hij with hlt | hgt
   ·exfalso
    have : k.held[i] ∈ l1 := by
     have : k.held[i] = l1[i]'hlt := by simp [e, List.getElem_append_left hlt]
     rw [this]; exact List.getElem_mem _
    rw [h2 _ this] at hw; cases hw
   ·have h3 := (zfI hr hi).2.2.2 l1.length hgt hj
    rw [hx] at h3
    rw [zsa h3 hw h1]
end Go.Lb.LK
namespace Go.Lb.LK
open Go Go.Lb Go.Proofs Go.RowKit
structure GoodL (nx : Int) (hs : List Hd) : Prop where
 right : ∀ h ∈ hs, zbf h = true
 lt : ∀ h ∈ hs, h.id < nx
 pw : hs.Pairwise fun a b => a.id < b.id ∧ zbn b a = true
theorem zqa {k : Kern} (hr : zaO k = true) : ∀ j, ∀ hj : j < k.held.length, ∀ i, ∀ hi : i < j, k.held[i].id < k.held[j].id := by
 intro j
 induction j with
 | zero => intro _ i hi; omega
 | succ j ih =>
  intro hj i hi
  have h1 := (zfI hr hj).2.2.1
  rw [zhC (by omega)] at h1
  by_cases hij : i = j
  ·subst hij; exact h1
  ·have := ih (by omega) i (by omega)
   omega
theorem zp7 {k : Kern} (hr : zaO k = true) : GoodL k.next k.held := by
 refine ⟨fun h hh => ?_, fun h hh => ?_, ?_⟩
 ·obtain ⟨i, hi, rfl⟩ := List.mem_iff_getElem.1 hh
  exact (zfI hr hi).1
 ·obtain ⟨i, hi, rfl⟩ := List.mem_iff_getElem.1 hh
  exact (zfI hr hi).2.1
 ·rw [List.pairwise_iff_getElem]
  exact fun i j hi hj hij => ⟨zqa hr j hj i hij, (zfI hr hj).2.2.2 i hij hi⟩
theorem zsO {k : Kern} (h1 : k.held.length ≤ 6) (h2 : 1 ≤ k.next) (h3 : k.next ≤ 1073741824) (hg : GoodL k.next k.held) (hm : zgd k = true) : zaO k = true := by
 have hp := List.pairwise_iff_getElem.1 hg.pw
 have : (List.range k.held.length).all (okAt k) = true := by
  refine zaA fun i hi => ?_
  rw [zlM hi]
  have hr := hg.right _ (List.getElem_mem hi)
  have hl := hg.lt _ (List.getElem_mem hi)
  have hid : zdA k i < k.held[i].id := by
   by_cases h0 : i = 0
   ·subst h0
    have := (zhQ hr).1
    unfold Hd.g1 at this
    simp only [zdA, if_true]
    omega
   ·obtain ⟨j, rfl⟩ : ∃ j, i = j + 1 := ⟨i - 1, by omega⟩
    rw [zhC (by omega)]
    exact (hp j (j + 1) (by omega) hi (by omega)).1
  have hap : (k.held.take i).all (zbn k.held[i]) = true := by
   rw [List.all_eq_true]
   intro x hx
   obtain ⟨j, hj, rfl⟩ := List.mem_take_iff_getElem.1 hx
   exact (hp j i (by omega) hi (by omega)).2
  simp [hr, hl, hid, hap]
 simp [zaO, h1, h2, h3, this, hm]
theorem zlK {k : Kern} (hr : zaO k = true) : k.held.length ≤ 6 ∧ 1 ≤ k.next ∧ k.next ≤ 1073741824 ∧ zgd k = true := by
 simp only [zaO, Bool.and_eq_true, decide_eq_true_eq] at hr
 exact ⟨hr.1.1, hr.1.2.1, hr.1.2.2, hr.2.2⟩
theorem GoodL.sub {nx : Int} {a b : List Hd} (h : GoodL nx b) (hs : a.Sublist b) : GoodL nx a :=
 ⟨fun x hx => h.right x (hs.subset hx), fun x hx => h.lt x (hs.subset hx), h.pw.sublist hs⟩
structure Less (a b : Hd) : Prop where
 id : a.id = b.id
 secs : ∀ s ∈ zaI a, s ∈ zaI b
 needs : ∀ n ∈ zbi a, n ∈ zbi b
theorem Less.refl (a : Hd) : Less a a := ⟨rfl, fun _ h => h, fun _ h => h⟩
theorem Less.apart {a b c d : Hd} (h1 : Less a b) (h2 : Less c d) (h : zbn b d = true) : zbn a c = true := by
 unfold zbn at h ⊢
 rw [Bool.and_eq_true, Bool.not_eq_true', Bool.not_eq_true'] at h ⊢
 constructor
 ·refine List.any_eq_false.2 fun s hs => ?_
  have := List.any_eq_false.1 h.1 s (h1.secs s hs)
  simp only [decide_eq_true_eq] at this ⊢
  exact fun hc => this (h2.secs s hc)
 ·refine List.any_eq_false.2 fun x hx => ?_
  have h3 := List.any_eq_false.1 h.2 x (h1.needs x hx)
  rw [Bool.not_eq_true] at h3 ⊢
  refine List.any_eq_false.2 fun y hy => ?_
  exact List.any_eq_false.1 h3 y (h2.needs y hy)
theorem GoodL.put {nx : Int} {hs : List Hd} {m : Nat} (hm : m < hs.length) {h : Hd} (hg : GoodL nx hs) (hl : Less h hs[m]) (hr : zbf h = true) : GoodL nx (hs.set m h) := by
 refine ⟨fun x hx => ?_, fun x hx => ?_, ?_⟩
 ·rcases List.mem_or_eq_of_mem_set hx with hx | rfl
  ·exact hg.right x hx
  ·exact hr
 ·rcases List.mem_or_eq_of_mem_set hx with hx | rfl
  ·exact hg.lt x hx
  ·rw [hl.id]; exact hg.lt _ (List.getElem_mem hm)
 ·rw [List.pairwise_iff_getElem]
  intro i j hi hj hij
  have hp := List.pairwise_iff_getElem.1 hg.pw i j (by simpa using hi) (by simpa using hj) hij
  simp only [List.getElem_set]
  by_cases h1 : m = i
  ·subst h1
   rw [if_pos rfl, if_neg (by omega)]
   exact ⟨by rw [hl.id]; exact hp.1, (Less.refl _).apart hl hp.2⟩
  ·by_cases h2 : m = j
   ·subst h2
    rw [if_neg h1, if_pos rfl]
    exact ⟨by rw [hl.id]; exact hp.1, hl.apart (Less.refl _) hp.2⟩
   ·rw [if_neg h1, if_neg h2]; exact hp
end Go.Lb.LK
namespace Go.Lb.LK
open Go Go.Lb Go.Proofs Go.RowKit
end Go.Lb.LK
namespace Go.Lb.LK
open Go Go.Lb Go.Proofs Go.RowKit
end Go.Lb.LK
namespace Go.Lb.LK
open Go Go.Lb Go.Proofs Go.RowKit
end Go.Lb.LK
namespace Go.Lb.LK
open Go Go.Lb Go.Proofs Go.RowKit
theorem Less.trans {a b c : Hd} (h1 : Less a b) (h2 : Less b c) : Less a c := ⟨h1.id.trans h2.id, fun s h => h2.secs s (h1.secs s h), fun s h => h2.needs s (h1.needs s h)⟩
end Go.Lb.LK
namespace Go.Lb.LK
open Go Go.Lb Go.Proofs Go.RowKit
def zix (l : Lay) : Bool := (l.exits.take 21).any (fun e => decide ((e.over.length : Int) > 20)) || decide ((l.secs.length : Int) > 30) || decide ((l.sigs.length : Int) > 20) || decide ((l.exits.length : Int) > 20) || decide ((l.flanks.length : Int) > 30)
theorem zkC {l : Lay} (h : zix l = false) : l.secs.length ≤ 30 ∧ l.sigs.length ≤ 20 ∧ l.exits.length ≤ 20 ∧ l.flanks.length ≤ 30 ∧ ∀ e ∈ l.exits, e.over.length ≤ 20 := by
 simp only [zix, Bool.or_eq_false_iff, decide_eq_false_iff_not] at h
 obtain ⟨⟨⟨⟨h1, h2⟩, h3⟩, h4⟩, h5⟩ := h
 refine ⟨by omega, by omega, by omega, by omega, fun e he => ?_⟩
 rw [List.take_of_length_le (by omega)] at h1
 have := List.any_eq_false.1 h1 e he
 simp at this; omega
theorem zhl (l : Lay) : C f_lockbarref07_Great [l.av] (.bool (zix l)) := by
 refine ctr l.cells run_lockbarref07_Great rfl (by simp) rfl ?_ rfl
 unfold rt_lockbarref07_Great
 simp [Lay.cells]
 refine zaa rfl (fun vs => ∃ j : Nat, j ≤ l.exits.length ∧ j ≤ 21 ∧ vs = [I j] ∧ (l.exits.take j).any (fun e => decide ((e.over.length : Int) > 20)) = false) (fun vs => match vs with | [.int _ j] => 22 - j.toNat | _ => 0) ⟨0, by simp⟩ ?_
 rintro vs - ⟨j, hj, hj2, rfl, hprev⟩
 simp
 refine ⟨fun hlt hle => ?_, fun hstop => ?_⟩
 ·have hw := zab (i := j) (by omega)
  simp [hlt, Exi.cells]
  by_cases hbig : 20 < (l.exits[j].over.length : Int)
  ·refine .inr ⟨by omega, ?_⟩
   have : (l.exits.take 21).any (fun e => decide ((e.over.length : Int) > 20)) = true := by
    refine List.any_eq_true.2 ⟨l.exits[j], List.mem_iff_getElem.2 ⟨j, by rw [List.length_take]; omega, by rw [List.getElem_take]⟩, by simpa using hbig⟩
   simp only [zix, this, Bool.true_or]
  ·refine .inl ⟨by omega, ⟨j + 1, by omega, by omega, hw, fun y hy => ?_⟩, by rw [hw]; omega⟩
   rw [List.take_add_one, List.getElem?_eq_getElem hlt] at hy
   rcases List.mem_append.1 hy with hy | hy
   ·have := List.any_eq_false.1 hprev y hy
    simp at this; omega
   ·simp at hy; subst hy; omega
 ·have hno : (l.exits.take 21).any (fun e => decide ((e.over.length : Int) > 20)) = false := by
   by_cases hlt : j < l.exits.length
   ·have : j = 21 := by have := hstop hlt; omega
    rw [← this]; exact hprev
   ·rw [List.take_of_length_le (show l.exits.length ≤ j by omega)] at hprev
    refine List.any_eq_false.2 fun y hy => ?_
    have := List.any_eq_false.1 hprev y (List.mem_of_mem_take hy)
    exact this
  simp only [zix, hno, Bool.false_or]
def zdL (h : Hd) : Bool := decide (30 < h.path.steps.length) || (decide (20 < h.over.length) || decide (60 < h.needs.length))
theorem zmP (h : Hd) : C f_lockbarref17_Great [h.av] (.bool (zdL h)) := by
 refine ctr h.cells run_lockbarref17_Great rfl (by simp) rfl ?_ rfl
 unfold rt_lockbarref17_Great
 simp [Hd.cells]
 have e1 : decide (30 < (h.path.steps.length : Int)) = decide (30 < h.path.steps.length) := decide_eq_decide.2 (by omega)
 have e2 : decide (20 < (h.over.length : Int)) = decide (20 < h.over.length) := decide_eq_decide.2 (by omega)
 have e3 : decide (60 < (h.needs.length : Int)) = decide (60 < h.needs.length) := decide_eq_decide.2 (by omega)
 simp [zdL, e1, e2, e3, Bool.or_assoc]
theorem zqz {h : Hd} (hg : zdL h = false) : h.len ∧ h.path.steps.length ≤ 30 ∧ h.over.length ≤ 20 ∧ h.needs.length ≤ 60 := by
 simp only [zdL, Bool.or_eq_false_iff, decide_eq_false_iff_not] at hg
 exact ⟨⟨by omega, by omega, by omega⟩, by omega, by omega, by omega⟩
end Go.Lb.LK
namespace Go.Lb.LK
open Go Go.Lb Go.Proofs Go.RowKit
def zcm : Mach := ⟨-1, 0, false⟩
def zeI (m : Mach) (pos : Int) : Mach := if zdC m = true ∧ (pos = 0 ∨ pos = 1) then (if m.want = pos ∧ m.fail = false then m else ⟨pos, 0, false⟩) else zcm
theorem zso (m : Mach) : zdC m = true ↔ ((m.want = 0 ∨ m.want = 1) ∧ 0 ≤ m.run ∧ m.run ≤ 1000) ∨ m = zcm := by
 simp [zdC, zcm]
theorem zr3 : zdC zcm = true := by decide
theorem zsf {m : Mach} {p : Int} : zdC (zeI m p) = true := by
 unfold zeI
 split
 ·rename_i h
  split
  ·exact h.1
  ·rw [zso]; exact .inl ⟨h.2, by simp, by simp⟩
 ·exact zr3
def Kern.put (k : Kern) (p : Nat) (m : Mach) : Kern := { k with want := upd k.want p m.want, run := upd k.run p m.run, fail := upd k.fail p m.fail }
theorem zrZ (k : Kern) (p q : Nat) (m : Mach) : (k.put p m).mach q = if q = p then m else k.mach q := by
 unfold Kern.mach Kern.put upd
 by_cases h : q = p <;> simp [h]
theorem zr2 (k : Kern) : zgd k = true ↔ ∀ p, p < 24 → zdC (k.mach p) = true := by
 unfold zgd
 rw [List.all_eq_true]
 exact ⟨fun h p hp => h p (List.mem_range.2 hp), fun h p hp => h p (List.mem_range.1 hp)⟩
theorem zse {k : Kern} {p : Nat} {m : Mach} (hk : zgd k = true) (hm : zdC m = true) : zgd (k.put p m) = true := by
 rw [zr2] at hk ⊢
 intro q hq
 rw [zrZ]
 split
 ·exact hm
 ·exact hk q hq
end Go.Lb.LK
namespace Go.Lb.LK
open Go Go.Lb Go.Proofs Go.RowKit
theorem mp1 (m : Mach) (p : Int) : AV.pureAll (m.cells ++ [I p]) = true := by simp [zac, AV.pureAll, AV.pure]
theorem zgt (m : Mach) (p : Int) : C f_point_Call [m.av, I p] (zeI m p).av := by
 refine ctr (m.cells ++ [I p]) run_point_Call rfl (mp1 m p) (by simp [AV.pure]) ?_ rfl
 unfold rt_point_Call
 simp [Mach.cells]
 refine call (zfq m) (by simp [Mach.cells]) (by simp) ?_
 cases h : zdC m
 ·simp [zeI, h]
  refine call zbX rfl (by simp) ?_
  simp [zcm, Mach.cells]
 ·simp
  refine call (zdQ p) (by simp) (by simp) ?_
  by_cases hp : p = 0 ∨ p = 1
  ·by_cases hc : m.want = p ∧ m.fail = false
   ·simp [zeI, h, hp, hc, Mach.cells]
   ·have hc2 : ¬ m.want = p ∨ m.fail = true := by
     by_cases h1 : m.want = p
     ·right; cases h2 : m.fail
      ·exact absurd ⟨h1, h2⟩ hc
      ·rfl
     ·exact .inl h1
    simp [zeI, h, hp, hc, hc2, Mach.cells]
  ·simp [zeI, h, hp]
   refine call zbX rfl (by simp) ?_
   simp [zcm, Mach.cells]
theorem znI (m : Mach) (p : Int) : C f_lockbarref16_Call [m.av, I p] (zeI m p).av := by
 refine ctr (m.cells ++ [I p]) run_lockbarref16_Call rfl (mp1 m p) (by simp [AV.pure]) ?_ rfl
 unfold rt_lockbarref16_Call
 simp [Mach.cells]
 refine call (zik m) (by simp [Mach.cells]) (by simp) ?_
 by_cases hp : p = 0 ∨ p = 1
 ·cases h : zdC m
  ·simp [zeI, h]
   refine call zd7 rfl (by simp) ?_
   simp [zcm, Mach.cells]
  ·have hp2 : ¬ p = 0 → p = 1 := fun h => by omega
   by_cases hc : m.want = p ∧ m.fail = false
   ·simp [zeI, h, hp, hc, Mach.cells]
    intro h1 h2
    omega
   ·simp [zeI, h, hp, hc, Mach.cells]
    intro h1 h2
    omega
 ·have hp2 : ¬ p = 0 ∧ ¬ p = 1 := by omega
  simp [zeI, hp, hp2]
  refine call zd7 rfl (by simp) ?_
  simp [zcm, Mach.cells]
end Go.Lb.LK
namespace Go.Lb.LK
open Go Go.Lb Go.Proofs Go.RowKit
theorem zg2 {α : Type} {X t : List α} {n k : Nat} (hX : X.length = n) (h : n ≤ k) : (X ++ t).drop k = t.drop (k - n) := by
 subst hX
 rw [List.drop_append, List.drop_eq_nil_of_le h, List.nil_append]
theorem zg3 {α : Type} {X t : List α} {n k : Nat} (hX : X.length = n) (h : n ≤ k) : (X ++ t).take k = X ++ t.take (k - n) := by
 subst hX
 rw [List.take_append, List.take_of_length_le h]
theorem ziZ {X t : List AV} {n k : Nat} (hX : X.length = n) (h : n ≤ k) : zaL (X ++ t) k = zaL t (k - n) := by
 subst hX
 simp only [zaL, List.getD_eq_getElem?_getD]
 rw [List.getElem?_append_right h]
@[simp] theorem lay_len (l : Lay) : l.cells.length = 11 := rfl
@[simp] theorem img_len (m : Img) : m.cells.length = 29 := rfl
@[simp] theorem kern_len (k : Kern) : k.cells.length = 74 := rfl
@[simp] theorem zrm (k : Kern) : AV.ones k.cells = true := rfl
@[simp] theorem hd_len (h : Hd) : h.cells.length = 23 := rfl
@[simp] theorem need_len (x : Need) : x.cells.length = 3 := rfl
@[simp] theorem mach_len (m : Mach) : m.cells.length = 3 := rfl
@[simp] theorem zqP (w r : Nat → Int) (f : Nat → Bool) : (zaz w r f).length = 72 := by simp [zaz]
@[simp] theorem lay_drop (l : Lay) (t : List AV) (k : Nat) (h : 11 ≤ k) : (l.cells ++ t).drop k = t.drop (k - 11) := zg2 rfl h
@[simp] theorem img_drop (l : Img) (t : List AV) (k : Nat) (h : 29 ≤ k) : (l.cells ++ t).drop k = t.drop (k - 29) := zg2 rfl h
@[simp] theorem hd_drop (l : Hd) (t : List AV) (k : Nat) (h : 23 ≤ k) : (l.cells ++ t).drop k = t.drop (k - 23) := zg2 rfl h
@[simp] theorem mc_drop (w r : Nat → Int) (f : Nat → Bool) (t : List AV) (k : Nat) (h : 72 ≤ k) : (zaz w r f ++ t).drop k = t.drop (k - 72) := zg2 rfl h
@[simp] theorem lay_take (l : Lay) (t : List AV) (k : Nat) (h : 11 ≤ k) : (l.cells ++ t).take k = l.cells ++ t.take (k - 11) := zg3 rfl h
@[simp] theorem img_take (l : Img) (t : List AV) (k : Nat) (h : 29 ≤ k) : (l.cells ++ t).take k = l.cells ++ t.take (k - 29) := zg3 rfl h
@[simp] theorem hd_take (l : Hd) (t : List AV) (k : Nat) (h : 23 ≤ k) : (l.cells ++ t).take k = l.cells ++ t.take (k - 23) := zg3 rfl h
@[simp] theorem mc_take (w r : Nat → Int) (f : Nat → Bool) (t : List AV) (k : Nat) (h : 72 ≤ k) : (zaz w r f ++ t).take k = zaz w r f ++ t.take (k - 72) := zg3 rfl h
@[simp] theorem lay_env (l : Lay) (t : List AV) (k : Nat) (h : 11 ≤ k) : zaL (l.cells ++ t) k = zaL t (k - 11) := ziZ rfl h
@[simp] theorem img_env (l : Img) (t : List AV) (k : Nat) (h : 29 ≤ k) : zaL (l.cells ++ t) k = zaL t (k - 29) := ziZ rfl h
@[simp] theorem hd_env (l : Hd) (t : List AV) (k : Nat) (h : 23 ≤ k) : zaL (l.cells ++ t) k = zaL t (k - 23) := ziZ rfl h
@[simp] theorem mc_env (w r : Nat → Int) (f : Nat → Bool) (t : List AV) (k : Nat) (h : 72 ≤ k) : zaL (zaz w r f ++ t) k = zaL t (k - 72) := ziZ rfl h
@[simp] theorem zrq (l : Lay) : l.cells.take 11 = l.cells := rfl
@[simp] theorem zrj (l : Img) : l.cells.take 29 = l.cells := rfl
@[simp] theorem hd_takeS (l : Hd) : l.cells.take 23 = l.cells := rfl
@[simp] theorem mc_takeS (w r : Nat → Int) (f : Nat → Bool) : (zaz w r f).take 72 = zaz w r f := rfl
@[simp] theorem lay_env0 (l : Lay) (t : List AV) : zaL (l.cells ++ t) 0 = .sl (l.secs.map Sec.av) := rfl
@[simp] theorem lay_env5 (l : Lay) (t : List AV) : zaL (l.cells ++ t) 5 = I l.drive := rfl
@[simp] theorem lay_ones (l : Lay) : AV.ones l.cells = true := rfl
@[simp] theorem img_ones (l : Img) : AV.ones l.cells = true := rfl
@[simp] theorem hd_ones (l : Hd) : AV.ones l.cells = true := rfl
@[simp] theorem zrr (l : Mach) : AV.ones l.cells = true := rfl
@[simp] theorem zrt (l : Need) : AV.ones l.cells = true := rfl
@[simp] theorem mc_ones (w r : Nat → Int) (f : Nat → Bool) : AV.ones (zaz w r f) = true := rfl
def prts (v : AV) (j n : Nat) : List AV := dens (zaL [v]) (pts (.inp 0) j n)
theorem zae (ρ : Nat → AV) (x : SE) (n : Nat) : ∀ j, dens ρ (pts x j n) = prts (den ρ x) j n := by
 unfold prts
 induction n with
 | zero => intro j; rfl
 | succ n ih =>
  intro j
  simp only [pts, dens, den, ih (j + 1), zmV]
@[simp] theorem zfG (cs : List AV) (j n : Nat) (h : j + n ≤ cs.length) : prts (.agg cs) j n = (cs.drop j).take n := by
 unfold prts
 exact zmf rfl n j h
@[simp] theorem prts_hd (h : Hd) : prts h.av 0 23 = h.cells := by rw [zfG _ _ _ (by simp)]; simp
@[simp] theorem zrD (k : Kern) : prts k.av 0 74 = k.cells := by rw [zfG _ _ _ (by simp [zaC])]; simp [zaC]
@[simp] theorem zqW (k : Kern) : prts k.av 2 72 = zaz k.want k.run k.fail := by rw [zfG _ _ _ (by simp [zaC])]; simp [zaC]
theorem zrb (b q r n : Nat) (k : IntKind) (u x0 x1 x2 : AV) (hr : r < 3) : pv (.cellset b 24 3 0 3 (b + q * 3 + r)) [.int k (n : Nat), u, .agg [x0, x1, x2]] = if q = n then [x0, x1, x2].getD r .undef else u := by
 simp only [pv, AV.cells, Int.toNat_natCast, Nat.add_zero]
 by_cases h : q = n
 ·subst h
  rw [if_pos (by omega), if_pos rfl]
  congr 1; omega
 ·rw [if_neg (by omega), if_neg h]
def mrow (w r : Nat → Int) (f : Nat → Bool) : Nat → Nat → List AV
 | _, 0 => []
 | q, n + 1 => I (w q) :: I (r q) :: .bool (f q) :: mrow w r f (q + 1) n
theorem zlD (b p : Nat) (w r : Nat → Int) (f : Nat → Bool) (m : Mach) : ∀ n q, csV b (I p) m.av (b + q * 3) (mrow w r f q n) = mrow (upd w p m.want) (upd r p m.run) (upd f p m.fail) q n
 | 0, q => rfl
 | n + 1, q => by
  have ih := zlD b p w r f m n (q + 1)
  have e : ∀ u j, j < 3 → pv (.cellset b 24 3 0 3 (b + q * 3 + j)) [I p, u, m.av] = if q = p then [I m.want, I m.run, .bool m.fail].getD j .undef else u := fun u j hj => zrb b q j p .i64 u _ _ _ hj
  have e0 := e (I (w q)) 0 (by omega)
  have e1 := e (I (r q)) 1 (by omega)
  have e2 := e (.bool (f q)) 2 (by omega)
  simp only [mrow, csV]
  rw [show b + q * 3 + 1 + 1 + 1 = b + (q + 1) * 3 by omega, ih]
  rw [Nat.add_zero] at e0
  rw [e0, e1, show b + q * 3 + 1 + 1 = b + q * 3 + 2 from rfl, e2]
  by_cases h : q = p <;> simp [upd, h]
theorem zpZ (w r : Nat → Int) (f : Nat → Bool) (p : Nat) (m : Mach) : csV 0 (I p) m.av 0 (zaz w r f) = zaz (upd w p m.want) (upd r p m.run) (upd f p m.fail) := zlD 0 p w r f m 24 0
theorem zp0 (w r : Nat → Int) (f : Nat → Bool) (p : Nat) (m : Mach) : csV 2 (I p) m.av 2 (zaz w r f) = zaz (upd w p m.want) (upd r p m.run) (upd f p m.fail) := zlD 2 p w r f m 24 0
theorem zev {R : AV → Prop} {L : Nat → List AV → Prop} {b : Nat} (hb : b = 0 ∨ b = 2) {x m : SE} {V : List AV} {n : Nat} {os : List SE} {k : RT} (p : Int) (M : Mach) (w r : Nat → Int) (f : Nat → Bool) (h0 : 0 ≤ p) (hN : V.length = n) (hx : SE.wfs n (fun _ => false) (x :: m :: os) = true) (h1 : den (zaL V) x = I p) (h2 : den (zaL V) m = M.av) (h3 : dens (zaL V) os = zaz w r f)
  (h : RTwp PR GL R k L (zaL (V ++ zaz (upd w p.toNat M.want) (upd r p.toNat M.run) (upd f p.toNat M.fail)))) : RTwp PR GL R (.seg (csB b x m n b os) k) L (zaL V) := by
 have h4 := zoT (P := PR) (G := GL) (R := R) (L := L) (b := b) (c := b) (ns := []) (k := k) hN hx (I p) M.av (zaz w r f) h1 h2 h3
 rw [List.append_nil] at h4
 refine h4.2 ?_
 rw [show I p = I (p.toNat : Int) by rw [Int.toNat_of_nonneg h0]]
 rcases hb with rfl | rfl
 ·rw [zpZ]; exact h
 ·rw [zp0]; exact h
theorem zpE (w r : Nat → Int) (f : Nat → Bool) {p : Nat} (h : p < 24) : AV.cut (zaz w r f) (p * 3) 3 true = Mach.av ⟨w p, r p, f p⟩ := by
 match p, h with
 | 0, _ => rfl
 | 1, _ => rfl
 | 2, _ => rfl
 | 3, _ => rfl
 | 4, _ => rfl
 | 5, _ => rfl
 | 6, _ => rfl
 | 7, _ => rfl
 | 8, _ => rfl
 | 9, _ => rfl
 | 10, _ => rfl
 | 11, _ => rfl
 | 12, _ => rfl
 | 13, _ => rfl
 | 14, _ => rfl
 | 15, _ => rfl
 | 16, _ => rfl
 | 17, _ => rfl
 | 18, _ => rfl
 | 19, _ => rfl
 | 20, _ => rfl
 | 21, _ => rfl
 | 22, _ => rfl
 | 23, _ => rfl
 | n + 24, h => exact absurd h (by omega)
theorem zqi (a b : AV) (w r : Nat → Int) (f : Nat → Bool) {p : Nat} (h : p < 24) : AV.cut (a :: b :: zaz w r f) (p * 3 + 2) 3 true = Mach.av ⟨w p, r p, f p⟩ := by
 rw [← zpE w r f h]
 simp [AV.cut]
end Go.Lb.LK
namespace Go.Lb.LK
end Go.Lb.LK
namespace Go.Lb.LK
open Go Go.Lb Go.Proofs Go.RowKit
end Go.Lb.LK
namespace Go.Lb.LK
open Go Go.Lb Go.Proofs Go.RowKit
end Go.Lb.LK
namespace Go.Lb.LK
open Go Go.Lb Go.Proofs Go.RowKit
def zn1 (hs : List Hd) (n : Int) : Option Hd := hs.find? fun x => decide (x.id = n)
theorem zr4 {nx : Int} : ∀ {hs : List Hd}, GoodL nx hs → ∀ {h : Hd}, h ∈ hs → zn1 hs h.id = some h
 | x :: hs, hg, h, hh => by
  unfold zn1
  rcases List.mem_cons.1 hh with rfl | hh
  ·rw [List.find?_cons_of_pos (by simp)]
  ·have := ((List.pairwise_cons.1 hg.pw).1 h hh).1
   rw [List.find?_cons_of_neg (by simp; omega)]
   exact zr4 (hg.sub (List.sublist_cons_self x hs)) hh
end Go.Lb.LK
namespace Go.Lb.LK
open Go Go.Lb Go.Proofs Go.RowKit
end Go.Lb.LK
namespace Go.Lb.LK
open Go Go.Lb Go.Proofs Go.RowKit
theorem zsq (a b : AV) (w r : Nat → Int) (f : Nat → Bool) {z : Int} (h0 : 0 ≤ z) (h1 : z < 24) : pv (.aidx 24 3 4 1 false) [.agg (a :: b :: zaz w r f), I z] = .bool (f z.toNat) := by
 show (zaz w r f).getD (z.toNat * 3 + 2) .undef = _
 exact zop w r f (by omega) .undef
theorem za0 (a b : AV) (w r : Nat → Int) (f : Nat → Bool) {z : Int} (h0 : 0 ≤ z) (h1 : z < 24) : pv (.aidx 24 3 2 3 true) [.agg (a :: b :: zaz w r f), I z] = Mach.av ⟨w z.toNat, r z.toNat, f z.toNat⟩ := zqi a b w r f (by omega)
theorem zmF (w r : Nat → Int) (f : Nat → Bool) {z : Int} (h0 : 0 ≤ z) (h1 : z < 24) : pv (.aidx 24 3 0 3 true) [.agg (zaz w r f), I z] = Mach.av ⟨w z.toNat, r z.toNat, f z.toNat⟩ := zpE w r f (by omega)
end Go.Lb.LK
namespace Go.Lb.LK
open Go Go.Lb Go.Proofs Go.RowKit
end Go.Lb.LK
namespace Go.Lb.LK
open Go Go.Lb Go.Proofs Go.RowKit
def newR (l : Lay) (k : Kern) (p : Path) : Hd := ⟨k.next, p, over l p.exit, zak l p, 1, 0, fun _ => false, false, 0, false⟩
def zcv (l : Lay) (im : Img) (k : Kern) (p : Path) : Int :=
 if ¬ zds l p = 0 then zds l p
 else if zcq (zak l p) = true then 110
 else if zaO k = false ∨ 1073741824 ≤ k.next then 2
 else canN l im k p
def zao (l : Lay) (im : Img) (k : Kern) (x : Need) : Kern := k.put x.p.toNat (if atP l im x.p = x.pos then zcm else zeI (k.mach x.p.toNat) x.pos)
def zaJ (l : Lay) (im : Img) (k : Kern) (p : Path) : Kern × Int × Int :=
 if zcv l im k p = 0 then ((zak l p).foldl (zao l im) { k with held := k.held ++ [newR l k p], next := k.next + 1 }, k.next, 0)
 else (k, 0, zcv l im k p)
def zaF : Kern := ⟨1, [], fun i => if i < 24 then -1 else 0, fun _ => 0, fun _ => false⟩
end Go.Lb.LK
namespace Go.Lb.LK
open Go Go.Lb Go.Proofs Go.RowKit
theorem zoX : C f_lockbarref19_New [] zaF.av := by
 refine ctr [] run_lockbarref19_New rfl rfl (by simp [AV.pure]) ?_ rfl
 unfold rt_lockbarref19_New
 refine zaa rfl (fun vs => ∃ i : Nat, i ≤ 24 ∧ vs = I i :: zaz (fun j => if j < i then -1 else 0) (fun _ => 0) (fun _ => false)) (fun vs => match vs with | .int _ j :: _ => 24 - j.toNat | _ => 0) ⟨0, by omega, rfl⟩ ?_
 rintro vs - ⟨i, hi, rfl⟩
 by_cases hlt : i < 24
 ·have hw := zab (i := i) (by omega)
  have hpi : (i : Int) < 24 := by omega
  simp [hpi]
  refine call zd7 rfl (by simp) ?_
  simp [hpi]
  refine zev (.inr rfl) i zcm (fun j => if j < i then -1 else 0) (fun _ => 0) (fun _ => false) (by omega) rfl rfl (by simp) (by simp [Mach.cells, zcm]) (by simp [zad]) ?_
  simp [zad, hw]
  refine ⟨⟨i + 1, by omega, by omega, ?_⟩, by omega⟩
  congr 1
  ·funext j
   by_cases h : j = i
   ·subst h; simp [upd, zcm]
   ·by_cases h2 : j < i
    ·simp [upd, h, h2, show j < i + 1 by omega]
    ·simp [upd, h, h2, show ¬ j < i + 1 by omega]
  ·funext j; simp [upd, zcm]
  ·funext j; simp [upd, zcm]
 ·have : i = 24 := by omega
  subst this
  simp [zad]
  rfl
def noHd : Hd := ⟨0, ⟨0, 0, []⟩, [], [], 0, 0, fun _ => false, false, 0, false⟩
def zeJ (hs : List Hd) (n : Int) : Hd × Bool := match zn1 hs n with
 | some h => (h, true)
 | none => (noHd, false)
theorem znK (k : Kern) (hk : k.len) (n : Int) : C f_lockbarref19_Find [k.av, I n] (.tup [(zeJ k.held n).1.av, .bool (zeJ k.held n).2]) := by
 have h1 := hk.1
 refine ctr (k.cells ++ [I n]) run_lockbarref19_Find rfl (by simp [zac, AV.pureAll, AV.pure]) (by simp [AV.pure, AV.pureAll]) ?_ rfl
 unfold rt_lockbarref19_Find
 simp [zaC, zad]
 refine zaa rfl (fun vs => ∃ i : Nat, i ≤ k.held.length ∧ vs = [I i] ∧ zal (fun x : Hd => decide (x.id = n)) (k.held.take i)) (fun vs => match vs with | [.int _ j] => k.held.length - j.toNat | _ => 0) ⟨0, by omega, by simp, rfl⟩ ?_
 rintro vs - ⟨i, hi2, rfl, hq⟩
 by_cases hlt : i < k.held.length
 ·have hw := zab (i := i) (by omega)
  have h0 : ∀ h : Hd, h.cells[0]? = some (I h.id) := fun _ => rfl
  by_cases hid : k.held[i].id = n
  ·have e : zeJ k.held n = (k.held[i], true) := by
    unfold zeJ zn1
    rw [zbM hlt hq (by simpa using hid)]
   rw [e]
   simp [hlt, h0, hid]
   refine call (zjd k.held[i] (k.at hk hlt)) (by simp [hlt]) (by simp) ?_
   simp [zae]
  ·simp [hlt, h0, hid, hw]
   exact ⟨⟨i + 1, by omega, by omega, zah hlt hq (by simpa using hid)⟩, by omega⟩
 ·have ht : k.held.take i = k.held := List.take_of_length_le (by omega)
  rw [ht] at hq
  have e : zeJ k.held n = (noHd, false) := by
   unfold zeJ zn1
   rw [zee hq]
  rw [e]
  simp [hlt]
  rfl
theorem zkk (l : Lay) (im : Img) (hi : im.ok) (k : Kern) (hko : k.ok) (p : Path) (hc : CanOk l k p) (hl : l.lens) : C f_lockbarref19_Look [l.av, im.av, k.av, p.av] (I (zcv l im k p)) := by
 refine ctr (l.cells ++ im.cells ++ k.cells ++ p.cells) run_lockbarref19_Look rfl (likp l im k p) rfl ?_ rfl
 unfold rt_lockbarref19_Look
 simp [zaC, Path.cells, zad]
 refine call (zlt l hl p) (by simp [zad, Path.cells]) (by simp) ?_
 simp
 refine ⟨fun h0 => by simp [zcv, h0], fun h0 => ?_⟩
 have hnl := zcc hc
 refine call (zmO l hc.ov hc.fl p hc.pl hc.ol (by omega)) (by simp [zad, Path.cells]) (by simp) ?_
 cases h2 : zcq (zak l p)
 ·simp
  refine call (zmS k hc.kl hko) (by simp [zad, zaC]) (by simp) ?_
  cases h3 : zaO k
  ·simp [zcv, h0, h2, h3]
  ·simp
   refine ⟨fun h4 => by simp [zcv, h0, h2, h4], fun h4 => ?_⟩
   refine call (zoW l im hi k p hc) (by simp [zad, zaC, Path.cells]) (by simp) ?_
   have : ¬ 1073741824 ≤ k.next := by omega
   simp [zcv, h0, h2, h3, this]
 ·simp [zcv, h0, h2]
theorem zhG {l : Lay} {im : Img} {k : Kern} {p : Path} (h : zcv l im k p = 0) : zds l p = 0 ∧ zcq (zak l p) = false ∧ zaO k = true ∧ k.next < 1073741824 ∧ canN l im k p = 0 := by
 unfold zcv at h
 split at h
 ·rename_i h1; exact absurd h h1
 ·rename_i h1
  split at h
  ·cases h
  ·rename_i h2
   split at h
   ·cases h
   ·rename_i h3
    simp only [not_or, Bool.not_eq_false] at h3
    exact ⟨by omega, by simpa using h2, h3.1, by omega, h⟩
theorem zlB {l : Lay} {im : Img} {k : Kern} {p : Path} (h : canN l im k p = 0) : ∀ n ∈ zak l p, zbr l im k n = true := by
 intro n hn
 cases hm : zbr l im k n
 ·rw [zjf hn hm] at h; cases h
 ·rfl
theorem zhI {l : Lay} {im : Img} {k : Kern} {n : Need} (h : zbr l im k n = true) : 0 ≤ n.p ∧ n.p < 24 := by
 unfold zbr at h
 rw [Bool.and_eq_true, decide_eq_true_eq] at h
 exact h.1
theorem zbo {l : Lay} {im : Img} : ∀ (xs : List Need) (k : Kern), (xs.foldl (zao l im) k).held = k.held ∧ (xs.foldl (zao l im) k).next = k.next
 | [], _ => ⟨rfl, rfl⟩
 | x :: xs, k => by
  have := zbo (l := l) (im := im) xs (zao l im k x)
  exact this
theorem zly (l : Lay) (im : Img) (hi : im.ok) (k : Kern) (hko : k.ok) (p : Path) (hc : CanOk l k p) (hl : l.lens) : C f_lockbarref19_Commit [l.av, im.av, k.av, p.av] (.tup [(zaJ l im k p).1.av, I (zaJ l im k p).2.1, I (zaJ l im k p).2.2]) := by
 have hk := hc.kl
 have h1 := hk.1
 refine ctr (l.cells ++ im.cells ++ k.cells ++ p.cells) run_lockbarref19_Commit rfl (likp l im k p) (by simp [AV.pure, AV.pureAll]) ?_ rfl
 unfold rt_lockbarref19_Commit
 simp [zaC, Path.cells, zad]
 refine zaa rfl (fun vs => ∃ i : Nat, i ≤ k.held.length ∧ vs = [I i, zm0 (k.held.take i)]) (fun vs => match vs with | [.int _ j, _] => k.held.length - j.toNat | _ => 0) ⟨0, by omega, by simp⟩ ?_
 rintro vs - ⟨i, hi2, rfl⟩
 by_cases hlt : i < k.held.length
 ·have hw := zab (i := i) (by omega)
  have hmt := map_take Hd.av k.held hlt
  simp [hlt, zad]
  refine call (zjd k.held[i] (k.at hk hlt)) (by simp [hlt]) (by simp) ?_
  simp [hw, zae]
  exact ⟨by omega, ⟨i + 1, by omega, by omega, by simpa using hmt.symm⟩, by omega⟩
 have ht : k.held.take i = k.held := List.take_of_length_le (by omega)
 rw [ht]
 simp [hlt, zad]
 refine call (zkk l im hi k hko p hc hl) (by simp [zad, zaC, Path.cells]) (fun _ => rfl) ?_
 by_cases h0 : zcv l im k p = 0
 ·have e : zaJ l im k p = ((zak l p).foldl (zao l im) { k with held := k.held ++ [newR l k p], next := k.next + 1 }, k.next, 0) := by simp [zaJ, h0]
  rw [e]
  simp [h0]
  refine call (zma p (by have := hc.pl; omega)) (by simp [Path.cells]) (by simp) ?_
  simp
  refine call (zfX l hc.ov p.exit) (by simp [zad]) (by simp) ?_
  simp
  refine call (zjb l hc.ov hc.fl p hc.pl hc.ol) (by simp [zad, Path.cells]) (by simp) ?_
  simp [Path.cells, zad]
  refine ⟨by omega, ?_⟩
  obtain ⟨z1, z2, z3, z4, z5⟩ := zhG h0
  have hnx : IntKind.i64.wrap (k.next + 1) = k.next + 1 := by
   have := (zlK z3).2.1
   rw [zbB] <;> omega
  have hnl := zcc hc
  have hrg := fun n hn => zhI (zlB z5 n hn)
  obtain ⟨K0, hK0⟩ : ∃ K0 : Kern, K0 = { k with held := k.held ++ [newR l k p], next := k.next + 1 } := ⟨_, rfl⟩
  have e0 : zaz k.want k.run k.fail = zaz K0.want K0.run K0.fail := by rw [hK0]
  rw [← hK0]
  refine zaa (by simp) (fun vs => ∃ i : Nat, i ≤ (zak l p).length ∧ vs = I i :: zaz (((zak l p).take i).foldl (zao l im) K0).want (((zak l p).take i).foldl (zao l im) K0).run (((zak l p).take i).foldl (zao l im) K0).fail) (fun vs => match vs with | .int _ j :: _ => (zak l p).length - j.toNat | _ => 0) ⟨0, by omega, by simp [zad, e0]⟩ ?_
  rintro vs - ⟨q, hq, rfl⟩
  by_cases hlt3 : q < (zak l p).length
  ·have hw := zab (i := q) (by omega)
   obtain ⟨b1, b2⟩ := hrg _ (List.getElem_mem hlt3)
   have hfs : ((zak l p).take (q + 1)).foldl (zao l im) K0 = zao l im (((zak l p).take q).foldl (zao l im) K0) (zak l p)[q] := by
    rw [List.take_add_one, List.getElem?_eq_getElem hlt3, List.foldl_append]; rfl
   generalize hT : ((zak l p).take q).foldl (zao l im) K0 = T at hfs
   simp [hlt3, Need.cells, zad]
   refine call (znF l im hi (zak l p)[q].p) (by simp [hlt3, Need.cells, zad]) (by simp) ?_
   by_cases ha : atP l im (zak l p)[q].p = (zak l p)[q].pos
   ·simp [hlt3, Need.cells, ha, zad]
    refine call zd7 rfl (by simp) ?_
    simp [hlt3, Need.cells, b1, b2]
    refine zev (.inr rfl) (zak l p)[q].p zcm T.want T.run T.fail b1 (by simp) rfl (by simp [hlt3, Need.cells]) (by simp [Mach.cells, zcm]) (by simp [zad]) ?_
    simp [zad, hw]
    exact ⟨⟨q + 1, by omega, by omega, by rw [hfs]; simp [zao, ha, Kern.put]⟩, by omega⟩
   ·simp [hlt3, Need.cells, ha, b1, b2, zad]
    refine ⟨by omega, ?_⟩
    refine call (znI (T.mach (zak l p)[q].p.toNat) (zak l p)[q].pos) (by simp [hlt3, Need.cells, zad, za0, b1, b2, -zaf, Kern.mach]) (by simp) ?_
    simp [hlt3, Need.cells, b1, b2]
    refine zev (.inr rfl) (zak l p)[q].p (zeI (T.mach (zak l p)[q].p.toNat) (zak l p)[q].pos) T.want T.run T.fail b1 (by simp) rfl (by simp [hlt3, Need.cells]) (by simp [Mach.cells]) (by simp [zad]) ?_
    simp [zad, hw]
    exact ⟨⟨q + 1, by omega, by omega, by rw [hfs]; simp [zao, ha, Kern.put]⟩, by omega⟩
  have : q = (zak l p).length := by omega
  subst this
  have hfh := zbo (l := l) (im := im) (zak l p) K0
  have f1 : K0.held = k.held ++ [newR l k p] := by rw [hK0]
  have f2 : K0.next = k.next + 1 := by rw [hK0]
  simp [zad, hnx]
  rw [zaC, hfh.1, hfh.2, f1, f2]
  show _ :: AV.sl _ :: _ = _ :: AV.sl ((k.held ++ [newR l k p]).map Hd.av) :: _
  rw [List.map_append]; rfl
 ·have e : zaJ l im k p = (k, 0, zcv l im k p) := by simp [zaJ, h0]
  rw [e]
  simp [h0, zad, zaC]
end Go.Lb.LK
namespace Go.Lb.LK
open Go Go.Lb Go.Proofs Go.RowKit
def idxH (hs : List Hd) (n : Int) : Int := match hs.findIdx? (fun x => decide (x.id = n)) with
 | some i => i
 | none => -1
theorem zgP (hs : List Hd) (hl : hs.length ≤ 1048576) (n : Int) : C f_slices_IndexFunc_Held [zm0 hs, .clo f_commit_Find_1 [] [.ref [I n] 0]] (I (idxH hs n)) := by
 refine ctr [zm0 hs, I n] run_slices_IndexFunc_Held rfl (by simp [AV.pureAll, AV.pure, zaV Hd.av (fun x => by simp [AV.pure])]) rfl ?_ rfl
 unfold rt_slices_IndexFunc_Held
 simp
 refine zaa (by simp) (fun vs => ∃ i : Nat, i ≤ hs.length ∧ vs = [I i] ∧ ∀ j, ∀ hj : j < i, ∀ hj2 : j < hs.length, ¬ hs[j].id = n) (fun vs => match vs with | [.int _ j] => hs.length - j.toNat | _ => 0) ⟨0, by omega, by simp, fun j hj => by omega⟩ ?_
 rintro vs - ⟨i, hi, rfl, hq⟩
 have h0 : ∀ h : Hd, h.cells[0]? = some (I h.id) := fun _ => rfl
 by_cases hlt : i < hs.length
 ·have hw := zab (i := i) (by omega)
  by_cases he : hs[i].id = n
  ·have : hs.findIdx? (fun x => decide (x.id = n)) = some i := by
    rw [List.findIdx?_eq_some_iff_getElem]
    exact ⟨hlt, by simpa using he, fun j hj => by simpa using hq j hj (by omega)⟩
   simp [hlt, h0, he, idxH, this]
  ·simp [hlt, h0, he, hw]
   refine ⟨⟨i + 1, by omega, by omega, fun j hj hj2 => ?_⟩, by omega⟩
   by_cases hji : j = i
   ·subst hji; exact he
   ·exact hq j (by omega) hj2
 ·have : hs.findIdx? (fun x => decide (x.id = n)) = none := by
   rw [List.findIdx?_eq_none_iff]
   intro x hx
   obtain ⟨j, hj, rfl⟩ := List.mem_iff_getElem.1 hx
   simpa using hq j (by omega) hj
  simp [hlt, idxH, this]
def zc6 (hs : List Hd) (z : Int) : Hd × Bool := if z < 0 then (noHd, false) else match hs[z.toNat]? with
 | some h => (h, true)
 | none => (noHd, false)
theorem zi2 (k : Kern) (hk : k.len) (z : Int) (hz : z < k.held.length) : C f_commit_told [k.av, I z] (.tup [(zc6 k.held z).1.av, .bool (zc6 k.held z).2]) := by
 refine ctr (k.cells ++ [I z]) run_commit_told rfl (by simp [zac, AV.pureAll, AV.pure]) (by simp [AV.pure, AV.pureAll]) ?_ rfl
 unfold rt_commit_told
 simp [zaC, zad]
 refine ⟨fun h => ?_, fun h => ?_⟩
 ·simp [zc6, h]
  rfl
 obtain ⟨n, hn⟩ : ∃ n : Nat, z = n := ⟨z.toNat, by omega⟩
 subst hn
 have hlt : n < k.held.length := by omega
 have e : zc6 k.held (n : Int) = (k.held[n], true) := by simp [zc6, h, List.getElem?_eq_getElem hlt]
 rw [e]
 simp [hlt]
 refine call (zfU k.held[n] (k.at hk hlt)) (by simp [hlt]) (by simp) ?_
 simp [zae]
theorem zh1 (hs : List Hd) (n : Int) : zc6 hs (idxH hs n) = zeJ hs n := by
 unfold idxH zc6 zeJ zn1
 cases hf : hs.findIdx? (fun x => decide (x.id = n)) with
 | none =>
  rw [List.findIdx?_eq_none_iff] at hf
  rw [List.find?_eq_none.2 fun x hx => by rw [hf x hx]; simp]
  rfl
 | some i =>
  obtain ⟨hi, h1, h2⟩ := List.findIdx?_eq_some_iff_getElem.1 hf
  have : hs.find? (fun x => decide (x.id = n)) = some hs[i] := zbM hi (by
   refine List.any_eq_false.2 fun x hx => ?_
   obtain ⟨j, hj, rfl⟩ := List.mem_take_iff_getElem.1 hx
   exact h2 j (by omega)) h1
  simp [this, List.getElem?_eq_getElem hi]
theorem zoe (hs : List Hd) (n : Int) : idxH hs n < hs.length := by
 unfold idxH
 cases hf : hs.findIdx? (fun x => decide (x.id = n)) with
 | none => simp; omega
 | some i =>
  obtain ⟨hi, _, _⟩ := List.findIdx?_eq_some_iff_getElem.1 hf
  simpa using hi
theorem zdH (k : Kern) (hk : k.len) (n : Int) : C f_commit_Find [k.av, I n] (.tup [(zeJ k.held n).1.av, .bool (zeJ k.held n).2]) := by
 refine ctr (k.cells ++ [I n]) run_commit_Find rfl (by simp [zac, AV.pureAll, AV.pure]) (by simp [AV.pure, AV.pureAll]) ?_ rfl
 unfold rt_commit_Find
 simp [zaC, zad]
 refine call (zgP k.held hk.1 n) (by simp [zad, zaC]) (fun _ => rfl) ?_
 refine call (zi2 k hk (idxH k.held n) (zoe _ _)) (by simp [zad, zaC]) (by simp) ?_
 rw [zh1]
 simp [zae]
def zcs (hs : List Hd) (n : Int) : Nat → Int
 | 0 => -1
 | i + 1 => match hs[i]? with
  | some h => if h.path.sig = n then i else zcs hs n i
  | none => zcs hs n i
theorem zjw (hs : List Hd) (n : Int) : ∀ i, i ≤ hs.length → zcs hs n i < i ∧ -1 ≤ zcs hs n i
 | 0, _ => by simp [zcs]
 | i + 1, h => by
  have := zjw hs n i (by omega)
  simp only [zcs, List.getElem?_eq_getElem (show i < hs.length by omega)]
  split <;> omega
def ofH (hs : List Hd) (n : Int) : Hd × Bool := zc6 hs (zcs hs n hs.length)
theorem zei (h : Hd) : h.cells[1]? = some (I h.path.sig) := rfl
theorem zdI (k : Kern) (hk : k.len) (n : Int) : C f_commit_Of [k.av, I n] (.tup [(ofH k.held n).1.av, .bool (ofH k.held n).2]) := by
 have h1 := hk.1
 refine ctr (k.cells ++ [I n]) run_commit_Of rfl (by simp [zac, AV.pureAll, AV.pure]) (by simp [AV.pure, AV.pureAll]) ?_ rfl
 unfold rt_commit_Of
 simp [zaC, zad]
 refine zaa (by simp) (fun vs => ∃ i : Nat, i ≤ k.held.length ∧ vs = [I (zcs k.held n i), I i]) (fun vs => match vs with | [_, .int _ j] => k.held.length - j.toNat | _ => 0) ⟨0, by omega, by simp [zcs]⟩ ?_
 rintro vs - ⟨i, hi, rfl⟩
 by_cases hlt : i < k.held.length
 ·have hw := zab (i := i) (by omega)
  have hs : zcs k.held n (i + 1) = if k.held[i].path.sig = n then (i : Int) else zcs k.held n i := by simp only [zcs, List.getElem?_eq_getElem hlt]
  by_cases he : k.held[i].path.sig = n
  ·simp [hlt, zei, he, hw]
   exact ⟨⟨i + 1, by omega, by rw [hs]; simp [he], by omega⟩, by omega⟩
  ·simp [hlt, zei, he, hw]
   exact ⟨⟨i + 1, by omega, by rw [hs]; simp [he], by omega⟩, by omega⟩
 have hil : i = k.held.length := by omega
 subst hil
 have hll := zjw k.held n k.held.length (Nat.le_refl _)
 unfold ofH
 generalize zcs k.held n k.held.length = z at hll
 simp [zad]
 refine ⟨fun h => ?_, fun h => ?_⟩
 ·simp [zc6, h]
  rfl
 obtain ⟨m, hm⟩ : ∃ m : Nat, z = m := ⟨z.toNat, by omega⟩
 subst hm
 have hltm : m < k.held.length := by omega
 have e : zc6 k.held (m : Int) = (k.held[m], true) := by simp [zc6, h, List.getElem?_eq_getElem hltm]
 rw [e]
 simp [hltm]
 refine call (zfU k.held[m] (k.at hk hltm)) (by simp [hltm]) (by simp) ?_
 simp [zae]
theorem zbW : C f_commit_New [] zaF.av := by
 refine ctr [] run_commit_New rfl rfl (by simp [AV.pure]) ?_ rfl
 unfold rt_commit_New
 refine zaa rfl (fun vs => ∃ i : Nat, i ≤ 24 ∧ vs = I i :: zaz (fun j => if j < i then -1 else 0) (fun _ => 0) (fun _ => false)) (fun vs => match vs with | .int _ j :: _ => 24 - j.toNat | _ => 0) ⟨0, by omega, rfl⟩ ?_
 rintro vs - ⟨i, hi, rfl⟩
 by_cases hlt : i < 24
 ·have hw := zab (i := i) (by omega)
  have hpi : (i : Int) < 24 := by omega
  simp [hpi]
  refine call zbX rfl (by simp) ?_
  simp [hpi]
  refine zev (.inr rfl) i zcm (fun j => if j < i then -1 else 0) (fun _ => 0) (fun _ => false) (by omega) rfl rfl (by simp) (by simp [Mach.cells, zcm]) (by simp [zad]) ?_
  simp [zad, hw]
  refine ⟨⟨i + 1, by omega, by omega, ?_⟩, by omega⟩
  congr 1
  ·funext j
   by_cases h : j = i
   ·subst h; simp [upd, zcm]
   ·by_cases h2 : j < i
    ·simp [upd, h, h2, show j < i + 1 by omega]
    ·simp [upd, h, h2, show ¬ j < i + 1 by omega]
  ·funext j; simp [upd, zcm]
  ·funext j; simp [upd, zcm]
 ·have : i = 24 := by omega
  subst this
  simp [zad]
  rfl
theorem zcJ (l : Lay) (im : Img) (hi : im.ok) (k : Kern) (hko : k.ok) (p : Path) (hc : CanOk l k p) (hl : l.lens) : C f_commit_Look [l.av, im.av, k.av, p.av] (I (zcv l im k p)) := by
 refine ctr (l.cells ++ im.cells ++ k.cells ++ p.cells) run_commit_Look rfl (likp l im k p) rfl ?_ rfl
 unfold rt_commit_Look
 simp [zaC, Path.cells, zad]
 refine call (zje l hc.lo hl p hc.pl) (by simp [zad, Path.cells]) (by simp) ?_
 simp
 refine ⟨fun h0 => by simp [zcv, h0], fun h0 => ?_⟩
 have hnl := zcc hc
 refine call (zli l hc.lo hc.ov hc.fl p hc.pl hc.ol (by omega)) (by simp [zad, Path.cells]) (by simp) ?_
 cases h2 : zcq (zak l p)
 ·simp
  refine zaj (avs := [k.av]) (.bool (zaO k)) rfl (fun _ => ⟨by simp [zad, zaC], zj8 k hc.kl hko⟩) (fun _ => rfl) ?_
  by_cases h4 : 1073741824 ≤ k.next
  ·simp [zcv, h0, h2, h4]
  ·simp [h4]
   cases h3 : zaO k
   ·simp [zcv, h0, h2, h3]
   ·simp
    refine call (zmH l im hi k p hc) (by simp [zad, zaC, Path.cells]) (by simp) ?_
    simp [zcv, h0, h2, h3, h4]
 ·simp [zcv, h0, h2]
end Go.Lb.LK
namespace Go.Lb.LK
open Go Go.Lb Go.Proofs Go.RowKit
theorem upd_same {α : Type} (w : Nat → α) (p : Nat) : upd w p (w p) = w := by
 funext j
 unfold upd
 by_cases h : j = p
 ·subst h; simp
 ·simp [h]
theorem zg8 (k : Kern) (p : Nat) : k.put p (k.mach p) = k := by
 show Kern.mk k.next k.held (upd k.want p (k.want p)) (upd k.run p (k.run p)) (upd k.fail p (k.fail p)) = k
 rw [upd_same, upd_same, upd_same]
set_option maxHeartbeats 4000000 in
theorem zbt (l : Lay) (im : Img) (hi : im.ok) (k : Kern) (hko : k.ok) (p : Path) (hc : CanOk l k p) (hl : l.lens) : C f_commit_Commit [l.av, im.av, k.av, p.av] (.tup [(zaJ l im k p).1.av, I (zaJ l im k p).2.1, I (zaJ l im k p).2.2]) := by
 have hk := hc.kl
 have h1 := hk.1
 refine ctr (l.cells ++ im.cells ++ k.cells ++ p.cells) run_commit_Commit rfl (likp l im k p) (by simp [AV.pure, AV.pureAll]) ?_ rfl
 unfold rt_commit_Commit
 simp [zaC, Path.cells, zad]
 refine ⟨⟨by omega, ?_⟩, fun hnil => ?_⟩
 ·refine zaa (by simp) (fun vs => ∃ i : Nat, i ≤ k.held.length ∧ vs = [I i, zm0 k.held]) (fun vs => match vs with | [.int _ j, _] => k.held.length - j.toNat | _ => 0) ⟨0, by omega, by simp [zad]⟩ ?_
  rintro vs - ⟨i, hi2, rfl⟩
  by_cases hlt : i < k.held.length
  ·have hw := zab (i := i) (by omega)
   simp [hlt, zad]
   refine call (zfU k.held[i] (k.at hk hlt)) (by simp [hlt, zae]) (by simp) ?_
   simp [hlt, hw, zae]
   refine ⟨⟨i + 1, by omega, by omega, ?_⟩, by omega⟩
   exact zpt k.held hlt
  simp [hlt, zad]
  refine call (zcJ l im hi k hko p hc hl) (by simp [zad, zaC, Path.cells]) (by simp) ?_
  by_cases h0 : zcv l im k p = 0
  ·have e : zaJ l im k p = ((zak l p).foldl (zao l im) { k with held := k.held ++ [newR l k p], next := k.next + 1 }, k.next, 0) := by simp [zaJ, h0]
   rw [e]
   simp [h0]
   refine call (zeZ p (by have := hc.pl; omega)) (by simp [Path.cells]) (by simp) ?_
   refine call (zcI l hc.ov p.exit) (by simp [zad]) (by simp) ?_
   refine call (zfp l hc.lo hc.ov hc.fl p hc.pl hc.ol) (by simp [zad, Path.cells]) (by simp) ?_
   obtain ⟨z1, z2, z3, z4, z5⟩ := zhG h0
   have hnx : IntKind.i64.wrap (k.next + 1) = k.next + 1 := by
    have := (zlK z3).2.1
    rw [zbB] <;> omega
   have hnl := zcc hc
   have hrg := fun n hn => zhI (zlB z5 n hn)
   obtain ⟨K0, hK0⟩ : ∃ K0 : Kern, K0 = { k with held := k.held ++ [newR l k p], next := k.next + 1 } := ⟨_, rfl⟩
   have e0 : zaz k.want k.run k.fail = zaz K0.want K0.run K0.fail := by rw [hK0]
   rw [← hK0]
   simp [Path.cells, zad]
   refine zaa (by simp) (fun vs => ∃ i : Nat, i ≤ (zak l p).length ∧ vs = I i :: zaz (((zak l p).take i).foldl (zao l im) K0).want (((zak l p).take i).foldl (zao l im) K0).run (((zak l p).take i).foldl (zao l im) K0).fail) (fun vs => match vs with | .int _ j :: _ => (zak l p).length - j.toNat | _ => 0) ⟨0, by omega, by simp [zad, e0]⟩ ?_
   rintro vs - ⟨q, hq, rfl⟩
   by_cases hlt3 : q < (zak l p).length
   ·have hw := zab (i := q) (by omega)
    obtain ⟨b1, b2⟩ := hrg _ (List.getElem_mem hlt3)
    have hfs : ((zak l p).take (q + 1)).foldl (zao l im) K0 = zao l im (((zak l p).take q).foldl (zao l im) K0) (zak l p)[q] := by
     rw [List.take_add_one, List.getElem?_eq_getElem hlt3, List.foldl_append]; rfl
    generalize hT : ((zak l p).take q).foldl (zao l im) K0 = T at hfs
    generalize hN : (zak l p)[q] = nd at b1 b2 hfs
    simp [hlt3, hN, Need.cells, zad]
    refine call zbX rfl (by simp) ?_
    simp
    refine call (zfV l im hi nd.p) (by simp [hlt3, hN, Need.cells, zad]) (by simp) ?_
    by_cases ha : atP l im nd.p = nd.pos
    ·have hcs : zao l im T nd = T.put nd.p.toNat zcm := by simp [zao, ha]
     rw [hcs] at hfs
     have hA := za0 (I k.next) (.sl []) T.want T.run T.fail b1 b2
     have hA2 := za0 (I k.next) .undef T.want T.run T.fail b1 b2
     have hA3 := za0 (I k.next) AV.nsl T.want T.run T.fail b1 b2
     simp [hlt3, hN, Need.cells, ha, b1, b2, zad, hA, hA2, hA3, Mach.cells, AV.eqs, AV.eq1, -zaf]
     refine ⟨by omega, fun hne => ?_, fun e1 e2 e3 => ?_⟩
     ·refine zev (.inr rfl) nd.p zcm T.want T.run T.fail b1 (by simp) rfl (by simp [hlt3, hN, Need.cells]) (by simp [Mach.cells, zcm]) (by simp [zad]) ?_
      simp [zad, hw]
      exact ⟨⟨q + 1, by omega, by omega, by rw [hfs]; rfl⟩, by omega⟩
     ·have hM : T.mach nd.p.toNat = zcm := by
       rw [show T.mach nd.p.toNat = ⟨T.want nd.p.toNat, T.run nd.p.toNat, T.fail nd.p.toNat⟩ from rfl, e1, e2, e3]; rfl
      rw [← hM, zg8] at hfs
      rw [hw]
      exact ⟨⟨q + 1, by omega, rfl, by rw [hfs]⟩, by omega⟩
    ·have hcs : zao l im T nd = T.put nd.p.toNat (zeI (T.mach nd.p.toNat) nd.pos) := by simp [zao, ha]
     rw [hcs] at hfs
     have hA := za0 (I k.next) (.sl []) T.want T.run T.fail b1 b2
     have hA2 := za0 (I k.next) .undef T.want T.run T.fail b1 b2
     have hA3 := za0 (I k.next) AV.nsl T.want T.run T.fail b1 b2
     simp [hlt3, hN, Need.cells, ha, b1, b2, zad, hA, hA2, hA3, -zaf]
     refine ⟨by omega, ?_⟩
     refine call (zgt (T.mach nd.p.toNat) nd.pos) (by simp [hlt3, hN, Need.cells, zad, hA, hA2, hA3, Kern.mach, -zaf]) (by simp) ?_
     have hpm : T.put nd.p.toNat (T.mach nd.p.toNat) = T := zg8 _ _
     generalize hCM : zeI (T.mach nd.p.toNat) nd.pos = CM at hfs
     simp [hlt3, hN, Need.cells, b1, b2, zad, hA, hA2, hA3, Mach.cells, AV.eqs, AV.eq1, -zaf]
     refine ⟨by omega, fun hne => ?_, fun e1 e2 e3 => ?_⟩
     ·refine zev (.inr rfl) nd.p CM T.want T.run T.fail b1 (by simp) rfl (by simp [hlt3, hN, Need.cells]) (by simp [Mach.cells]) (by simp [zad]) ?_
      simp [zad, hw]
      exact ⟨⟨q + 1, by omega, by omega, by rw [hfs]; rfl⟩, by omega⟩
     ·have hM : T.mach nd.p.toNat = CM := by
       rw [show T.mach nd.p.toNat = ⟨T.want nd.p.toNat, T.run nd.p.toNat, T.fail nd.p.toNat⟩ from rfl, e1, e2, e3]
      rw [← hM, hpm] at hfs
      rw [hw]
      exact ⟨⟨q + 1, by omega, rfl, by rw [hfs]⟩, by omega⟩
   have : q = (zak l p).length := by omega
   subst this
   have hfh := zbo (l := l) (im := im) (zak l p) K0
   have f1 : K0.held = k.held ++ [newR l k p] := by rw [hK0]
   have f2 : K0.next = k.next + 1 := by rw [hK0]
   simp [zad, hnx, Path.cells]
   refine ⟨by omega, ?_⟩
   rw [zaC, hfh.1, hfh.2, f1, f2]
   show _ :: AV.sl _ :: _ = _ :: AV.sl ((k.held ++ [newR l k p]).map Hd.av) :: _
   rw [List.map_append]; rfl
  ·have e : zaJ l im k p = (k, 0, zcv l im k p) := by simp [zaJ, h0]
   rw [e]
   simp [h0, zad, zaC]
 ·refine zaa rfl (fun vs => vs = []) (fun _ => 0) rfl ?_
  rintro vs - rfl
  simp [zad]
  refine call (zcJ l im hi k hko p hc hl) (by simp [zad, zaC, Path.cells, hnil]) (by simp) ?_
  by_cases h0 : zcv l im k p = 0
  ·have e : zaJ l im k p = ((zak l p).foldl (zao l im) { k with held := k.held ++ [newR l k p], next := k.next + 1 }, k.next, 0) := by simp [zaJ, h0]
   rw [e]
   simp [h0]
   refine call (zeZ p (by have := hc.pl; omega)) (by simp [Path.cells]) (by simp) ?_
   refine call (zcI l hc.ov p.exit) (by simp [zad]) (by simp) ?_
   refine call (zfp l hc.lo hc.ov hc.fl p hc.pl hc.ol) (by simp [zad, Path.cells]) (by simp) ?_
   obtain ⟨z1, z2, z3, z4, z5⟩ := zhG h0
   have hnx : IntKind.i64.wrap (k.next + 1) = k.next + 1 := by
    have := (zlK z3).2.1
    rw [zbB] <;> omega
   have hnl := zcc hc
   have hrg := fun n hn => zhI (zlB z5 n hn)
   obtain ⟨K0, hK0⟩ : ∃ K0 : Kern, K0 = { k with held := k.held ++ [newR l k p], next := k.next + 1 } := ⟨_, rfl⟩
   have e0 : zaz k.want k.run k.fail = zaz K0.want K0.run K0.fail := by rw [hK0]
   rw [← hK0]
   simp [Path.cells, zad]
   refine zaa (by simp) (fun vs => ∃ i : Nat, i ≤ (zak l p).length ∧ vs = I i :: zaz (((zak l p).take i).foldl (zao l im) K0).want (((zak l p).take i).foldl (zao l im) K0).run (((zak l p).take i).foldl (zao l im) K0).fail) (fun vs => match vs with | .int _ j :: _ => (zak l p).length - j.toNat | _ => 0) ⟨0, by omega, by simp [zad, e0]⟩ ?_
   rintro vs - ⟨q, hq, rfl⟩
   by_cases hlt3 : q < (zak l p).length
   ·have hw := zab (i := q) (by omega)
    obtain ⟨b1, b2⟩ := hrg _ (List.getElem_mem hlt3)
    have hfs : ((zak l p).take (q + 1)).foldl (zao l im) K0 = zao l im (((zak l p).take q).foldl (zao l im) K0) (zak l p)[q] := by
     rw [List.take_add_one, List.getElem?_eq_getElem hlt3, List.foldl_append]; rfl
    generalize hT : ((zak l p).take q).foldl (zao l im) K0 = T at hfs
    generalize hN : (zak l p)[q] = nd at b1 b2 hfs
    simp [hlt3, hN, Need.cells, zad]
    refine call zbX rfl (by simp) ?_
    simp
    refine call (zfV l im hi nd.p) (by simp [hlt3, hN, Need.cells, zad]) (by simp) ?_
    by_cases ha : atP l im nd.p = nd.pos
    ·have hcs : zao l im T nd = T.put nd.p.toNat zcm := by simp [zao, ha]
     rw [hcs] at hfs
     have hA := za0 (I k.next) (.sl []) T.want T.run T.fail b1 b2
     have hA2 := za0 (I k.next) .undef T.want T.run T.fail b1 b2
     have hA3 := za0 (I k.next) AV.nsl T.want T.run T.fail b1 b2
     simp [hlt3, hN, Need.cells, ha, b1, b2, zad, hA, hA2, hA3, Mach.cells, AV.eqs, AV.eq1, -zaf]
     refine ⟨by omega, fun hne => ?_, fun e1 e2 e3 => ?_⟩
     ·refine zev (.inr rfl) nd.p zcm T.want T.run T.fail b1 (by simp) rfl (by simp [hlt3, hN, Need.cells]) (by simp [Mach.cells, zcm]) (by simp [zad]) ?_
      simp [zad, hw]
      exact ⟨⟨q + 1, by omega, by omega, by rw [hfs]; rfl⟩, by omega⟩
     ·have hM : T.mach nd.p.toNat = zcm := by
       rw [show T.mach nd.p.toNat = ⟨T.want nd.p.toNat, T.run nd.p.toNat, T.fail nd.p.toNat⟩ from rfl, e1, e2, e3]; rfl
      rw [← hM, zg8] at hfs
      rw [hw]
      exact ⟨⟨q + 1, by omega, rfl, by rw [hfs]⟩, by omega⟩
    ·have hcs : zao l im T nd = T.put nd.p.toNat (zeI (T.mach nd.p.toNat) nd.pos) := by simp [zao, ha]
     rw [hcs] at hfs
     have hA := za0 (I k.next) (.sl []) T.want T.run T.fail b1 b2
     have hA2 := za0 (I k.next) .undef T.want T.run T.fail b1 b2
     have hA3 := za0 (I k.next) AV.nsl T.want T.run T.fail b1 b2
     simp [hlt3, hN, Need.cells, ha, b1, b2, zad, hA, hA2, hA3, -zaf]
     refine ⟨by omega, ?_⟩
     refine call (zgt (T.mach nd.p.toNat) nd.pos) (by simp [hlt3, hN, Need.cells, zad, hA, hA2, hA3, Kern.mach, -zaf]) (by simp) ?_
     have hpm : T.put nd.p.toNat (T.mach nd.p.toNat) = T := zg8 _ _
     generalize hCM : zeI (T.mach nd.p.toNat) nd.pos = CM at hfs
     simp [hlt3, hN, Need.cells, b1, b2, zad, hA, hA2, hA3, Mach.cells, AV.eqs, AV.eq1, -zaf]
     refine ⟨by omega, fun hne => ?_, fun e1 e2 e3 => ?_⟩
     ·refine zev (.inr rfl) nd.p CM T.want T.run T.fail b1 (by simp) rfl (by simp [hlt3, hN, Need.cells]) (by simp [Mach.cells]) (by simp [zad]) ?_
      simp [zad, hw]
      exact ⟨⟨q + 1, by omega, by omega, by rw [hfs]; rfl⟩, by omega⟩
     ·have hM : T.mach nd.p.toNat = CM := by
       rw [show T.mach nd.p.toNat = ⟨T.want nd.p.toNat, T.run nd.p.toNat, T.fail nd.p.toNat⟩ from rfl, e1, e2, e3]
      rw [← hM, hpm] at hfs
      rw [hw]
      exact ⟨⟨q + 1, by omega, rfl, by rw [hfs]⟩, by omega⟩
   have : q = (zak l p).length := by omega
   subst this
   have hfh := zbo (l := l) (im := im) (zak l p) K0
   have f1 : K0.held = k.held ++ [newR l k p] := by rw [hK0]
   have f2 : K0.next = k.next + 1 := by rw [hK0]
   simp [zad, hnx, Path.cells, hnil]
   rw [zaC, hfh.1, hfh.2, f1, f2, hnil]
   rfl
  ·have e : zaJ l im k p = (k, 0, zcv l im k p) := by simp [zaJ, h0]
   rw [e]
   simp [h0, zad, zaC, hnil]
end Go.Lb.LK
namespace Go.Lb.LK
open Go Go.Lb Go.Proofs Go.RowKit
structure CanFine (l : Lay) (im : Img) (k : Kern) (p : Path) : Prop where
 sig : ∀ h ∈ k.held, zbP p h = false
 free : ∀ s ∈ p.steps ++ over l p.exit, zcY l im k s.s = true
 meets : ∀ n ∈ zak l p, zbr l im k n = true
 room : k.held.length < 6
theorem zsH {l : Lay} {im : Img} {k : Kern} {p : Path} : canN l im k p = 190 ∨ (canN l im k p = 191 ∧ 6 ≤ k.held.length) ∨ (canN l im k p = 0 ∧ CanFine l im k p) := by
 unfold canN
 split
 ·exact .inl rfl
 ·rename_i h
  simp only [Bool.not_eq_true, Bool.or_eq_false_iff] at h
  obtain ⟨h1, h2, h3⟩ := h
  split
  ·rename_i h6; exact .inr (.inl ⟨rfl, h6⟩)
  ·rename_i h6
   refine .inr (.inr ⟨rfl, ⟨fun x hx => ?_, fun x hx => ?_, fun x hx => ?_, by omega⟩⟩)
   ·have := List.any_eq_false.1 h1 x hx; simpa using this
   ·have := List.any_eq_false.1 h2 x hx; simpa using this
   ·have := List.any_eq_false.1 h3 x hx; simpa using this
theorem zr0 {l : Lay} {im : Img} {k : Kern} {p : Path} (h : canN l im k p = 0) : CanFine l im k p := by
 rcases zsH (l := l) (im := im) (k := k) (p := p) with h2 | ⟨h2, _⟩ | ⟨_, h2⟩
 ·rw [h] at h2; cases h2
 ·rw [h] at h2; cases h2
 ·exact h2
theorem zr8 {l : Lay} {im : Img} {k : Kern} {p : Path} (hr : zaO k = true) (hc : CanFine l im k p) {i : Nat} (hi : i < k.held.length) : zbn (newR l k p) k.held[i] = true := by
 unfold zbn
 rw [Bool.and_eq_true, Bool.not_eq_true', Bool.not_eq_true']
 constructor
 ·refine List.any_eq_false.2 fun s hs => ?_
  simp only [decide_eq_true_eq]
  intro hs2
  have hs3 : s ∈ (p.steps ++ over l p.exit).map (·.s) := by
   simpa [zaI, newR] using hs
  obtain ⟨t, ht, rfl⟩ := List.mem_map.1 hs3
  have h1 := hc.free t ht
  have h2 := zsz hr hi hs2
  simp [zcY, h2] at h1
 ·unfold zeN
  refine List.any_eq_false.2 fun x hx => ?_
  rw [Bool.not_eq_true]
  refine List.any_eq_false.2 fun y hy => ?_
  rw [Bool.not_eq_true]
  have hx2 : x ∈ zak l p := (List.mem_filter.1 hx).1
  have hm := hc.meets x hx2
  unfold both
  by_cases hp : x.p = y.p
  ·have hw : ∃ b, zcF k.held[i] x.p = some b ∧ b = y.pos := by
    unfold zcF
    cases hf : (zbi k.held[i]).find? fun z => decide (z.p = x.p) with
    | none =>
     rw [List.find?_eq_none] at hf
     exact absurd (by simpa using hp.symm) (hf y hy)
    | some z =>
     refine ⟨z.pos, rfl, ?_⟩
     have hz1 := List.mem_of_find?_eq_some hf
     have hz2 : z.p = x.p := by simpa using List.find?_some hf
     have hcl := (zhQ (zfI hr hi).1).2.2.1
     by_cases hzy : z.pos = y.pos
     ·exact hzy
     ·exfalso
      have : zeN k.held[i].needs k.held[i].needs = true := by
       unfold zeN
       refine List.any_eq_true.2 ⟨z, (List.mem_filter.1 hz1).1, List.any_eq_true.2 ⟨y, (List.mem_filter.1 hy).1, ?_⟩⟩
       simp [both, hz2, hp, hzy]
      rw [this] at hcl; cases hcl
   obtain ⟨b, hb1, hb2⟩ := hw
   have h3 := zsF hr hi hb1
   unfold zbr at hm
   rw [h3] at hm
   simp only [Bool.and_eq_true, decide_eq_true_eq] at hm
   have : x.pos = y.pos := by rw [← hb2]; exact hm.2.1.symm
   simp [this]
  ·simp [hp]
theorem zrV {l : Lay} (h : zdg l = true) : zdj l = true := by
 simp only [zdg, Bool.and_eq_true] at h
 exact h.1
theorem zrW {l : Lay} {p : Path} (h : zds l p = 0) : zdg l = true ∧ 1 ≤ p.steps.length ∧ p.steps.length ≤ 12 ∧ ∃ m : Nat, p.exit = m ∧ ∃ hm : m < l.exits.length, over l p.exit = l.exits[m].over ∧ zcy p.steps l.exits[m].over = true := by
 unfold zds at h
 split at h
 ·rename_i hg
  split at h
  ·rename_i sg e h1 h2
   split at h
   ·rename_i hp
    unfold zdU at hp
    simp only [Bool.and_eq_true, decide_eq_true_eq] at hp
    obtain ⟨n, hn, hlt, he⟩ := zft hg.2.2.1 hg.2.2.2
    have e2 : e = l.exits[n] := by
     rw [hn] at h2
     simp only [Int.toNat_natCast, List.getElem?_eq_getElem hlt, Option.some.injEq] at h2
     exact h2.symm
    refine ⟨hg.1, hp.1.1, hp.1.2, n, hn, hlt, by rw [over, he], by rw [← e2]; exact hp.2.2.1⟩
   ·omega
  ·omega
 ·omega
theorem zsP {l : Lay} (h : zdj l = true) {s : Step} {k : Int} {x : Need} (hx : x ∈ zcA l s k) : (x.pos = 0 ∨ x.pos = 1) ∧ x.k = k := by
 unfold zcA at hx
 rcases List.mem_append.1 hx with hx | hx
 ·split at hx
  ·rename_i hp
   simp only [List.mem_singleton] at hx
   subst hx
   refine ⟨?_, rfl⟩
   unfold point at hp ⊢
   split at hp
   ·split at hp
    ·rename_i h1; rw [if_pos h1]
     unfold way
     split
     ·exact .inl rfl
     ·split
      ·exact .inr rfl
      ·split
       ·exact .inr rfl
       ·exact .inl rfl
    ·cases hp
   ·cases hp
  ·simp at hx
 ·obtain ⟨f, hf, rfl⟩ := List.mem_map.1 hx
  refine ⟨?_, rfl⟩
  have hf2 := (List.mem_filter.1 hf).1
  simp only [zdj, Bool.and_eq_true] at h
  have := List.all_eq_true.1 h.2.2.2.1 f hf2
  unfold zaX at this
  split at this
  ·simp only [Bool.and_eq_true, decide_eq_true_eq] at this
   have h3 := this.1.2
   show f.pos = 0 ∨ f.pos = 1
   omega
  ·cases this
theorem zsg {l : Lay} (h : zdj l = true) {p : Path} {x : Need} (hx : x ∈ zak l p) : (x.pos = 0 ∨ x.pos = 1) ∧ 0 ≤ x.k ∧ x.k ≤ p.steps.length := by
 unfold zak at hx
 obtain ⟨y, hy, hxy⟩ := List.mem_flatMap.1 hx
 obtain ⟨h1, h2⟩ := zsP h hxy
 refine ⟨h1, ?_⟩
 rw [h2]
 unfold zap at hy
 rcases List.mem_append.1 hy with hy | hy
 ·obtain ⟨i, hi, rfl⟩ := List.mem_iff_getElem.1 hy
  simp only [List.length_mapIdx] at hi
  simp only [List.getElem_mapIdx]
  omega
 ·obtain ⟨t, _, rfl⟩ := List.mem_map.1 hy
  simp
theorem zrX {c : List Need} (h : zcq c = false) {x y : Need} (hx : x ∈ c) (hy : y ∈ c) (hp : x.p = y.p) : x.pos = y.pos := by
 obtain ⟨i, hi, rfl⟩ := List.mem_iff_getElem.1 hx
 obtain ⟨j, hj, rfl⟩ := List.mem_iff_getElem.1 hy
 by_cases he : c[i].pos = c[j].pos
 ·exact he
 ·exfalso
  have : zcq c = true := by
   rw [zlC]
   rcases Nat.lt_trichotomy i j with hij | hij | hij
   ·exact ⟨i, j, hij, hj, hp, he⟩
   ·subst hij; exact absurd rfl he
   ·exact ⟨j, i, hij, hi, hp.symm, fun e => he e.symm⟩
  rw [h] at this; cases this
theorem zsb {c : List Need} (h : zcq c = false) : zeN c c = false := by
 unfold zeN
 refine List.any_eq_false.2 fun x hx => ?_
 rw [Bool.not_eq_true]
 refine List.any_eq_false.2 fun y hy => ?_
 rw [Bool.not_eq_true]
 unfold both
 by_cases hp : x.p = y.p
 ·simp [zrX h hx hy hp]
 ·simp [hp]
theorem zsC {l : Lay} {im : Img} {k : Kern} {p : Path} (h : zcv l im k p = 0) : zbf (newR l k p) = true := by
 obtain ⟨z1, z2, z3, z4, z5⟩ := zhG h
 obtain ⟨c1, c2, c3, m, hm, hlt, c4, c5⟩ := zrW z1
 have hlo := zrV c1
 have hx : zbJ l l.exits[m] = true := by
  simp only [zdj, Bool.and_eq_true] at hlo
  exact List.all_eq_true.1 hlo.2.2.1 _ (List.getElem_mem hlt)
 have hov : l.exits[m].over.length ≤ 2 := by
  simp only [zbJ, Bool.and_eq_true, decide_eq_true_eq] at hx
  exact hx.2.2
 have hnx := (zlK z3).2.1
 have hnd : ((p.steps ++ over l p.exit).map (·.s)).Nodup := by
  rw [← nodup_iff, c4]
  exact (zpy (zkT c1 (List.getElem_mem hlt)) p.steps).1 c5
 have hneed : (zak l p).all (zdR p.steps.length) = true := by
  rw [List.all_eq_true]
  intro x hx
  obtain ⟨d1, d2, d3⟩ := zsg hlo hx
  obtain ⟨e1, e2⟩ := zhI (zlB z5 x hx)
  unfold zdR
  exact decide_eq_true ⟨d2, d3, e1, e2, by omega, by omega⟩
 have g1 : (newR l k p).g1 := ⟨by simp only [newR]; omega, by simp only [newR]; omega, by simp [newR], by simp [newR], c2, c3, by simp only [newR, c4]; exact hov⟩
 have g2 : (newR l k p).g2 := ⟨by simp [newR], by simp [newR], by simp [newR], by simp [newR]⟩
 have hw : (newR l k p).wasOk = true := by
  unfold Hd.wasOk
  rw [List.all_eq_true]
  intro i _
  simp [newR]
 unfold zbf
 rw [decide_eq_true g1, decide_eq_true g2, hw]
 simp only [Bool.true_and, Bool.and_eq_true, Bool.not_eq_true', decide_eq_true_eq]
 exact ⟨zsb z2, hnd, hneed⟩
theorem zsh {l : Lay} {im : Img} {k : Kern} {p : Path} (h : zcv l im k p = 0) : GoodL (k.next + 1) (k.held ++ [newR l k p]) := by
 obtain ⟨z1, z2, z3, z4, z5⟩ := zhG h
 have hg := zp7 z3
 have hf := zr0 z5
 refine ⟨fun x hx => ?_, fun x hx => ?_, ?_⟩
 ·rcases List.mem_append.1 hx with hx | hx
  ·exact hg.right x hx
  ·simp only [List.mem_singleton] at hx; subst hx; exact zsC h
 ·rcases List.mem_append.1 hx with hx | hx
  ·have := hg.lt x hx; omega
  ·simp only [List.mem_singleton] at hx; subst hx; simp only [newR]; omega
 ·rw [List.pairwise_append]
  refine ⟨hg.pw, List.pairwise_singleton _ _, fun a ha b hb => ?_⟩
  simp only [List.mem_singleton] at hb
  subst hb
  obtain ⟨i, hi, rfl⟩ := List.mem_iff_getElem.1 ha
  exact ⟨hg.lt _ (List.getElem_mem hi), zr8 z3 hf hi⟩
theorem zr1 {l : Lay} {im : Img} {k : Kern} {x : Need} (h : zgd k = true) : zgd (zao l im k x) = true := by
 unfold zao
 refine zse h ?_
 split
 ·exact zr3
 ·exact zsf
theorem zrU {l : Lay} {im : Img} : ∀ (xs : List Need) (k : Kern), zgd k = true → zgd (xs.foldl (zao l im) k) = true
 | [], _, h => h
 | x :: xs, k, h => zrU xs _ (zr1 h)
theorem zrS {l : Lay} {im : Img} {q : Nat} : ∀ (xs : List Need) (k : Kern), (∀ x ∈ xs, ¬ q = x.p.toNat) → (xs.foldl (zao l im) k).mach q = k.mach q
 | [], _, _ => rfl
 | x :: xs, k, h => by
  rw [List.foldl_cons, zrS xs _ fun y hy => h y (List.mem_cons_of_mem _ hy)]
  unfold zao
  rw [zrZ, if_neg (h x (by simp))]
def zr6 (l : Lay) (im : Img) (p pos : Int) (m : Mach) : Prop := (atP l im p = pos → m.want = -1) ∧ (¬ atP l im p = pos → m.want = pos ∧ m.fail = false)
theorem zrT {l : Lay} {im : Img} {p pos : Int} (hpos : pos = 0 ∨ pos = 1) : ∀ (xs : List Need) (k : Kern), zgd k = true → 0 ≤ p → p < 24 → (∀ x ∈ xs, 0 ≤ x.p) → (∀ x ∈ xs, x.p = p → x.pos = pos) → ((∃ x ∈ xs, x.p = p) ∨ zr6 l im p pos (k.mach p.toNat)) → zr6 l im p pos ((xs.foldl (zao l im) k).mach p.toNat)
 | [], k, _, _, _, _, _, h => by
  rcases h with ⟨x, hx, _⟩ | h
  ·simp at hx
  ·exact h
 | x :: xs, k, hm, h0, h24, hnn, hall, h => by
  refine zrT hpos xs (zao l im k x) (zr1 hm) h0 h24 (fun y hy => hnn y (List.mem_cons_of_mem _ hy)) (fun y hy => hall y (List.mem_cons_of_mem _ hy)) ?_
  by_cases hx : x.p = p
  ·right
   have hxp := hall x (by simp) hx
   have hmk := (zr2 k).1 hm p.toNat (by omega)
   unfold zao
   rw [zrZ, hx, if_pos rfl, hxp]
   by_cases ha : atP l im p = pos
   ·rw [if_pos ha]
    exact ⟨fun _ => rfl, fun h => absurd ha h⟩
   ·rw [if_neg ha]
    refine ⟨fun h => absurd h ha, fun _ => ?_⟩
    unfold zeI
    rw [if_pos ⟨hmk, hpos⟩]
    split
    ·rename_i h1; exact h1
    ·exact ⟨rfl, rfl⟩
  ·have hne : ¬ p.toNat = x.p.toNat := by
    have := hnn x (by simp); omega
   rcases h with ⟨y, hy, hy2⟩ | h
   ·rcases List.mem_cons.1 hy with rfl | hy
    ·exact absurd hy2 hx
    ·exact .inl ⟨y, hy, hy2⟩
   ·right
    unfold zao
    rw [zrZ, if_neg hne]; exact h
def comK (l : Lay) (im : Img) (k : Kern) (p : Path) : Kern := (zak l p).foldl (zao l im) { k with held := k.held ++ [newR l k p], next := k.next + 1 }
theorem zrP {l : Lay} {im : Img} {k : Kern} {p : Path} (h : zcv l im k p = 0) : zaJ l im k p = (comK l im k p, k.next, 0) := by simp [zaJ, h, comK]
theorem zrR {l : Lay} {im : Img} {k : Kern} {p : Path} (h : ¬ zcv l im k p = 0) : zaJ l im k p = (k, 0, zcv l im k p) := by simp [zaJ, h]
theorem zrQ (l : Lay) (im : Img) (k : Kern) (p : Path) : (comK l im k p).held = k.held ++ [newR l k p] ∧ (comK l im k p).next = k.next + 1 := zbo _ _
theorem zrY {l : Lay} {im : Img} {k : Kern} {p : Path} (h : zcv l im k p = 0) : zaO (comK l im k p) = true := by
 obtain ⟨z1, z2, z3, z4, z5⟩ := zhG h
 obtain ⟨m1, m2, m3, m4⟩ := zlK z3
 have hf := zr0 z5
 obtain ⟨e1, e2⟩ := zrQ l im k p
 refine zsO ?_ ?_ ?_ ?_ ?_
 ·rw [e1]; have := hf.room; simp; omega
 ·rw [e2]; omega
 ·rw [e2]; omega
 ·rw [e1, e2]; exact zsh h
 ·exact zrU _ _ m4
theorem zsc {l : Lay} {im : Img} {k : Kern} {p : Path} (h : zcv l im k p = 0) {x : Need} (hx : x ∈ zak l p) : zr6 l im x.p x.pos ((comK l im k p).mach x.p.toNat) := by
 obtain ⟨z1, z2, z3, z4, z5⟩ := zhG h
 obtain ⟨c1, _⟩ := zrW z1
 obtain ⟨d1, _⟩ := zsg (zrV c1) hx
 obtain ⟨e1, e2⟩ := zhI (zlB z5 x hx)
 refine zrT d1 _ _ (zlK z3).2.2.2 e1 e2 (fun y hy => (zhI (zlB z5 y hy)).1) (fun y hy hp => zrX z2 hy hx hp) (.inl ⟨x, hx, rfl⟩)
theorem zsr {l : Lay} {im : Img} {k : Kern} {p : Path} (h : zcv l im k p = 0) : zeJ (comK l im k p).held k.next = (newR l k p, true) := by
 have hg := zsh h
 have := zr4 hg (h := newR l k p) (by simp)
 rw [(zrQ l im k p).1]
 unfold zeJ
 rw [show k.next = (newR l k p).id from rfl, this]
theorem zsd {l : Lay} {im : Img} {k : Kern} {p : Path} (h : zcv l im k p = 0) {x : Need} (hx : x ∈ zak l p) : zdn (comK l im k p) x.p = some x.pos := by
 obtain ⟨z1, z2, z3, z4, z5⟩ := zhG h
 have hm := zlB z5 x hx
 unfold zdn
 rw [(zrQ l im k p).1, List.findSome?_append]
 unfold zbr at hm
 rw [Bool.and_eq_true] at hm
 have hm2 := hm.2
 have hwk : zdn k x.p = k.held.findSome? fun h => zcF h x.p := rfl
 rw [← hwk]
 cases hw : zdn k x.p with
 | some b =>
  rw [hw] at hm2
  simp only [Bool.and_eq_true, decide_eq_true_eq] at hm2
  rw [hm2.1]; rfl
 | none =>
  have hns : zbi (newR l k p) = zak l p := by
   show (zak l p).filter (zdx (newR l k p)) = zak l p
   rw [List.filter_eq_self]
   intro y hy
   obtain ⟨c1, _⟩ := zrW z1
   obtain ⟨_, d2, d3⟩ := zsg (zrV c1) hy
   simp [zdx, newR]
   omega
  have : zcF (newR l k p) x.p = some x.pos := by
   unfold zcF
   rw [hns]
   cases hf : (zak l p).find? fun y => decide (y.p = x.p) with
   | none =>
    rw [List.find?_eq_none] at hf
    exact absurd (by simp) (hf x hx)
   | some y =>
    have hy1 := List.mem_of_find?_eq_some hf
    have hy2 : y.p = x.p := by simpa using List.find?_some hf
    simp [zrX z2 hy1 hx hy2]
  simp [this]
theorem zsl {l : Lay} {im : Img} {k : Kern} {p : Path} (h : zcv l im k p = 0) : zcv l im (comK l im k p) p = if 1073741824 ≤ k.next + 1 then 2 else 190 := by
 obtain ⟨z1, z2, z3, z4, z5⟩ := zhG h
 have hr := zrY h
 have hc : canN l im (comK l im k p) p = 190 := by
  unfold canN
  have : (comK l im k p).held.any (zbP p) = true := by
   rw [(zrQ l im k p).1]
   exact List.any_eq_true.2 ⟨newR l k p, by simp, by simp [zbP, newR]⟩
  rw [this]; rfl
 unfold zcv
 rw [z1, z2, hr, hc, (zrQ l im k p).2]
 simp
end Go.Lb.LK
namespace Go.Lb.LK
open Go Go.Lb Go.Proofs Go.RowKit
end Go.Lb.LK
namespace Go.Lb.LK
open Go Go.Lb Go.Proofs Go.RowKit
theorem zej (k : Kern) : k.cells[0]? = some (I k.next) := rfl
theorem zdz (k : Kern) : k.cells[1]? = some (zm0 k.held) := rfl
theorem zhy (h : Hd) : h.cells[6]? = some (U h.stage) := rfl
theorem zlQ {h : Hd} (hr : zbf h = true) : h.stage = 1 ∨ h.stage = 2 ∨ h.stage = 3 ∨ h.stage = 4 := by
 obtain ⟨_, ⟨d1, d2, _⟩, _⟩ := zhQ hr
 omega
end Go.Lb.LK
namespace Go.Lb.LK
open Go Go.Lb Go.Proofs Go.RowKit
@[simp] theorem prts_lay (l : Lay) : prts l.av 0 11 = l.cells := by rw [zfG _ _ _ (by simp)]; simp
@[simp] theorem prts_img (l : Img) : prts l.av 0 29 = l.cells := by rw [zfG _ _ _ (by simp)]; simp
theorem zc4 {k : Kern} (h : zaO k = true) : k.ok := by
 intro x hx
 have := zlQ ((zp7 h).right x hx)
 omega
theorem zgh : zaF.len := ⟨by decide, fun h hh => by simp [zaF] at hh⟩
theorem zir {l : Lay} {im : Img} {k : Kern} {p : Path} (hk : k.len) (hk2 : k.held.length ≤ 1000000) (hp : p.steps.length ≤ 1048576) (ho : (over l p.exit).length ≤ 1048576) (hn : (zak l p).length ≤ 1048576) : (zaJ l im k p).1.len := by
 unfold zaJ
 split
 ·have := (zbo (l := l) (im := im) (zak l p) { k with held := k.held ++ [newR l k p], next := k.next + 1 }).1
  unfold Kern.len
  rw [this]
  refine ⟨by simp; omega, fun h hh => ?_⟩
  rcases List.mem_append.1 hh with hh | hh
  ·exact hk.2 h hh
  ·rw [List.mem_singleton] at hh
   subst hh
   exact ⟨hp, ho, hn⟩
 ·exact hk
end Go.Lb.LK
