/- Whether a path can be had, as the document has it. -/
import Derived.Test.YtkcpgfjlmicnnaaGreatDoorCh4
import Derived.Test.YtkcpgfjlmicnnaaGreatDoorCh5
import Derived.Test.YtkcpgfjlmicnnaaGreatDoorFw11
import Derived.Test.YtkcpgfjlmicnnaaGreatDoorCh1
set_option linter.unusedSimpArgs false
set_option linter.unusedVariables false
namespace Go.Lb.LK
open Go Go.Lb Go.Proofs Go.RowKit
def zmL (p : Path) (h : Hd) : Bool := decide (h.path.sig = p.sig) && !decide (h.stage = 3)
def canN (l : Lay) (im : Img) (k : Kern) (p : Path) : Int :=
 if (k.held.any (zmL p) || ((p.steps ++ over l p.exit).any (fun s => !zmn l im k s.s) || (zot l p).any (fun n => !zlq l im k n))) = true then 190
 else if 6 ≤ k.held.length then 191 else 0
structure CanOk (l : Lay) (k : Kern) (p : Path) : Prop where
 kl : k.len
 lo : l.ok
 ov : l.ovOk
 fl : l.flanks.length ≤ 1000
 pl : p.steps.length ≤ 1000
 ol : (over l p.exit).length ≤ 1000
end Go.Lb.LK
namespace Go.Lb.LK
open Go Go.Lb Go.Proofs Go.RowKit
end Go.Lb.LK
namespace Go.Lb.LK
open Go Go.Lb Go.Proofs Go.RowKit
end Go.Lb.LK
namespace Go.Lb.LK
open Go Go.Lb Go.Proofs Go.RowKit
end Go.Lb.LK
namespace Go.Lb.LK
open Go Go.Lb Go.Proofs Go.RowKit
end Go.Lb.LK
namespace Go.Lb.LK
open Go Go.Lb Go.Proofs Go.RowKit
def zkp : Kern := ⟨1, [], fun _ => -1, fun _ => 0, fun _ => false⟩
def zkm : Port := ⟨-1, 0⟩
def zih : Lay := ⟨[⟨1, zkm, ⟨1, 0⟩, zkm, zkm, 0, 0⟩, ⟨1, ⟨0, 1⟩, zkm, zkm, zkm, 0, 0⟩], [⟨0, 0⟩], [⟨⟨0, 1⟩, [⟨1, 0, 1⟩]⟩], [], 1, 1, 9, 1, 1, 1, 1⟩
def im18 : Img := zjs zih zcL 0 0 0 0
end Go.Lb.LK
namespace Go.Lb.LK
open Go Go.Lb Go.Proofs Go.RowKit
def p18 : Path := ⟨0, 0, [⟨0, 0, 1⟩]⟩
def q18 : Path := ⟨5, 0, [⟨1, 0, 0⟩]⟩
def hd18 (st : Int) : Hd := ⟨3, p18, [⟨1, 0, 1⟩], [⟨7, 1, 0⟩], st, 0, fun _ => false, false, 0, false⟩
def k18 (st : Int) : Kern := ⟨4, [hd18 st], fun _ => -1, fun _ => 0, fun _ => false⟩
def zeroK : Kern := ⟨0, [], fun _ => 0, fun _ => 0, fun _ => false⟩
theorem f1 : canN zih im18 zkp p18 = 0 := by decide +kernel
theorem f2 : canN zih zcL zkp p18 = 190 := by decide +kernel
theorem f3 : zmn zih im18 zkp 1 = true ∧ zmn zih zcL zkp 1 = false := by decide +kernel
theorem f4 : zjc (k18 1) 1 = some 3 ∧ zjc (k18 1) 2 = none := by decide +kernel
theorem f5 : zlQ (k18 1) 7 = some 1 := by decide +kernel
theorem f6 : zje (k18 1) 7 = false ∧ zje (k18 2) 7 = true := by decide +kernel
theorem f7 : canN zih im18 (k18 2) q18 = 190 := by decide +kernel
theorem f8 : zlq zih im18 (k18 2) ⟨7, 0, 0⟩ = false ∧ zlq zih im18 (k18 2) ⟨-1, 0, 0⟩ = false := by decide +kernel
theorem f9 : zaA (k18 2) = true ∧ zaA zkp = true ∧ zaA zeroK = false := by decide +kernel
theorem f10 : zga (k18 2) zkp = false := by decide +kernel
end Go.Lb.LK
namespace Go.Lb.LK
open Go Go.Lb Go.Proofs Go.RowKit
end Go.Lb.LK
namespace Go.Lb.LK
open Go Go.Lb Go.Proofs Go.RowKit
end Go.Lb.LK
namespace Go.Lb.LK
open Go Go.Lb Go.Proofs Go.RowKit
theorem ziI {l : List Step} (h : AV.wgt reachBytes (steps l)) : l.length ≤ 6000000000000 := by
 have h1 := (zlV (g := Step.av) h).1
 cases l with
 | nil => simp
 | cons x r =>
  have := h1 x (by simp)
  simp [Step.cells, AV.bytesL, AV.bytes1, zig, reachBytes] at this
  simp only [List.length_cons]
  omega
theorem zlr {l : List Need} (h : AV.wgt reachBytes (needs l)) : l.length ≤ 6000000000000 := by
 have h1 := (zlV (g := Need.av) h).1
 cases l with
 | nil => simp
 | cons x r =>
  have := h1 x (by simp)
  simp [Need.cells, AV.bytesL, AV.bytes1, zig, reachBytes] at this
  simp only [List.length_cons]
  omega
theorem zog {h : Hd} (hb : AV.wgt reachBytes h.av) : h.wide := by
 have hb : AV.wgts reachBytes h.cells := by simpa only [AV.wgt] using hb
 have h4 : AV.wgt reachBytes (steps h.path.steps) := zcF hb _ (by simp [Hd.cells])
 have h2 : AV.wgt reachBytes (steps h.over) := zcF hb _ (by simp [Hd.cells])
 have h3 : AV.wgt reachBytes (needs h.needs) := zcF hb _ (by simp [Hd.cells])
 exact ⟨ziI h4, ziI h2, zlr h3⟩
theorem zjJ {k : Kern} (hb : AV.wgt reachBytes k.av) : k.wide := by
 have hb : AV.wgts reachBytes k.cells := by simpa only [AV.wgt] using hb
 have h0 : AV.wgt reachBytes (zoh k.held) := zcF hb _ (by simp [Kern.cells])
 have h1 := zlV (g := Hd.av) (l := k.held) h0
 refine ⟨?_, fun h hh => zog (h1.2 h hh)⟩
 cases hk : k.held with
 | nil => simp
 | cons x r =>
  have := h1.1 x (by simp [hk])
  rw [hk] at this
  simp [Hd.cells, AV.bytesL, AV.bytes1, zig, reachBytes] at this
  simp only [List.length_cons]
  omega
theorem zef {k : Kern} (h : zaA k = true) {i : Nat} (hi : i < k.held.length) : zav k.held[i] = true ∧ k.held[i].id < k.next ∧ zcG k i < k.held[i].id ∧ ∀ j, j < i → ∀ hj : j < k.held.length, zbs k.held[i] k.held[j] = true := by
 simp only [zaA, Bool.and_eq_true] at h
 have h1 := List.all_eq_true.1 h.2.1 i (List.mem_range.2 hi)
 rw [zeE hi] at h1
 simp only [Bool.and_eq_true, decide_eq_true_eq] at h1
 refine ⟨h1.1, h1.2.1, h1.2.2.1, fun j hj hj2 => ?_⟩
 exact List.all_eq_true.1 h1.2.2.2 _ (List.mem_take_iff_getElem.2 ⟨j, by omega, rfl⟩)
end Go.Lb.LK
namespace Go.Lb.LK
open Go Go.Lb Go.Proofs Go.RowKit
structure GoodL (nx : Int) (hs : List Hd) : Prop where
 right : ∀ h ∈ hs, zav h = true
 lt : ∀ h ∈ hs, h.id < nx
 pw : hs.Pairwise fun a b => a.id < b.id ∧ zbs b a = true
theorem zjd {k : Kern} (hr : zaA k = true) : ∀ j, ∀ hj : j < k.held.length, ∀ i, ∀ hi : i < j, k.held[i].id < k.held[j].id := by
 intro j
 induction j with
 | zero => intro _ i hi; omega
 | succ j ih =>
  intro hj i hi
  have h1 := (zef hr hj).2.2.1
  rw [zfD (by omega)] at h1
  by_cases hij : i = j
  ·subst hij; exact h1
  ·have := ih (by omega) i (by omega)
   omega
theorem znh {k : Kern} (hr : zaA k = true) : GoodL k.next k.held := by
 refine ⟨fun h hh => ?_, fun h hh => ?_, ?_⟩
 ·obtain ⟨i, hi, rfl⟩ := List.mem_iff_getElem.1 hh
  exact (zef hr hi).1
 ·obtain ⟨i, hi, rfl⟩ := List.mem_iff_getElem.1 hh
  exact (zef hr hi).2.1
 ·rw [List.pairwise_iff_getElem]
  exact fun i j hi hj hij => ⟨zjd hr j hj i hij, (zef hr hj).2.2.2 i hij hi⟩
theorem zjV {k : Kern} (h1 : k.held.length ≤ 6) (h2 : 1 ≤ k.next) (h3 : k.next ≤ 1073741824) (hg : GoodL k.next k.held) (hm : zfH k = true) : zaA k = true := by
 have hp := List.pairwise_iff_getElem.1 hg.pw
 have : (List.range k.held.length).all (okAt k) = true := by
  refine zfN fun i hi => ?_
  rw [zeE hi]
  have hr := hg.right _ (List.getElem_mem hi)
  have hl := hg.lt _ (List.getElem_mem hi)
  have hid : zcG k i < k.held[i].id := by
   by_cases h0 : i = 0
   ·subst h0
    have := (zcd hr).1
    unfold Hd.g1 at this
    simp only [zcG, if_true]
    omega
   ·obtain ⟨j, rfl⟩ : ∃ j, i = j + 1 := ⟨i - 1, by omega⟩
    rw [zfD (by omega)]
    exact (hp j (j + 1) (by omega) hi (by omega)).1
  have hap : (k.held.take i).all (zbs k.held[i]) = true := by
   rw [List.all_eq_true]
   intro x hx
   obtain ⟨j, hj, rfl⟩ := List.mem_take_iff_getElem.1 hx
   exact (hp j i (by omega) hi (by omega)).2
  simp [hr, hl, hid, hap]
 simp [zaA, h1, h2, h3, this, hm]
theorem znp {k : Kern} (hr : zaA k = true) : k.held.length ≤ 6 ∧ 1 ≤ k.next ∧ k.next ≤ 1073741824 ∧ zfH k = true := by
 simp only [zaA, Bool.and_eq_true, decide_eq_true_eq] at hr
 exact ⟨hr.1.1, hr.1.2.1, hr.1.2.2, hr.2.2⟩
theorem GoodL.sub {nx : Int} {a b : List Hd} (h : GoodL nx b) (hs : a.Sublist b) : GoodL nx a :=
 ⟨fun x hx => h.right x (hs.subset hx), fun x hx => h.lt x (hs.subset hx), h.pw.sublist hs⟩
structure Less (a b : Hd) : Prop where
 id : a.id = b.id
 secs : ∀ s ∈ zbv a, s ∈ zbv b
 needs : ∀ n ∈ zdt a, n ∈ zdt b
theorem Less.refl (a : Hd) : Less a a := ⟨rfl, fun _ h => h, fun _ h => h⟩
theorem Less.apart {a b c d : Hd} (h1 : Less a b) (h2 : Less c d) (h : zbs b d = true) : zbs a c = true := by
 unfold zbs at h ⊢
 rw [Bool.and_eq_true, Bool.not_eq_true', Bool.not_eq_true'] at h ⊢
 constructor
 ·refine List.any_eq_false.2 fun s hs => ?_
  have := List.any_eq_false.1 h.1 s (h1.secs s hs)
  simp only [decide_eq_true_eq] at this ⊢
  exact fun hc => this (h2.secs s hc)
 ·refine List.any_eq_false.2 fun x hx => ?_
  have h3 := List.any_eq_false.1 h.2 x (h1.needs x hx)
  rw [Bool.not_eq_true] at h3 ⊢
  refine List.any_eq_false.2 fun y hy => ?_
  exact List.any_eq_false.1 h3 y (h2.needs y hy)
theorem GoodL.put {nx : Int} {hs : List Hd} {m : Nat} (hm : m < hs.length) {h : Hd} (hg : GoodL nx hs) (hl : Less h hs[m]) (hr : zav h = true) : GoodL nx (hs.set m h) := by
 refine ⟨fun x hx => ?_, fun x hx => ?_, ?_⟩
 ·rcases List.mem_or_eq_of_mem_set hx with hx | rfl
  ·exact hg.right x hx
  ·exact hr
 ·rcases List.mem_or_eq_of_mem_set hx with hx | rfl
  ·exact hg.lt x hx
  ·rw [hl.id]; exact hg.lt _ (List.getElem_mem hm)
 ·rw [List.pairwise_iff_getElem]
  intro i j hi hj hij
  have hp := List.pairwise_iff_getElem.1 hg.pw i j (by simpa using hi) (by simpa using hj) hij
  simp only [List.getElem_set]
  by_cases h1 : m = i
  ·subst h1
   rw [if_pos rfl, if_neg (by omega)]
   exact ⟨by rw [hl.id]; exact hp.1, (Less.refl _).apart hl hp.2⟩
  ·by_cases h2 : m = j
   ·subst h2
    rw [if_neg h1, if_pos rfl]
    exact ⟨by rw [hl.id]; exact hp.1, hl.apart (Less.refl _) hp.2⟩
   ·rw [if_neg h1, if_neg h2]; exact hp
theorem zlo (h : Hd) (t : Int) (st : Int) : Less { h with stage := st, timer := t } h := ⟨rfl, fun _ h => h, fun _ h => h⟩
theorem zkq {h : Hd} (hr : zav h = true) {st t : Int} (h1 : 1 ≤ st ∧ st < 5) (h2 : 0 ≤ t ∧ t ≤ 1073741824) : zav { h with stage := st, timer := t } = true := by
 unfold zav at hr ⊢
 simp only [Bool.and_eq_true, decide_eq_true_eq] at hr ⊢
 obtain ⟨a, b, c⟩ := hr
 refine ⟨?_, ?_, c⟩
 ·unfold Hd.g1 at a ⊢
  exact ⟨a.1, a.2.1, h2.1, h2.2, a.2.2.2.2⟩
 ·unfold Hd.g2 at b ⊢
  exact ⟨h1.1, h1.2, b.2.2⟩
end Go.Lb.LK
namespace Go.Lb.LK
open Go Go.Lb Go.Proofs Go.RowKit
theorem zcS (l : Lay) (im : Img) (k : Kern) (x : Int) : zaw l im k x = (k, false) ∨ ∃ m, ∃ hm : m < k.held.length, atK k x = m ∧ k.held[m].path.sig = x ∧
  ((zaw l im k x = ({ k with held := k.held.take m ++ k.held.drop (m + 1) }, true) ∧ zb7 l im k.held[m] = 1) ∨ (zaw l im k x = ({ k with held := k.held.set m { k.held[m] with stage := 4, timer := l.approach } }, true) ∧ zb7 l im k.held[m] = 2)) := by
 rcases zdz k.held x k.held.length with ha | ⟨m, ha, _, hml⟩
 ·exact .inl (by simp [zaw, atK, ha])
 ·have hcn : zaw l im k x = za8 l im k m k.held[m] := by
   have : ¬ ((m : Int) < 0) := by omega
   simp [zaw, atK, ha, this, List.getElem?_eq_getElem hml]
  have hsig : k.held[m].path.sig = x := zgZ ha _ (List.getElem?_eq_getElem hml)
  rw [hcn]
  unfold za8
  split
  ·rename_i h; exact .inr ⟨m, hml, ha, hsig, .inl ⟨rfl, h⟩⟩
  ·split
   ·rename_i h; exact .inr ⟨m, hml, ha, hsig, .inr ⟨rfl, h⟩⟩
   ·exact .inl rfl
theorem zkX {l : Lay} {im : Img} {h : Hd} (hc : zb7 l im h = 1) : h.stage = 1 ∨ h.stage = 2 := by
 unfold zb7 zfs at hc
 repeat' split at hc
 all_goals first | exact .inl (by assumption) | exact .inr (by assumption) | omega
theorem zkY {l : Lay} {im : Img} {h : Hd} (hc : zb7 l im h = 2) : h.stage = 2 ∨ h.stage = 3 := by
 unfold zb7 zfs at hc
 repeat' split at hc
 all_goals first | exact .inl (by assumption) | exact .inr (by assumption) | omega
theorem zhX {l : Lay} {im : Img} {k : Kern} {x : Int} (hr : zaA k = true) (ha : 0 ≤ l.approach ∧ l.approach ≤ 1073741824) : zaA (zaw l im k x).1 = true := by
 obtain ⟨h1, h2, h3, h4⟩ := znp hr
 have hg := znh hr
 rcases zcS l im k x with h | ⟨m, hm, _, _, ⟨h, _⟩ | ⟨h, _⟩⟩
 ·rw [h]; exact hr
 ·rw [h]
  refine zjV ?_ h2 h3 (hg.sub ?_) h4
  ·simp only [List.length_append, List.length_take, List.length_drop]; omega
  ·show (k.held.take m ++ k.held.drop (m + 1)).Sublist k.held
   rw [← List.eraseIdx_eq_take_drop_succ]
   exact List.eraseIdx_sublist _ _
 ·rw [h]
  refine zjV ?_ h2 h3 (hg.put hm (zlo _ _ _) (zkq (hg.right _ (List.getElem_mem hm)) (by omega) ha)) h4
  simpa using h1
end Go.Lb.LK
namespace Go.Lb.LK
open Go Go.Lb Go.Proofs
noncomputable section
end
end Go.Lb.LK
namespace Go.Lb.LK
open Go Go.Lb Go.Proofs Go.RowKit
def anyU (p : Nat → Bool) (n : Nat) : Bool := (List.range n).any p
theorem zkI (p : Nat → Bool) : anyU p 0 = false := rfl
theorem zhR (p : Nat → Bool) (n : Nat) : anyU p (n + 1) = (anyU p n || p n) := by
 unfold anyU
 rw [List.range_succ]; simp
theorem zce {a : Hd} (h : a.len) : C f_lockbarref17_Same [a.av, a.av] (.bool true) := by
 have := zfq a a h
 rw [zgN] at this; exact this
theorem znE {a : Kern} (h : a.len) : C f_lockbarref18_Same [a.av, a.av] (.bool true) := by
 have := zfr a a h
 rw [zeI] at this; exact this
end Go.Lb.LK
