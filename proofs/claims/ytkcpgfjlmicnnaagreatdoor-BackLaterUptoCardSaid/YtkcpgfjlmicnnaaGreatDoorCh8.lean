/- Whether a path can be had, as the document has it. -/
/- Whether a path can be had, as the program has it. -/
/- What the document says that steps want, that paths need. -/
/- What the document says that paths need. -/
/- Whether a path can be had, as the document has it: the walk. -/
/- A kernel of nothing; a layout of two sections; paths that are too great. -/
/- What the document says of a new image; of a route in two sections: the values. -/
/- What the document says of a new image; of a route in two sections. -/
/- What the document says of a new image; of a route in two sections: the walk. -/
/- Kernels that may be: one holder of a section, one position of a point. -/
/- Kernels that may be, told of their rows of routes; what comes of cancelling. -/
/- What functions come to, printed by a program, checked by the kernel. -/
/- A tick of a route in another stage, or with an image that is stale, changes nothing; of one in HtBack, in which no train is told, Timer alone; with one it runs. -/
/- What functions come to, printed by a program, checked by the kernel. -/
/- A route whose signal was shown, with a train in rear, is gone only behind Times.Approach ticks, in none of which a train was in it; as soon as one is told in it it runs. -/
import Derived.Test.YtkcpgfjlmicnnaaGreatDoorCh6
import Derived.Test.YtkcpgfjlmicnnaaGreatDoorCh7
import Derived.Test.YtkcpgfjlmicnnaaGreatDoorFw10
import Derived.Test.YtkcpgfjlmicnnaaGreatDoorCh1
set_option linter.unusedSimpArgs false
set_option linter.unusedVariables false
namespace Go.Lb.LK
open Go Go.Lb Go.Proofs Go.RowKit

def sigTaken (p : Path) (h : Hd) : Bool := decide (h.path.sig = p.sig) && !decide (h.stage = 3)
def canN (l : Lay) (im : Img) (k : Kern) (p : Path) : Int :=
  if (k.held.any (sigTaken p) || ((p.steps ++ over l p.exit).any (fun s => !freeN l im k s.s) || (needOf l p).any (fun n => !meetsN l im k n))) = true then 190
  else if 6 ≤ k.held.length then 191 else 0
structure CanOk (l : Lay) (k : Kern) (p : Path) : Prop where
  kl : k.len
  lo : l.ok
  ov : l.ovOk
  fl : l.flanks.length ≤ 1000
  pl : p.steps.length ≤ 1000
  ol : (over l p.exit).length ≤ 1000
end Go.Lb.LK

namespace Go.Lb.LK
open Go Go.Lb Go.Proofs Go.RowKit

end Go.Lb.LK

namespace Go.Lb.LK
open Go Go.Lb Go.Proofs Go.RowKit

end Go.Lb.LK

namespace Go.Lb.LK
open Go Go.Lb Go.Proofs Go.RowKit

end Go.Lb.LK

namespace Go.Lb.LK
open Go Go.Lb Go.Proofs Go.RowKit

end Go.Lb.LK

namespace Go.Lb.LK
open Go Go.Lb Go.Proofs Go.RowKit

def restK : Kern := ⟨1, [], fun _ => -1, fun _ => 0, fun _ => false⟩
def noneP : Port := ⟨-1, 0⟩
def lay18 : Lay := ⟨[⟨1, noneP, ⟨1, 0⟩, noneP, noneP, 0, 0⟩, ⟨1, ⟨0, 1⟩, noneP, noneP, noneP, 0, 0⟩], [⟨0, 0⟩], [⟨⟨0, 1⟩, [⟨1, 0, 1⟩]⟩], [], 1, 1, 9, 1, 1, 1, 1⟩
def im18 : Img := takeI lay18 imNew 0 0 0 0
end Go.Lb.LK

namespace Go.Lb.LK
open Go Go.Lb Go.Proofs Go.RowKit

def p18 : Path := ⟨0, 0, [⟨0, 0, 1⟩]⟩
def q18 : Path := ⟨5, 0, [⟨1, 0, 0⟩]⟩
def hd18 (st : Int) : Hd := ⟨3, p18, [⟨1, 0, 1⟩], [⟨7, 1, 0⟩], st, 0, fun _ => false, false, 0, false⟩
def k18 (st : Int) : Kern := ⟨4, [hd18 st], fun _ => -1, fun _ => 0, fun _ => false⟩
def zeroK : Kern := ⟨0, [], fun _ => 0, fun _ => 0, fun _ => false⟩
theorem f1 : canN lay18 im18 restK p18 = 0 := by decide +kernel
theorem f2 : canN lay18 imNew restK p18 = 190 := by decide +kernel
theorem f3 : freeN lay18 im18 restK 1 = true ∧ freeN lay18 imNew restK 1 = false := by decide +kernel
theorem f4 : holderN (k18 1) 1 = some 3 ∧ holderN (k18 1) 2 = none := by decide +kernel
theorem f5 : wantedN (k18 1) 7 = some 1 := by decide +kernel
theorem f6 : lockedN (k18 1) 7 = false ∧ lockedN (k18 2) 7 = true := by decide +kernel
theorem f7 : canN lay18 im18 (k18 2) q18 = 190 := by decide +kernel
theorem f8 : meetsN lay18 im18 (k18 2) ⟨7, 0, 0⟩ = false ∧ meetsN lay18 im18 (k18 2) ⟨-1, 0, 0⟩ = false := by decide +kernel
theorem f9 : rightK (k18 2) = true ∧ rightK restK = true ∧ rightK zeroK = false := by decide +kernel
theorem f10 : sameK (k18 2) restK = false := by decide +kernel
end Go.Lb.LK

namespace Go.Lb.LK
open Go Go.Lb Go.Proofs Go.RowKit

end Go.Lb.LK

namespace Go.Lb.LK
open Go Go.Lb Go.Proofs Go.RowKit

end Go.Lb.LK

namespace Go.Lb.LK
open Go Go.Lb Go.Proofs Go.RowKit

theorem hd_bnd {h : Hd} (hb : AV.bnd 1048576 h.av) : h.len := by
  have hb : AV.bnds 1048576 h.cells := by simpa only [AV.bnd] using hb
  have h4 : AV.bnd 1048576 (steps h.path.steps) := bnds_mem hb _ (by simp [Hd.cells])
  have h2 : AV.bnd 1048576 (steps h.over) := bnds_mem hb _ (by simp [Hd.cells])
  have h3 : AV.bnd 1048576 (needs h.needs) := bnds_mem hb _ (by simp [Hd.cells])
  exact ⟨(bnd_sl h4).1, (bnd_sl h2).1, (bnd_sl h3).1⟩
theorem kern_bnd {k : Kern} (hb : AV.bnd 1048576 k.av) : k.len := by
  rw [Kern.av, kcells] at hb
  simp only [AV.bnd, AV.bnds] at hb
  obtain ⟨_, h1, _⟩ := hb
  have := bnd_sl (g := Hd.av) (l := k.held) (by simpa only [AV.bnd] using h1)
  exact ⟨this.1, fun h hh => hd_bnd (this.2 h hh)⟩
theorem rightK_at {k : Kern} (h : rightK k = true) {i : Nat} (hi : i < k.held.length) : rightS k.held[i] = true ∧ k.held[i].id < k.next ∧ lastId k i < k.held[i].id ∧ ∀ j, j < i → ∀ hj : j < k.held.length, apartS k.held[i] k.held[j] = true := by
  simp only [rightK, Bool.and_eq_true] at h
  have h1 := List.all_eq_true.1 h.2.1 i (List.mem_range.2 hi)
  rw [okAt_lt hi] at h1
  simp only [Bool.and_eq_true, decide_eq_true_eq] at h1
  refine ⟨h1.1, h1.2.1, h1.2.2.1, fun j hj hj2 => ?_⟩
  exact List.all_eq_true.1 h1.2.2.2 _ (List.mem_take_iff_getElem.2 ⟨j, by omega, rfl⟩)
end Go.Lb.LK

namespace Go.Lb.LK
open Go Go.Lb Go.Proofs Go.RowKit

structure GoodL (nx : Int) (hs : List Hd) : Prop where
  right : ∀ h ∈ hs, rightS h = true
  lt : ∀ h ∈ hs, h.id < nx
  pw : hs.Pairwise fun a b => a.id < b.id ∧ apartS b a = true
theorem id_rise {k : Kern} (hr : rightK k = true) : ∀ j, ∀ hj : j < k.held.length, ∀ i, ∀ hi : i < j, k.held[i].id < k.held[j].id := by
  intro j
  induction j with
  | zero => intro _ i hi; omega
  | succ j ih =>
    intro hj i hi
    have h1 := (rightK_at hr hj).2.2.1
    rw [lastId_succ (by omega)] at h1
    by_cases hij : i = j
    · subst hij; exact h1
    · have := ih (by omega) i (by omega)
      omega
theorem good_of {k : Kern} (hr : rightK k = true) : GoodL k.next k.held := by
  refine ⟨fun h hh => ?_, fun h hh => ?_, ?_⟩
  · obtain ⟨i, hi, rfl⟩ := List.mem_iff_getElem.1 hh
    exact (rightK_at hr hi).1
  · obtain ⟨i, hi, rfl⟩ := List.mem_iff_getElem.1 hh
    exact (rightK_at hr hi).2.1
  · rw [List.pairwise_iff_getElem]
    exact fun i j hi hj hij => ⟨id_rise hr j hj i hij, (rightK_at hr hj).2.2.2 i hij hi⟩
theorem right_of {k : Kern} (h1 : k.held.length ≤ 6) (h2 : 1 ≤ k.next) (h3 : k.next ≤ 1073741824) (hg : GoodL k.next k.held) (hm : machAll k = true) : rightK k = true := by
  have hp := List.pairwise_iff_getElem.1 hg.pw
  have : (List.range k.held.length).all (okAt k) = true := by
    refine range_all fun i hi => ?_
    rw [okAt_lt hi]
    have hr := hg.right _ (List.getElem_mem hi)
    have hl := hg.lt _ (List.getElem_mem hi)
    have hid : lastId k i < k.held[i].id := by
      by_cases h0 : i = 0
      · subst h0
        have := (right_facts hr).1
        unfold Hd.g1 at this
        simp only [lastId, if_true]
        omega
      · obtain ⟨j, rfl⟩ : ∃ j, i = j + 1 := ⟨i - 1, by omega⟩
        rw [lastId_succ (by omega)]
        exact (hp j (j + 1) (by omega) hi (by omega)).1
    have hap : (k.held.take i).all (apartS k.held[i]) = true := by
      rw [List.all_eq_true]
      intro x hx
      obtain ⟨j, hj, rfl⟩ := List.mem_take_iff_getElem.1 hx
      exact (hp j i (by omega) hi (by omega)).2
    simp [hr, hl, hid, hap]
  simp [rightK, h1, h2, h3, this, hm]
theorem mach_of {k : Kern} (hr : rightK k = true) : k.held.length ≤ 6 ∧ 1 ≤ k.next ∧ k.next ≤ 1073741824 ∧ machAll k = true := by
  simp only [rightK, Bool.and_eq_true, decide_eq_true_eq] at hr
  exact ⟨hr.1.1, hr.1.2.1, hr.1.2.2, hr.2.2⟩
theorem GoodL.sub {nx : Int} {a b : List Hd} (h : GoodL nx b) (hs : a.Sublist b) : GoodL nx a :=
  ⟨fun x hx => h.right x (hs.subset hx), fun x hx => h.lt x (hs.subset hx), h.pw.sublist hs⟩
/-- Who holds no more than another one is apart from whom that one is apart from. -/
structure Less (a b : Hd) : Prop where
  id : a.id = b.id
  secs : ∀ s ∈ secsN a, s ∈ secsN b
  needs : ∀ n ∈ needsN a, n ∈ needsN b
theorem Less.refl (a : Hd) : Less a a := ⟨rfl, fun _ h => h, fun _ h => h⟩
theorem Less.apart {a b c d : Hd} (h1 : Less a b) (h2 : Less c d) (h : apartS b d = true) : apartS a c = true := by
  unfold apartS at h ⊢
  rw [Bool.and_eq_true, Bool.not_eq_true', Bool.not_eq_true'] at h ⊢
  constructor
  · refine List.any_eq_false.2 fun s hs => ?_
    have := List.any_eq_false.1 h.1 s (h1.secs s hs)
    simp only [decide_eq_true_eq] at this ⊢
    exact fun hc => this (h2.secs s hc)
  · refine List.any_eq_false.2 fun x hx => ?_
    have h3 := List.any_eq_false.1 h.2 x (h1.needs x hx)
    rw [Bool.not_eq_true] at h3 ⊢
    refine List.any_eq_false.2 fun y hy => ?_
    exact List.any_eq_false.1 h3 y (h2.needs y hy)
theorem GoodL.put {nx : Int} {hs : List Hd} {m : Nat} (hm : m < hs.length) {h : Hd} (hg : GoodL nx hs) (hl : Less h hs[m]) (hr : rightS h = true) : GoodL nx (hs.set m h) := by
  refine ⟨fun x hx => ?_, fun x hx => ?_, ?_⟩
  · rcases List.mem_or_eq_of_mem_set hx with hx | rfl
    · exact hg.right x hx
    · exact hr
  · rcases List.mem_or_eq_of_mem_set hx with hx | rfl
    · exact hg.lt x hx
    · rw [hl.id]; exact hg.lt _ (List.getElem_mem hm)
  · rw [List.pairwise_iff_getElem]
    intro i j hi hj hij
    have hp := List.pairwise_iff_getElem.1 hg.pw i j (by simpa using hi) (by simpa using hj) hij
    simp only [List.getElem_set]
    by_cases h1 : m = i
    · subst h1
      rw [if_pos rfl, if_neg (by omega)]
      exact ⟨by rw [hl.id]; exact hp.1, (Less.refl _).apart hl hp.2⟩
    · by_cases h2 : m = j
      · subst h2
        rw [if_neg h1, if_pos rfl]
        exact ⟨by rw [hl.id]; exact hp.1, hl.apart (Less.refl _) hp.2⟩
      · rw [if_neg h1, if_neg h2]; exact hp
theorem less_back (h : Hd) (t : Int) (st : Int) : Less { h with stage := st, timer := t } h := ⟨rfl, fun _ h => h, fun _ h => h⟩
theorem right_back {h : Hd} (hr : rightS h = true) {st t : Int} (h1 : 1 ≤ st ∧ st < 5) (h2 : 0 ≤ t ∧ t ≤ 1073741824) : rightS { h with stage := st, timer := t } = true := by
  unfold rightS at hr ⊢
  simp only [Bool.and_eq_true, decide_eq_true_eq] at hr ⊢
  obtain ⟨a, b, c⟩ := hr
  refine ⟨?_, ?_, c⟩
  · unfold Hd.g1 at a ⊢
    exact ⟨a.1, a.2.1, h2.1, h2.2, a.2.2.2.2⟩
  · unfold Hd.g2 at b ⊢
    exact ⟨h1.1, h1.2, b.2.2⟩
theorem cancel_cases (l : Lay) (im : Img) (k : Kern) (x : Int) : cancelN l im k x = (k, false) ∨ ∃ m, ∃ hm : m < k.held.length, atK k x = m ∧ k.held[m].path.sig = x ∧
    ((cancelN l im k x = ({ k with held := k.held.take m ++ k.held.drop (m + 1) }, true) ∧ comesN l im k.held[m] = 1) ∨ (cancelN l im k x = ({ k with held := k.held.set m { k.held[m] with stage := 4, timer := l.approach } }, true) ∧ comesN l im k.held[m] = 2)) := by
  rcases atU_rng k.held x k.held.length with ha | ⟨m, ha, _, hml⟩
  · exact .inl (by simp [cancelN, atK, ha])
  · have hcn : cancelN l im k x = cancelAt l im k m k.held[m] := by
      have : ¬ ((m : Int) < 0) := by omega
      simp [cancelN, atK, ha, this, List.getElem?_eq_getElem hml]
    have hsig : k.held[m].path.sig = x := atU_sig ha _ (List.getElem?_eq_getElem hml)
    rw [hcn]
    unfold cancelAt
    split
    · rename_i h; exact .inr ⟨m, hml, ha, hsig, .inl ⟨rfl, h⟩⟩
    · split
      · rename_i h; exact .inr ⟨m, hml, ha, hsig, .inr ⟨rfl, h⟩⟩
      · exact .inl rfl
theorem comes_one {l : Lay} {im : Img} {h : Hd} (hc : comesN l im h = 1) : h.stage = 1 ∨ h.stage = 2 := by
  unfold comesN comes3 at hc
  repeat' split at hc
  all_goals first | exact .inl (by assumption) | exact .inr (by assumption) | omega
theorem comes_two {l : Lay} {im : Img} {h : Hd} (hc : comesN l im h = 2) : h.stage = 2 ∨ h.stage = 3 := by
  unfold comesN comes3 at hc
  repeat' split at hc
  all_goals first | exact .inl (by assumption) | exact .inr (by assumption) | omega
theorem cancel_right {l : Lay} {im : Img} {k : Kern} {x : Int} (hr : rightK k = true) (ha : 0 ≤ l.approach ∧ l.approach ≤ 1073741824) : rightK (cancelN l im k x).1 = true := by
  obtain ⟨h1, h2, h3, h4⟩ := mach_of hr
  have hg := good_of hr
  rcases cancel_cases l im k x with h | ⟨m, hm, _, _, ⟨h, _⟩ | ⟨h, _⟩⟩
  · rw [h]; exact hr
  · rw [h]
    refine right_of ?_ h2 h3 (hg.sub ?_) h4
    · simp only [List.length_append, List.length_take, List.length_drop]; omega
    · show (k.held.take m ++ k.held.drop (m + 1)).Sublist k.held
      rw [← List.eraseIdx_eq_take_drop_succ]
      exact List.eraseIdx_sublist _ _
  · rw [h]
    refine right_of ?_ h2 h3 (hg.put hm (less_back _ _ _) (right_back (hg.right _ (List.getElem_mem hm)) (by omega) ha)) h4
    simpa using h1
end Go.Lb.LK

namespace Go.Lb.LK
open Go Go.Lb Go.Proofs
end Go.Lb.LK

namespace Go.Lb.LK
open Go Go.Lb Go.Proofs Go.RowKit

def anyU (p : Nat → Bool) (n : Nat) : Bool := (List.range n).any p
theorem anyU_zero (p : Nat → Bool) : anyU p 0 = false := rfl
theorem anyU_succ (p : Nat → Bool) (n : Nat) : anyU p (n + 1) = (anyU p n || p n) := by
  unfold anyU
  rw [List.range_succ]; simp
theorem same_refl {a : Hd} (h : a.len) : C f_lockbarref17_Same [a.av, a.av] (.bool true) := by
  have := c_r17Same a a h
  rw [sameS_refl] at this; exact this
theorem sameK_r {a : Kern} (h : a.len) : C f_lockbarref18_Same [a.av, a.av] (.bool true) := by
  have := c_r18Same a a h
  rw [sameK_refl] at this; exact this
end Go.Lb.LK

namespace Go.Lb.LK
open Go Go.Lb Go.Proofs
@[simp] noncomputable def qkbacklater_0 : SE := .agg [.inp 0, .inp 1, .inp 2, .inp 3, .inp 4, .inp 5, .inp 6, .inp 7, .inp 8, .inp 9, .inp 10]
@[simp] noncomputable def qkbacklater_1 : SE := .agg [.inp 11, .inp 12, .inp 13, .inp 14, .inp 15, .inp 16, .inp 17, .inp 18, .inp 19, .inp 20, .inp 21, .inp 22, .inp 23, .inp 24, .inp 25, .inp 26, .inp 27, .inp 28, .inp 29, .inp 30, .inp 31, .inp 32, .inp 33, .inp 34, .inp 35, .inp 36, .inp 37, .inp 38, .inp 39, .inp 40, .inp 41, .inp 42, .inp 43, .inp 44, .inp 45, .inp 46, .inp 47, .inp 48, .inp 49, .inp 50, .inp 51, .inp 52, .inp 53, .inp 54, .inp 55, .inp 56, .inp 57, .inp 58, .inp 59, .inp 60, .inp 61, .inp 62, .inp 63, .inp 64, .inp 65, .inp 66, .inp 67, .inp 68, .inp 69, .inp 70, .inp 71, .inp 72, .inp 73, .inp 74, .inp 75, .inp 76, .inp 77, .inp 78, .inp 79, .inp 80, .inp 81, .inp 82, .inp 83, .inp 84]
@[simp] noncomputable def qkbacklater_2 : SE := .app .pick [.inp 87, .bool true, .app (.un .not) [.inp 88]]
@[simp] noncomputable def qkbacklater_3 : SE := .app (.bin .lss) [.app .len [.inp 86], .int .i64 1]
@[simp] noncomputable def qkbacklater_4 : SE := .app .pick [qkbacklater_2, .bool true, qkbacklater_3]
@[simp] noncomputable def qkbacklater_5 : SE := .app (.bin .gtr) [.app .len [.inp 86], .int .i64 40]
@[simp] noncomputable def qkbacklater_6 : SE := .app .pick [qkbacklater_4, .bool true, qkbacklater_5]
@[simp] noncomputable def qkbacklater_7 : SE := .app (.bin .lss) [.inp 7, .int .i64 1]
@[simp] noncomputable def qkbacklater_8 : SE := .app .pick [qkbacklater_6, .bool true, qkbacklater_7]
@[simp] noncomputable def qkbacklater_9 : SE := .app (.bin .gtr) [.inp 7, .int .i64 20]
@[simp] noncomputable def qkbacklater_10 : SE := .app (.eidx 4) [.inp 86, .int .i64 0]
@[simp] noncomputable def qkbacklater_11 : SE := .app (.part 0 1 false) [.inp 94]
@[simp] noncomputable def qkbacklater_12 : SE := .app (.part 1 1 false) [.inp 94]
@[simp] noncomputable def qkbacklater_13 : SE := .app (.part 2 1 false) [.inp 94]
@[simp] noncomputable def qkbacklater_14 : SE := .app (.part 3 1 false) [.inp 94]
@[simp] noncomputable def qkbacklater_15 : SE := .app (.part 4 1 false) [.inp 94]
@[simp] noncomputable def qkbacklater_16 : SE := .app (.part 5 1 false) [.inp 94]
@[simp] noncomputable def qkbacklater_17 : SE := .app (.part 6 1 false) [.inp 94]
@[simp] noncomputable def qkbacklater_18 : SE := .app (.part 7 1 false) [.inp 94]
@[simp] noncomputable def qkbacklater_19 : SE := .app (.part 8 1 false) [.inp 94]
@[simp] noncomputable def qkbacklater_20 : SE := .app (.part 9 1 false) [.inp 94]
@[simp] noncomputable def qkbacklater_21 : SE := .app (.part 10 1 false) [.inp 94]
@[simp] noncomputable def qkbacklater_22 : SE := .app (.part 11 1 false) [.inp 94]
@[simp] noncomputable def qkbacklater_23 : SE := .app (.part 12 1 false) [.inp 94]
@[simp] noncomputable def qkbacklater_24 : SE := .app (.part 13 1 false) [.inp 94]
@[simp] noncomputable def qkbacklater_25 : SE := .app (.part 14 1 false) [.inp 94]
@[simp] noncomputable def qkbacklater_26 : SE := .app (.part 15 1 false) [.inp 94]
@[simp] noncomputable def qkbacklater_27 : SE := .app (.part 16 1 false) [.inp 94]
@[simp] noncomputable def qkbacklater_28 : SE := .app (.part 17 1 false) [.inp 94]
@[simp] noncomputable def qkbacklater_29 : SE := .app (.part 18 1 false) [.inp 94]
@[simp] noncomputable def qkbacklater_30 : SE := .app (.part 19 1 false) [.inp 94]
@[simp] noncomputable def qkbacklater_31 : SE := .app (.part 20 1 false) [.inp 94]
@[simp] noncomputable def qkbacklater_32 : SE := .app (.part 21 1 false) [.inp 94]
@[simp] noncomputable def qkbacklater_33 : SE := .app (.part 22 1 false) [.inp 94]
@[simp] noncomputable def qkbacklater_34 : SE := .app (.part 23 1 false) [.inp 94]
@[simp] noncomputable def qkbacklater_35 : SE := .app (.part 24 1 false) [.inp 94]
@[simp] noncomputable def qkbacklater_36 : SE := .app (.part 25 1 false) [.inp 94]
@[simp] noncomputable def qkbacklater_37 : SE := .app (.part 26 1 false) [.inp 94]
@[simp] noncomputable def qkbacklater_38 : SE := .app (.part 27 1 false) [.inp 94]
@[simp] noncomputable def qkbacklater_39 : SE := .app (.part 28 1 false) [.inp 94]
@[simp] noncomputable def qkbacklater_40 : SE := .agg [qkbacklater_11, qkbacklater_12, qkbacklater_13, qkbacklater_14, qkbacklater_15, qkbacklater_16, qkbacklater_17, qkbacklater_18, qkbacklater_19, qkbacklater_20, qkbacklater_21, qkbacklater_22, qkbacklater_23, qkbacklater_24, qkbacklater_25, qkbacklater_26, qkbacklater_27, qkbacklater_28, qkbacklater_29, qkbacklater_30, qkbacklater_31, qkbacklater_32, qkbacklater_33, qkbacklater_34, qkbacklater_35, qkbacklater_36, qkbacklater_37, qkbacklater_38, qkbacklater_39]
@[simp] noncomputable def qkbacklater_41 : SE := .app (.eidx 23) [.inp 12, .inp 97]
@[simp] noncomputable def qkbacklater_42 : SE := .app (.eoff 1) [qkbacklater_41]
@[simp] noncomputable def qkbacklater_43 : SE := .app (.eoff 0) [qkbacklater_42]
@[simp] noncomputable def qkbacklater_44 : SE := .app (.eload 1 false) [qkbacklater_43]
@[simp] noncomputable def qkbacklater_45 : SE := .app (.bin .add) [.inp 97, .int .i64 1]
@[simp] noncomputable def qkbacklater_46 : SE := .app (.un .not) [.app (.tproj 1) [.inp 95]]
@[simp] noncomputable def qkbacklater_47 : SE := .app (.part 1 1 false) [.app (.tproj 0) [.inp 95]]
@[simp] noncomputable def qkbacklater_48 : SE := .app .pick [qkbacklater_46, .inp 98, .bool false]
@[simp] noncomputable def qkbacklater_49 : SE := .app (.eidx 23) [.inp 12, .inp 96]
@[simp] noncomputable def qkbacklater_50 : SE := .app (.eload 23 true) [qkbacklater_49]
@[simp] noncomputable def qkbacklater_51 : SE := .app (.part 6 1 false) [qkbacklater_50]
@[simp] noncomputable def qkbacklater_52 : SE := .app (.bin .neq) [qkbacklater_51, .int .u8 2]
@[simp] noncomputable def qkbacklater_53 : SE := .app (.part 22 1 false) [qkbacklater_50]
@[simp] noncomputable def qkbacklater_54 : SE := .app (.un .not) [qkbacklater_53]
@[simp] noncomputable def qkbacklater_55 : SE := .app .pick [qkbacklater_52, .bool true, qkbacklater_54]
@[simp] noncomputable def qkbacklater_56 : SE := .app .len [qkbacklater_47]
@[simp] noncomputable def qkbacklater_57 : SE := .app (.bin .neq) [qkbacklater_56, .app .len [.inp 12]]
@[simp] noncomputable def qkbacklater_58 : SE := .app .pick [qkbacklater_46, .bool true, qkbacklater_57]
@[simp] noncomputable def qkbacklater_59 : SE := .app (.eidx 23) [qkbacklater_47, .inp 96]
@[simp] noncomputable def qkbacklater_60 : SE := .app (.eoff 6) [qkbacklater_59]
@[simp] noncomputable def qkbacklater_61 : SE := .app (.eload 1 false) [qkbacklater_60]
@[simp] noncomputable def qkbacklater_62 : SE := .app (.bin .neq) [qkbacklater_61, .int .u8 4]
@[simp] noncomputable def qkbacklater_63 : SE := .app .pick [qkbacklater_58, .bool true, qkbacklater_62]
@[simp] noncomputable def qkbacklater_64 : SE := .app (.eoff 21) [qkbacklater_59]
@[simp] noncomputable def qkbacklater_65 : SE := .app (.eload 1 false) [qkbacklater_64]
@[simp] noncomputable def qkbacklater_66 : SE := .app (.bin .neq) [qkbacklater_65, .inp 7]
@[simp] noncomputable def qkbacklater_67 : SE := .app (.eload 23 true) [qkbacklater_59]
@[simp] noncomputable def qkbacklater_68 : SE := .app (.eidx 4) [.inp 86, .inp 105]
@[simp] noncomputable def qkbacklater_69 : SE := .app (.part 3 1 false) [qkbacklater_50]
@[simp] noncomputable def qkbacklater_70 : SE := .app .len [qkbacklater_69]
@[simp] noncomputable def qkbacklater_71 : SE := .app (.part 7 1 false) [qkbacklater_50]
@[simp] noncomputable def qkbacklater_72 : SE := .app (.bin .geq) [.inp 161, qkbacklater_71]
@[simp] noncomputable def qkbacklater_73 : SE := .app (.eidx 3) [qkbacklater_69, .inp 161]
@[simp] noncomputable def qkbacklater_74 : SE := .app (.eoff 0) [qkbacklater_73]
@[simp] noncomputable def qkbacklater_75 : SE := .app (.part 0 1 false) [.inp 158]
@[simp] noncomputable def qkbacklater_76 : SE := .app (.part 1 1 false) [.inp 158]
@[simp] noncomputable def qkbacklater_77 : SE := .app (.part 2 1 false) [.inp 158]
@[simp] noncomputable def qkbacklater_78 : SE := .app (.part 3 1 false) [.inp 158]
@[simp] noncomputable def qkbacklater_79 : SE := .app (.part 4 1 false) [.inp 158]
@[simp] noncomputable def qkbacklater_80 : SE := .app (.part 5 1 false) [.inp 158]
@[simp] noncomputable def qkbacklater_81 : SE := .app (.part 6 1 false) [.inp 158]
@[simp] noncomputable def qkbacklater_82 : SE := .app (.part 7 1 false) [.inp 158]
@[simp] noncomputable def qkbacklater_83 : SE := .app (.part 8 1 false) [.inp 158]
@[simp] noncomputable def qkbacklater_84 : SE := .app (.part 9 1 false) [.inp 158]
@[simp] noncomputable def qkbacklater_85 : SE := .app (.part 10 1 false) [.inp 158]
@[simp] noncomputable def qkbacklater_86 : SE := .app (.part 11 1 false) [.inp 158]
@[simp] noncomputable def qkbacklater_87 : SE := .app (.part 12 1 false) [.inp 158]
@[simp] noncomputable def qkbacklater_88 : SE := .app (.part 13 1 false) [.inp 158]
@[simp] noncomputable def qkbacklater_89 : SE := .app (.part 14 1 false) [.inp 158]
@[simp] noncomputable def qkbacklater_90 : SE := .app (.part 15 1 false) [.inp 158]
@[simp] noncomputable def qkbacklater_91 : SE := .app (.part 16 1 false) [.inp 158]
@[simp] noncomputable def qkbacklater_92 : SE := .app (.part 17 1 false) [.inp 158]
@[simp] noncomputable def qkbacklater_93 : SE := .app (.part 18 1 false) [.inp 158]
@[simp] noncomputable def qkbacklater_94 : SE := .app (.part 19 1 false) [.inp 158]
@[simp] noncomputable def qkbacklater_95 : SE := .app (.part 20 1 false) [.inp 158]
@[simp] noncomputable def qkbacklater_96 : SE := .app (.part 21 1 false) [.inp 158]
@[simp] noncomputable def qkbacklater_97 : SE := .app (.part 22 1 false) [.inp 158]
@[simp] noncomputable def qkbacklater_98 : SE := .app (.part 23 1 false) [.inp 158]
@[simp] noncomputable def qkbacklater_99 : SE := .app (.part 24 1 false) [.inp 158]
@[simp] noncomputable def qkbacklater_100 : SE := .app (.part 25 1 false) [.inp 158]
@[simp] noncomputable def qkbacklater_101 : SE := .app (.part 26 1 false) [.inp 158]
@[simp] noncomputable def qkbacklater_102 : SE := .app (.part 27 1 false) [.inp 158]
@[simp] noncomputable def qkbacklater_103 : SE := .app (.part 28 1 false) [.inp 158]
@[simp] noncomputable def qkbacklater_104 : SE := .agg [qkbacklater_75, qkbacklater_76, qkbacklater_77, qkbacklater_78, qkbacklater_79, qkbacklater_80, qkbacklater_81, qkbacklater_82, qkbacklater_83, qkbacklater_84, qkbacklater_85, qkbacklater_86, qkbacklater_87, qkbacklater_88, qkbacklater_89, qkbacklater_90, qkbacklater_91, qkbacklater_92, qkbacklater_93, qkbacklater_94, qkbacklater_95, qkbacklater_96, qkbacklater_97, qkbacklater_98, qkbacklater_99, qkbacklater_100, qkbacklater_101, qkbacklater_102, qkbacklater_103]
@[simp] noncomputable def qkbacklater_105 : SE := .app (.eload 1 false) [qkbacklater_74]
@[simp] noncomputable def qkbacklater_106 : SE := .app .pick [qkbacklater_72, .inp 162, .bool false]
@[simp] noncomputable def qkbacklater_107 : SE := .app .pick [qkbacklater_72, .inp 165, .bool false]
@[simp] noncomputable def qkbacklater_108 : SE := .agg [.inp 135, .inp 136, .inp 137, .inp 138, .inp 139, .inp 140, .inp 141, .inp 142, .inp 143, .inp 144, .inp 145, .inp 146, .inp 147, .inp 148, .inp 149, .inp 150, .inp 151, .inp 152, .inp 153, .inp 154, .inp 155, .inp 156, .inp 157]
@[simp] noncomputable def qkbacklater_109 : SE := .app (.part 0 1 false) [.app (.tproj 0) [.inp 162]]
@[simp] noncomputable def qkbacklater_110 : SE := .app (.part 1 1 false) [.app (.tproj 0) [.inp 162]]
@[simp] noncomputable def qkbacklater_111 : SE := .app (.part 2 1 false) [.app (.tproj 0) [.inp 162]]
@[simp] noncomputable def qkbacklater_112 : SE := .app (.part 3 1 false) [.app (.tproj 0) [.inp 162]]
@[simp] noncomputable def qkbacklater_113 : SE := .app (.part 4 1 false) [.app (.tproj 0) [.inp 162]]
@[simp] noncomputable def qkbacklater_114 : SE := .app (.part 5 1 false) [.app (.tproj 0) [.inp 162]]
@[simp] noncomputable def qkbacklater_115 : SE := .app (.part 6 1 false) [.app (.tproj 0) [.inp 162]]
@[simp] noncomputable def qkbacklater_116 : SE := .app (.part 7 1 false) [.app (.tproj 0) [.inp 162]]
@[simp] noncomputable def qkbacklater_117 : SE := .app (.part 8 1 false) [.app (.tproj 0) [.inp 162]]
@[simp] noncomputable def qkbacklater_118 : SE := .app (.part 9 1 false) [.app (.tproj 0) [.inp 162]]
@[simp] noncomputable def qkbacklater_119 : SE := .app (.part 10 1 false) [.app (.tproj 0) [.inp 162]]
@[simp] noncomputable def qkbacklater_120 : SE := .app (.part 11 1 false) [.app (.tproj 0) [.inp 162]]
@[simp] noncomputable def qkbacklater_121 : SE := .app (.part 12 1 false) [.app (.tproj 0) [.inp 162]]
@[simp] noncomputable def qkbacklater_122 : SE := .app (.part 13 1 false) [.app (.tproj 0) [.inp 162]]
@[simp] noncomputable def qkbacklater_123 : SE := .app (.part 14 1 false) [.app (.tproj 0) [.inp 162]]
@[simp] noncomputable def qkbacklater_124 : SE := .app (.part 15 1 false) [.app (.tproj 0) [.inp 162]]
@[simp] noncomputable def qkbacklater_125 : SE := .app (.part 16 1 false) [.app (.tproj 0) [.inp 162]]
@[simp] noncomputable def qkbacklater_126 : SE := .app (.part 17 1 false) [.app (.tproj 0) [.inp 162]]
@[simp] noncomputable def qkbacklater_127 : SE := .app (.part 18 1 false) [.app (.tproj 0) [.inp 162]]
@[simp] noncomputable def qkbacklater_128 : SE := .app (.part 19 1 false) [.app (.tproj 0) [.inp 162]]
@[simp] noncomputable def qkbacklater_129 : SE := .app (.part 20 1 false) [.app (.tproj 0) [.inp 162]]
@[simp] noncomputable def qkbacklater_130 : SE := .app (.part 21 1 false) [.app (.tproj 0) [.inp 162]]
@[simp] noncomputable def qkbacklater_131 : SE := .app (.part 22 1 false) [.app (.tproj 0) [.inp 162]]
@[simp] noncomputable def qkbacklater_132 : SE := .agg [qkbacklater_109, qkbacklater_110, qkbacklater_111, qkbacklater_112, qkbacklater_113, qkbacklater_114, qkbacklater_115, qkbacklater_116, qkbacklater_117, qkbacklater_118, qkbacklater_119, qkbacklater_120, qkbacklater_121, qkbacklater_122, qkbacklater_123, qkbacklater_124, qkbacklater_125, qkbacklater_126, qkbacklater_127, qkbacklater_128, qkbacklater_129, qkbacklater_130, qkbacklater_131]
@[simp] noncomputable def qkbacklater_133 : SE := .app .pick [.app (.tproj 1) [.inp 162], .bool true, .app (.un .not) [.inp 164]]
@[simp] noncomputable def qkbacklater_134 : SE := .app (.bin .add) [.inp 105, .int .i64 1]
@[simp] noncomputable def qkbacklater_135 : SE := .app (.un .not) [.app (.tproj 1) [.inp 162]]
@[simp] noncomputable def qkbacklater_136 : SE := .app (.bin .eql) [qkbacklater_115, .int .u8 3]
@[simp] noncomputable def qkbacklater_137 : SE := .app .pick [qkbacklater_135, qkbacklater_136, .bool false]
@[simp] noncomputable def qkbacklater_138 : SE := .app .pick [qkbacklater_137, .inp 165, .bool false]
@[simp] noncomputable def qkbacklater_139 : SE := .app (.bin .add) [.inp 104, .int .i64 1]
@[simp] noncomputable def qkbacklater_140 : SE := .app (.bin .eql) [qkbacklater_139, .inp 7]
@[simp] noncomputable def qkbacklater_141 : SE := .app (.eqb true) [.app (.tproj 1) [.inp 162], qkbacklater_140]
@[simp] noncomputable def qkbacklater_142 : SE := .app (.bin .neq) [qkbacklater_115, .int .u8 4]
@[simp] noncomputable def qkbacklater_143 : SE := .app .pick [qkbacklater_141, .bool true, qkbacklater_142]
@[simp] noncomputable def qkbacklater_144 : SE := .app (.bin .sub) [.inp 7, qkbacklater_139]
@[simp] noncomputable def qkbacklater_145 : SE := .app (.bin .neq) [qkbacklater_130, qkbacklater_144]
noncomputable def rt_lockbarlaw22_BackLater : RT :=
.seg [.chk [] (.isAgg 11) [qkbacklater_0]] <|
.seg [.chk [] (.isAgg 74) [qkbacklater_1]] <|
.seg [.call 87 [] 7 [qkbacklater_0] false] <|
.seg [.call 88 [(.inp 87, false)] 20 [qkbacklater_1] false] <|
.seg [.chk [(.inp 87, false)] (.un .not) [.inp 88]] <|
.seg [.chk [] .pick [.inp 87, .bool true, .app (.un .not) [.inp 88]]] <|
.seg [.chk [(qkbacklater_2, false)] .len [.inp 86]] <|
.seg [.chk [(qkbacklater_2, false)] (.bin .lss) [.app .len [.inp 86], .int .i64 1]] <|
.seg [.chk [] .pick [qkbacklater_2, .bool true, qkbacklater_3]] <|
.seg [.chk [(qkbacklater_4, false)] .len [.inp 86]] <|
.seg [.chk [(qkbacklater_4, false)] (.bin .gtr) [.app .len [.inp 86], .int .i64 40]] <|
.seg [.chk [] .pick [qkbacklater_4, .bool true, qkbacklater_5]] <|
.seg [.chk [(qkbacklater_6, false)] (.bin .lss) [.inp 7, .int .i64 1]] <|
.seg [.chk [] .pick [qkbacklater_6, .bool true, qkbacklater_7]] <|
.seg [.chk [(qkbacklater_8, false)] (.bin .gtr) [.inp 7, .int .i64 20]] <|
.seg [.chk [] .pick [qkbacklater_8, .bool true, qkbacklater_9]] <|
.seg [.bind 89 (qkbacklater_4),
.bind 90 (qkbacklater_6),
.bind 91 (qkbacklater_8),
.bind 92 (.app .pick [qkbacklater_8, .bool true, qkbacklater_9])] <|
.cond (.inp 92)
 (.seg [.call 93 [] 9 [] false] <|
.ret (.inp 93))
 (.seg [.call 93 [] 22 [] false,
.chk [] (.eidx 4) [.inp 86, .int .i64 0],
.chk [] (.eload 4 true) [qkbacklater_10],
.call 94 [] 21 [qkbacklater_0, .inp 93, .app (.eload 4 true) [qkbacklater_10]] false,
.chk [] (.isAgg 29) [.inp 94]] <|
.seg [.call 95 [] 10 [qkbacklater_0, qkbacklater_40, qkbacklater_1, .inp 85] false] <|
.seg [.chk [] (.tproj 0) [.inp 95]] <|
.seg [.chk [] (.tproj 1) [.inp 95]] <|
.seg [.chk [] (.isAgg 74) [.app (.tproj 0) [.inp 95]]] <|
.loop 0 96 [.int .i64 (-1), .int .i64 0] <|
.seg [.chk [] .len [.inp 12]] <|
.seg [.chk [] (.bin .lss) [.inp 97, .app .len [.inp 12]]] <|
.cond (.app (.bin .lss) [.inp 97, .app .len [.inp 12]])
 (.seg [.chk [] (.eidx 23) [.inp 12, .inp 97]] <|
.seg [.chk [] (.eoff 1) [qkbacklater_41]] <|
.seg [.chk [] (.eoff 0) [qkbacklater_42]] <|
.seg [.chk [] (.eload 1 false) [qkbacklater_43]] <|
.seg [.chk [] (.bin .eql) [qkbacklater_44, .inp 85]] <|
.cond (.app (.bin .eql) [qkbacklater_44, .inp 85])
 (.seg [.chk [] (.bin .add) [.inp 97, .int .i64 1]] <|
.again 0 [.inp 97, qkbacklater_45])
 (.seg [.chk [] (.bin .add) [.inp 97, .int .i64 1]] <|
.again 0 [.inp 96, qkbacklater_45]))
 (.seg [.chk [] (.bin .lss) [.inp 96, .int .i64 0]] <|
.cond (.app (.bin .lss) [.inp 96, .int .i64 0])
 (.seg [.chk [] (.un .not) [.app (.tproj 1) [.inp 95]]] <|
.seg [.call 98 [(qkbacklater_46, true)] 14 [.agg [.app (.part 0 1 false) [.app (.tproj 0) [.inp 95]], qkbacklater_47, .app (.part 2 1 false) [.app (.tproj 0) [.inp 95]], .app (.part 3 1 false) [.app (.tproj 0) [.inp 95]], .app (.part 4 1 false) [.app (.tproj 0) [.inp 95]], .app (.part 5 1 false) [.app (.tproj 0) [.inp 95]], .app (.part 6 1 false) [.app (.tproj 0) [.inp 95]], .app (.part 7 1 false) [.app (.tproj 0) [.inp 95]], .app (.part 8 1 false) [.app (.tproj 0) [.inp 95]], .app (.part 9 1 false) [.app (.tproj 0) [.inp 95]], .app (.part 10 1 false) [.app (.tproj 0) [.inp 95]], .app (.part 11 1 false) [.app (.tproj 0) [.inp 95]], .app (.part 12 1 false) [.app (.tproj 0) [.inp 95]], .app (.part 13 1 false) [.app (.tproj 0) [.inp 95]], .app (.part 14 1 false) [.app (.tproj 0) [.inp 95]], .app (.part 15 1 false) [.app (.tproj 0) [.inp 95]], .app (.part 16 1 false) [.app (.tproj 0) [.inp 95]], .app (.part 17 1 false) [.app (.tproj 0) [.inp 95]], .app (.part 18 1 false) [.app (.tproj 0) [.inp 95]], .app (.part 19 1 false) [.app (.tproj 0) [.inp 95]], .app (.part 20 1 false) [.app (.tproj 0) [.inp 95]], .app (.part 21 1 false) [.app (.tproj 0) [.inp 95]], .app (.part 22 1 false) [.app (.tproj 0) [.inp 95]], .app (.part 23 1 false) [.app (.tproj 0) [.inp 95]], .app (.part 24 1 false) [.app (.tproj 0) [.inp 95]], .app (.part 25 1 false) [.app (.tproj 0) [.inp 95]], .app (.part 26 1 false) [.app (.tproj 0) [.inp 95]], .app (.part 27 1 false) [.app (.tproj 0) [.inp 95]], .app (.part 28 1 false) [.app (.tproj 0) [.inp 95]], .app (.part 29 1 false) [.app (.tproj 0) [.inp 95]], .app (.part 30 1 false) [.app (.tproj 0) [.inp 95]], .app (.part 31 1 false) [.app (.tproj 0) [.inp 95]], .app (.part 32 1 false) [.app (.tproj 0) [.inp 95]], .app (.part 33 1 false) [.app (.tproj 0) [.inp 95]], .app (.part 34 1 false) [.app (.tproj 0) [.inp 95]], .app (.part 35 1 false) [.app (.tproj 0) [.inp 95]], .app (.part 36 1 false) [.app (.tproj 0) [.inp 95]], .app (.part 37 1 false) [.app (.tproj 0) [.inp 95]], .app (.part 38 1 false) [.app (.tproj 0) [.inp 95]], .app (.part 39 1 false) [.app (.tproj 0) [.inp 95]], .app (.part 40 1 false) [.app (.tproj 0) [.inp 95]], .app (.part 41 1 false) [.app (.tproj 0) [.inp 95]], .app (.part 42 1 false) [.app (.tproj 0) [.inp 95]], .app (.part 43 1 false) [.app (.tproj 0) [.inp 95]], .app (.part 44 1 false) [.app (.tproj 0) [.inp 95]], .app (.part 45 1 false) [.app (.tproj 0) [.inp 95]], .app (.part 46 1 false) [.app (.tproj 0) [.inp 95]], .app (.part 47 1 false) [.app (.tproj 0) [.inp 95]], .app (.part 48 1 false) [.app (.tproj 0) [.inp 95]], .app (.part 49 1 false) [.app (.tproj 0) [.inp 95]], .app (.part 50 1 false) [.app (.tproj 0) [.inp 95]], .app (.part 51 1 false) [.app (.tproj 0) [.inp 95]], .app (.part 52 1 false) [.app (.tproj 0) [.inp 95]], .app (.part 53 1 false) [.app (.tproj 0) [.inp 95]], .app (.part 54 1 false) [.app (.tproj 0) [.inp 95]], .app (.part 55 1 false) [.app (.tproj 0) [.inp 95]], .app (.part 56 1 false) [.app (.tproj 0) [.inp 95]], .app (.part 57 1 false) [.app (.tproj 0) [.inp 95]], .app (.part 58 1 false) [.app (.tproj 0) [.inp 95]], .app (.part 59 1 false) [.app (.tproj 0) [.inp 95]], .app (.part 60 1 false) [.app (.tproj 0) [.inp 95]], .app (.part 61 1 false) [.app (.tproj 0) [.inp 95]], .app (.part 62 1 false) [.app (.tproj 0) [.inp 95]], .app (.part 63 1 false) [.app (.tproj 0) [.inp 95]], .app (.part 64 1 false) [.app (.tproj 0) [.inp 95]], .app (.part 65 1 false) [.app (.tproj 0) [.inp 95]], .app (.part 66 1 false) [.app (.tproj 0) [.inp 95]], .app (.part 67 1 false) [.app (.tproj 0) [.inp 95]], .app (.part 68 1 false) [.app (.tproj 0) [.inp 95]], .app (.part 69 1 false) [.app (.tproj 0) [.inp 95]], .app (.part 70 1 false) [.app (.tproj 0) [.inp 95]], .app (.part 71 1 false) [.app (.tproj 0) [.inp 95]], .app (.part 72 1 false) [.app (.tproj 0) [.inp 95]], .app (.part 73 1 false) [.app (.tproj 0) [.inp 95]]], qkbacklater_1] false] <|
.seg [.chk [] .pick [qkbacklater_46, .inp 98, .bool false]] <|
.seg [.call 99 [(qkbacklater_48, true)] 9 [] false] <|
.seg [.chk [] .pick [qkbacklater_48, .inp 99, .bool false]] <|
.ret (.app .pick [qkbacklater_48, .inp 99, .bool false]))
 (.seg [.chk [] (.eidx 23) [.inp 12, .inp 96]] <|
.seg [.chk [] (.eload 23 true) [qkbacklater_49]] <|
.seg [.chk [] (.isAgg 23) [qkbacklater_50]] <|
.seg [.chk [] (.bin .neq) [qkbacklater_51, .int .u8 2]] <|
.seg [.chk [(qkbacklater_52, false)] (.un .not) [qkbacklater_53]] <|
.seg [.chk [] .pick [qkbacklater_52, .bool true, qkbacklater_54]] <|
.seg [.call 98 [(qkbacklater_55, false)] 18 [qkbacklater_0, qkbacklater_40, .inp 85] false] <|
.seg [.chk [(qkbacklater_55, false)] (.un .not) [.inp 98]] <|
.seg [.chk [] .pick [qkbacklater_55, .bool true, .app (.un .not) [.inp 98]]] <|
.seg [.bind 99 (qkbacklater_55),
.bind 100 (.app .pick [qkbacklater_55, .bool true, .app (.un .not) [.inp 98]])] <|
.cond (.inp 100)
 (.seg [.call 101 [] 9 [] false] <|
.ret (.inp 101))
 (.seg [.chk [] (.un .not) [.app (.tproj 1) [.inp 95]],
.chk [(qkbacklater_46, false)] .len [qkbacklater_47],
.chk [(qkbacklater_46, false)] .len [.inp 12],
.chk [(qkbacklater_46, false)] (.bin .neq) [qkbacklater_56, .app .len [.inp 12]],
.chk [] .pick [qkbacklater_46, .bool true, qkbacklater_57],
.chk [(qkbacklater_58, false)] (.eidx 23) [qkbacklater_47, .inp 96],
.chk [(qkbacklater_58, false)] (.eoff 6) [qkbacklater_59],
.chk [(qkbacklater_58, false)] (.eload 1 false) [qkbacklater_60],
.chk [(qkbacklater_58, false)] (.bin .neq) [qkbacklater_61, .int .u8 4],
.chk [] .pick [qkbacklater_58, .bool true, qkbacklater_62],
.chk [(qkbacklater_63, false)] (.eidx 23) [qkbacklater_47, .inp 96],
.chk [(qkbacklater_63, false)] (.eoff 21) [qkbacklater_59],
.chk [(qkbacklater_63, false)] (.eload 1 false) [qkbacklater_64],
.chk [(qkbacklater_63, false)] (.bin .neq) [qkbacklater_65, .inp 7],
.chk [] .pick [qkbacklater_63, .bool true, qkbacklater_66]] <|
.seg [.bind 101 (qkbacklater_58),
.bind 102 (qkbacklater_63),
.bind 103 (.app .pick [qkbacklater_63, .bool true, qkbacklater_66])] <|
.cond (.inp 103)
 (.ret (.bool false))
 (.seg [.chk [] (.eidx 23) [qkbacklater_47, .inp 96]] <|
.seg [.chk [] (.eload 23 true) [qkbacklater_59]] <|
.seg [.chk [] (.isAgg 23) [qkbacklater_67]] <|
.loop 0 104 [.int .i64 0, .int .i64 1, qkbacklater_11, qkbacklater_12, qkbacklater_13, qkbacklater_14, qkbacklater_15, qkbacklater_16, qkbacklater_17, qkbacklater_18, qkbacklater_19, qkbacklater_20, qkbacklater_21, qkbacklater_22, qkbacklater_23, qkbacklater_24, qkbacklater_25, qkbacklater_26, qkbacklater_27, qkbacklater_28, qkbacklater_29, qkbacklater_30, qkbacklater_31, qkbacklater_32, qkbacklater_33, qkbacklater_34, qkbacklater_35, qkbacklater_36, qkbacklater_37, qkbacklater_38, qkbacklater_39, .app (.part 0 1 false) [qkbacklater_67], .app (.part 1 1 false) [qkbacklater_67], .app (.part 2 1 false) [qkbacklater_67], .app (.part 3 1 false) [qkbacklater_67], .app (.part 4 1 false) [qkbacklater_67], .app (.part 5 1 false) [qkbacklater_67], .app (.part 6 1 false) [qkbacklater_67], .app (.part 7 1 false) [qkbacklater_67], .app (.part 8 1 false) [qkbacklater_67], .app (.part 9 1 false) [qkbacklater_67], .app (.part 10 1 false) [qkbacklater_67], .app (.part 11 1 false) [qkbacklater_67], .app (.part 12 1 false) [qkbacklater_67], .app (.part 13 1 false) [qkbacklater_67], .app (.part 14 1 false) [qkbacklater_67], .app (.part 15 1 false) [qkbacklater_67], .app (.part 16 1 false) [qkbacklater_67], .app (.part 17 1 false) [qkbacklater_67], .app (.part 18 1 false) [qkbacklater_67], .app (.part 19 1 false) [qkbacklater_67], .app (.part 20 1 false) [qkbacklater_67], .app (.part 21 1 false) [qkbacklater_67], .app (.part 22 1 false) [qkbacklater_67]] <|
.seg [.chk [] .len [.inp 86]] <|
.seg [.chk [] (.bin .lss) [.inp 105, .app .len [.inp 86]]] <|
.cond (.app (.bin .lss) [.inp 105, .app .len [.inp 86]])
 (.seg [.chk [] (.eidx 4) [.inp 86, .inp 105],
.chk [] (.eload 4 true) [qkbacklater_68],
.call 158 [] 21 [qkbacklater_0, .agg [.inp 106, .inp 107, .inp 108, .inp 109, .inp 110, .inp 111, .inp 112, .inp 113, .inp 114, .inp 115, .inp 116, .inp 117, .inp 118, .inp 119, .inp 120, .inp 121, .inp 122, .inp 123, .inp 124, .inp 125, .inp 126, .inp 127, .inp 128, .inp 129, .inp 130, .inp 131, .inp 132, .inp 133, .inp 134], .app (.eload 4 true) [qkbacklater_68]] false,
.chk [] (.isAgg 29) [.inp 158]] <|
.loop 1 159 [.bool false, .bool false, .int .i64 0] <|
.seg [.chk [] .len [qkbacklater_69]] <|
.seg [.chk [] (.bin .lss) [.inp 161, qkbacklater_70]] <|
.cond (.app (.bin .lss) [.inp 161, qkbacklater_70])
 (.seg [.chk [(.inp 159, false)] (.bin .geq) [.inp 161, qkbacklater_71],
.chk [(qkbacklater_72, true), (.inp 159, false)] (.eidx 3) [qkbacklater_69, .inp 161],
.chk [(qkbacklater_72, true), (.inp 159, false)] (.eoff 0) [qkbacklater_73],
.chk [(qkbacklater_72, true), (.inp 159, false)] (.eload 1 false) [qkbacklater_74],
.call 162 [(qkbacklater_72, true), (.inp 159, false)] 23 [qkbacklater_0, qkbacklater_104, qkbacklater_105] false,
.chk [(.inp 159, false)] .pick [qkbacklater_72, .inp 162, .bool false],
.chk [] .pick [.inp 159, .bool true, qkbacklater_106]] <|
.seg [.bind 163 (.app .pick [.inp 159, .bool true, qkbacklater_106]),
.bind 164 (qkbacklater_106)] <|
.seg [.chk [(.inp 160, false)] (.bin .geq) [.inp 161, qkbacklater_71],
.chk [(qkbacklater_72, true), (.inp 160, false)] (.eidx 3) [qkbacklater_69, .inp 161],
.chk [(qkbacklater_72, true), (.inp 160, false)] (.eoff 0) [qkbacklater_73],
.chk [(qkbacklater_72, true), (.inp 160, false)] (.eload 1 false) [qkbacklater_74],
.call 165 [(qkbacklater_72, true), (.inp 160, false)] 24 [qkbacklater_0, qkbacklater_104, qkbacklater_105] false,
.chk [(.inp 160, false)] .pick [qkbacklater_72, .inp 165, .bool false],
.chk [] .pick [.inp 160, .bool true, qkbacklater_107]] <|
.seg [.bind 166 (.app .pick [.inp 160, .bool true, qkbacklater_107]),
.bind 167 (qkbacklater_107)] <|
.seg [.chk [] (.bin .add) [.inp 161, .int .i64 1]] <|
.again 1 [.inp 163, .inp 166, .app (.bin .add) [.inp 161, .int .i64 1]])
 (.seg [.call 162 [] 12 [qkbacklater_0, qkbacklater_104, qkbacklater_108] false] <|
.seg [.chk [] (.tproj 0) [.inp 162]] <|
.seg [.chk [] (.tproj 1) [.inp 162]] <|
.seg [.chk [] (.isAgg 23) [.app (.tproj 0) [.inp 162]]] <|
.seg [.call 163 [] 25 [qkbacklater_0, qkbacklater_104] false] <|
.cond (.inp 163)
 (.seg [.call 164 [(.app (.tproj 1) [.inp 162], false)] 15 [qkbacklater_132, qkbacklater_108] false] <|
.seg [.chk [(.app (.tproj 1) [.inp 162], false)] (.un .not) [.inp 164]] <|
.seg [.chk [] .pick [.app (.tproj 1) [.inp 162], .bool true, .app (.un .not) [.inp 164]]] <|
.cond (qkbacklater_133)
 (.ret (.bool false))
 (.seg [.chk [] (.bin .add) [.inp 105, .int .i64 1]] <|
.again 0 [.inp 104, qkbacklater_134, qkbacklater_75, qkbacklater_76, qkbacklater_77, qkbacklater_78, qkbacklater_79, qkbacklater_80, qkbacklater_81, qkbacklater_82, qkbacklater_83, qkbacklater_84, qkbacklater_85, qkbacklater_86, qkbacklater_87, qkbacklater_88, qkbacklater_89, qkbacklater_90, qkbacklater_91, qkbacklater_92, qkbacklater_93, qkbacklater_94, qkbacklater_95, qkbacklater_96, qkbacklater_97, qkbacklater_98, qkbacklater_99, qkbacklater_100, qkbacklater_101, qkbacklater_102, qkbacklater_103, .inp 135, .inp 136, .inp 137, .inp 138, .inp 139, .inp 140, .inp 141, .inp 142, .inp 143, .inp 144, .inp 145, .inp 146, .inp 147, .inp 148, .inp 149, .inp 150, .inp 151, .inp 152, .inp 153, .inp 154, .inp 155, .inp 156, .inp 157]))
 (.cond (.inp 160)
 (.seg [.chk [] (.un .not) [.app (.tproj 1) [.inp 162]],
.chk [(qkbacklater_135, true)] (.bin .eql) [qkbacklater_115, .int .u8 3],
.chk [] .pick [qkbacklater_135, qkbacklater_136, .bool false],
.call 164 [(qkbacklater_137, true)] 26 [qkbacklater_0, qkbacklater_104, .agg [.inp 135, .inp 136, .inp 137, .inp 138, .inp 139, .inp 140, .int .u8 3, .inp 142, .inp 143, .inp 144, .inp 145, .inp 146, .inp 147, .inp 148, .inp 149, .inp 150, .inp 151, .inp 152, .inp 153, .inp 154, .inp 155, .int .i64 0, .inp 157]] false,
.call 165 [(qkbacklater_137, true)] 15 [qkbacklater_132, .inp 164] false,
.chk [] .pick [qkbacklater_137, .inp 165, .bool false],
.call 166 [(qkbacklater_138, true)] 9 [] false,
.chk [] .pick [qkbacklater_138, .inp 166, .bool false]] <|
.seg [.bind 167 (.app .pick [qkbacklater_138, .inp 166, .bool false]),
.bind 168 (qkbacklater_137),
.bind 169 (qkbacklater_138)] <|
.ret (.inp 167))
 (.cond (.inp 159)
 (.seg [.call 164 [(.app (.tproj 1) [.inp 162], false)] 15 [qkbacklater_132, qkbacklater_108] false] <|
.seg [.chk [(.app (.tproj 1) [.inp 162], false)] (.un .not) [.inp 164]] <|
.seg [.chk [] .pick [.app (.tproj 1) [.inp 162], .bool true, .app (.un .not) [.inp 164]]] <|
.cond (qkbacklater_133)
 (.ret (.bool false))
 (.seg [.chk [] (.bin .add) [.inp 105, .int .i64 1]] <|
.again 0 [.inp 104, qkbacklater_134, qkbacklater_75, qkbacklater_76, qkbacklater_77, qkbacklater_78, qkbacklater_79, qkbacklater_80, qkbacklater_81, qkbacklater_82, qkbacklater_83, qkbacklater_84, qkbacklater_85, qkbacklater_86, qkbacklater_87, qkbacklater_88, qkbacklater_89, qkbacklater_90, qkbacklater_91, qkbacklater_92, qkbacklater_93, qkbacklater_94, qkbacklater_95, qkbacklater_96, qkbacklater_97, qkbacklater_98, qkbacklater_99, qkbacklater_100, qkbacklater_101, qkbacklater_102, qkbacklater_103, .inp 135, .inp 136, .inp 137, .inp 138, .inp 139, .inp 140, .inp 141, .inp 142, .inp 143, .inp 144, .inp 145, .inp 146, .inp 147, .inp 148, .inp 149, .inp 150, .inp 151, .inp 152, .inp 153, .inp 154, .inp 155, .inp 156, .inp 157]))
 (.seg [.chk [] (.bin .add) [.inp 104, .int .i64 1]] <|
.seg [.chk [] (.bin .eql) [qkbacklater_139, .inp 7]] <|
.seg [.chk [] (.eqb true) [.app (.tproj 1) [.inp 162], qkbacklater_140]] <|
.seg [.chk [(qkbacklater_141, false)] (.bin .neq) [qkbacklater_115, .int .u8 4]] <|
.seg [.chk [] .pick [qkbacklater_141, .bool true, qkbacklater_142]] <|
.seg [.chk [(qkbacklater_143, false)] (.bin .sub) [.inp 7, qkbacklater_139]] <|
.seg [.chk [(qkbacklater_143, false)] (.bin .neq) [qkbacklater_130, qkbacklater_144]] <|
.seg [.chk [] .pick [qkbacklater_143, .bool true, qkbacklater_145]] <|
.seg [.bind 164 (qkbacklater_143),
.bind 165 (.app .pick [qkbacklater_143, .bool true, qkbacklater_145])] <|
.cond (.inp 165)
 (.ret (.bool false))
 (.cond (.app (.tproj 1) [.inp 162])
 (.seg [.call 166 [] 9 [] false] <|
.ret (.inp 166))
 (.seg [.chk [] (.isAgg 23) [qkbacklater_132]] <|
.seg [.chk [] (.bin .add) [.inp 105, .int .i64 1]] <|
.again 0 [qkbacklater_139, qkbacklater_134, qkbacklater_75, qkbacklater_76, qkbacklater_77, qkbacklater_78, qkbacklater_79, qkbacklater_80, qkbacklater_81, qkbacklater_82, qkbacklater_83, qkbacklater_84, qkbacklater_85, qkbacklater_86, qkbacklater_87, qkbacklater_88, qkbacklater_89, qkbacklater_90, qkbacklater_91, qkbacklater_92, qkbacklater_93, qkbacklater_94, qkbacklater_95, qkbacklater_96, qkbacklater_97, qkbacklater_98, qkbacklater_99, qkbacklater_100, qkbacklater_101, qkbacklater_102, qkbacklater_103, qkbacklater_109, qkbacklater_110, qkbacklater_111, qkbacklater_112, qkbacklater_113, qkbacklater_114, qkbacklater_115, qkbacklater_116, qkbacklater_117, qkbacklater_118, qkbacklater_119, qkbacklater_120, qkbacklater_121, qkbacklater_122, qkbacklater_123, qkbacklater_124, qkbacklater_125, qkbacklater_126, qkbacklater_127, qkbacklater_128, qkbacklater_129, qkbacklater_130, qkbacklater_131])))))))
 (.seg [.call 158 [] 9 [] false] <|
.ret (.inp 158)))))))
theorem run_lockbarlaw22_BackLater : runF E 4 [.agg [.inp 0, .inp 1, .inp 2, .inp 3, .inp 4, .inp 5, .inp 6, .inp 7, .inp 8, .inp 9, .inp 10], .agg [.inp 11, .inp 12, .inp 13, .inp 14, .inp 15, .inp 16, .inp 17, .inp 18, .inp 19, .inp 20, .inp 21, .inp 22, .inp 23, .inp 24, .inp 25, .inp 26, .inp 27, .inp 28, .inp 29, .inp 30, .inp 31, .inp 32, .inp 33, .inp 34, .inp 35, .inp 36, .inp 37, .inp 38, .inp 39, .inp 40, .inp 41, .inp 42, .inp 43, .inp 44, .inp 45, .inp 46, .inp 47, .inp 48, .inp 49, .inp 50, .inp 51, .inp 52, .inp 53, .inp 54, .inp 55, .inp 56, .inp 57, .inp 58, .inp 59, .inp 60, .inp 61, .inp 62, .inp 63, .inp 64, .inp 65, .inp 66, .inp 67, .inp 68, .inp 69, .inp 70, .inp 71, .inp 72, .inp 73, .inp 74, .inp 75, .inp 76, .inp 77, .inp 78, .inp 79, .inp 80, .inp 81, .inp 82, .inp 83, .inp 84], .inp 85, .inp 86] 87 = rt_lockbarlaw22_BackLater := by kernel_rfl

end Go.Lb.LK

namespace Go.Lb.LK
open Go Go.Lb Go.Proofs Go.RowKit

structure Inp where
  o : Int
  n : Int
  r : Int
  p : Int
def Inp.cells (x : Inp) : List AV := [W x.o, W x.n, W x.r, W x.p]
abbrev Inp.av (x : Inp) : AV := .agg x.cells
def Inp.ok (x : Inp) : Prop := (0 ≤ x.o ∧ x.o ≤ 4294967295) ∧ (0 ≤ x.n ∧ x.n ≤ 4294967295) ∧ (0 ≤ x.r ∧ x.r ≤ 4294967295) ∧ (0 ≤ x.p ∧ x.p ≤ 4294967295)
@[simp] theorem Inp.pure (x : Inp) : AV.pureAll x.cells = true := by simp [Inp.cells, AV.pureAll, AV.pure]
abbrev inps (l : List Inp) : AV := .sl (l.map Inp.av)
@[simp] theorem inps_pure (l : List Inp) : AV.pureAll (l.map Inp.av) = true := pureAll_map _ (fun x => by simp [AV.pure]) l
theorem inp_of {cs : List AV} (h : inT.fits cs) : ∃ s : Inp, AV.agg cs = s.av ∧ s.ok := by
  simp only [inT, uT, fits_agg, fitsAll_int, fitsAll_nil, List.append_nil, List.cons_append, List.nil_append] at h
  obtain ⟨a0, q, rfl, h0, a1, q, rfl, h1, a2, q, rfl, h2, a3, q, rfl, h3, rfl⟩ := h
  simp only [u32_min, u32_max] at h0 h1 h2 h3
  exact ⟨⟨a0, a1, a2, a3⟩, rfl, h0, h1, h2, h3⟩
theorem ins_arg {x : AV} (h : (TS.sl true inT).fits x.cells) (h2 : aggIf false x) : ∃ l : List Inp, x = inps l ∧ ∀ s ∈ l, s.ok := by
  obtain ⟨es, rfl, _, h3⟩ := sl_arg h h2
  obtain ⟨l, rfl, hq⟩ := sl_mapP (g := Inp.av) (Q := fun s => s.ok) (fun cs h => inp_of h) es h3
  exact ⟨l, rfl, hq⟩
def takeP (l : Lay) (im : Img) (x : Inp) : Img := takeI l im x.o x.n x.r x.p
theorem takeP_ok (l : Lay) (im : Img) {x : Inp} (h : x.ok) : (takeP l im x).ok := h
theorem c_takeP (l : Lay) (im : Img) {x : Inp} (h : x.ok) : C f_lockbarref15_Take [l.av, im.av, x.av] (takeP l im x).av :=
  c_r15Take l im x.o x.n x.r x.p h.1.1 h.1.2 h.2.1.1 h.2.1.2 h.2.2.1.1 h.2.2.1.2 h.2.2.2.1 h.2.2.2.2
theorem atU_last {k : Kern} (hr : rightK k = true) {x : Int} {i : Nat} (hi : i < k.held.length) : atU k.held x (i + 1) = if k.held[i].path.sig = x then (i : Int) else atU k.held x i := by
  rw [atU_step hi]
  by_cases hs : k.held[i].path.sig = x
  · have : atU k.held x i < 0 ∨ idAt k.held (atU k.held x i) < k.held[i].id := by
      rcases atU_rng k.held x i with ha | ⟨m, ha, hm, hml⟩
      · exact .inl (by omega)
      · right; rw [ha, idAt_at hml]
        exact id_rise hr i hi m hm
    rw [if_pos hs, if_pos ⟨hs, this⟩]
  · rw [if_neg hs, if_neg (fun h => hs h.1)]
theorem runS_stage (l : Lay) (im : Img) (h : Hd) : (runS l im h).stage = h.stage := by
  unfold runS; split <;> rfl
theorem tickB_stale {l : Lay} {im : Img} {y : Hd} (hs : stale l im = true) : tickB l im y = (y, false) := by simp [tickB, hs]
theorem tickB_told {l : Lay} {im : Img} {y : Hd} (h4 : y.stage = 4) (hs : stale l im = false) (ht : toldN l im y = true) : tickB l im y = (runS l im { y with stage := 3, timer := 0 }, false) := by simp [tickB, h4, hs, ht]
theorem tickB_in {l : Lay} {im : Img} {y : Hd} (h4 : y.stage = 4) (hs : stale l im = false) (ht : toldN l im y = false) (hi : inN l im y = true) : tickB l im y = (y, false) := by simp [tickB, h4, hs, ht, hi]
theorem tickB_down {l : Lay} {im : Img} {y : Hd} (h4 : y.stage = 4) (hs : stale l im = false) (ht : toldN l im y = false) (hi : inN l im y = false) : tickB l im y = ({ y with timer := downT y.timer }, decide (downT y.timer = 0)) := by simp [tickB, h4, hs, ht, hi]
set_option maxRecDepth 100000 in
set_option maxHeartbeats 4000000 in
theorem c_BackLater (l : Lay) (hl : l.ok) (k : Kern) (hkl : k.len) (hk : k.ok) (x : Int) (ins : List Inp) (hins : ∀ s ∈ ins, s.ok) : C f_lockbarlaw22_BackLater [l.av, k.av, I x, inps ins] (.bool true) := by
  refine ctr (l.cells ++ k.cells ++ [I x] ++ [inps ins]) run_lockbarlaw22_BackLater rfl (by simp [pureAll_append, AV.pureAll, AV.pure]) rfl ?_ rfl
  unfold rt_lockbarlaw22_BackLater
  simp [Lay.cells, Kern.cells]
  refine call (c_r06_Great l) (by simp [Lay.cells]) (by simp) ?_
  simp
  refine callIf (avs := [k.av]) (.bool (rightK k)) rfl (fun _ => ⟨by simp [Kern.cells], c_r18Right k hkl hk⟩) (by simp) ?_
  cases g1 : great6 l
  case true =>
    simp
    exact call c_wakes22 rfl (by simp) (by simp)
  cases g2 : rightK k
  case false =>
    simp
    exact call c_wakes22 rfl (by simp) (by simp)
  by_cases g3 : (1 ≤ ins.length ∧ ins.length ≤ 40) ∧ (1 ≤ l.approach ∧ l.approach ≤ 20)
  case neg =>
    have g3' : (ins.length : Int) < 1 ∨ 40 < (ins.length : Int) ∨ l.approach < 1 ∨ 20 < l.approach := by omega
    simp
    exact ⟨fun _ => call c_wakes22 rfl (by simp) (by simp), by intros; exfalso; omega⟩
  obtain ⟨⟨n1, n2⟩, a1, a2⟩ := g3
  have n1' : ¬ (ins.length : Int) < 1 := by omega
  have n2' : ¬ 40 < (ins.length : Int) := by omega
  have a1' : ¬ l.approach < 1 := by omega
  have a2' : ¬ 20 < l.approach := by omega
  have hi0 : 0 < ins.length := by omega
  simp [n1', n2', a1', a2']
  refine call c_r15New rfl (by simp) ?_
  simp [hi0, Inp.cells]
  refine call (c_takeP l imNew (hins _ (List.getElem_mem hi0))) (by simp [Lay.cells, hi0, Inp.cells]) (by simp) ?_
  have him0 : (takeP l imNew ins[0]).ok := takeP_ok l imNew (hins _ (List.getElem_mem hi0))
  generalize takeP l imNew ins[0] = im0 at him0 ⊢
  simp [Img.cells]
  refine call (c_back_Cancel l hl im0 him0 k hkl x) (by simp [Lay.cells, Img.cells, Kern.cells]) (by simp) ?_
  have hk1 := hkl.1
  simp [Kern.cells]
  refine RTwp_loop rfl (fun vs => ∃ i : Nat, i ≤ k.held.length ∧ vs = [I (atU k.held x i), I i]) (fun vs => match vs with | [_, .int _ j] => k.held.length - j.toNat | _ => 0) ⟨0, by omega, by simp [atU]⟩ ?_
  rintro vs - ⟨i, hi, rfl⟩
  by_cases hlt : i < k.held.length
  · have hw := wrap_succ (i := i) (by omega)
    have hst := atU_last g2 (x := x) hlt
    simp [hlt, Hd.cells, hw]
    refine ⟨fun hc => ⟨⟨i + 1, by omega, by rw [hst, if_pos hc], rfl⟩, by omega⟩, fun hc => ⟨⟨i + 1, by omega, by rw [hst, if_neg hc], rfl⟩, by omega⟩⟩
  have : i = k.held.length := by omega
  subst this
  rcases atU_rng k.held x k.held.length with ha | ⟨m, ha, hm, hml⟩
  · have hcn : cancelN l im0 k x = (k, false) := by simp [cancelN, atK, ha]
    rw [ha, hcn]
    simp [Kern.cells]
    refine callIf (avs := [k.av, k.av]) (.bool true) rfl (fun _ => ⟨by simp [Kern.cells], sameK_r hkl⟩) (by simp) ?_
    simp [Kern.cells]
    refine callIf (avs := []) (.bool true) rfl (fun _ => ⟨rfl, c_wakes22⟩) (by simp) ?_
    simp
  · have hsig : k.held[m].path.sig = x := atU_sig ha _ (List.getElem?_eq_getElem hml)
    have hcn : cancelN l im0 k x = cancelAt l im0 k m k.held[m] := by
      have : ¬ ((m : Int) < 0) := by omega
      simp [cancelN, atK, ha, this, List.getElem?_eq_getElem hml]
    have hm0 : ¬ ((m : Int) < 0) := by omega
    have hhl := k.at hkl hml
    have hn := hhl.1
    rw [ha, hcn]
    generalize hh : k.held[m] = h at hsig hhl hn ⊢
    simp [hm0, hml, hh, Hd.cells]
    refine callIf (avs := [l.av, im0.av, I x]) (.bool (rearN l im0 x)) rfl (fun _ => ⟨by simp [Lay.cells, Img.cells], c_back_Rear l hl im0 him0 x⟩) (by simp) ?_
    simp [hm0, hml, hh, Hd.cells]
    by_cases hc : h.stage = 2 ∧ h.shown = true ∧ rearN l im0 x = true
    · obtain ⟨h2, h3, h4⟩ := hc
      have hca : cancelAt l im0 k m h = ({ k with held := k.held.set m { h with stage := 4, timer := l.approach } }, true) := by
        simp [cancelAt, comesN, comes2, h2, h3, hsig, h4]
      rw [hca]
      simp [h2, h3, h4, hml, Kern.cells, Hd.cells]
      refine RTwp_loop rfl (fun vs => ∃ (n i : Nat) (im : Img), im.ok ∧ 1 ≤ i ∧ i ≤ ins.length ∧ (n : Int) < l.approach ∧ vs = I n :: I i :: (im.cells ++ ({ h with stage := 4, timer := l.approach - n } : Hd).cells)) (fun vs => match vs with | _ :: .int _ j :: _ => ins.length - j.toNat | _ => 0) ⟨0, 1, im0, him0, by omega, by omega, by omega, ?_⟩ ?_
      · simp [Img.cells, Hd.cells, Kern.cells, hml, h3]
      rintro vs - ⟨n, i, im, him, hi1, hi2, hna, rfl⟩
      by_cases hil : i < ins.length
      · have hii := hins _ (List.getElem_mem hil)
        simp [Img.cells, Hd.cells, hil, Inp.cells]
        refine call (c_takeP l im hii) (by simp [Lay.cells, Img.cells, hil, Inp.cells]) (by simp) ?_
        have him2 := takeP_ok l im hii
        generalize takeP l im ins[i] = im2 at him2 ⊢
        simp [Img.cells]
        refine RTwp_loop rfl (fun vs => ∃ j : Nat, j ≤ h.path.steps.length ∧ vs = [.bool (anyU (soAt (occupied l im2) h) j), .bool (anyU (soAt (told l im2) h) j), I j]) (fun vs => match vs with | [_, _, .int _ j] => h.path.steps.length - j.toNat | _ => 0) ⟨0, by omega, by simp [anyU_zero]⟩ ?_
        rintro vs - ⟨j, hj, rfl⟩
        by_cases hjl : j < h.path.steps.length
        · have hwj := wrap_succ (i := j) (by omega)
          have ho1 := anyU_succ (soAt (occupied l im2) h) j
          rw [soAt_lt (q := occupied l im2) hjl] at ho1
          have ht1 := anyU_succ (soAt (told l im2) h) j
          rw [soAt_lt (q := told l im2) hjl] at ht1
          simp [hml, hh, hjl, Hd.cells, Step.cells, hwj]
          refine callIf (avs := [l.av, im2.av, I h.path.steps[j].s]) (.bool (occupied l im2 h.path.steps[j].s)) rfl (fun _ => ⟨by simp [Lay.cells, Img.cells, hml, hh, hjl, Hd.cells, Step.cells], c_r15Occupied l im2 him2 _⟩) (fun _ => rfl) ?_
          simp [hml, hh, hjl, Hd.cells, Step.cells, hwj]
          refine callIf (avs := [l.av, im2.av, I h.path.steps[j].s]) (.bool (told l im2 h.path.steps[j].s)) rfl (fun _ => ⟨by simp [Lay.cells, Img.cells, hml, hh, hjl, Hd.cells, Step.cells], c_r15Told l im2 him2 _⟩) (fun _ => rfl) ?_
          simp [hml, hh, hjl, Hd.cells, Step.cells, hwj]
          exact ⟨⟨j + 1, by omega, ho1.symm, ht1.symm, rfl⟩, by omega⟩
        · have : j = h.path.steps.length := by omega
          subst this
          have e1 : anyU (soAt (occupied l im2) h) h.path.steps.length = inN l im2 h := rfl
          have e2 : anyU (soAt (told l im2) h) h.path.steps.length = toldN l im2 h := rfl
          rw [e1, e2]
          simp [hml, hh, Hd.cells]
          refine call (c_back_Tick l im2 him2 { h with stage := 4, timer := l.approach - n } hhl) (by simp [Lay.cells, Img.cells, Hd.cells]) (by simp) ?_
          have hwi := wrap_succ (i := i) (by omega)
          cases hst : stale l im2
          · cases htd : toldN l im2 h
            · cases hin : inN l im2 h
              · have hdt : downT (l.approach - n) = l.approach - (n + 1) := by
                  unfold downT
                  rw [Int.max_eq_left (by omega), wrap_i] <;> omega
                have ht : tickB l im2 { h with stage := 4, timer := l.approach - n } = ({ h with stage := 4, timer := l.approach - (n + 1) }, decide (l.approach - (n + 1) = 0)) := by
                  have := tickB_down (y := ({ h with stage := 4, timer := l.approach - n } : Hd)) rfl hst htd hin
                  simp only [hdt] at this
                  exact this
                have hwn : IntKind.i64.wrap ((n : Int) + 1) = (n : Int) + 1 := by rw [wrap_i] <;> omega
                have hwa : IntKind.i64.wrap (l.approach - ((n : Int) + 1)) = l.approach - (n + 1) := by rw [wrap_i] <;> omega
                rw [ht]
                simp [Hd.cells]
                refine call (c_r15Stale l im2) (by simp [Lay.cells, Img.cells]) (fun _ => rfl) ?_
                rw [hst]
                have hbe : decide (l.approach - ((n : Int) + 1) = 0) = ((n : Int) + 1 == l.approach) := by
                  rw [Bool.eq_iff_iff]; simp; omega
                simp [hwn, hwa, hwi, hbe, Hd.cells]
                refine ⟨fun _ => call c_wakes22 rfl (by simp) (by simp [setEnv]), fun hne => ⟨⟨n + 1, i + 1, im2, him2, by omega, by omega, by omega, ?_⟩, by omega⟩⟩
                simp [Img.cells, Hd.cells]
              · have ht := tickB_in (y := ({ h with stage := 4, timer := l.approach - n } : Hd)) rfl hst htd hin
                rw [ht]
                simp [Hd.cells]
                refine call (c_r15Stale l im2) (by simp [Lay.cells, Img.cells]) (fun _ => rfl) ?_
                rw [hst]
                simp
                refine callIf (avs := [({ h with stage := 4, timer := l.approach - n } : Hd).av, ({ h with stage := 4, timer := l.approach - n } : Hd).av]) (.bool true) rfl (fun _ => ⟨by simp [Hd.cells], same_refl (a := { h with stage := 4, timer := l.approach - n }) hhl⟩) (fun _ => rfl) ?_
                simp [hwi]
                refine ⟨⟨n, i + 1, im2, him2, by omega, by omega, by omega, ?_⟩, by omega⟩
                simp [Img.cells, Hd.cells]
            · have ht := tickB_told (y := ({ h with stage := 4, timer := l.approach - n } : Hd)) rfl hst htd
              have hrs : (runS l im2 { h with stage := 3, timer := 0 }).stage = 3 := runS_stage _ _ _
              rw [ht]
              simp [Hd.cells, hrs]
              refine call (c_r15Stale l im2) (by simp [Lay.cells, Img.cells]) (fun _ => rfl) ?_
              rw [hst]
              simp [hrs, Hd.cells]
              refine callIf (avs := [l.av, im2.av, ({ h with stage := 3, timer := 0 } : Hd).av]) (runS l im2 { h with stage := 3, timer := 0 }).av (by simp [AV.pure]) (fun _ => ⟨by simp [Lay.cells, Img.cells, Hd.cells], c_r21Run l im2 him2 { h with stage := 3, timer := 0 } hhl (by simp)⟩) (by simp) ?_
              simp [hrs, Hd.cells]
              refine callIf (avs := [(runS l im2 { h with stage := 3, timer := 0 }).av, (runS l im2 { h with stage := 3, timer := 0 }).av]) (.bool true) rfl (fun _ => ⟨by simp [Hd.cells, hrs], same_refl (runS_len' hhl)⟩) (by simp) ?_
              simp [hrs, Hd.cells]
              refine callIf (avs := []) (.bool true) rfl (fun _ => ⟨rfl, c_wakes22⟩) (by simp) ?_
              simp [hrs, Hd.cells]
          · rw [tickB_stale hst]
            simp [Hd.cells]
            refine call (c_r15Stale l im2) (by simp [Lay.cells, Img.cells]) (fun _ => rfl) ?_
            rw [hst]
            simp
            refine callIf (avs := [({ h with stage := 4, timer := l.approach - n } : Hd).av, ({ h with stage := 4, timer := l.approach - n } : Hd).av]) (.bool true) rfl (fun _ => ⟨by simp [Hd.cells], same_refl (a := { h with stage := 4, timer := l.approach - n }) hhl⟩) (fun _ => rfl) ?_
            simp [hwi]
            refine ⟨⟨n, i + 1, im2, him2, by omega, by omega, by omega, ?_⟩, by omega⟩
            simp [Img.cells, Hd.cells]
      · have hge : ins.length ≤ i := by omega
        simp [hil]
        exact call c_wakes22 rfl (by simp) (by simp [setEnv])
    · exact ⟨fun _ => call c_wakes22 rfl (by simp) (by simp), by intro a b c; exact absurd ⟨a, b, c⟩ hc⟩
end Go.Lb.LK
