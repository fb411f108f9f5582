/- What the document says of a new image; of a route in two sections: the walk. -/
import Derived.Test.YtmaldhbaihlmbaaGreatDoorCh5
import Derived.Test.YtmaldhbaihlmbaaGreatDoorFw11
set_option linter.unusedSimpArgs false
set_option linter.unusedVariables false
namespace Go.Lb.LK
open Go Go.Lb Go.Proofs Go.RowKit
set_option maxRecDepth 100000 in
set_option maxHeartbeats 4000000 in
theorem zaB : C f_lockbarlaw18_wakes [] (.bool true) := by
 refine ctr [] run_lockbarlaw18_wakes rfl rfl rfl ?_ rfl
 unfold rt_lockbarlaw18_wakes
 refine call zol rfl (by simp) ?_
 simp [Lay.cells, zaq, zaJ, Sec.cells, Port.cells, Exi.cells, Step.cells, Img.cells, Kern.cells, zas, k18, hd18, Hd.cells, p18, q18, Path.cells, Need.cells, zaK]
 refine call zl7 rfl (by simp) ?_
 simp [Lay.cells, zaq, zaJ, Sec.cells, Port.cells, Exi.cells, Step.cells, Img.cells, Kern.cells, zas, k18, hd18, Hd.cells, p18, q18, Path.cells, Need.cells, zaK]
 refine call g1c (by simp [Lay.cells, zaq, zaJ, Sec.cells, Port.cells, Exi.cells, Step.cells, Img.cells, Kern.cells, zas, k18, hd18, Hd.cells, p18, q18, Path.cells, Need.cells, zaK] <;> rfl) (fun _ => rfl) ?_
 simp [Lay.cells, zaq, zaJ, Sec.cells, Port.cells, Exi.cells, Step.cells, Img.cells, Kern.cells, zas, k18, hd18, Hd.cells, p18, q18, Path.cells, Need.cells, zaK]
 refine call zhV rfl (by simp) ?_
 simp [Lay.cells, zaq, zaJ, Sec.cells, Port.cells, Exi.cells, Step.cells, Img.cells, Kern.cells, zas, k18, hd18, Hd.cells, p18, q18, Path.cells, Need.cells, zaK]
 refine call g2c (by simp [Lay.cells, zaq, zaJ, Sec.cells, Port.cells, Exi.cells, Step.cells, Img.cells, Kern.cells, zas, k18, hd18, Hd.cells, p18, q18, Path.cells, Need.cells, zaK] <;> rfl) (fun _ => rfl) ?_
 simp [Lay.cells, zaq, zaJ, Sec.cells, Port.cells, Exi.cells, Step.cells, Img.cells, Kern.cells, zas, k18, hd18, Hd.cells, p18, q18, Path.cells, Need.cells, zaK]
 refine call g3c (by simp [Lay.cells, zaq, zaJ, Sec.cells, Port.cells, Exi.cells, Step.cells, Img.cells, Kern.cells, zas, k18, hd18, Hd.cells, p18, q18, Path.cells, Need.cells, zaK] <;> rfl) (fun _ => rfl) ?_
 simp [Lay.cells, zaq, zaJ, Sec.cells, Port.cells, Exi.cells, Step.cells, Img.cells, Kern.cells, zas, k18, hd18, Hd.cells, p18, q18, Path.cells, Need.cells, zaK]
 refine call zhV rfl (by simp) ?_
 simp [Lay.cells, zaq, zaJ, Sec.cells, Port.cells, Exi.cells, Step.cells, Img.cells, Kern.cells, zas, k18, hd18, Hd.cells, p18, q18, Path.cells, Need.cells, zaK]
 refine call g4c (by simp [Lay.cells, zaq, zaJ, Sec.cells, Port.cells, Exi.cells, Step.cells, Img.cells, Kern.cells, zas, k18, hd18, Hd.cells, p18, q18, Path.cells, Need.cells, zaK] <;> rfl) (fun _ => rfl) ?_
 simp [Lay.cells, zaq, zaJ, Sec.cells, Port.cells, Exi.cells, Step.cells, Img.cells, Kern.cells, zas, k18, hd18, Hd.cells, p18, q18, Path.cells, Need.cells, zaK]
 refine call g5c (by simp [Lay.cells, zaq, zaJ, Sec.cells, Port.cells, Exi.cells, Step.cells, Img.cells, Kern.cells, zas, k18, hd18, Hd.cells, p18, q18, Path.cells, Need.cells, zaK] <;> rfl) (fun _ => rfl) ?_
 simp [Lay.cells, zaq, zaJ, Sec.cells, Port.cells, Exi.cells, Step.cells, Img.cells, Kern.cells, zas, k18, hd18, Hd.cells, p18, q18, Path.cells, Need.cells, zaK]
 refine call g6c (by simp [Lay.cells, zaq, zaJ, Sec.cells, Port.cells, Exi.cells, Step.cells, Img.cells, Kern.cells, zas, k18, hd18, Hd.cells, p18, q18, Path.cells, Need.cells, zaK] <;> rfl) (fun _ => rfl) ?_
 simp [Lay.cells, zaq, zaJ, Sec.cells, Port.cells, Exi.cells, Step.cells, Img.cells, Kern.cells, zas, k18, hd18, Hd.cells, p18, q18, Path.cells, Need.cells, zaK]
 refine call g7c (by simp [Lay.cells, zaq, zaJ, Sec.cells, Port.cells, Exi.cells, Step.cells, Img.cells, Kern.cells, zas, k18, hd18, Hd.cells, p18, q18, Path.cells, Need.cells, zaK] <;> rfl) (fun _ => rfl) ?_
 simp [Lay.cells, zaq, zaJ, Sec.cells, Port.cells, Exi.cells, Step.cells, Img.cells, Kern.cells, zas, k18, hd18, Hd.cells, p18, q18, Path.cells, Need.cells, zaK]
 refine call g8c (by simp [Lay.cells, zaq, zaJ, Sec.cells, Port.cells, Exi.cells, Step.cells, Img.cells, Kern.cells, zas, k18, hd18, Hd.cells, p18, q18, Path.cells, Need.cells, zaK] <;> rfl) (fun _ => rfl) ?_
 simp [Lay.cells, zaq, zaJ, Sec.cells, Port.cells, Exi.cells, Step.cells, Img.cells, Kern.cells, zas, k18, hd18, Hd.cells, p18, q18, Path.cells, Need.cells, zaK]
 refine call g9c (by simp [Lay.cells, zaq, zaJ, Sec.cells, Port.cells, Exi.cells, Step.cells, Img.cells, Kern.cells, zas, k18, hd18, Hd.cells, p18, q18, Path.cells, Need.cells, zaK] <;> rfl) (fun _ => rfl) ?_
 simp [Lay.cells, zaq, zaJ, Sec.cells, Port.cells, Exi.cells, Step.cells, Img.cells, Kern.cells, zas, k18, hd18, Hd.cells, p18, q18, Path.cells, Need.cells, zaK]
 refine zai (.bool true) (by simp [AV.pure]) (fun _ => ⟨by (simp [Lay.cells, zaq, zaJ, Sec.cells, Port.cells, Exi.cells, Step.cells, Img.cells, Kern.cells, zas, k18, hd18, Hd.cells, p18, q18, Path.cells, Need.cells, zaK] <;> rfl), g10c⟩) (fun _ => rfl) ?_
 simp [Lay.cells, zaq, zaJ, Sec.cells, Port.cells, Exi.cells, Step.cells, Img.cells, Kern.cells, zas, k18, hd18, Hd.cells, p18, q18, Path.cells, Need.cells, zaK]
 refine zai (.bool false) (by simp [AV.pure]) (fun _ => ⟨by (simp [Lay.cells, zaq, zaJ, Sec.cells, Port.cells, Exi.cells, Step.cells, Img.cells, Kern.cells, zas, k18, hd18, Hd.cells, p18, q18, Path.cells, Need.cells, zaK] <;> rfl), g11c⟩) (fun _ => rfl) ?_
 simp [Lay.cells, zaq, zaJ, Sec.cells, Port.cells, Exi.cells, Step.cells, Img.cells, Kern.cells, zas, k18, hd18, Hd.cells, p18, q18, Path.cells, Need.cells, zaK]
 refine zai (.bool false) (by simp [AV.pure]) (fun _ => ⟨by (simp [Lay.cells, zaq, zaJ, Sec.cells, Port.cells, Exi.cells, Step.cells, Img.cells, Kern.cells, zas, k18, hd18, Hd.cells, p18, q18, Path.cells, Need.cells, zaK] <;> rfl), g12c⟩) (fun _ => rfl) ?_
 simp [Lay.cells, zaq, zaJ, Sec.cells, Port.cells, Exi.cells, Step.cells, Img.cells, Kern.cells, zas, k18, hd18, Hd.cells, p18, q18, Path.cells, Need.cells, zaK]
 refine zai (.bool true) (by simp [AV.pure]) (fun _ => ⟨by (simp [Lay.cells, zaq, zaJ, Sec.cells, Port.cells, Exi.cells, Step.cells, Img.cells, Kern.cells, zas, k18, hd18, Hd.cells, p18, q18, Path.cells, Need.cells, zaK] <;> rfl), g13c⟩) (fun _ => rfl) ?_
 simp [Lay.cells, zaq, zaJ, Sec.cells, Port.cells, Exi.cells, Step.cells, Img.cells, Kern.cells, zas, k18, hd18, Hd.cells, p18, q18, Path.cells, Need.cells, zaK]
 refine zai (avs := []) zas.av (by simp [AV.pure]) (fun _ => ⟨rfl, zl7⟩) (by simp) ?_
 simp [Lay.cells, zaq, zaJ, Sec.cells, Port.cells, Exi.cells, Step.cells, Img.cells, Kern.cells, zas, k18, hd18, Hd.cells, p18, q18, Path.cells, Need.cells, zaK]
 refine zai (.bool true) (by simp [AV.pure]) (fun _ => ⟨by (simp [Lay.cells, zaq, zaJ, Sec.cells, Port.cells, Exi.cells, Step.cells, Img.cells, Kern.cells, zas, k18, hd18, Hd.cells, p18, q18, Path.cells, Need.cells, zaK] <;> rfl), g14c⟩) (fun _ => rfl) ?_
 simp [Lay.cells, zaq, zaJ, Sec.cells, Port.cells, Exi.cells, Step.cells, Img.cells, Kern.cells, zas, k18, hd18, Hd.cells, p18, q18, Path.cells, Need.cells, zaK]
 refine zai (.bool false) (by simp [AV.pure]) (fun _ => ⟨by (simp [Lay.cells, zaq, zaJ, Sec.cells, Port.cells, Exi.cells, Step.cells, Img.cells, Kern.cells, zas, k18, hd18, Hd.cells, p18, q18, Path.cells, Need.cells, zaK] <;> rfl), g15c⟩) (fun _ => rfl) ?_
 simp [Lay.cells, zaq, zaJ, Sec.cells, Port.cells, Exi.cells, Step.cells, Img.cells, Kern.cells, zas, k18, hd18, Hd.cells, p18, q18, Path.cells, Need.cells, zaK]
 refine zai (k18 2).av (by simp [AV.pure]) (fun _ => ⟨by (simp [Lay.cells, zaq, zaJ, Sec.cells, Port.cells, Exi.cells, Step.cells, Img.cells, Kern.cells, zas, k18, hd18, Hd.cells, p18, q18, Path.cells, Need.cells, zaK] <;> rfl), g16c⟩) (by simp) ?_
 simp [Lay.cells, zaq, zaJ, Sec.cells, Port.cells, Exi.cells, Step.cells, Img.cells, Kern.cells, zas, k18, hd18, Hd.cells, p18, q18, Path.cells, Need.cells, zaK]
 refine zai (.bool true) (by simp [AV.pure]) (fun _ => ⟨by (simp [Lay.cells, zaq, zaJ, Sec.cells, Port.cells, Exi.cells, Step.cells, Img.cells, Kern.cells, zas, k18, hd18, Hd.cells, p18, q18, Path.cells, Need.cells, zaK] <;> rfl), g17c⟩) (fun _ => rfl) ?_
 simp [Lay.cells, zaq, zaJ, Sec.cells, Port.cells, Exi.cells, Step.cells, Img.cells, Kern.cells, zas, k18, hd18, Hd.cells, p18, q18, Path.cells, Need.cells, zaK]
 refine zai (avs := []) zas.av (by simp [AV.pure]) (fun _ => ⟨rfl, zl7⟩) (by simp) ?_
 simp [Lay.cells, zaq, zaJ, Sec.cells, Port.cells, Exi.cells, Step.cells, Img.cells, Kern.cells, zas, k18, hd18, Hd.cells, p18, q18, Path.cells, Need.cells, zaK]
 refine zai (.bool false) (by simp [AV.pure]) (fun _ => ⟨by (simp [Lay.cells, zaq, zaJ, Sec.cells, Port.cells, Exi.cells, Step.cells, Img.cells, Kern.cells, zas, k18, hd18, Hd.cells, p18, q18, Path.cells, Need.cells, zaK] <;> rfl), g18c⟩) (fun _ => rfl) ?_
 simp [Lay.cells, zaq, zaJ, Sec.cells, Port.cells, Exi.cells, Step.cells, Img.cells, Kern.cells, zas, k18, hd18, Hd.cells, p18, q18, Path.cells, Need.cells, zaK]
end Go.Lb.LK
namespace Go.Lb.LK
open Go Go.Lb Go.Proofs Go.RowKit
theorem zjG {l : List Step} (h : AV.wgt reachBytes (steps l)) : l.length ≤ 6000000000000 := by
 have h1 := (znc (g := Step.av) h).1
 cases l with
 | nil => simp
 | cons x r =>
  have := h1 x (by simp)
  simp [Step.cells, AV.bytesL, AV.bytes1, zjf, reachBytes] at this
  simp only [List.length_cons]
  omega
theorem zmM {l : List Need} (h : AV.wgt reachBytes (needs l)) : l.length ≤ 6000000000000 := by
 have h1 := (znc (g := Need.av) h).1
 cases l with
 | nil => simp
 | cons x r =>
  have := h1 x (by simp)
  simp [Need.cells, AV.bytesL, AV.bytes1, zjf, reachBytes] at this
  simp only [List.length_cons]
  omega
theorem zpB {h : Hd} (hb : AV.wgt reachBytes h.av) : h.wide := by
 have hb : AV.wgts reachBytes h.cells := by simpa only [AV.wgt] using hb
 have h4 : AV.wgt reachBytes (steps h.path.steps) := zcK hb _ (by simp [Hd.cells])
 have h2 : AV.wgt reachBytes (steps h.over) := zcK hb _ (by simp [Hd.cells])
 have h3 : AV.wgt reachBytes (needs h.needs) := zcK hb _ (by simp [Hd.cells])
 exact ⟨zjG h4, zjG h2, zmM h3⟩
theorem zid {k : Kern} (hb : AV.wgt reachBytes k.av) : k.wide := by
 have hb : AV.wgts reachBytes k.cells := by simpa only [AV.wgt] using hb
 have h0 : AV.wgt reachBytes (zpC k.held) := zcK hb _ (by simp [Kern.cells])
 have h1 := znc (g := Hd.av) (l := k.held) h0
 refine ⟨?_, fun h hh => zpB (h1.2 h hh)⟩
 cases hk : k.held with
 | nil => simp
 | cons x r =>
  have := h1.1 x (by simp [hk])
  rw [hk] at this
  simp [Hd.cells, AV.bytesL, AV.bytes1, zjf, reachBytes] at this
  simp only [List.length_cons]
  omega
theorem zdK {k : Kern} (h : zay k = true) {i : Nat} (hi : i < k.held.length) : za0 k.held[i] = true ∧ k.held[i].id < k.next ∧ zcY k i < k.held[i].id ∧ ∀ j, j < i → ∀ hj : j < k.held.length, za8 k.held[i] k.held[j] = true := by
 simp only [zay, Bool.and_eq_true] at h
 have h1 := List.all_eq_true.1 h.2.1 i (List.mem_range.2 hi)
 rw [zfm hi] at h1
 simp only [Bool.and_eq_true, decide_eq_true_eq] at h1
 refine ⟨h1.1, h1.2.1, h1.2.2.1, fun j hj hj2 => ?_⟩
 exact List.all_eq_true.1 h1.2.2.2 _ (List.mem_take_iff_getElem.2 ⟨j, by omega, rfl⟩)
theorem zg8 {a b : Hd} (h : za8 a b = true) {s : Int} (h1 : s ∈ zat a) (h2 : s ∈ zat b) : False := by
 rw [zeB h1 h2] at h; cases h
theorem zjL {h : Hd} {p a : Int} (hw : zaW h p = some a) : ∃ n ∈ zaZ h, n.p = p ∧ n.pos = a := by
 unfold zaW at hw
 obtain ⟨n, h1, h2⟩ := Option.map_eq_some_iff.1 hw
 exact ⟨n, List.mem_of_find?_eq_some h1, by simpa using List.find?_some h1, h2⟩
theorem zjS {a b : Hd} (h : za8 a b = true) {p x y : Int} (h1 : zaW a p = some x) (h2 : zaW b p = some y) : x = y := by
 obtain ⟨n, n1, n2, n3⟩ := zjL h1
 obtain ⟨m, m1, m2, m3⟩ := zjL h2
 by_cases hxy : x = y
 ·exact hxy
 ·exfalso
  have hc : zct (zaZ a) (zaZ b) = true := by
   unfold zct
   refine List.any_eq_true.2 ⟨n, n1, List.any_eq_true.2 ⟨m, m1, ?_⟩⟩
   simp [both, n2, m2, n3, m3, hxy]
  simp [za8, hc] at h
theorem zgs {k : Kern} (hr : zay k = true) {i : Nat} (hi : i < k.held.length) {s : Int} (hs : s ∈ zat k.held[i]) : zbR k s = some k.held[i].id := by
 have : zaj (fun h => decide (s ∈ zat h)) (k.held.take i) := by
  refine List.any_eq_false.2 fun x hx => ?_
  obtain ⟨j, hj, rfl⟩ := List.mem_take_iff_getElem.1 hx
  have := (zdK hr hi).2.2.2 j (by omega) (by omega)
  simp only [decide_eq_true_eq]
  exact fun h => zg8 this hs h
 unfold zbR
 rw [zcG hi this (by simpa using hs)]; rfl
theorem zgV {k : Kern} (hr : zay k = true) {i : Nat} (hi : i < k.held.length) {p a : Int} (hw : zaW k.held[i] p = some a) : zcc k p = some a := by
 unfold zcc
 cases hf : k.held.findSome? fun h => zaW h p with
 | none =>
  rw [List.findSome?_eq_none_iff] at hf
  rw [hf _ (List.getElem_mem hi)] at hw; cases hw
 | some b =>
  obtain ⟨l1, x, l2, e, h1, h2⟩ := List.findSome?_eq_some_iff.1 hf
  have hj : l1.length < k.held.length := by rw [e]; simp
  have hx : k.held[l1.length] = x := by simp [e]
  by_cases hij : i = l1.length
  ·subst hij
   rw [hx, h1] at hw; exact hw
  ·rcases Nat.lt_or_gt_of_ne hij with hlt | hgt
   ·exfalso
    have : k.held[i] ∈ l1 := by
     have : k.held[i] = l1[i]'hlt := by simp [e, List.getElem_append_left hlt]
     rw [this]; exact List.getElem_mem _
    rw [h2 _ this] at hw; cases hw
   ·have h3 := (zdK hr hi).2.2.2 l1.length hgt hj
    rw [hx] at h3
    rw [zjS h3 hw h1]
def cntS (s : Int) (l : List Hd) : Nat := l.countP fun h => decide (s ∈ zat h)
def cntW (s : Int) (l : List Hd) : Nat := l.countP fun h => (zaW h s).isSome
theorem zej {q : Hd → Bool} {l : List Hd} {i : Nat} (hi : i < l.length) : (l.take (i + 1)).countP q = (l.take i).countP q + (if q l[i] = true then 1 else 0) := by
 rw [List.take_add_one, List.getElem?_eq_getElem hi, List.countP_append]
 simp [List.countP_cons]
theorem zkL {k : Kern} (hr : zay k = true) (s : Int) : ∀ i, i ≤ k.held.length → cntS s (k.held.take i) ≤ 1 ∧ (0 < cntS s (k.held.take i) → ∃ j, j < i ∧ ∃ hj : j < k.held.length, s ∈ zat k.held[j]) := by
 intro i
 induction i with
 | zero => intro _; simp [cntS]
 | succ i ih =>
  intro h
  have hi : i < k.held.length := by omega
  obtain ⟨h1, h2⟩ := ih (by omega)
  unfold cntS at h1 h2 ⊢
  rw [zej hi]
  by_cases hs : s ∈ zat k.held[i]
  ·have h0 : (k.held.take i).countP (fun h => decide (s ∈ zat h)) = 0 := by
    by_cases hp : 0 < (k.held.take i).countP fun h => decide (s ∈ zat h)
    ·obtain ⟨j, hj, hj2, hsj⟩ := h2 hp
     exact (zg8 ((zdK hr hi).2.2.2 j hj hj2) hs hsj).elim
    ·omega
   rw [h0]
   simp only [hs, decide_true, if_true]
   exact ⟨by omega, fun _ => ⟨i, by omega, hi, hs⟩⟩
  ·simp only [hs, decide_false, Bool.false_eq_true, if_false, Nat.add_zero]
   exact ⟨h1, fun hp => by obtain ⟨j, hj, r⟩ := h2 hp; exact ⟨j, by omega, r⟩⟩
theorem zls {k : Kern} (hr : zay k = true) (s : Int) : (zbR k s).isSome = decide (cntS s k.held = 1) := by
 have h1 := zkL hr s k.held.length (Nat.le_refl _)
 rw [List.take_of_length_le (Nat.le_refl _)] at h1
 by_cases hp : 0 < cntS s k.held
 ·obtain ⟨j, _, hj, hs⟩ := h1.2 hp
  rw [zgs hr hj hs]
  simp only [Option.isSome_some]
  symm; rw [decide_eq_true_eq]; omega
 ·have h0 : cntS s k.held = 0 := by omega
  have : zbR k s = none := by
   unfold zbR
   have : k.held.find? (fun h => decide (s ∈ zat h)) = none := by
    rw [List.find?_eq_none]
    intro x hx hq
    have := List.countP_eq_zero.1 h0 x hx
    exact this hq
   rw [this]; rfl
  rw [this, h0]; rfl
theorem zlP (k : Kern) (s : Int) : (zcc k s).isSome = decide (0 < cntW s k.held) := by
 by_cases hp : 0 < cntW s k.held
 ·obtain ⟨x, hx, hq⟩ := List.countP_pos_iff.1 hp
  rw [decide_eq_true hp]
  unfold zcc
  rw [List.findSome?_isSome_iff]
  exact ⟨x, hx, hq⟩
 ·rw [decide_eq_false hp]
  have h0 : cntW s k.held = 0 := by omega
  unfold zcc
  have : k.held.findSome? (fun h => zaW h s) = none := by
   rw [List.findSome?_eq_none_iff]
   intro x hx
   have := List.countP_eq_zero.1 h0 x hx
   simpa using this
  rw [this]; rfl
theorem znX {k : Kern} (hr : zay k = true) {i : Nat} (hi : i < k.held.length) : 1 ≤ k.held[i].stage ∧ k.held[i].stage ≤ 4 := by
 have := (zdc (zdK hr hi).1).2.1
 unfold Hd.g2 at this
 omega
theorem zkl {k : Kern} (hr : zay k = true) (s : Int) : zb8 k s = k.held.any fun h => (zaW h s).isSome && decide (1 < h.stage) := by
 unfold zb8
 rw [Bool.eq_iff_iff, List.any_eq_true, List.any_eq_true]
 constructor
 ·rintro ⟨x, hx, hq⟩
  obtain ⟨i, hi, rfl⟩ := List.mem_iff_getElem.1 hx
  have := znX hr hi
  refine ⟨_, hx, ?_⟩
  simp only [Bool.and_eq_true, Bool.not_eq_true', decide_eq_false_iff_not, decide_eq_true_eq] at hq ⊢
  exact ⟨hq.1, by omega⟩
 ·rintro ⟨x, hx, hq⟩
  refine ⟨_, hx, ?_⟩
  simp only [Bool.and_eq_true, Bool.not_eq_true', decide_eq_false_iff_not, decide_eq_true_eq] at hq ⊢
  exact ⟨hq.1, by omega⟩
end Go.Lb.LK
