/- A train through two sections. -/
/- An image, a held route: what fits their form. -/
/- What functions come to, printed by a program, checked by the kernel. -/
/- What functions come to, printed by a program, checked by the kernel. -/
/- Nothing comes back; how stages go on. -/
/- What functions come to, printed by a program, checked by the kernel. -/
import Derived.Test.YteihefiaceohdaaDoorCh6
import Derived.Test.YteihefiaceohdaaDoorCh4
import Derived.Test.YteihefiaceohdaaDoorCh1
set_option linter.unusedSimpArgs false
set_option linter.unusedVariables false
namespace Go.Lb.LK
open Go Go.Lb Go.Proofs Go.RowKit

theorem runS_same (l : Lay) (im : Img) (h : Hd) : (runS l im h).path = h.path ∧ (runS l im h).over = h.over ∧ (runS l im h).needs = h.needs ∧ (runS l im h).id = h.id ∧ (runS l im h).shown = h.shown ∧ (runS l im h).stage = h.stage := by
  unfold runS; split <;> exact ⟨rfl, rfl, rfl, rfl, rfl, rfl⟩
theorem tickS_same (l : Lay) (im : Img) (h : Hd) : (tickS l im h).path = h.path ∧ (tickS l im h).over = h.over ∧ (tickS l im h).needs = h.needs ∧ (tickS l im h).id = h.id ∧ (tickS l im h).shown = h.shown := by
  unfold tickS
  repeat' split
  all_goals first | exact ⟨rfl, rfl, rfl, rfl, rfl⟩ | (have := runS_same l im h; exact ⟨this.1, this.2.1, this.2.2.1, this.2.2.2.1, this.2.2.2.2.1⟩) | (have := runS_same l im { h with stage := 3, timer := 0 }; exact ⟨this.1, this.2.1, this.2.2.1, this.2.2.2.1, this.2.2.2.2.1⟩)
theorem runS_gone (l : Lay) (im : Img) (h : Hd) : h.gone ≤ (runS l im h).gone := by
  unfold runS
  split
  · exact Int.le_refl _
  · rename_i ha
    have ha : asleepS l im h = false := by simpa using ha
    obtain ⟨_, ⟨_, _, d3, _⟩, _⟩ := right_facts (asleep_false ha).1
    have := @goX_ge l im h (h.n - h.gone.toNat) h.gone.toNat
    show h.gone ≤ ((goX l im h h.gone.toNat : Nat) : Int)
    unfold goX; omega
theorem runS_opn (l : Lay) (im : Img) (h : Hd) (ho : h.opn = true) : (runS l im h).opn = true := by
  unfold runS
  split
  · exact ho
  · show opnS l im h = true
    simp [opnS, ho]
theorem runS_len {l : Lay} {im : Img} {h : Hd} (hl : h.len) : (runS l im h).len := by
  obtain ⟨e1, e2, e3, _⟩ := runS_same l im h
  unfold Hd.len; rw [e1, e2, e3]; exact hl
theorem tickS_len {l : Lay} {im : Img} {h : Hd} (hl : h.len) : (tickS l im h).len := by
  obtain ⟨e1, e2, e3, _⟩ := tickS_same l im h
  unfold Hd.len; rw [e1, e2, e3]; exact hl
theorem tickS_stage {l : Lay} {im : Img} {h : Hd} (hs : 0 ≤ h.stage ∧ h.stage ≤ 255) : 0 ≤ (tickS l im h).stage ∧ (tickS l im h).stage ≤ 255 := by
  unfold tickS
  repeat' split
  all_goals first | exact hs | (simp; done) | (rw [(runS_same l im h).2.2.2.2.2]; exact hs) | (rw [(runS_same l im { h with stage := 3, timer := 0 }).2.2.2.2.2]; simp)

def i1 : Img := tellI lay2 imNew 1
def i2 : Img := tellI lay2 i1 3
def i3 : Img := tellI lay2 i2 2
def i4 : Img := tellI lay2 i3 0
def h1 : Hd := tickS lay2 i1 held2
def h2 : Hd := tickS lay2 i2 h1
def h3 : Hd := tickS lay2 i3 h2
def h4 : Hd := tickS lay2 i4 h3
def one2 : Hd := { held2 with path := ⟨0, 0, [⟨0, 0, 1⟩]⟩, stage := 3, was := fun i => decide (i = 0) }
def far2 : Hd := { held2 with stage := 1, needs := [⟨1, 1, 0⟩] }
theorem i1_ok : i1.ok := tellI_ok _ _ _ (by decide) (by decide)
theorem i2_ok : i2.ok := tellI_ok _ _ _ (by decide) (by decide)
theorem i3_ok : i3.ok := tellI_ok _ _ _ (by decide) (by decide)
theorem i4_ok : i4.ok := tellI_ok _ _ _ (by decide) (by decide)
theorem held2_len : held2.len := by unfold Hd.len; decide
theorem held2_st : 0 ≤ held2.stage ∧ held2.stage ≤ 255 := by decide
theorem h1_len : h1.len := tickS_len held2_len
theorem h1_st : 0 ≤ h1.stage ∧ h1.stage ≤ 255 := tickS_stage held2_st
theorem h2_len : h2.len := tickS_len h1_len
theorem h2_st : 0 ≤ h2.stage ∧ h2.stage ≤ 255 := tickS_stage h1_st
theorem h3_len : h3.len := tickS_len h2_len
theorem h3_st : 0 ≤ h3.stage ∧ h3.stage ≤ 255 := tickS_stage h2_st
theorem wk1 : h1.stage = 3 ∧ h1.was 0 = true ∧ h1.was 1 = false ∧ h1.gone = 0 := by decide +kernel
theorem wk2 : h2.was 1 = true ∧ h2.gone = 0 ∧ h2.timer = 1 := by decide +kernel
theorem wk3 : h3.gone = 1 ∧ h3.opn = false := by decide +kernel
theorem wk4 : h4.gone = 2 ∧ h4.opn = true := by decide +kernel
theorem wk5 : (runS lay2 i4 one2).gone = 1 ∧ (runS lay2 i4 one2).opn = true := by decide +kernel
theorem wk6 : (tickS lay2 i3 { held2 with stage := 1 }).stage = 2 := by decide +kernel
theorem wk7 : standsS lay2 i3 far2 = false ∧ (tickS lay2 i3 far2).stage = 1 := by decide +kernel
theorem wk8 : standsS lay2 i3 held2 = true := by decide +kernel
theorem wk9 : tickS lay2 imNew h1 = h1 := by
  have : asleepS lay2 imNew h1 = true := by
    have : stale lay2 imNew = true := by decide +kernel
    simp [asleepS, this]
  simp [tickS, this]
theorem t1 : C f_lockbarlaw21_tell [lay2.av, imNew.av, W 1] i1.av := c_tell lay2 imNew 1 (by decide) (by decide)
theorem t2 : C f_lockbarlaw21_tell [lay2.av, i1.av, W 3] i2.av := c_tell lay2 i1 3 (by decide) (by decide)
theorem t3 : C f_lockbarlaw21_tell [lay2.av, i2.av, W 2] i3.av := c_tell lay2 i2 2 (by decide) (by decide)
theorem t4 : C f_lockbarlaw21_tell [lay2.av, i3.av, W 0] i4.av := c_tell lay2 i3 0 (by decide) (by decide)
theorem k1 : C f_pass_Tick [lay2.av, i1.av, held2.av] h1.av := c_pass_Tick lay2 i1 i1_ok held2 held2_len held2_st
theorem k2 : C f_pass_Tick [lay2.av, i2.av, h1.av] h2.av := c_pass_Tick lay2 i2 i2_ok h1 h1_len h1_st
theorem k3 : C f_pass_Tick [lay2.av, i3.av, h2.av] h3.av := c_pass_Tick lay2 i3 i3_ok h2 h2_len h2_st
theorem k4 : C f_pass_Tick [lay2.av, i4.av, h3.av] h4.av := c_pass_Tick lay2 i4 i4_ok h3 h3_len h3_st
def h5 : Hd := runS lay2 i4 one2
theorem k5 : C f_pass_Run [lay2.av, i4.av, one2.av] h5.av := c_pass_Run lay2 i4 i4_ok one2 (by unfold Hd.len; decide) (by decide)
def call2 : Hd := { held2 with stage := 1 }
def h6 : Hd := tickS lay2 i3 call2
theorem k6 : C f_pass_Tick [lay2.av, i3.av, call2.av] h6.av := c_pass_Tick lay2 i3 i3_ok call2 held2_len (by decide)
theorem k7 : C f_pass_Stands [lay2.av, i3.av, far2.av] (.bool false) := by
  have := c_pass_Stands lay2 i3 i3_ok far2 (by unfold Hd.len; decide)
  rw [wk7.1] at this; exact this
def h8 : Hd := tickS lay2 i3 far2
theorem k8 : C f_pass_Tick [lay2.av, i3.av, far2.av] h8.av := c_pass_Tick lay2 i3 i3_ok far2 (by unfold Hd.len; decide) (by decide)
theorem k9 : C f_pass_Stands [lay2.av, i3.av, held2.av] (.bool true) := by
  have := c_pass_Stands lay2 i3 i3_ok held2 held2_len
  rw [wk8] at this; exact this
theorem k10 : C f_pass_Tick [lay2.av, imNew.av, h1.av] h1.av := by
  have := c_pass_Tick lay2 imNew imNew_ok h1 h1_len h1_st
  rw [wk9] at this; exact this
theorem k11 : C f_lockbarref17_Same [h1.av, h1.av] (.bool true) := by
  have := c_r17Same h1 h1 h1_len
  rw [sameS_refl] at this; exact this
theorem h5_is : h5.gone = 1 ∧ h5.opn = true := wk5
theorem h6_is : h6.stage = 2 := wk6
theorem h8_is : h8.stage = 1 := wk7.2
set_option maxHeartbeats 1000000 in
theorem c_wakes : C f_lockbarlaw21_wakes [] (.bool true) := by
  refine ctr [] run_lockbarlaw21_wakes rfl rfl rfl ?_ rfl
  unfold rt_lockbarlaw21_wakes
  refine call c_two rfl (by simp) ?_
  simp [Lay.cells, Hd.cells, lay2, held2]
  refine call c_r15New rfl (by simp) ?_
  simp
  refine call t1 (by simp [Lay.cells, lay2, Hd.cells, held2, Img.cells, Step.cells]) (by simp) ?_
  simp [Img.cells]
  refine call k1 (by simp [Lay.cells, lay2, Hd.cells, held2, Img.cells, Step.cells]) (by simp) ?_
  simp [Hd.cells]
  refine call t2 (by simp [Lay.cells, lay2, Hd.cells, held2, Img.cells, Step.cells]) (by simp) ?_
  simp [Img.cells]
  refine call k2 (by simp [Lay.cells, lay2, Hd.cells, held2, Img.cells, Step.cells]) (by simp) ?_
  simp [Hd.cells]
  refine call t3 (by simp [Lay.cells, lay2, Hd.cells, held2, Img.cells, Step.cells]) (by simp) ?_
  simp [Img.cells]
  refine call k3 (by simp [Lay.cells, lay2, Hd.cells, held2, Img.cells, Step.cells]) (by simp) ?_
  simp [Hd.cells]
  refine call t4 (by simp [Lay.cells, lay2, Hd.cells, held2, Img.cells, Step.cells]) (by simp) ?_
  simp [Img.cells]
  refine call k4 (by simp [Lay.cells, lay2, Hd.cells, held2, Img.cells, Step.cells]) (by simp) ?_
  simp [Hd.cells, Step.cells]
  refine call t4 (by simp [Lay.cells, lay2, Hd.cells, held2, Img.cells, Step.cells]) (by simp) ?_
  simp [Img.cells]
  refine call k5 (by simp [Lay.cells, lay2, Hd.cells, held2, Img.cells, Step.cells, one2]) (by simp) ?_
  simp [Hd.cells]
  refine callIf h6.av rfl (fun _ => ⟨by simp [Lay.cells, lay2, Hd.cells, held2, Img.cells, Step.cells, call2], k6⟩) (by simp) ?_
  simp [Hd.cells]
  refine callIf (.bool false) rfl (fun _ => ⟨by simp [Lay.cells, lay2, Hd.cells, held2, Img.cells, Step.cells, far2, Need.cells], k7⟩) (fun _ => rfl) ?_
  simp [Hd.cells]
  refine callIf h8.av rfl (fun _ => ⟨by simp [Lay.cells, lay2, Hd.cells, held2, Img.cells, Step.cells, far2, Need.cells], k8⟩) (by simp) ?_
  simp [Hd.cells]
  refine callIf (.bool true) rfl (fun _ => ⟨by simp [Lay.cells, lay2, Hd.cells, held2, Img.cells, Step.cells], k9⟩) (by simp) ?_
  simp [Hd.cells]
  refine callIf imNew.av rfl (fun _ => ⟨rfl, c_r15New⟩) (by simp) ?_
  simp [Hd.cells]
  refine callIf h1.av rfl (fun _ => ⟨by simp [Lay.cells, lay2, Hd.cells, Img.cells], k10⟩) (by simp) ?_
  simp [Hd.cells]
  refine callIf (.bool true) rfl (fun _ => ⟨by simp [Hd.cells], k11⟩) (by simp) ?_
  simp [Hd.cells, wk1, wk2, wk3, wk4, h5_is, h6_is, h8_is]
theorem c_PassTells (l : Lay) (im : Img) (hi : im.ok) (h : Hd) (hs : 0 ≤ h.stage ∧ h.stage ≤ 255) : C f_lockbarlaw21_PassTells [l.av, im.av, h.av] (.bool true) := by
  refine ctr (l.cells ++ im.cells ++ h.cells) run_lockbarlaw21_PassTells rfl (lih l im h) rfl ?_ rfl
  unfold rt_lockbarlaw21_PassTells
  simp [Lay.cells, Img.cells, Hd.cells]
  refine call (c_r07_Great l) (by simp [Lay.cells]) (by simp) ?_
  simp
  refine callIf (.bool (great17 h)) rfl (fun _ => ⟨by simp [Hd.cells], c_r17Great h⟩) (by simp) ?_
  simp
  refine ⟨fun _ => ?_, fun g1 g2 => ?_⟩
  · refine call c_wakes (by simp) (by simp) ?_
    simp
  · obtain ⟨hl, _⟩ := small17 g2
    refine call (c_pass_Stands l im hi h hl) (by simp [Lay.cells, Img.cells, Hd.cells]) (by simp) ?_
    simp
    refine call (c_r21Stands l im hi h hl) (by simp [Lay.cells, Img.cells, Hd.cells]) (by simp) ?_
    simp
    refine callIf (runS l im h).av (by simp [AV.pure]) (fun _ => ⟨by simp [Lay.cells, Img.cells, Hd.cells], c_pass_Run l im hi h hl hs⟩) (by simp) ?_
    simp
    refine callIf (runS l im h).av (by simp [AV.pure]) (fun _ => ⟨by simp [Lay.cells, Img.cells, Hd.cells], c_r21Run l im hi h hl hs⟩) (by simp) ?_
    simp
    refine callIf (avs := [(runS l im h).av, (runS l im h).av]) (.bool true) rfl (fun _ => ⟨by simp [Hd.cells], by have := c_r17Same (runS l im h) (runS l im h) (runS_len hl); rw [sameS_refl] at this; exact this⟩) (by simp) ?_
    simp
    refine callIf (tickS l im h).av (by simp [AV.pure]) (fun _ => ⟨by simp [Lay.cells, Img.cells, Hd.cells], c_pass_Tick l im hi h hl hs⟩) (by simp) ?_
    simp
    refine callIf (tickS l im h).av (by simp [AV.pure]) (fun _ => ⟨by simp [Lay.cells, Img.cells, Hd.cells], c_r21Tick l im hi h hl hs⟩) (by simp) ?_
    simp
    refine callIf (avs := [(tickS l im h).av, (tickS l im h).av]) (.bool true) rfl (fun _ => ⟨by simp [Hd.cells], by have := c_r17Same (tickS l im h) (tickS l im h) (tickS_len hl); rw [sameS_refl] at this; exact this⟩) (by simp) ?_
    simp
    refine callIf (.bool true) rfl (fun _ => ⟨by simp, c_wakes⟩) (by simp) ?_
    simp
end Go.Lb.LK

namespace Go.Lb.LK
open Go Go.Lb

@[simp] theorem u32_min : IntKind.u32.min = 0 := by decide +kernel
@[simp] theorem u32_max : IntKind.u32.max = 4294967295 := by decide +kernel
theorem img_of {cs : List AV} (h : imgT.fits cs) : ∃ x : Img, AV.agg cs = x.av ∧ x.ok := by
  simp only [imgT, inT, uT, iT, fits_agg, fitsAll_int, fitsAll_agg, fitsAll_nil, List.append_nil, List.cons_append, List.nil_append] at h
  obtain ⟨age, q, rfl, _, f0, q, rfl, _, f1, q, rfl, _, f2, q, rfl, _, f3, q, rfl, _, f4, q, rfl, _, f5, q, rfl, _, f6, q, rfl, _, f7, q, rfl, _, f8, q, rfl, _, f9, q, rfl, _, f10, q, rfl, _, f11, q, rfl, _, f12, q, rfl, _, f13, q, rfl, _, f14, q, rfl, _, f15, q, rfl, _, f16, q, rfl, _, f17, q, rfl, _, f18, q, rfl, _, f19, q, rfl, _, f20, q, rfl, _, f21, q, rfl, _, f22, q, rfl, _, f23, q, rfl, _, oc, q, rfl, h1, no, q, rfl, h2, re, q, rfl, h3, la, q, rfl, h4, rfl⟩ := h
  simp only [u32_min, u32_max] at h1 h2 h3 h4
  exact ⟨⟨age, fun i => [f0, f1, f2, f3, f4, f5, f6, f7, f8, f9, f10, f11, f12, f13, f14, f15, f16, f17, f18, f19, f20, f21, f22, f23].getD i 0, oc, no, re, la⟩, rfl, h1, h2, h3, h4⟩
theorem held_of {cs : List AV} (h : heldT.fits cs) : ∃ x : Hd, AV.agg cs = x.av ∧ 0 ≤ x.stage ∧ x.stage ≤ 255 := by
  simp only [heldT, pathT, iT, fits_agg, fitsAll_int, fitsAll_bool, fitsAll_agg, fitsAll_sl, fitsAll_nil, List.append_nil, List.cons_append, List.nil_append] at h
  obtain ⟨id, q, rfl, _, sig, q, rfl, _, ex, q, rfl, _, es, q, rfl, hs, ov, q, rfl, ho, ne, q, rfl, hn, st, q, rfl, h1, go, q, rfl, _, w0, q, rfl, w1, q, rfl, w2, q, rfl, w3, q, rfl, w4, q, rfl, w5, q, rfl, w6, q, rfl, w7, q, rfl, w8, q, rfl, w9, q, rfl, w10, q, rfl, w11, q, rfl, op, q, rfl, ti, q, rfl, _, sh, q, rfl, rfl⟩ := h
  obtain ⟨es, rfl⟩ := sl_map (g := Step.av) (fun cs h => step_of h) es hs.2
  obtain ⟨ov, rfl⟩ := sl_map (g := Step.av) (fun cs h => step_of h) ov ho.2
  obtain ⟨ne, rfl⟩ := sl_map (g := Need.av) (fun cs h => need_of h) ne hn.2
  exact ⟨⟨id, ⟨sig, ex, es⟩, ov, ne, st, go, fun i => [w0, w1, w2, w3, w4, w5, w6, w7, w8, w9, w10, w11].getD i false, op, ti, sh⟩, rfl, by simpa using h1⟩
theorem img_arg {x : AV} (h : imgT.fits x.cells) (h2 : aggIf true x) : ∃ l : Img, x = l.av ∧ l.ok := by
  obtain ⟨cs, rfl⟩ := h2.1 rfl
  exact img_of h
theorem held_arg {x : AV} (h : heldT.fits x.cells) (h2 : aggIf true x) : ∃ l : Hd, x = l.av ∧ 0 ≤ l.stage ∧ l.stage ≤ 255 := by
  obtain ⟨cs, rfl⟩ := h2.1 rfl
  exact held_of h
end Go.Lb.LK

namespace Go.Lb.LK
open Go Go.Lb Go.Proofs
@[simp] noncomputable def qkpassless_0 : SE := .agg [.inp 0, .inp 1, .inp 2, .inp 3, .inp 4, .inp 5, .inp 6, .inp 7, .inp 8, .inp 9, .inp 10]
@[simp] noncomputable def qkpassless_1 : SE := .agg [.inp 11, .inp 12, .inp 13, .inp 14, .inp 15, .inp 16, .inp 17, .inp 18, .inp 19, .inp 20, .inp 21, .inp 22, .inp 23, .inp 24, .inp 25, .inp 26, .inp 27, .inp 28, .inp 29, .inp 30, .inp 31, .inp 32, .inp 33, .inp 34, .inp 35, .inp 36, .inp 37, .inp 38, .inp 39]
@[simp] noncomputable def qkpassless_2 : SE := .agg [.inp 40, .inp 41, .inp 42, .inp 43, .inp 44, .inp 45, .inp 46, .inp 47, .inp 48, .inp 49, .inp 50, .inp 51, .inp 52, .inp 53, .inp 54, .inp 55, .inp 56, .inp 57, .inp 58, .inp 59, .inp 60, .inp 61, .inp 62]
@[simp] noncomputable def qkpassless_3 : SE := .app .pick [.inp 63, .bool true, .inp 64]
@[simp] noncomputable def qkpassless_4 : SE := .app (.part 6 1 false) [.inp 66]
@[simp] noncomputable def qkpassless_5 : SE := .app (.part 7 1 false) [.inp 66]
@[simp] noncomputable def qkpassless_6 : SE := .app (.part 8 1 false) [.inp 66]
@[simp] noncomputable def qkpassless_7 : SE := .app (.part 9 1 false) [.inp 66]
@[simp] noncomputable def qkpassless_8 : SE := .app (.part 10 1 false) [.inp 66]
@[simp] noncomputable def qkpassless_9 : SE := .app (.part 11 1 false) [.inp 66]
@[simp] noncomputable def qkpassless_10 : SE := .app (.part 12 1 false) [.inp 66]
@[simp] noncomputable def qkpassless_11 : SE := .app (.part 13 1 false) [.inp 66]
@[simp] noncomputable def qkpassless_12 : SE := .app (.part 14 1 false) [.inp 66]
@[simp] noncomputable def qkpassless_13 : SE := .app (.part 15 1 false) [.inp 66]
@[simp] noncomputable def qkpassless_14 : SE := .app (.part 16 1 false) [.inp 66]
@[simp] noncomputable def qkpassless_15 : SE := .app (.part 17 1 false) [.inp 66]
@[simp] noncomputable def qkpassless_16 : SE := .app (.part 18 1 false) [.inp 66]
@[simp] noncomputable def qkpassless_17 : SE := .app (.part 19 1 false) [.inp 66]
@[simp] noncomputable def qkpassless_18 : SE := .app (.part 20 1 false) [.inp 66]
@[simp] noncomputable def qkpassless_19 : SE := .app (.part 21 1 false) [.inp 66]
@[simp] noncomputable def qkpassless_20 : SE := .agg [.app (.part 0 1 false) [.inp 66], .app (.part 1 1 false) [.inp 66], .app (.part 2 1 false) [.inp 66], .app (.part 3 1 false) [.inp 66], .app (.part 4 1 false) [.inp 66], .app (.part 5 1 false) [.inp 66], qkpassless_4, qkpassless_5, qkpassless_6, qkpassless_7, qkpassless_8, qkpassless_9, qkpassless_10, qkpassless_11, qkpassless_12, qkpassless_13, qkpassless_14, qkpassless_15, qkpassless_16, qkpassless_17, qkpassless_18, qkpassless_19, .app (.part 22 1 false) [.inp 66]]
@[simp] noncomputable def qkpassless_21 : SE := .app (.eidx 1) [.inp 67, .inp 69]
noncomputable def rt_lockbarlaw21_PassLess : RT :=
.seg [.chk [] (.isAgg 11) [qkpassless_0]] <|
.seg [.chk [] (.isAgg 29) [qkpassless_1]] <|
.seg [.chk [] (.isAgg 23) [qkpassless_2]] <|
.seg [.call 63 [] 8 [qkpassless_0] false] <|
.seg [.call 64 [(.inp 63, false)] 9 [qkpassless_2] false] <|
.seg [.chk [] .pick [.inp 63, .bool true, .inp 64]] <|
.seg [.call 65 [(qkpassless_3, false)] 18 [qkpassless_2] false] <|
.seg [.chk [(qkpassless_3, false)] (.un .not) [.inp 65]] <|
.seg [.chk [] .pick [qkpassless_3, .bool true, .app (.un .not) [.inp 65]]] <|
.cond (.app .pick [qkpassless_3, .bool true, .app (.un .not) [.inp 65]])
 (.seg [.call 66 [] 10 [] false] <|
.ret (.inp 66))
 (.seg [.call 66 [] 16 [qkpassless_0, qkpassless_1, qkpassless_2] false] <|
.seg [.chk [] (.isAgg 23) [.inp 66]] <|
.seg [.call 67 [] 25 [qkpassless_20] false,
.call 68 [] 26 [qkpassless_20] false] <|
.loop 0 69 [.int .i64 0] <|
.seg [.chk [] .len [.inp 67]] <|
.seg [.chk [] (.bin .lss) [.inp 69, .app .len [.inp 67]]] <|
.cond (.app (.bin .lss) [.inp 69, .app .len [.inp 67]])
 (.seg [.chk [] (.eidx 1) [.inp 67, .inp 69],
.chk [] (.eload 1 false) [qkpassless_21],
.call 70 [] 28 [qkpassless_2, .app (.eload 1 false) [qkpassless_21]] false,
.chk [] (.un .not) [.inp 70]] <|
.cond (.inp 70)
 (.seg [.chk [] (.bin .add) [.inp 69, .int .i64 1]] <|
.again 0 [.app (.bin .add) [.inp 69, .int .i64 1]])
 (.ret (.bool false)))
 (.seg [.chk [] .len [.inp 68]] <|
.seg [.call 70 [] 26 [qkpassless_2] false] <|
.seg [.chk [] .len [.inp 70]] <|
.seg [.chk [] (.bin .gtr) [.app .len [.inp 68], .app .len [.inp 70]]] <|
.cond (.app (.bin .gtr) [.app .len [.inp 68], .app .len [.inp 70]])
 (.ret (.bool false))
 (.seg [.chk [] (.isAgg 23) [qkpassless_2]] <|
.seg [.chk [] .isOne [qkpassless_4],
.chk [] .isOne [qkpassless_5],
.chk [] (.isAgg 12) [.agg [qkpassless_6, qkpassless_7, qkpassless_8, qkpassless_9, qkpassless_10, qkpassless_11, qkpassless_12, qkpassless_13, qkpassless_14, qkpassless_15, qkpassless_16, qkpassless_17]],
.chk [] .isOne [qkpassless_18],
.chk [] .isOne [qkpassless_19]] <|
.seg [.call 71 [] 13 [qkpassless_20, .agg [.inp 40, .inp 41, .inp 42, .inp 43, .inp 44, .inp 45, qkpassless_4, qkpassless_5, qkpassless_6, qkpassless_7, qkpassless_8, qkpassless_9, qkpassless_10, qkpassless_11, qkpassless_12, qkpassless_13, qkpassless_14, qkpassless_15, qkpassless_16, qkpassless_17, qkpassless_18, qkpassless_19, .inp 62]] false] <|
.seg [.call 72 [(.inp 71, true)] 10 [] false] <|
.seg [.chk [] .pick [.inp 71, .inp 72, .bool false]] <|
.ret (.app .pick [.inp 71, .inp 72, .bool false]))))
theorem run_lockbarlaw21_PassLess : runF E 7 [.agg [.inp 0, .inp 1, .inp 2, .inp 3, .inp 4, .inp 5, .inp 6, .inp 7, .inp 8, .inp 9, .inp 10], .agg [.inp 11, .inp 12, .inp 13, .inp 14, .inp 15, .inp 16, .inp 17, .inp 18, .inp 19, .inp 20, .inp 21, .inp 22, .inp 23, .inp 24, .inp 25, .inp 26, .inp 27, .inp 28, .inp 29, .inp 30, .inp 31, .inp 32, .inp 33, .inp 34, .inp 35, .inp 36, .inp 37, .inp 38, .inp 39], .agg [.inp 40, .inp 41, .inp 42, .inp 43, .inp 44, .inp 45, .inp 46, .inp 47, .inp 48, .inp 49, .inp 50, .inp 51, .inp 52, .inp 53, .inp 54, .inp 55, .inp 56, .inp 57, .inp 58, .inp 59, .inp 60, .inp 61, .inp 62]] 63 = rt_lockbarlaw21_PassLess := by kernel_rfl

end Go.Lb.LK

namespace Go.Lb.LK
open Go Go.Lb Go.Proofs
@[simp] noncomputable def qkpassstages_0 : SE := .agg [.inp 0, .inp 1, .inp 2, .inp 3, .inp 4, .inp 5, .inp 6, .inp 7, .inp 8, .inp 9, .inp 10]
@[simp] noncomputable def qkpassstages_1 : SE := .agg [.inp 11, .inp 12, .inp 13, .inp 14, .inp 15, .inp 16, .inp 17, .inp 18, .inp 19, .inp 20, .inp 21, .inp 22, .inp 23, .inp 24, .inp 25, .inp 26, .inp 27, .inp 28, .inp 29, .inp 30, .inp 31, .inp 32, .inp 33, .inp 34, .inp 35, .inp 36, .inp 37, .inp 38, .inp 39]
@[simp] noncomputable def qkpassstages_2 : SE := .agg [.inp 40, .inp 41, .inp 42, .inp 43, .inp 44, .inp 45, .inp 46, .inp 47, .inp 48, .inp 49, .inp 50, .inp 51, .inp 52, .inp 53, .inp 54, .inp 55, .inp 56, .inp 57, .inp 58, .inp 59, .inp 60, .inp 61, .inp 62]
@[simp] noncomputable def qkpassstages_3 : SE := .app .pick [.inp 63, .bool true, .inp 64]
@[simp] noncomputable def qkpassstages_4 : SE := .app (.eidx 3) [.inp 67, .inp 69]
@[simp] noncomputable def qkpassstages_5 : SE := .app (.eoff 0) [qkpassstages_4]
@[simp] noncomputable def qkpassstages_6 : SE := .app (.eoff 1) [qkpassstages_4]
@[simp] noncomputable def qkpassstages_7 : SE := .app (.eload 1 false) [qkpassstages_6]
@[simp] noncomputable def qkpassstages_8 : SE := .app (.bin .eql) [.inp 70, qkpassstages_7]
@[simp] noncomputable def qkpassstages_9 : SE := .app (.eidx 3) [.inp 43, .int .i64 0]
@[simp] noncomputable def qkpassstages_10 : SE := .app (.eoff 0) [qkpassstages_9]
@[simp] noncomputable def qkpassstages_11 : SE := .app (.bin .eql) [.inp 46, .int .u8 4]
@[simp] noncomputable def qkpassstages_12 : SE := .app (.part 6 1 false) [.inp 66]
@[simp] noncomputable def qkpassstages_13 : SE := .app (.part 8 1 false) [.inp 66]
@[simp] noncomputable def qkpassstages_14 : SE := .app (.part 21 1 false) [.inp 66]
@[simp] noncomputable def qkpassstages_15 : SE := .agg [.app (.part 0 1 false) [.inp 66], .app (.part 1 1 false) [.inp 66], .app (.part 2 1 false) [.inp 66], .app (.part 3 1 false) [.inp 66], .app (.part 4 1 false) [.inp 66], .app (.part 5 1 false) [.inp 66], qkpassstages_12, .app (.part 7 1 false) [.inp 66], qkpassstages_13, .app (.part 9 1 false) [.inp 66], .app (.part 10 1 false) [.inp 66], .app (.part 11 1 false) [.inp 66], .app (.part 12 1 false) [.inp 66], .app (.part 13 1 false) [.inp 66], .app (.part 14 1 false) [.inp 66], .app (.part 15 1 false) [.inp 66], .app (.part 16 1 false) [.inp 66], .app (.part 17 1 false) [.inp 66], .app (.part 18 1 false) [.inp 66], .app (.part 19 1 false) [.inp 66], .app (.part 20 1 false) [.inp 66], qkpassstages_14, .app (.part 22 1 false) [.inp 66]]
@[simp] noncomputable def qkpassstages_16 : SE := .app .pick [.inp 73, .inp 74, .bool false]
@[simp] noncomputable def qkpassstages_17 : SE := .app (.bin .eql) [qkpassstages_12, .int .u8 2]
@[simp] noncomputable def qkpassstages_18 : SE := .app (.eqb false) [qkpassstages_17, .inp 68]
@[simp] noncomputable def qkpassstages_19 : SE := .app (.bin .eql) [qkpassstages_12, .int .u8 1]
@[simp] noncomputable def qkpassstages_20 : SE := .app .pick [.inp 68, .bool true, qkpassstages_19]
@[simp] noncomputable def qkpassstages_21 : SE := .app .pick [qkpassstages_18, qkpassstages_20, .bool false]
@[simp] noncomputable def qkpassstages_22 : SE := .app .pick [qkpassstages_21, .inp 73, .bool false]
@[simp] noncomputable def qkpassstages_23 : SE := .app (.bin .eql) [qkpassstages_12, .int .u8 3]
@[simp] noncomputable def qkpassstages_24 : SE := .app (.bin .leq) [qkpassstages_14, .int .i64 1]
@[simp] noncomputable def qkpassstages_25 : SE := .app .pick [qkpassstages_23, qkpassstages_24, .bool false]
@[simp] noncomputable def qkpassstages_26 : SE := .app (.bin .gtr) [.inp 47, .int .i64 0]
@[simp] noncomputable def qkpassstages_27 : SE := .app .pick [qkpassstages_13, .bool true, qkpassstages_26]
@[simp] noncomputable def qkpassstages_28 : SE := .app .pick [qkpassstages_25, qkpassstages_27, .bool false]
@[simp] noncomputable def qkpassstages_29 : SE := .app .pick [qkpassstages_23, .inp 74, .bool false]
noncomputable def rt_lockbarlaw21_PassStages : RT :=
.seg [.chk [] (.isAgg 11) [qkpassstages_0]] <|
.seg [.chk [] (.isAgg 29) [qkpassstages_1]] <|
.seg [.chk [] (.isAgg 23) [qkpassstages_2]] <|
.seg [.call 63 [] 8 [qkpassstages_0] false] <|
.seg [.call 64 [(.inp 63, false)] 9 [qkpassstages_2] false] <|
.seg [.chk [] .pick [.inp 63, .bool true, .inp 64]] <|
.seg [.call 65 [(qkpassstages_3, false)] 18 [qkpassstages_2] false] <|
.seg [.chk [(qkpassstages_3, false)] (.un .not) [.inp 65]] <|
.seg [.chk [] .pick [qkpassstages_3, .bool true, .app (.un .not) [.inp 65]]] <|
.cond (.app .pick [qkpassstages_3, .bool true, .app (.un .not) [.inp 65]])
 (.seg [.call 66 [] 10 [] false] <|
.ret (.inp 66))
 (.seg [.call 66 [] 16 [qkpassstages_0, qkpassstages_1, qkpassstages_2] false] <|
.seg [.chk [] (.isAgg 23) [.inp 66]] <|
.seg [.call 67 [] 26 [qkpassstages_2] false] <|
.loop 0 68 [.bool true, .int .i64 0] <|
.seg [.chk [] .len [.inp 67]] <|
.seg [.chk [] (.bin .lss) [.inp 69, .app .len [.inp 67]]] <|
.cond (.app (.bin .lss) [.inp 69, .app .len [.inp 67]])
 (.seg [.chk [(.inp 68, true)] (.eidx 3) [.inp 67, .inp 69],
.chk [(.inp 68, true)] (.eoff 0) [qkpassstages_4],
.chk [(.inp 68, true)] (.eload 1 false) [qkpassstages_5],
.call 70 [(.inp 68, true)] 27 [qkpassstages_0, qkpassstages_1, .app (.eload 1 false) [qkpassstages_5]] false,
.chk [(.inp 68, true)] (.eidx 3) [.inp 67, .inp 69],
.chk [(.inp 68, true)] (.eoff 1) [qkpassstages_4],
.chk [(.inp 68, true)] (.eload 1 false) [qkpassstages_6],
.chk [(.inp 68, true)] (.bin .eql) [.inp 70, qkpassstages_7],
.chk [] .pick [.inp 68, qkpassstages_8, .bool false]] <|
.seg [.bind 71 (.app .pick [.inp 68, qkpassstages_8, .bool false])] <|
.seg [.chk [] (.bin .add) [.inp 69, .int .i64 1]] <|
.again 0 [.inp 71, .app (.bin .add) [.inp 69, .int .i64 1]])
 (.seg [.chk [] (.eidx 3) [.inp 43, .int .i64 0],
.chk [] (.eoff 0) [qkpassstages_9],
.chk [] (.eload 1 false) [qkpassstages_10],
.call 70 [] 19 [qkpassstages_0, qkpassstages_1, .app (.eload 1 false) [qkpassstages_10]] false] <|
.seg [.call 71 [] 11 [qkpassstages_0, qkpassstages_1, qkpassstages_2] false] <|
.seg [.chk [] (.eqb true) [.inp 71, .inp 68]] <|
.cond (.app (.eqb true) [.inp 71, .inp 68])
 (.ret (.bool false))
 (.seg [.call 72 [] 21 [qkpassstages_0, qkpassstages_1] false] <|
.seg [.chk [(.inp 72, false)] (.bin .eql) [.inp 46, .int .u8 4]] <|
.seg [.chk [] .pick [.inp 72, .bool true, qkpassstages_11]] <|
.cond (.app .pick [.inp 72, .bool true, qkpassstages_11])
 (.seg [.call 73 [] 13 [qkpassstages_15, qkpassstages_2] false] <|
.seg [.call 74 [(.inp 73, true)] 10 [] false] <|
.seg [.chk [] .pick [.inp 73, .inp 74, .bool false]] <|
.ret (qkpassstages_16))
 (.seg [.chk [] (.isAgg 23) [qkpassstages_2]] <|
.seg [.chk [] .isOne [qkpassstages_12]] <|
.seg [.chk [] (.bin .eql) [.inp 46, .int .u8 1]] <|
.cond (.app (.bin .eql) [.inp 46, .int .u8 1])
 (.seg [.chk [] (.bin .eql) [qkpassstages_12, .int .u8 2]] <|
.seg [.chk [] (.eqb false) [qkpassstages_17, .inp 68]] <|
.seg [.chk [(.inp 68, false), (qkpassstages_18, true)] (.bin .eql) [qkpassstages_12, .int .u8 1]] <|
.seg [.chk [(qkpassstages_18, true)] .pick [.inp 68, .bool true, qkpassstages_19]] <|
.seg [.chk [] .pick [qkpassstages_18, qkpassstages_20, .bool false]] <|
.seg [.call 73 [(qkpassstages_21, true)] 13 [qkpassstages_15, .agg [.inp 40, .inp 41, .inp 42, .inp 43, .inp 44, .inp 45, qkpassstages_12, .inp 47, .inp 48, .inp 49, .inp 50, .inp 51, .inp 52, .inp 53, .inp 54, .inp 55, .inp 56, .inp 57, .inp 58, .inp 59, .inp 60, .inp 61, .inp 62]] false] <|
.seg [.chk [] .pick [qkpassstages_21, .inp 73, .bool false]] <|
.seg [.call 74 [(qkpassstages_22, true)] 10 [] false] <|
.seg [.chk [] .pick [qkpassstages_22, .inp 74, .bool false]] <|
.seg [.bind 75 (.app .pick [qkpassstages_22, .inp 74, .bool false]),
.bind 76 (qkpassstages_21),
.bind 77 (qkpassstages_22)] <|
.ret (.inp 75))
 (.seg [.chk [] (.bin .eql) [.inp 46, .int .u8 2]] <|
.cond (.app (.bin .eql) [.inp 46, .int .u8 2])
 (.seg [.chk [] (.un .not) [.inp 70]] <|
.cond (.inp 70)
 (.seg [.chk [] (.bin .eql) [qkpassstages_12, .int .u8 3]] <|
.seg [.chk [(qkpassstages_23, true)] (.bin .leq) [qkpassstages_14, .int .i64 1]] <|
.seg [.chk [] .pick [qkpassstages_23, qkpassstages_24, .bool false]] <|
.seg [.chk [(qkpassstages_13, false), (qkpassstages_25, true)] (.bin .gtr) [.inp 47, .int .i64 0]] <|
.seg [.chk [(qkpassstages_25, true)] .pick [qkpassstages_13, .bool true, qkpassstages_26]] <|
.seg [.chk [] .pick [qkpassstages_25, qkpassstages_27, .bool false]] <|
.seg [.call 73 [(qkpassstages_28, true)] 10 [] false] <|
.seg [.chk [] .pick [qkpassstages_28, .inp 73, .bool false]] <|
.seg [.bind 74 (.app .pick [qkpassstages_28, .inp 73, .bool false]),
.bind 75 (qkpassstages_25),
.bind 76 (qkpassstages_28)] <|
.ret (.inp 74))
 (.seg [.call 73 [] 13 [qkpassstages_15, qkpassstages_2] false] <|
.seg [.call 74 [(.inp 73, true)] 10 [] false] <|
.seg [.chk [] .pick [.inp 73, .inp 74, .bool false]] <|
.ret (qkpassstages_16)))
 (.seg [.chk [] (.bin .eql) [qkpassstages_12, .int .u8 3],
.call 73 [(qkpassstages_23, true)] 14 [qkpassstages_0, qkpassstages_1, qkpassstages_2] false,
.call 74 [(qkpassstages_23, true)] 13 [qkpassstages_15, .inp 73] false,
.chk [] .pick [qkpassstages_23, .inp 74, .bool false],
.call 75 [(qkpassstages_29, true)] 10 [] false,
.chk [] .pick [qkpassstages_29, .inp 75, .bool false]] <|
.seg [.bind 76 (.app .pick [qkpassstages_29, .inp 75, .bool false])] <|
.ret (.inp 76)))))))
theorem run_lockbarlaw21_PassStages : runF E 6 [.agg [.inp 0, .inp 1, .inp 2, .inp 3, .inp 4, .inp 5, .inp 6, .inp 7, .inp 8, .inp 9, .inp 10], .agg [.inp 11, .inp 12, .inp 13, .inp 14, .inp 15, .inp 16, .inp 17, .inp 18, .inp 19, .inp 20, .inp 21, .inp 22, .inp 23, .inp 24, .inp 25, .inp 26, .inp 27, .inp 28, .inp 29, .inp 30, .inp 31, .inp 32, .inp 33, .inp 34, .inp 35, .inp 36, .inp 37, .inp 38, .inp 39], .agg [.inp 40, .inp 41, .inp 42, .inp 43, .inp 44, .inp 45, .inp 46, .inp 47, .inp 48, .inp 49, .inp 50, .inp 51, .inp 52, .inp 53, .inp 54, .inp 55, .inp 56, .inp 57, .inp 58, .inp 59, .inp 60, .inp 61, .inp 62]] 63 = rt_lockbarlaw21_PassStages := by kernel_rfl

end Go.Lb.LK

namespace Go.Lb.LK
open Go Go.Lb Go.Proofs Go.RowKit

theorem tickS_gone (l : Lay) (im : Img) (h : Hd) : h.gone ≤ (tickS l im h).gone := by
  unfold tickS
  repeat' split
  all_goals first | exact Int.le_refl _ | exact runS_gone l im h | exact runS_gone l im { h with stage := 3, timer := 0 }
theorem tickS_opn (l : Lay) (im : Img) (h : Hd) (ho : h.opn = true) : (tickS l im h).opn = true := by
  unfold tickS
  repeat' split
  all_goals first | exact ho | exact runS_opn l im h ho | exact runS_opn l im { h with stage := 3, timer := 0 } ho
theorem secsN_sub {h o : Hd} (hg : h.gone ≤ o.gone) (hp : o.path = h.path) (hv : o.over = h.over) (ho : h.opn = true → o.opn = true) {s : Int} (hs : s ∈ secsN o) : s ∈ secsN h := by
  unfold secsN at hs ⊢
  rw [hp, hv] at hs
  rcases List.mem_append.1 hs with hs | hs
  · refine List.mem_append_left _ ?_
    obtain ⟨x, hx, rfl⟩ := List.mem_map.1 hs
    refine List.mem_map_of_mem ?_
    have e : o.gone.toNat = h.gone.toNat + (o.gone.toNat - h.gone.toNat) := by omega
    rw [e, ← List.drop_drop] at hx
    exact List.mem_of_mem_drop hx
  · refine List.mem_append_right _ ?_
    cases h1 : h.opn
    · simp only [Bool.false_eq_true, if_false]
      split at hs
      · simp at hs
      · exact hs
    · rw [ho h1] at hs; simp at hs
theorem needsN_sub {h o : Hd} (hg : h.gone ≤ o.gone) (hp : o.path = h.path) (hn : o.needs = h.needs) (ho : h.opn = true → o.opn = true) : (needsN o).length ≤ (needsN h).length := by
  unfold needsN
  rw [hn, ← List.countP_eq_length_filter, ← List.countP_eq_length_filter]
  refine List.countP_mono_left fun x _ hx => ?_
  simp only [holdsN, hp, Bool.and_eq_true, decide_eq_true_eq, Bool.or_eq_true, Bool.not_eq_true', decide_eq_false_iff_not] at hx ⊢
  refine ⟨by omega, ?_⟩
  rcases hx.2 with h1 | h1
  · exact .inl h1
  · right
    cases h2 : h.opn
    · rfl
    · rw [ho h2] at h1; cases h1

theorem c_PassLess (l : Lay) (im : Img) (hi : im.ok) (h : Hd) (hs : 0 ≤ h.stage ∧ h.stage ≤ 255) : C f_lockbarlaw21_PassLess [l.av, im.av, h.av] (.bool true) := by
  refine ctr (l.cells ++ im.cells ++ h.cells) run_lockbarlaw21_PassLess rfl (lih l im h) rfl ?_ rfl
  unfold rt_lockbarlaw21_PassLess
  simp [Lay.cells, Img.cells, Hd.cells]
  refine call (c_r07_Great l) (by simp [Lay.cells]) (by simp) ?_
  simp
  refine callIf (.bool (great17 h)) rfl (fun _ => ⟨by simp [Hd.cells], c_r17Great h⟩) (by simp) ?_
  simp
  refine callIf (avs := [h.av]) (.bool (rightS h)) rfl (fun hh => ⟨by simp [Hd.cells], c_r17Right h (small17 (by simp at hh; exact hh.2)).1 hs⟩) (by simp) ?_
  simp
  refine ⟨fun _ => ?_, fun g1 g2 g3 => ?_⟩
  · refine call c_wakes (by simp) (by simp) ?_
    simp
  · obtain ⟨hl, hn1, hn2, hn3⟩ := small17 g2
    refine call (c_pass_Tick l im hi h hl hs) (by simp [Lay.cells, Img.cells, Hd.cells]) (by simp) ?_
    obtain ⟨o, ho⟩ : ∃ o, o = tickS l im h := ⟨_, rfl⟩
    have hol : o.len := by rw [ho]; exact tickS_len hl
    obtain ⟨e1, e2, e3, e4, e5⟩ := tickS_same l im h
    have hg := tickS_gone l im h
    have hop := tickS_opn l im h
    rw [← ho] at e1 e2 e3 e4 e5 hg hop ⊢
    have hsl := secsN_len o
    rw [e1, e2] at hsl
    simp [Hd.cells]
    refine call (c_r17Sections o hol) (by simp [Hd.cells]) (by simp) ?_
    simp
    refine call (c_r17Needs o hol) (by simp [Hd.cells]) (by simp) ?_
    simp
    refine RTwp_loop rfl (fun vs => ∃ i : Nat, i ≤ (secsN o).length ∧ vs = [I i]) (fun vs => match vs with | [.int _ j] => (secsN o).length - j.toNat | _ => 0) ⟨0, by simp, by simp⟩ ?_
    rintro vs - ⟨i, hik, rfl⟩
    simp
    refine ⟨fun hlt => ?_, fun hge => ?_⟩
    · have hw := wrap_succ (i := i) (by omega)
      have hm : (secsN o)[i] ∈ secsN h := secsN_sub hg e1 e2 hop (List.getElem_mem hlt)
      simp [hlt]
      refine call (c_r17Has h hl (secsN o)[i]) (by simp [Hd.cells, hlt]) (by simp) ?_
      simp [hm, hw]
      exact ⟨⟨i + 1, by omega, by omega⟩, by omega⟩
    · refine call (c_r17Needs h hl) (by simp [Hd.cells]) (by simp) ?_
      have hnl := needsN_sub hg e1 e3 hop
      simp [hnl, Hd.cells]
      refine call (c_r17Same o { h with stage := o.stage, gone := o.gone, was := o.was, opn := o.opn, timer := o.timer } hol) (by simp [Hd.cells]) (by simp) ?_
      have : sameS o { h with stage := o.stage, gone := o.gone, was := o.was, opn := o.opn, timer := o.timer } = true := by
        have e : ({ h with stage := o.stage, gone := o.gone, was := o.was, opn := o.opn, timer := o.timer } : Hd) = o := by
          cases o; cases h; simp only at e1 e2 e3 e4 e5; subst e1; subst e2; subst e3; subst e4; subst e5; rfl
        rw [e]; exact sameS_refl o
      simp [this]
      refine callIf (avs := []) (.bool true) rfl (fun _ => ⟨rfl, c_wakes⟩) (by simp) ?_
      simp

theorem c_PassStages (l : Lay) (im : Img) (hi : im.ok) (h : Hd) (hs : 0 ≤ h.stage ∧ h.stage ≤ 255) : C f_lockbarlaw21_PassStages [l.av, im.av, h.av] (.bool true) := by
  refine ctr (l.cells ++ im.cells ++ h.cells) run_lockbarlaw21_PassStages rfl (lih l im h) rfl ?_ rfl
  unfold rt_lockbarlaw21_PassStages
  simp [Lay.cells, Img.cells, Hd.cells]
  refine call (c_r07_Great l) (by simp [Lay.cells]) (by simp) ?_
  simp
  refine callIf (.bool (great17 h)) rfl (fun _ => ⟨by simp [Hd.cells], c_r17Great h⟩) (by simp) ?_
  simp
  refine callIf (avs := [h.av]) (.bool (rightS h)) rfl (fun hh => ⟨by simp [Hd.cells], c_r17Right h (small17 (by simp at hh; exact hh.2)).1 hs⟩) (by simp) ?_
  simp
  refine ⟨fun _ => ?_, fun g1 g2 g3 => ?_⟩
  · refine call c_wakes (by simp) (by simp) ?_
    simp
  · obtain ⟨hl, hn1, hn2, hn3⟩ := small17 g2
    obtain ⟨⟨a1, a2, a3, a4, a5, a6, a7⟩, ⟨d1, d2, d3, d4⟩, b1, b2, b3, b4⟩ := right_facts g3
    have hnn := needsN_len h
    refine call (c_pass_Tick l im hi h hl hs) (by simp [Lay.cells, Img.cells, Hd.cells]) (by simp) ?_
    obtain ⟨o, ho⟩ : ∃ o, o = tickS l im h := ⟨_, rfl⟩
    have hol : o.len := by rw [ho]; exact tickS_len hl
    rw [← ho]
    simp [Hd.cells]
    refine call (c_r17Needs h hl) (by simp [Hd.cells]) (by simp) ?_
    simp
    refine RTwp_loop rfl (fun vs => ∃ i : Nat, i ≤ (needsN h).length ∧ vs = [.bool (((needsN h).take i).all fun x => decide (atP l im x.p = x.pos)), I i]) (fun vs => match vs with | [_, .int _ j] => (needsN h).length - j.toNat | _ => 0) ⟨0, by simp, by simp⟩ ?_
    rintro vs - ⟨i, hik, rfl⟩
    simp only [List.cons_append, List.nil_append]
    generalize hall : (((needsN h).take i).all fun x => decide (atP l im x.p = x.pos)) = al
    simp
    refine ⟨fun hlt => ?_, fun hge => ?_⟩
    · have hw := wrap_succ (i := i) (by omega)
      simp [hlt, Need.cells]
      refine callIf (avs := [l.av, im.av, I (needsN h)[i].p]) (I (atP l im (needsN h)[i].p)) rfl (fun _ => ⟨by simp [Lay.cells, Img.cells, hlt, Need.cells], c_r15At l im hi _⟩) (by simp) ?_
      simp [hlt, Need.cells, hw]
      refine ⟨⟨i + 1, by omega, ?_, by omega⟩, by omega⟩
      rw [List.take_add_one, List.getElem?_eq_getElem hlt, List.all_append, hall]
      simp
      rfl
    · have hta : (needsN h).take i = needsN h := List.take_of_length_le (by omega)
      rw [hta] at hall
      have hal : standsS l im h = al := hall
      obtain ⟨s, r, e1, e2⟩ := secOf_zero a5
      simp [e1, Hd.cells, Step.cells]
      refine call (c_r15Told l im hi (secOf h 0)) (by simp [Lay.cells, Img.cells, e1, e2, Step.cells]) (by simp) ?_
      simp
      refine call (c_pass_Stands l im hi h hl) (by simp [Lay.cells, Img.cells, Hd.cells, e1]) (by simp) ?_
      simp [hal]
      refine call (c_r15Stale l im) (by simp [Lay.cells, Img.cells]) (by simp) ?_
      have hw : C f_lockbarlaw21_wakes [] (.bool true) := c_wakes
      cases hst : stale l im
      · have ha : asleepS l im h = false := by simp [asleepS, g3, hst]
        by_cases h4 : h.stage = 4
        · have : o = h := by rw [ho]; simp [tickS, ha, h4]
          subst this
          simp [h4]
          refine call (c_r17Same o o hl) (by simp [Hd.cells, e1, h4]) (by simp) ?_
          simp [sameS_refl]
          refine callIf (avs := []) (.bool true) rfl (fun _ => ⟨rfl, c_wakes⟩) (by simp) ?_
          simp
        · simp [h4]
          by_cases h1 : h.stage = 1
          · have ho2 : o = { h with stage := if al = true then 2 else 1 } := by
              rw [ho]; simp only [tickS, ha, h1, hal]
              cases al
              · cases h; simp_all
              · simp
            simp [h1, ho2, Hd.cells]
            refine callIf (avs := [o.av, o.av]) (.bool true) rfl (fun _ => ⟨by simp [Hd.cells, ho2, e1], by have := c_r17Same o o hol; rw [sameS_refl] at this; exact this⟩) (by simp) ?_
            simp [h1, ho2, Hd.cells]
            refine callIf (avs := []) (.bool true) rfl (fun _ => ⟨rfl, c_wakes⟩) (by simp) ?_
            cases al <;> simp [Hd.cells]
          · by_cases h2 : h.stage = 2
            · cases htd : told l im (secOf h 0)
              · have ho2 : o = h := by rw [ho]; simp [tickS, ha, h2, htd]
                subst ho2
                simp [h2, Hd.cells]
                refine call (c_r17Same o o hl) (by simp [Hd.cells, e1, h2]) (by simp) ?_
                simp [sameS_refl]
                refine callIf (avs := []) (.bool true) rfl (fun _ => ⟨rfl, c_wakes⟩) (by simp) ?_
                simp
              · have ho2 : o = runS l im { h with stage := 3, timer := 0 } := by rw [ho]; simp [tickS, ha, h2, htd]
                have hr3 : rightS { h with stage := 3, timer := 0 } = true := by
                  have g1 : Hd.g1 { h with stage := 3, timer := 0 } := ⟨a1, a2, by simp, by simp, a5, a6, a7⟩
                  have g2 : Hd.g2 { h with stage := 3, timer := 0 } := ⟨by simp, by simp, d3, d4⟩
                  have g3 : Hd.wasOk { h with stage := 3, timer := 0 } = true := b2
                  have g4 : Hd.secs { h with stage := 3, timer := 0 } = h.secs := rfl
                  simp only [rightS, g1, g2, g3, g4, b1, b3, b4, decide_true, Bool.not_false, Bool.and_self]
                have ha3 : asleepS l im { h with stage := 3, timer := 0 } = false := by simp [asleepS, hr3, hst]
                rw [runS_awake ha3] at ho2
                have t1 : o.stage = 3 := by rw [ho2]
                have t2 : o.timer ≤ 1 := by
                  rw [ho2]
                  simp only [timerS]
                  split
                  · show nextT 0 ≤ 1
                    decide
                  · show (0 : Int) ≤ 1
                    decide
                have t3 : o.was 0 = true ∨ 0 < h.gone := by
                  by_cases hg : 0 < h.gone
                  · exact .inr hg
                  · left
                    rw [ho2]
                    show wr l im { h with stage := 3, timer := 0 } 0 = true
                    have e : secOf { h with stage := 3, timer := 0 } 0 = secOf h 0 := rfl
                    simp only [wr, e, htd]
                    rw [decide_eq_true (show h.gone ≤ 0 ∧ 0 < Hd.n { h with stage := 3, timer := 0 } from ⟨by omega, a5⟩)]
                    simp
                simp [h2, t1, t2, Hd.cells]
                refine callIf (avs := []) (.bool true) rfl (fun _ => ⟨rfl, c_wakes⟩) (by simp) ?_
                simp [t1, t2, t3, Hd.cells]
            · have h3 : h.stage = 3 := by omega
              have ho2 : o = runS l im h := by rw [ho]; simp [tickS, ha, h3]
              have hs3 : o.stage = 3 := by rw [ho2, (runS_same l im h).2.2.2.2.2, h3]
              simp [h1, h2, hs3, Hd.cells]
              refine callIf (avs := [l.av, im.av, h.av]) o.av (by simp [AV.pure]) (fun _ => ⟨by simp [Lay.cells, Img.cells, Hd.cells, e1], by rw [ho2]; exact c_pass_Run l im hi h hl hs⟩) (by simp) ?_
              simp [hs3, Hd.cells]
              refine callIf (avs := [o.av, o.av]) (.bool true) rfl (fun _ => ⟨by simp [Hd.cells, hs3], by have := c_r17Same o o hol; rw [sameS_refl] at this; exact this⟩) (by simp) ?_
              simp [hs3, Hd.cells]
              refine callIf (avs := []) (.bool true) rfl (fun _ => ⟨rfl, c_wakes⟩) (by simp) ?_
              simp [hs3, Hd.cells]
      · have ha : asleepS l im h = true := by simp [asleepS, hst]
        have ho2 : o = h := by rw [ho]; simp [tickS, ha]
        subst ho2
        simp
        refine call (c_r17Same o o hl) (by simp [Hd.cells, e1]) (by simp) ?_
        simp [sameS_refl]
        refine callIf (avs := []) (.bool true) rfl (fun _ => ⟨rfl, c_wakes⟩) (by simp) ?_
        simp
end Go.Lb.LK

namespace Go.Lb.LK
open Go Go.Lb Go.Proofs
@[simp] noncomputable def qkpassfrees_0 : SE := .agg [.inp 0, .inp 1, .inp 2, .inp 3, .inp 4, .inp 5, .inp 6, .inp 7, .inp 8, .inp 9, .inp 10]
@[simp] noncomputable def qkpassfrees_1 : SE := .agg [.inp 11, .inp 12, .inp 13, .inp 14, .inp 15, .inp 16, .inp 17, .inp 18, .inp 19, .inp 20, .inp 21, .inp 22, .inp 23, .inp 24, .inp 25, .inp 26, .inp 27, .inp 28, .inp 29, .inp 30, .inp 31, .inp 32, .inp 33, .inp 34, .inp 35, .inp 36, .inp 37, .inp 38, .inp 39]
@[simp] noncomputable def qkpassfrees_2 : SE := .agg [.inp 40, .inp 41, .inp 42, .inp 43, .inp 44, .inp 45, .inp 46, .inp 47, .inp 48, .inp 49, .inp 50, .inp 51, .inp 52, .inp 53, .inp 54, .inp 55, .inp 56, .inp 57, .inp 58, .inp 59, .inp 60, .inp 61, .inp 62]
@[simp] noncomputable def qkpassfrees_3 : SE := .app .pick [.inp 63, .bool true, .inp 64]
@[simp] noncomputable def qkpassfrees_4 : SE := .app (.part 7 1 false) [.inp 66]
@[simp] noncomputable def qkpassfrees_5 : SE := .app (.bin .lss) [qkpassfrees_4, .inp 47]
@[simp] noncomputable def qkpassfrees_6 : SE := .app (.bin .gtr) [qkpassfrees_4, .app .len [.inp 43]]
@[simp] noncomputable def qkpassfrees_7 : SE := .app .pick [qkpassfrees_5, .bool true, qkpassfrees_6]
@[simp] noncomputable def qkpassfrees_8 : SE := .app (.part 20 1 false) [.inp 66]
@[simp] noncomputable def qkpassfrees_9 : SE := .app (.un .not) [qkpassfrees_8]
@[simp] noncomputable def qkpassfrees_10 : SE := .app .pick [.inp 60, qkpassfrees_9, .bool false]
@[simp] noncomputable def qkpassfrees_11 : SE := .app .pick [qkpassfrees_7, .bool true, qkpassfrees_10]
@[simp] noncomputable def qkpassfrees_12 : SE := .app (.part 21 1 false) [.inp 66]
@[simp] noncomputable def qkpassfrees_13 : SE := .agg [.app (.part 0 1 false) [.inp 66], .app (.part 1 1 false) [.inp 66], .app (.part 2 1 false) [.inp 66], .app (.part 3 1 false) [.inp 66], .app (.part 4 1 false) [.inp 66], .app (.part 5 1 false) [.inp 66], .app (.part 6 1 false) [.inp 66], qkpassfrees_4, .app (.part 8 1 false) [.inp 66], .app (.part 9 1 false) [.inp 66], .app (.part 10 1 false) [.inp 66], .app (.part 11 1 false) [.inp 66], .app (.part 12 1 false) [.inp 66], .app (.part 13 1 false) [.inp 66], .app (.part 14 1 false) [.inp 66], .app (.part 15 1 false) [.inp 66], .app (.part 16 1 false) [.inp 66], .app (.part 17 1 false) [.inp 66], .app (.part 18 1 false) [.inp 66], .app (.part 19 1 false) [.inp 66], qkpassfrees_8, qkpassfrees_12, .app (.part 22 1 false) [.inp 66]]
@[simp] noncomputable def qkpassfrees_14 : SE := .app (.eidx 3) [.inp 43, .inp 71]
@[simp] noncomputable def qkpassfrees_15 : SE := .app (.eoff 0) [qkpassfrees_14]
@[simp] noncomputable def qkpassfrees_16 : SE := .app (.aidx 12 1 8 1 false) [qkpassfrees_2, .inp 71]
@[simp] noncomputable def qkpassfrees_17 : SE := .app (.aidx 12 1 8 1 false) [qkpassfrees_13, .inp 71]
@[simp] noncomputable def qkpassfrees_18 : SE := .app (.un .not) [qkpassfrees_17]
@[simp] noncomputable def qkpassfrees_19 : SE := .app .pick [qkpassfrees_16, qkpassfrees_18, .bool false]
@[simp] noncomputable def qkpassfrees_20 : SE := .app (.un .not) [qkpassfrees_16]
@[simp] noncomputable def qkpassfrees_21 : SE := .app .pick [qkpassfrees_17, qkpassfrees_20, .bool false]
@[simp] noncomputable def qkpassfrees_22 : SE := .app (.bin .lss) [.inp 71, .inp 47]
@[simp] noncomputable def qkpassfrees_23 : SE := .app (.eload 1 false) [qkpassfrees_15]
@[simp] noncomputable def qkpassfrees_24 : SE := .app .pick [qkpassfrees_22, .bool true, .app (.un .not) [.inp 72]]
@[simp] noncomputable def qkpassfrees_25 : SE := .app (.bin .gtr) [.inp 71, .int .i64 0]
@[simp] noncomputable def qkpassfrees_26 : SE := .app (.bin .sub) [.inp 71, .int .i64 1]
@[simp] noncomputable def qkpassfrees_27 : SE := .app (.aidx 12 1 8 1 false) [qkpassfrees_13, qkpassfrees_26]
@[simp] noncomputable def qkpassfrees_28 : SE := .app (.un .not) [qkpassfrees_27]
@[simp] noncomputable def qkpassfrees_29 : SE := .app .pick [qkpassfrees_25, qkpassfrees_28, .bool false]
@[simp] noncomputable def qkpassfrees_30 : SE := .app .pick [qkpassfrees_24, .bool true, qkpassfrees_29]
@[simp] noncomputable def qkpassfrees_31 : SE := .app .pick [qkpassfrees_21, qkpassfrees_30, .bool false]
@[simp] noncomputable def qkpassfrees_32 : SE := .app (.bin .geq) [.inp 71, .inp 47]
@[simp] noncomputable def qkpassfrees_33 : SE := .app (.bin .lss) [.inp 71, qkpassfrees_4]
@[simp] noncomputable def qkpassfrees_34 : SE := .app .pick [qkpassfrees_32, qkpassfrees_33, .bool false]
@[simp] noncomputable def qkpassfrees_35 : SE := .app (.bin .sub) [.app .len [.inp 43], .int .i64 1]
@[simp] noncomputable def qkpassfrees_36 : SE := .app (.bin .lss) [.inp 71, qkpassfrees_35]
@[simp] noncomputable def qkpassfrees_37 : SE := .app (.bin .add) [.inp 71, .int .i64 1]
@[simp] noncomputable def qkpassfrees_38 : SE := .app (.aidx 12 1 8 1 false) [qkpassfrees_13, qkpassfrees_37]
@[simp] noncomputable def qkpassfrees_39 : SE := .app (.un .not) [qkpassfrees_38]
@[simp] noncomputable def qkpassfrees_40 : SE := .app .pick [qkpassfrees_36, qkpassfrees_39, .bool false]
@[simp] noncomputable def qkpassfrees_41 : SE := .app .pick [qkpassfrees_18, .bool true, qkpassfrees_40]
@[simp] noncomputable def qkpassfrees_42 : SE := .app .pick [qkpassfrees_41, .bool true, .inp 85]
@[simp] noncomputable def qkpassfrees_43 : SE := .app .pick [qkpassfrees_42, .bool true, .inp 86]
@[simp] noncomputable def qkpassfrees_44 : SE := .app (.bin .eql) [.inp 71, qkpassfrees_4]
@[simp] noncomputable def qkpassfrees_45 : SE := .app .pick [qkpassfrees_44, .app (.un .not) [.inp 96], .bool false]
@[simp] noncomputable def qkpassfrees_46 : SE := .app .pick [qkpassfrees_45, qkpassfrees_17, .bool false]
@[simp] noncomputable def qkpassfrees_47 : SE := .app (.bin .eql) [.inp 71, qkpassfrees_35]
@[simp] noncomputable def qkpassfrees_48 : SE := .app .pick [qkpassfrees_47, .bool true, qkpassfrees_38]
@[simp] noncomputable def qkpassfrees_49 : SE := .app .pick [qkpassfrees_46, qkpassfrees_48, .bool false]
@[simp] noncomputable def qkpassfrees_50 : SE := .app .pick [qkpassfrees_8, .app (.un .not) [.inp 60], .bool false]
@[simp] noncomputable def qkpassfrees_51 : SE := .app (.bin .lss) [qkpassfrees_4, .app .len [.inp 43]]
@[simp] noncomputable def qkpassfrees_52 : SE := .app .pick [qkpassfrees_50, qkpassfrees_51, .bool false]
@[simp] noncomputable def qkpassfrees_53 : SE := .app (.aidx 12 1 8 1 false) [qkpassfrees_13, qkpassfrees_35]
@[simp] noncomputable def qkpassfrees_54 : SE := .app (.un .not) [qkpassfrees_53]
@[simp] noncomputable def qkpassfrees_55 : SE := .app (.bin .lss) [qkpassfrees_12, .inp 8]
@[simp] noncomputable def qkpassfrees_56 : SE := .app .pick [qkpassfrees_54, .bool true, qkpassfrees_55]
noncomputable def rt_lockbarlaw21_PassFrees : RT :=
.seg [.chk [] (.isAgg 11) [qkpassfrees_0]] <|
.seg [.chk [] (.isAgg 29) [qkpassfrees_1]] <|
.seg [.chk [] (.isAgg 23) [qkpassfrees_2]] <|
.seg [.call 63 [] 8 [qkpassfrees_0] false] <|
.seg [.call 64 [(.inp 63, false)] 9 [qkpassfrees_2] false] <|
.seg [.chk [] .pick [.inp 63, .bool true, .inp 64]] <|
.seg [.call 65 [(qkpassfrees_3, false)] 18 [qkpassfrees_2] false] <|
.seg [.chk [(qkpassfrees_3, false)] (.un .not) [.inp 65]] <|
.seg [.chk [] .pick [qkpassfrees_3, .bool true, .app (.un .not) [.inp 65]]] <|
.cond (.app .pick [qkpassfrees_3, .bool true, .app (.un .not) [.inp 65]])
 (.seg [.call 66 [] 10 [] false] <|
.ret (.inp 66))
 (.seg [.call 66 [] 14 [qkpassfrees_0, qkpassfrees_1, qkpassfrees_2] false] <|
.seg [.chk [] (.isAgg 23) [.inp 66]] <|
.seg [.chk [] .len [.inp 43]] <|
.seg [.chk [] (.bin .lss) [qkpassfrees_4, .inp 47]] <|
.seg [.chk [(qkpassfrees_5, false)] (.bin .gtr) [qkpassfrees_4, .app .len [.inp 43]]] <|
.seg [.chk [] .pick [qkpassfrees_5, .bool true, qkpassfrees_6]] <|
.seg [.chk [(.inp 60, true), (qkpassfrees_7, false)] (.un .not) [qkpassfrees_8]] <|
.seg [.chk [(qkpassfrees_7, false)] .pick [.inp 60, qkpassfrees_9, .bool false]] <|
.seg [.chk [] .pick [qkpassfrees_7, .bool true, qkpassfrees_10]] <|
.seg [.call 67 [(qkpassfrees_11, false)] 18 [qkpassfrees_13] false] <|
.seg [.chk [(qkpassfrees_11, false)] (.un .not) [.inp 67]] <|
.seg [.chk [] .pick [qkpassfrees_11, .bool true, .app (.un .not) [.inp 67]]] <|
.seg [.bind 68 (qkpassfrees_7),
.bind 69 (qkpassfrees_11),
.bind 70 (.app .pick [qkpassfrees_11, .bool true, .app (.un .not) [.inp 67]])] <|
.cond (.inp 70)
 (.ret (.bool false))
 (.loop 0 71 [.int .i64 0] <|
.seg [.chk [] (.bin .lss) [.inp 71, .app .len [.inp 43]]] <|
.cond (.app (.bin .lss) [.inp 71, .app .len [.inp 43]])
 (.seg [.chk [] (.eidx 3) [.inp 43, .inp 71]] <|
.seg [.chk [] (.eoff 0) [qkpassfrees_14]] <|
.seg [.chk [] (.eload 1 false) [qkpassfrees_15]] <|
.seg [.chk [] (.inr 12) [.inp 71]] <|
.seg [.chk [] (.aidx 12 1 8 1 false) [qkpassfrees_2, .inp 71]] <|
.seg [.chk [(qkpassfrees_16, true)] (.inr 12) [.inp 71]] <|
.seg [.chk [(qkpassfrees_16, true)] (.aidx 12 1 8 1 false) [qkpassfrees_13, .inp 71]] <|
.seg [.chk [(qkpassfrees_16, true)] (.un .not) [qkpassfrees_17]] <|
.seg [.chk [] .pick [qkpassfrees_16, qkpassfrees_18, .bool false]] <|
.seg [.chk [(qkpassfrees_19, false)] (.inr 12) [.inp 71]] <|
.seg [.chk [(qkpassfrees_19, false)] (.aidx 12 1 8 1 false) [qkpassfrees_13, .inp 71]] <|
.seg [.chk [(qkpassfrees_17, true), (qkpassfrees_19, false)] (.inr 12) [.inp 71]] <|
.seg [.chk [(qkpassfrees_17, true), (qkpassfrees_19, false)] (.aidx 12 1 8 1 false) [qkpassfrees_2, .inp 71]] <|
.seg [.chk [(qkpassfrees_17, true), (qkpassfrees_19, false)] (.un .not) [qkpassfrees_16]] <|
.seg [.chk [(qkpassfrees_19, false)] .pick [qkpassfrees_17, qkpassfrees_20, .bool false]] <|
.seg [.chk [(qkpassfrees_21, true), (qkpassfrees_19, false)] (.bin .lss) [.inp 71, .inp 47]] <|
.seg [.call 72 [(qkpassfrees_22, false), (qkpassfrees_21, true), (qkpassfrees_19, false)] 19 [qkpassfrees_0, qkpassfrees_1, qkpassfrees_23] false] <|
.seg [.chk [(qkpassfrees_22, false), (qkpassfrees_21, true), (qkpassfrees_19, false)] (.un .not) [.inp 72]] <|
.seg [.chk [(qkpassfrees_21, true), (qkpassfrees_19, false)] .pick [qkpassfrees_22, .bool true, .app (.un .not) [.inp 72]]] <|
.seg [.chk [(qkpassfrees_24, false), (qkpassfrees_21, true), (qkpassfrees_19, false)] (.bin .gtr) [.inp 71, .int .i64 0]] <|
.seg [.chk [(qkpassfrees_25, true), (qkpassfrees_24, false), (qkpassfrees_21, true), (qkpassfrees_19, false)] (.bin .sub) [.inp 71, .int .i64 1]] <|
.seg [.chk [(qkpassfrees_25, true), (qkpassfrees_24, false), (qkpassfrees_21, true), (qkpassfrees_19, false)] (.inr 12) [qkpassfrees_26]] <|
.seg [.chk [(qkpassfrees_25, true), (qkpassfrees_24, false), (qkpassfrees_21, true), (qkpassfrees_19, false)] (.aidx 12 1 8 1 false) [qkpassfrees_13, qkpassfrees_26]] <|
.seg [.chk [(qkpassfrees_25, true), (qkpassfrees_24, false), (qkpassfrees_21, true), (qkpassfrees_19, false)] (.un .not) [qkpassfrees_27]] <|
.seg [.chk [(qkpassfrees_24, false), (qkpassfrees_21, true), (qkpassfrees_19, false)] .pick [qkpassfrees_25, qkpassfrees_28, .bool false]] <|
.seg [.chk [(qkpassfrees_21, true), (qkpassfrees_19, false)] .pick [qkpassfrees_24, .bool true, qkpassfrees_29]] <|
.seg [.chk [(qkpassfrees_19, false)] .pick [qkpassfrees_21, qkpassfrees_30, .bool false]] <|
.seg [.chk [] .pick [qkpassfrees_19, .bool true, qkpassfrees_31]] <|
.seg [.bind 73 (qkpassfrees_16),
.bind 74 (qkpassfrees_17),
.bind 75 (qkpassfrees_18),
.bind 76 (qkpassfrees_19),
.bind 77 (qkpassfrees_20),
.bind 78 (qkpassfrees_21),
.bind 79 (qkpassfrees_27),
.bind 80 (qkpassfrees_28),
.bind 81 (qkpassfrees_29),
.bind 82 (qkpassfrees_30),
.bind 83 (qkpassfrees_31),
.bind 84 (.app .pick [qkpassfrees_19, .bool true, qkpassfrees_31])] <|
.cond (.inp 84)
 (.ret (.bool false))
 (.seg [.chk [] (.bin .geq) [.inp 71, .inp 47]] <|
.seg [.chk [(qkpassfrees_32, true)] (.bin .lss) [.inp 71, qkpassfrees_4]] <|
.seg [.chk [] .pick [qkpassfrees_32, qkpassfrees_33, .bool false]] <|
.seg [.chk [(qkpassfrees_34, true)] (.inr 12) [.inp 71]] <|
.seg [.chk [(qkpassfrees_34, true)] (.aidx 12 1 8 1 false) [qkpassfrees_13, .inp 71]] <|
.seg [.chk [(qkpassfrees_34, true)] (.un .not) [qkpassfrees_17]] <|
.seg [.chk [(qkpassfrees_18, false), (qkpassfrees_34, true)] (.bin .sub) [.app .len [.inp 43], .int .i64 1]] <|
.seg [.chk [(qkpassfrees_18, false), (qkpassfrees_34, true)] (.bin .lss) [.inp 71, qkpassfrees_35]] <|
.seg [.chk [(qkpassfrees_36, true), (qkpassfrees_18, false), (qkpassfrees_34, true)] (.bin .add) [.inp 71, .int .i64 1]] <|
.seg [.chk [(qkpassfrees_36, true), (qkpassfrees_18, false), (qkpassfrees_34, true)] (.inr 12) [qkpassfrees_37]] <|
.seg [.chk [(qkpassfrees_36, true), (qkpassfrees_18, false), (qkpassfrees_34, true)] (.aidx 12 1 8 1 false) [qkpassfrees_13, qkpassfrees_37]] <|
.seg [.chk [(qkpassfrees_36, true), (qkpassfrees_18, false), (qkpassfrees_34, true)] (.un .not) [qkpassfrees_38]] <|
.seg [.chk [(qkpassfrees_18, false), (qkpassfrees_34, true)] .pick [qkpassfrees_36, qkpassfrees_39, .bool false]] <|
.seg [.chk [(qkpassfrees_34, true)] .pick [qkpassfrees_18, .bool true, qkpassfrees_40]] <|
.seg [.call 85 [(qkpassfrees_41, false), (qkpassfrees_34, true)] 20 [qkpassfrees_0, qkpassfrees_1, qkpassfrees_23] false] <|
.seg [.chk [(qkpassfrees_34, true)] .pick [qkpassfrees_41, .bool true, .inp 85]] <|
.seg [.call 86 [(qkpassfrees_42, false), (qkpassfrees_34, true)] 21 [qkpassfrees_0, qkpassfrees_1] false] <|
.seg [.chk [(qkpassfrees_34, true)] .pick [qkpassfrees_42, .bool true, .inp 86]] <|
.seg [.chk [] .pick [qkpassfrees_34, qkpassfrees_43, .bool false]] <|
.seg [.bind 87 (qkpassfrees_17),
.bind 88 (qkpassfrees_18),
.bind 89 (qkpassfrees_38),
.bind 90 (qkpassfrees_39),
.bind 91 (qkpassfrees_40),
.bind 92 (qkpassfrees_41),
.bind 93 (qkpassfrees_42),
.bind 94 (qkpassfrees_43),
.bind 95 (.app .pick [qkpassfrees_34, qkpassfrees_43, .bool false])] <|
.cond (.inp 95)
 (.ret (.bool false))
 (.seg [.chk [] (.bin .eql) [.inp 71, qkpassfrees_4]] <|
.seg [.call 96 [(qkpassfrees_44, true)] 21 [qkpassfrees_0, qkpassfrees_1] false] <|
.seg [.chk [(qkpassfrees_44, true)] (.un .not) [.inp 96]] <|
.seg [.chk [] .pick [qkpassfrees_44, .app (.un .not) [.inp 96], .bool false]] <|
.seg [.chk [(qkpassfrees_45, true)] (.inr 12) [.inp 71]] <|
.seg [.chk [(qkpassfrees_45, true)] (.aidx 12 1 8 1 false) [qkpassfrees_13, .inp 71]] <|
.seg [.chk [] .pick [qkpassfrees_45, qkpassfrees_17, .bool false]] <|
.seg [.chk [(qkpassfrees_46, true)] (.bin .sub) [.app .len [.inp 43], .int .i64 1]] <|
.seg [.chk [(qkpassfrees_46, true)] (.bin .eql) [.inp 71, qkpassfrees_35]] <|
.seg [.chk [(qkpassfrees_47, false), (qkpassfrees_46, true)] (.bin .add) [.inp 71, .int .i64 1]] <|
.seg [.chk [(qkpassfrees_47, false), (qkpassfrees_46, true)] (.inr 12) [qkpassfrees_37]] <|
.seg [.chk [(qkpassfrees_47, false), (qkpassfrees_46, true)] (.aidx 12 1 8 1 false) [qkpassfrees_13, qkpassfrees_37]] <|
.seg [.chk [(qkpassfrees_46, true)] .pick [qkpassfrees_47, .bool true, qkpassfrees_38]] <|
.seg [.chk [] .pick [qkpassfrees_46, qkpassfrees_48, .bool false]] <|
.seg [.call 97 [(qkpassfrees_49, true)] 20 [qkpassfrees_0, qkpassfrees_1, qkpassfrees_23] false] <|
.seg [.chk [(qkpassfrees_49, true)] (.un .not) [.inp 97]] <|
.seg [.chk [] .pick [qkpassfrees_49, .app (.un .not) [.inp 97], .bool false]] <|
.seg [.bind 98 (qkpassfrees_17),
.bind 99 (qkpassfrees_46),
.bind 100 (qkpassfrees_38),
.bind 101 (qkpassfrees_48),
.bind 102 (qkpassfrees_49),
.bind 103 (.app .pick [qkpassfrees_49, .app (.un .not) [.inp 97], .bool false])] <|
.cond (.inp 103)
 (.ret (.bool false))
 (.seg [.chk [] (.bin .add) [.inp 71, .int .i64 1]] <|
.again 0 [qkpassfrees_37]))))
 (.seg [.chk [(qkpassfrees_8, true)] (.un .not) [.inp 60]] <|
.seg [.chk [] .pick [qkpassfrees_8, .app (.un .not) [.inp 60], .bool false]] <|
.seg [.chk [(qkpassfrees_50, true)] (.bin .lss) [qkpassfrees_4, .app .len [.inp 43]]] <|
.seg [.chk [] .pick [qkpassfrees_50, qkpassfrees_51, .bool false]] <|
.seg [.chk [(qkpassfrees_52, true)] (.bin .sub) [.app .len [.inp 43], .int .i64 1]] <|
.seg [.chk [(qkpassfrees_52, true)] (.inr 12) [qkpassfrees_35]] <|
.seg [.chk [(qkpassfrees_52, true)] (.aidx 12 1 8 1 false) [qkpassfrees_13, qkpassfrees_35]] <|
.seg [.chk [(qkpassfrees_52, true)] (.un .not) [qkpassfrees_53]] <|
.seg [.chk [(qkpassfrees_54, false), (qkpassfrees_52, true)] (.bin .lss) [qkpassfrees_12, .inp 8]] <|
.seg [.chk [(qkpassfrees_52, true)] .pick [qkpassfrees_54, .bool true, qkpassfrees_55]] <|
.seg [.chk [] .pick [qkpassfrees_52, qkpassfrees_56, .bool false]] <|
.seg [.bind 72 (qkpassfrees_52),
.bind 73 (qkpassfrees_53),
.bind 74 (qkpassfrees_54),
.bind 75 (qkpassfrees_56),
.bind 76 (.app .pick [qkpassfrees_52, qkpassfrees_56, .bool false])] <|
.cond (.inp 76)
 (.ret (.bool false))
 (.seg [.call 77 [] 10 [] false] <|
.ret (.inp 77)))))
theorem run_lockbarlaw21_PassFrees : runF E 4 [.agg [.inp 0, .inp 1, .inp 2, .inp 3, .inp 4, .inp 5, .inp 6, .inp 7, .inp 8, .inp 9, .inp 10], .agg [.inp 11, .inp 12, .inp 13, .inp 14, .inp 15, .inp 16, .inp 17, .inp 18, .inp 19, .inp 20, .inp 21, .inp 22, .inp 23, .inp 24, .inp 25, .inp 26, .inp 27, .inp 28, .inp 29, .inp 30, .inp 31, .inp 32, .inp 33, .inp 34, .inp 35, .inp 36, .inp 37, .inp 38, .inp 39], .agg [.inp 40, .inp 41, .inp 42, .inp 43, .inp 44, .inp 45, .inp 46, .inp 47, .inp 48, .inp 49, .inp 50, .inp 51, .inp 52, .inp 53, .inp 54, .inp 55, .inp 56, .inp 57, .inp 58, .inp 59, .inp 60, .inp 61, .inp 62]] 63 = rt_lockbarlaw21_PassFrees := by kernel_rfl

end Go.Lb.LK
