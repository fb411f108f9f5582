/- What the document says of a new image; of a route in two sections: the values. -/
/- What the document says of a new image; of a route in two sections. -/
/- What the document says of a new image; of a route in two sections: the walk. -/
/- What functions come to, printed by a program, checked by the kernel. -/
/- Kernels that may be, holders, wants, what is locked, free, can be met, can be had, the same. -/
/- What functions come to, printed by a program, checked by the kernel. -/
/- With an image that is stale nothing is free, and nothing can be had; what is free has no holder, and was told clear. -/
import Derived.Test.YtmaldhbaihlmbaaGreatDoorCh8
import Derived.Test.YtmaldhbaihlmbaaGreatDoorCh2
set_option linter.unusedSimpArgs false
set_option linter.unusedVariables false
namespace Go.Lb.LK
open Go Go.Lb Go.Proofs Go.RowKit

def p18 : Path := ⟨0, 0, [⟨0, 0, 1⟩]⟩
def q18 : Path := ⟨5, 0, [⟨1, 0, 0⟩]⟩
def hd18 (st : Int) : Hd := ⟨3, p18, [⟨1, 0, 1⟩], [⟨7, 1, 0⟩], st, 0, fun _ => false, false, 0, false⟩
def k18 (st : Int) : Kern := ⟨4, [hd18 st], fun _ => -1, fun _ => 0, fun _ => false⟩
def zeroK : Kern := ⟨0, [], fun _ => 0, fun _ => 0, fun _ => false⟩
theorem f1 : canN lay18 im18 restK p18 = 0 := by decide +kernel
theorem f2 : canN lay18 imNew restK p18 = 190 := by decide +kernel
theorem f3 : freeN lay18 im18 restK 1 = true ∧ freeN lay18 imNew restK 1 = false := by decide +kernel
theorem f4 : holderN (k18 1) 1 = some 3 ∧ holderN (k18 1) 2 = none := by decide +kernel
theorem f5 : wantedN (k18 1) 7 = some 1 := by decide +kernel
theorem f6 : lockedN (k18 1) 7 = false ∧ lockedN (k18 2) 7 = true := by decide +kernel
theorem f7 : canN lay18 im18 (k18 2) q18 = 190 := by decide +kernel
theorem f8 : meetsN lay18 im18 (k18 2) ⟨7, 0, 0⟩ = false ∧ meetsN lay18 im18 (k18 2) ⟨-1, 0, 0⟩ = false := by decide +kernel
theorem f9 : rightK (k18 2) = true ∧ rightK restK = true ∧ rightK zeroK = false := by decide +kernel
theorem f10 : sameK (k18 2) restK = false := by decide +kernel
end Go.Lb.LK

namespace Go.Lb.LK
open Go Go.Lb Go.Proofs Go.RowKit

theorem k18_len (st : Int) : (k18 st).len := by
  refine ⟨by simp [k18], fun h hh => ?_⟩
  simp only [k18, List.mem_singleton] at hh
  subst hh
  exact ⟨by simp [hd18, p18], by simp [hd18], by simp [hd18]⟩
theorem k18_ok (st : Int) (h : 0 ≤ st ∧ st ≤ 255) : (k18 st).ok := by
  intro x hx
  simp only [k18, List.mem_singleton] at hx
  subst hx; exact h
theorem restK_len : restK.len := ⟨by simp [restK], fun h hh => by simp [restK] at hh⟩
theorem restK_ok : restK.ok := fun x hx => by simp [restK] at hx
theorem zeroK_len : zeroK.len := ⟨by simp [zeroK], fun h hh => by simp [zeroK] at hh⟩
theorem zeroK_ok : zeroK.ok := fun x hx => by simp [zeroK] at hx
theorem lay18_ok : lay18.ok := by
  intro s hs
  simp only [lay18, List.mem_cons, List.not_mem_nil, or_false] at hs
  rcases hs with rfl | rfl <;> decide
theorem lay18_ov : lay18.ovOk := by
  intro e he
  simp only [lay18, List.mem_singleton] at he
  subst he; simp
theorem can18 (k : Kern) (p : Path) (hk : k.len) (hp : p.steps.length ≤ 1000) (ho : (over lay18 p.exit).length ≤ 1000) : CanOk lay18 k p := ⟨hk, lay18_ok, lay18_ov, by simp [lay18], hp, ho⟩
theorem g1c : C f_free_Can [lay18.av, im18.av, restK.av, p18.av] (I 0) := by
  have := c_free_Can lay18 im18 im18_ok restK p18 (can18 _ _ restK_len (by decide) (by decide))
  rw [f1] at this; exact this
theorem g2c : C f_free_Can [lay18.av, imNew.av, restK.av, p18.av] (I 190) := by
  have := c_free_Can lay18 imNew imNew_ok restK p18 (can18 _ _ restK_len (by decide) (by decide))
  rw [f2] at this; exact this
theorem g3c : C f_free_Free [lay18.av, im18.av, restK.av, I 1] (.bool true) := by
  have := c_free_Free lay18 im18 im18_ok restK restK_len 1
  rw [f3.1] at this; exact this
theorem g4c : C f_free_Free [lay18.av, imNew.av, restK.av, I 1] (.bool false) := by
  have := c_free_Free lay18 imNew imNew_ok restK restK_len 1
  rw [f3.2] at this; exact this
theorem g5c : C f_free_Holder [(k18 1).av, I 1] (.tup [I 3, .bool true]) := by
  have := c_free_Holder (k18 1) (k18_len 1) 1
  rw [f4.1] at this; exact this
theorem g6c : C f_free_Holder [(k18 1).av, I 2] (.tup [I 0, .bool false]) := by
  have := c_free_Holder (k18 1) (k18_len 1) 2
  rw [f4.2] at this; exact this
theorem g7c : C f_free_Wanted [(k18 1).av, I 7] (.tup [I 1, .bool true]) := by
  have := c_free_Wanted (k18 1) (k18_len 1) 7
  rw [f5] at this; exact this
theorem g8c : C f_free_Locked [(k18 1).av, I 7] (.bool false) := by
  have := c_free_Locked (k18 1) (k18_len 1) 7
  rw [f6.1] at this; exact this
theorem g9c : C f_free_Can [lay18.av, im18.av, (k18 2).av, q18.av] (I 190) := by
  have := c_free_Can lay18 im18 im18_ok (k18 2) q18 (can18 _ _ (k18_len 2) (by decide) (by decide))
  rw [f7] at this; exact this
theorem g10c : C f_free_Locked [(k18 2).av, I 7] (.bool true) := by
  have := c_free_Locked (k18 2) (k18_len 2) 7
  rw [f6.2] at this; exact this
theorem g11c : C f_free_Meets [lay18.av, im18.av, (k18 2).av, (Need.mk 7 0 0).av] (.bool false) := by
  have := c_free_Meets lay18 im18 im18_ok (k18 2) (k18_len 2) ⟨7, 0, 0⟩
  rw [f8.1] at this; exact this
theorem g12c : C f_free_Meets [lay18.av, im18.av, (k18 2).av, (Need.mk (-1) 0 0).av] (.bool false) := by
  have := c_free_Meets lay18 im18 im18_ok (k18 2) (k18_len 2) ⟨-1, 0, 0⟩
  rw [f8.2] at this; exact this
theorem g13c : C f_free_Right [(k18 2).av] (.bool true) := by
  have := c_free_Right (k18 2) (k18_len 2) (k18_ok 2 (by decide))
  rw [f9.1] at this; exact this
theorem g14c : C f_free_Right [restK.av] (.bool true) := by
  have := c_free_Right restK restK_len restK_ok
  rw [f9.2.1] at this; exact this
theorem g15c : C f_free_Right [zeroK.av] (.bool false) := by
  have := c_free_Right zeroK zeroK_len zeroK_ok
  rw [f9.2.2] at this; exact this
theorem g16c : C f_free_Own [(k18 2).av] (k18 2).av := c_free_Own (k18 2) (k18_len 2)
theorem g17c : C f_free_Same [(k18 2).av, (k18 2).av] (.bool true) := by
  have := c_free_Same (k18 2) (k18 2) (k18_len 2)
  rw [sameK_refl] at this; exact this
theorem g18c : C f_free_Same [(k18 2).av, restK.av] (.bool false) := by
  have := c_free_Same (k18 2) restK (k18_len 2)
  rw [f10] at this; exact this
end Go.Lb.LK

namespace Go.Lb.LK
open Go Go.Lb Go.Proofs Go.RowKit

set_option maxRecDepth 100000 in
set_option maxHeartbeats 4000000 in
theorem c_wakes18 : C f_lockbarlaw18_wakes [] (.bool true) := by
  refine ctr [] run_lockbarlaw18_wakes rfl rfl rfl ?_ rfl
  unfold rt_lockbarlaw18_wakes
  refine call c_two18 rfl (by simp) ?_
  simp [Lay.cells, lay18, noneP, Sec.cells, Port.cells, Exi.cells, Step.cells, Img.cells, Kern.cells, restK, k18, hd18, Hd.cells, p18, q18, Path.cells, Need.cells, zeroK]
  refine call c_rest rfl (by simp) ?_
  simp [Lay.cells, lay18, noneP, Sec.cells, Port.cells, Exi.cells, Step.cells, Img.cells, Kern.cells, restK, k18, hd18, Hd.cells, p18, q18, Path.cells, Need.cells, zeroK]
  refine call g1c (by simp [Lay.cells, lay18, noneP, Sec.cells, Port.cells, Exi.cells, Step.cells, Img.cells, Kern.cells, restK, k18, hd18, Hd.cells, p18, q18, Path.cells, Need.cells, zeroK] <;> rfl) (fun _ => rfl) ?_
  simp [Lay.cells, lay18, noneP, Sec.cells, Port.cells, Exi.cells, Step.cells, Img.cells, Kern.cells, restK, k18, hd18, Hd.cells, p18, q18, Path.cells, Need.cells, zeroK]
  refine call c_r15New rfl (by simp) ?_
  simp [Lay.cells, lay18, noneP, Sec.cells, Port.cells, Exi.cells, Step.cells, Img.cells, Kern.cells, restK, k18, hd18, Hd.cells, p18, q18, Path.cells, Need.cells, zeroK]
  refine call g2c (by simp [Lay.cells, lay18, noneP, Sec.cells, Port.cells, Exi.cells, Step.cells, Img.cells, Kern.cells, restK, k18, hd18, Hd.cells, p18, q18, Path.cells, Need.cells, zeroK] <;> rfl) (fun _ => rfl) ?_
  simp [Lay.cells, lay18, noneP, Sec.cells, Port.cells, Exi.cells, Step.cells, Img.cells, Kern.cells, restK, k18, hd18, Hd.cells, p18, q18, Path.cells, Need.cells, zeroK]
  refine call g3c (by simp [Lay.cells, lay18, noneP, Sec.cells, Port.cells, Exi.cells, Step.cells, Img.cells, Kern.cells, restK, k18, hd18, Hd.cells, p18, q18, Path.cells, Need.cells, zeroK] <;> rfl) (fun _ => rfl) ?_
  simp [Lay.cells, lay18, noneP, Sec.cells, Port.cells, Exi.cells, Step.cells, Img.cells, Kern.cells, restK, k18, hd18, Hd.cells, p18, q18, Path.cells, Need.cells, zeroK]
  refine call c_r15New rfl (by simp) ?_
  simp [Lay.cells, lay18, noneP, Sec.cells, Port.cells, Exi.cells, Step.cells, Img.cells, Kern.cells, restK, k18, hd18, Hd.cells, p18, q18, Path.cells, Need.cells, zeroK]
  refine call g4c (by simp [Lay.cells, lay18, noneP, Sec.cells, Port.cells, Exi.cells, Step.cells, Img.cells, Kern.cells, restK, k18, hd18, Hd.cells, p18, q18, Path.cells, Need.cells, zeroK] <;> rfl) (fun _ => rfl) ?_
  simp [Lay.cells, lay18, noneP, Sec.cells, Port.cells, Exi.cells, Step.cells, Img.cells, Kern.cells, restK, k18, hd18, Hd.cells, p18, q18, Path.cells, Need.cells, zeroK]
  refine call g5c (by simp [Lay.cells, lay18, noneP, Sec.cells, Port.cells, Exi.cells, Step.cells, Img.cells, Kern.cells, restK, k18, hd18, Hd.cells, p18, q18, Path.cells, Need.cells, zeroK] <;> rfl) (fun _ => rfl) ?_
  simp [Lay.cells, lay18, noneP, Sec.cells, Port.cells, Exi.cells, Step.cells, Img.cells, Kern.cells, restK, k18, hd18, Hd.cells, p18, q18, Path.cells, Need.cells, zeroK]
  refine call g6c (by simp [Lay.cells, lay18, noneP, Sec.cells, Port.cells, Exi.cells, Step.cells, Img.cells, Kern.cells, restK, k18, hd18, Hd.cells, p18, q18, Path.cells, Need.cells, zeroK] <;> rfl) (fun _ => rfl) ?_
  simp [Lay.cells, lay18, noneP, Sec.cells, Port.cells, Exi.cells, Step.cells, Img.cells, Kern.cells, restK, k18, hd18, Hd.cells, p18, q18, Path.cells, Need.cells, zeroK]
  refine call g7c (by simp [Lay.cells, lay18, noneP, Sec.cells, Port.cells, Exi.cells, Step.cells, Img.cells, Kern.cells, restK, k18, hd18, Hd.cells, p18, q18, Path.cells, Need.cells, zeroK] <;> rfl) (fun _ => rfl) ?_
  simp [Lay.cells, lay18, noneP, Sec.cells, Port.cells, Exi.cells, Step.cells, Img.cells, Kern.cells, restK, k18, hd18, Hd.cells, p18, q18, Path.cells, Need.cells, zeroK]
  refine call g8c (by simp [Lay.cells, lay18, noneP, Sec.cells, Port.cells, Exi.cells, Step.cells, Img.cells, Kern.cells, restK, k18, hd18, Hd.cells, p18, q18, Path.cells, Need.cells, zeroK] <;> rfl) (fun _ => rfl) ?_
  simp [Lay.cells, lay18, noneP, Sec.cells, Port.cells, Exi.cells, Step.cells, Img.cells, Kern.cells, restK, k18, hd18, Hd.cells, p18, q18, Path.cells, Need.cells, zeroK]
  refine call g9c (by simp [Lay.cells, lay18, noneP, Sec.cells, Port.cells, Exi.cells, Step.cells, Img.cells, Kern.cells, restK, k18, hd18, Hd.cells, p18, q18, Path.cells, Need.cells, zeroK] <;> rfl) (fun _ => rfl) ?_
  simp [Lay.cells, lay18, noneP, Sec.cells, Port.cells, Exi.cells, Step.cells, Img.cells, Kern.cells, restK, k18, hd18, Hd.cells, p18, q18, Path.cells, Need.cells, zeroK]
  refine callIf (.bool true) (by simp [AV.pure]) (fun _ => ⟨by (simp [Lay.cells, lay18, noneP, Sec.cells, Port.cells, Exi.cells, Step.cells, Img.cells, Kern.cells, restK, k18, hd18, Hd.cells, p18, q18, Path.cells, Need.cells, zeroK] <;> rfl), g10c⟩) (fun _ => rfl) ?_
  simp [Lay.cells, lay18, noneP, Sec.cells, Port.cells, Exi.cells, Step.cells, Img.cells, Kern.cells, restK, k18, hd18, Hd.cells, p18, q18, Path.cells, Need.cells, zeroK]
  refine callIf (.bool false) (by simp [AV.pure]) (fun _ => ⟨by (simp [Lay.cells, lay18, noneP, Sec.cells, Port.cells, Exi.cells, Step.cells, Img.cells, Kern.cells, restK, k18, hd18, Hd.cells, p18, q18, Path.cells, Need.cells, zeroK] <;> rfl), g11c⟩) (fun _ => rfl) ?_
  simp [Lay.cells, lay18, noneP, Sec.cells, Port.cells, Exi.cells, Step.cells, Img.cells, Kern.cells, restK, k18, hd18, Hd.cells, p18, q18, Path.cells, Need.cells, zeroK]
  refine callIf (.bool false) (by simp [AV.pure]) (fun _ => ⟨by (simp [Lay.cells, lay18, noneP, Sec.cells, Port.cells, Exi.cells, Step.cells, Img.cells, Kern.cells, restK, k18, hd18, Hd.cells, p18, q18, Path.cells, Need.cells, zeroK] <;> rfl), g12c⟩) (fun _ => rfl) ?_
  simp [Lay.cells, lay18, noneP, Sec.cells, Port.cells, Exi.cells, Step.cells, Img.cells, Kern.cells, restK, k18, hd18, Hd.cells, p18, q18, Path.cells, Need.cells, zeroK]
  refine callIf (.bool true) (by simp [AV.pure]) (fun _ => ⟨by (simp [Lay.cells, lay18, noneP, Sec.cells, Port.cells, Exi.cells, Step.cells, Img.cells, Kern.cells, restK, k18, hd18, Hd.cells, p18, q18, Path.cells, Need.cells, zeroK] <;> rfl), g13c⟩) (fun _ => rfl) ?_
  simp [Lay.cells, lay18, noneP, Sec.cells, Port.cells, Exi.cells, Step.cells, Img.cells, Kern.cells, restK, k18, hd18, Hd.cells, p18, q18, Path.cells, Need.cells, zeroK]
  refine callIf (avs := []) restK.av (by simp [AV.pure]) (fun _ => ⟨rfl, c_rest⟩) (by simp) ?_
  simp [Lay.cells, lay18, noneP, Sec.cells, Port.cells, Exi.cells, Step.cells, Img.cells, Kern.cells, restK, k18, hd18, Hd.cells, p18, q18, Path.cells, Need.cells, zeroK]
  refine callIf (.bool true) (by simp [AV.pure]) (fun _ => ⟨by (simp [Lay.cells, lay18, noneP, Sec.cells, Port.cells, Exi.cells, Step.cells, Img.cells, Kern.cells, restK, k18, hd18, Hd.cells, p18, q18, Path.cells, Need.cells, zeroK] <;> rfl), g14c⟩) (fun _ => rfl) ?_
  simp [Lay.cells, lay18, noneP, Sec.cells, Port.cells, Exi.cells, Step.cells, Img.cells, Kern.cells, restK, k18, hd18, Hd.cells, p18, q18, Path.cells, Need.cells, zeroK]
  refine callIf (.bool false) (by simp [AV.pure]) (fun _ => ⟨by (simp [Lay.cells, lay18, noneP, Sec.cells, Port.cells, Exi.cells, Step.cells, Img.cells, Kern.cells, restK, k18, hd18, Hd.cells, p18, q18, Path.cells, Need.cells, zeroK] <;> rfl), g15c⟩) (fun _ => rfl) ?_
  simp [Lay.cells, lay18, noneP, Sec.cells, Port.cells, Exi.cells, Step.cells, Img.cells, Kern.cells, restK, k18, hd18, Hd.cells, p18, q18, Path.cells, Need.cells, zeroK]
  refine callIf (k18 2).av (by simp [AV.pure]) (fun _ => ⟨by (simp [Lay.cells, lay18, noneP, Sec.cells, Port.cells, Exi.cells, Step.cells, Img.cells, Kern.cells, restK, k18, hd18, Hd.cells, p18, q18, Path.cells, Need.cells, zeroK] <;> rfl), g16c⟩) (by simp) ?_
  simp [Lay.cells, lay18, noneP, Sec.cells, Port.cells, Exi.cells, Step.cells, Img.cells, Kern.cells, restK, k18, hd18, Hd.cells, p18, q18, Path.cells, Need.cells, zeroK]
  refine callIf (.bool true) (by simp [AV.pure]) (fun _ => ⟨by (simp [Lay.cells, lay18, noneP, Sec.cells, Port.cells, Exi.cells, Step.cells, Img.cells, Kern.cells, restK, k18, hd18, Hd.cells, p18, q18, Path.cells, Need.cells, zeroK] <;> rfl), g17c⟩) (fun _ => rfl) ?_
  simp [Lay.cells, lay18, noneP, Sec.cells, Port.cells, Exi.cells, Step.cells, Img.cells, Kern.cells, restK, k18, hd18, Hd.cells, p18, q18, Path.cells, Need.cells, zeroK]
  refine callIf (avs := []) restK.av (by simp [AV.pure]) (fun _ => ⟨rfl, c_rest⟩) (by simp) ?_
  simp [Lay.cells, lay18, noneP, Sec.cells, Port.cells, Exi.cells, Step.cells, Img.cells, Kern.cells, restK, k18, hd18, Hd.cells, p18, q18, Path.cells, Need.cells, zeroK]
  refine callIf (.bool false) (by simp [AV.pure]) (fun _ => ⟨by (simp [Lay.cells, lay18, noneP, Sec.cells, Port.cells, Exi.cells, Step.cells, Img.cells, Kern.cells, restK, k18, hd18, Hd.cells, p18, q18, Path.cells, Need.cells, zeroK] <;> rfl), g18c⟩) (fun _ => rfl) ?_
  simp [Lay.cells, lay18, noneP, Sec.cells, Port.cells, Exi.cells, Step.cells, Img.cells, Kern.cells, restK, k18, hd18, Hd.cells, p18, q18, Path.cells, Need.cells, zeroK]
end Go.Lb.LK

namespace Go.Lb.LK
open Go Go.Lb Go.Proofs
@[simp] noncomputable def qkfreetells_0 : SE := .agg [.inp 0, .inp 1, .inp 2, .inp 3, .inp 4, .inp 5, .inp 6, .inp 7, .inp 8, .inp 9, .inp 10]
@[simp] noncomputable def qkfreetells_1 : SE := .agg [.inp 11, .inp 12, .inp 13, .inp 14, .inp 15, .inp 16, .inp 17, .inp 18, .inp 19, .inp 20, .inp 21, .inp 22, .inp 23, .inp 24, .inp 25, .inp 26, .inp 27, .inp 28, .inp 29, .inp 30, .inp 31, .inp 32, .inp 33, .inp 34, .inp 35, .inp 36, .inp 37, .inp 38, .inp 39]
@[simp] noncomputable def qkfreetells_2 : SE := .agg [.inp 40, .inp 41, .inp 42, .inp 43, .inp 44, .inp 45, .inp 46, .inp 47, .inp 48, .inp 49, .inp 50, .inp 51, .inp 52, .inp 53, .inp 54, .inp 55, .inp 56, .inp 57, .inp 58, .inp 59, .inp 60, .inp 61, .inp 62, .inp 63, .inp 64, .inp 65, .inp 66, .inp 67, .inp 68, .inp 69, .inp 70, .inp 71, .inp 72, .inp 73, .inp 74, .inp 75, .inp 76, .inp 77, .inp 78, .inp 79, .inp 80, .inp 81, .inp 82, .inp 83, .inp 84, .inp 85, .inp 86, .inp 87, .inp 88, .inp 89, .inp 90, .inp 91, .inp 92, .inp 93, .inp 94, .inp 95, .inp 96, .inp 97, .inp 98, .inp 99, .inp 100, .inp 101, .inp 102, .inp 103, .inp 104, .inp 105, .inp 106, .inp 107, .inp 108, .inp 109, .inp 110, .inp 111, .inp 112, .inp 113]
@[simp] noncomputable def qkfreetells_3 : SE := .agg [.inp 114, .inp 115, .inp 116, .inp 117, .inp 118, .inp 119, .inp 120, .inp 121, .inp 122, .inp 123, .inp 124, .inp 125, .inp 126, .inp 127, .inp 128, .inp 129, .inp 130, .inp 131, .inp 132, .inp 133, .inp 134, .inp 135, .inp 136, .inp 137, .inp 138, .inp 139, .inp 140, .inp 141, .inp 142, .inp 143, .inp 144, .inp 145, .inp 146, .inp 147, .inp 148, .inp 149, .inp 150, .inp 151, .inp 152, .inp 153, .inp 154, .inp 155, .inp 156, .inp 157, .inp 158, .inp 159, .inp 160, .inp 161, .inp 162, .inp 163, .inp 164, .inp 165, .inp 166, .inp 167, .inp 168, .inp 169, .inp 170, .inp 171, .inp 172, .inp 173, .inp 174, .inp 175, .inp 176, .inp 177, .inp 178, .inp 179, .inp 180, .inp 181, .inp 182, .inp 183, .inp 184, .inp 185, .inp 186, .inp 187]
@[simp] noncomputable def qkfreetells_4 : SE := .agg [.inp 188, .inp 189, .inp 190]
@[simp] noncomputable def qkfreetells_5 : SE := .agg [.inp 191, .inp 192, .inp 193]
@[simp] noncomputable def qkfreetells_6 : SE := .app .pick [.inp 195, .bool true, .inp 196]
@[simp] noncomputable def qkfreetells_7 : SE := .app (.bin .neq) [.app (.tproj 0) [.inp 199], .app (.tproj 0) [.inp 200]]
@[simp] noncomputable def qkfreetells_8 : SE := .app (.eqb true) [.app (.tproj 1) [.inp 199], .app (.tproj 1) [.inp 200]]
@[simp] noncomputable def qkfreetells_9 : SE := .app .pick [qkfreetells_7, .bool true, qkfreetells_8]
@[simp] noncomputable def qkfreetells_10 : SE := .app (.bin .neq) [.app (.tproj 0) [.inp 201], .app (.tproj 0) [.inp 202]]
@[simp] noncomputable def qkfreetells_11 : SE := .app .pick [qkfreetells_9, .bool true, qkfreetells_10]
@[simp] noncomputable def qkfreetells_12 : SE := .app (.eqb true) [.app (.tproj 1) [.inp 201], .app (.tproj 1) [.inp 202]]
@[simp] noncomputable def qkfreetells_13 : SE := .app .pick [qkfreetells_11, .bool true, qkfreetells_12]
@[simp] noncomputable def qkfreetells_14 : SE := .app (.eqb true) [.inp 203, .inp 204]
@[simp] noncomputable def qkfreetells_15 : SE := .app .pick [qkfreetells_13, .bool true, qkfreetells_14]
@[simp] noncomputable def qkfreetells_16 : SE := .app (.eqb true) [.inp 205, .inp 206]
@[simp] noncomputable def qkfreetells_17 : SE := .app (.eqb true) [.inp 212, .inp 213]
@[simp] noncomputable def qkfreetells_18 : SE := .app (.bin .neq) [.inp 214, .inp 215]
@[simp] noncomputable def qkfreetells_19 : SE := .app .pick [qkfreetells_17, .bool true, qkfreetells_18]
@[simp] noncomputable def qkfreetells_20 : SE := .app (.eqb true) [.inp 216, .inp 217]
@[simp] noncomputable def qkfreetells_21 : SE := .app (.eqb false) [.inp 219, .inp 220]
@[simp] noncomputable def qkfreetells_22 : SE := .app .pick [qkfreetells_21, .inp 222, .bool false]
noncomputable def rt_lockbarlaw18_FreeTells : RT :=
.seg [.chk [] (.isAgg 11) [qkfreetells_0]] <|
.seg [.chk [] (.isAgg 29) [qkfreetells_1]] <|
.seg [.chk [] (.isAgg 74) [qkfreetells_2]] <|
.seg [.chk [] (.isAgg 74) [qkfreetells_3]] <|
.seg [.chk [] (.isAgg 3) [qkfreetells_4]] <|
.seg [.chk [] (.isAgg 3) [qkfreetells_5]] <|
.seg [.call 195 [] 8 [qkfreetells_0] false] <|
.seg [.call 196 [(.inp 195, false)] 9 [qkfreetells_2] false] <|
.seg [.chk [] .pick [.inp 195, .bool true, .inp 196]] <|
.seg [.call 197 [(qkfreetells_6, false)] 9 [qkfreetells_3] false] <|
.seg [.chk [] .pick [qkfreetells_6, .bool true, .inp 197]] <|
.cond (.app .pick [qkfreetells_6, .bool true, .inp 197])
 (.seg [.call 198 [] 11 [] false] <|
.ret (.inp 198))
 (.seg [.chk [] (.isAgg 3) [qkfreetells_4]] <|
.seg [.call 198 [] 10 [.app .lst [qkfreetells_4]] true] <|
.cond (.inp 198)
 (.seg [.call 199 [] 11 [] false] <|
.ret (.inp 199))
 (.seg [.call 199 [] 12 [qkfreetells_2, .inp 194] false] <|
.seg [.chk [] (.tproj 0) [.inp 199]] <|
.seg [.chk [] (.tproj 1) [.inp 199]] <|
.seg [.call 200 [] 13 [qkfreetells_2, .inp 194] false] <|
.seg [.chk [] (.tproj 0) [.inp 200]] <|
.seg [.chk [] (.tproj 1) [.inp 200]] <|
.seg [.call 201 [] 14 [qkfreetells_2, .inp 194] false] <|
.seg [.chk [] (.tproj 0) [.inp 201]] <|
.seg [.chk [] (.tproj 1) [.inp 201]] <|
.seg [.call 202 [] 15 [qkfreetells_2, .inp 194] false] <|
.seg [.chk [] (.tproj 0) [.inp 202]] <|
.seg [.chk [] (.tproj 1) [.inp 202]] <|
.seg [.chk [] (.bin .neq) [.app (.tproj 0) [.inp 199], .app (.tproj 0) [.inp 200]],
.chk [(qkfreetells_7, false)] (.eqb true) [.app (.tproj 1) [.inp 199], .app (.tproj 1) [.inp 200]],
.chk [] .pick [qkfreetells_7, .bool true, qkfreetells_8],
.chk [(qkfreetells_9, false)] (.bin .neq) [.app (.tproj 0) [.inp 201], .app (.tproj 0) [.inp 202]],
.chk [] .pick [qkfreetells_9, .bool true, qkfreetells_10],
.chk [(qkfreetells_11, false)] (.eqb true) [.app (.tproj 1) [.inp 201], .app (.tproj 1) [.inp 202]],
.chk [] .pick [qkfreetells_11, .bool true, qkfreetells_12],
.call 203 [(qkfreetells_13, false)] 16 [qkfreetells_2, .inp 194] false,
.call 204 [(qkfreetells_13, false)] 17 [qkfreetells_2, .inp 194] false,
.chk [(qkfreetells_13, false)] (.eqb true) [.inp 203, .inp 204],
.chk [] .pick [qkfreetells_13, .bool true, qkfreetells_14],
.call 205 [(qkfreetells_15, false)] 18 [qkfreetells_0, qkfreetells_1, qkfreetells_2, .inp 194] false,
.call 206 [(qkfreetells_15, false)] 19 [qkfreetells_0, qkfreetells_1, qkfreetells_2, .inp 194] false,
.chk [(qkfreetells_15, false)] (.eqb true) [.inp 205, .inp 206],
.chk [] .pick [qkfreetells_15, .bool true, qkfreetells_16]] <|
.seg [.bind 207 (qkfreetells_9),
.bind 208 (qkfreetells_11),
.bind 209 (qkfreetells_13),
.bind 210 (qkfreetells_15),
.bind 211 (.app .pick [qkfreetells_15, .bool true, qkfreetells_16])] <|
.cond (.inp 211)
 (.ret (.bool false))
 (.seg [.call 212 [] 20 [qkfreetells_0, qkfreetells_1, qkfreetells_2, qkfreetells_5] false,
.call 213 [] 21 [qkfreetells_0, qkfreetells_1, qkfreetells_2, qkfreetells_5] false,
.chk [] (.eqb true) [.inp 212, .inp 213],
.call 214 [(qkfreetells_17, false)] 22 [qkfreetells_0, qkfreetells_1, qkfreetells_2, qkfreetells_4] false,
.call 215 [(qkfreetells_17, false)] 23 [qkfreetells_0, qkfreetells_1, qkfreetells_2, qkfreetells_4] false,
.chk [(qkfreetells_17, false)] (.bin .neq) [.inp 214, .inp 215],
.chk [] .pick [qkfreetells_17, .bool true, qkfreetells_18],
.call 216 [(qkfreetells_19, false)] 24 [qkfreetells_2] false,
.call 217 [(qkfreetells_19, false)] 25 [qkfreetells_2] false,
.chk [(qkfreetells_19, false)] (.eqb true) [.inp 216, .inp 217],
.chk [] .pick [qkfreetells_19, .bool true, qkfreetells_20]] <|
.seg [.bind 218 (.app .pick [qkfreetells_19, .bool true, qkfreetells_20])] <|
.cond (.inp 218)
 (.ret (.bool false))
 (.seg [.call 219 [] 26 [qkfreetells_2, qkfreetells_3] false,
.call 220 [] 27 [qkfreetells_2, qkfreetells_3] false,
.chk [] (.eqb false) [.inp 219, .inp 220],
.call 221 [(qkfreetells_21, true)] 28 [qkfreetells_2] false,
.call 222 [(qkfreetells_21, true)] 27 [.inp 221, qkfreetells_2] false,
.chk [] .pick [qkfreetells_21, .inp 222, .bool false],
.call 223 [(qkfreetells_22, true)] 11 [] false,
.chk [] .pick [qkfreetells_22, .inp 223, .bool false]] <|
.ret (.app .pick [qkfreetells_22, .inp 223, .bool false])))))
theorem run_lockbarlaw18_FreeTells : runF E 3 [.agg [.inp 0, .inp 1, .inp 2, .inp 3, .inp 4, .inp 5, .inp 6, .inp 7, .inp 8, .inp 9, .inp 10], .agg [.inp 11, .inp 12, .inp 13, .inp 14, .inp 15, .inp 16, .inp 17, .inp 18, .inp 19, .inp 20, .inp 21, .inp 22, .inp 23, .inp 24, .inp 25, .inp 26, .inp 27, .inp 28, .inp 29, .inp 30, .inp 31, .inp 32, .inp 33, .inp 34, .inp 35, .inp 36, .inp 37, .inp 38, .inp 39], .agg [.inp 40, .inp 41, .inp 42, .inp 43, .inp 44, .inp 45, .inp 46, .inp 47, .inp 48, .inp 49, .inp 50, .inp 51, .inp 52, .inp 53, .inp 54, .inp 55, .inp 56, .inp 57, .inp 58, .inp 59, .inp 60, .inp 61, .inp 62, .inp 63, .inp 64, .inp 65, .inp 66, .inp 67, .inp 68, .inp 69, .inp 70, .inp 71, .inp 72, .inp 73, .inp 74, .inp 75, .inp 76, .inp 77, .inp 78, .inp 79, .inp 80, .inp 81, .inp 82, .inp 83, .inp 84, .inp 85, .inp 86, .inp 87, .inp 88, .inp 89, .inp 90, .inp 91, .inp 92, .inp 93, .inp 94, .inp 95, .inp 96, .inp 97, .inp 98, .inp 99, .inp 100, .inp 101, .inp 102, .inp 103, .inp 104, .inp 105, .inp 106, .inp 107, .inp 108, .inp 109, .inp 110, .inp 111, .inp 112, .inp 113], .agg [.inp 114, .inp 115, .inp 116, .inp 117, .inp 118, .inp 119, .inp 120, .inp 121, .inp 122, .inp 123, .inp 124, .inp 125, .inp 126, .inp 127, .inp 128, .inp 129, .inp 130, .inp 131, .inp 132, .inp 133, .inp 134, .inp 135, .inp 136, .inp 137, .inp 138, .inp 139, .inp 140, .inp 141, .inp 142, .inp 143, .inp 144, .inp 145, .inp 146, .inp 147, .inp 148, .inp 149, .inp 150, .inp 151, .inp 152, .inp 153, .inp 154, .inp 155, .inp 156, .inp 157, .inp 158, .inp 159, .inp 160, .inp 161, .inp 162, .inp 163, .inp 164, .inp 165, .inp 166, .inp 167, .inp 168, .inp 169, .inp 170, .inp 171, .inp 172, .inp 173, .inp 174, .inp 175, .inp 176, .inp 177, .inp 178, .inp 179, .inp 180, .inp 181, .inp 182, .inp 183, .inp 184, .inp 185, .inp 186, .inp 187], .agg [.inp 188, .inp 189, .inp 190], .agg [.inp 191, .inp 192, .inp 193], .inp 194] 195 = rt_lockbarlaw18_FreeTells := by kernel_rfl

end Go.Lb.LK

namespace Go.Lb.LK
open Go Go.Lb Go.Proofs Go.RowKit

theorem canOk_of {l : Lay} {k : Kern} {p : Path} (hl : l.ok) (g1 : great6 l = false) (g2 : great18 k = false) (g3 : p.steps.length ≤ 30) : CanOk l k p := by
  obtain ⟨a1, a2, a3, a4, a5⟩ := small6 g1
  refine ⟨(small18 g2).1, hl, fun e he => ?_, by omega, by omega, ?_⟩
  · have := a5 e he; omega
  · unfold over
    split
    · rename_i e he
      by_cases hc : 0 ≤ p.exit ∧ p.exit < l.exits.length
      · obtain ⟨n, hn, hlt, h2⟩ := exitAt_in hc.1 hc.2
        rw [h2] at he
        simp only [Option.some.injEq] at he; subst he
        have := a5 _ (List.getElem_mem hlt); omega
      · rw [exitAt_out hc] at he; cases he
    · simp
set_option maxRecDepth 100000 in
set_option maxHeartbeats 4000000 in
theorem c_FreeTells (l : Lay) (hl : l.ok) (im : Img) (hi : im.ok) (k : Kern) (hk : k.ok) (m : Kern) (p : Path) (n : Need) (s : Int) : C f_lockbarlaw18_FreeTells [l.av, im.av, k.av, m.av, p.av, n.av, I s] (.bool true) := by
  refine ctr (l.cells ++ im.cells ++ k.cells ++ m.cells ++ p.cells ++ n.cells ++ [I s]) run_lockbarlaw18_FreeTells rfl (by simp [pureAll_append, AV.pureAll, AV.pure]) rfl ?_ rfl
  unfold rt_lockbarlaw18_FreeTells
  simp [Lay.cells, Img.cells, Kern.cells, Path.cells, Need.cells]
  refine call (c_r06_Great l) (by simp [Lay.cells]) (by simp) ?_
  simp
  refine callIf (avs := [k.av]) (.bool (great18 k)) rfl (fun _ => ⟨by simp [Kern.cells], c_r18Great k⟩) (by simp) ?_
  simp
  refine callIf (avs := [m.av]) (.bool (great18 m)) rfl (fun _ => ⟨by simp [Kern.cells], c_r18Great m⟩) (by simp) ?_
  cases g1 : great6 l
  case true =>
    simp
    exact call c_wakes18 rfl (by simp) (by simp)
  cases g2 : great18 k
  case true =>
    simp
    exact call c_wakes18 rfl (by simp) (by simp)
  cases g3 : great18 m
  case true =>
    simp
    exact call c_wakes18 rfl (by simp) (by simp)
  simp
  refine call (c_r12Great p) (by simp [Path.cells]) (fun _ => rfl) ?_
  by_cases g4 : 30 < p.steps.length
  · simp [g4]
    exact call c_wakes18 rfl (by simp) (by simp)
  simp [g4]
  have hkl := (small18 g2).1
  have hml := (small18 g3).1
  have hcan := canOk_of (p := p) hl g1 g2 (by omega)
  have hL : ∀ x : AV, x = .agg [] → True := fun _ _ => trivial
  refine call (c_free_Holder k hkl s) (by simp [Kern.cells]) (by simp [optP]) ?_
  simp [optP]
  refine call (c_r18Holder k hkl s) (by simp [Kern.cells]) (by simp [optP]) ?_
  simp [optP]
  refine call (c_free_Wanted k hkl s) (by simp [Kern.cells]) (by simp [optP]) ?_
  simp [optP]
  refine call (c_r18Wanted k hkl s) (by simp [Kern.cells]) (by simp [optP]) ?_
  simp [optP]
  refine callIf (avs := [k.av, I s]) (.bool (lockedN k s)) rfl (fun _ => ⟨by simp [Kern.cells], c_free_Locked k hkl s⟩) (fun _ => rfl) ?_
  simp [optP]
  refine callIf (avs := [k.av, I s]) (.bool (lockedN k s)) rfl (fun _ => ⟨by simp [Kern.cells], c_r18Locked k hkl s⟩) (fun _ => rfl) ?_
  simp [optP]
  refine callIf (avs := [l.av, im.av, k.av, I s]) (.bool (freeN l im k s)) rfl (fun _ => ⟨by simp [Lay.cells, Img.cells, Kern.cells], c_free_Free l im hi k hkl s⟩) (fun _ => rfl) ?_
  simp [optP]
  refine callIf (avs := [l.av, im.av, k.av, I s]) (.bool (freeN l im k s)) rfl (fun _ => ⟨by simp [Lay.cells, Img.cells, Kern.cells], c_r18Free l im hi k hkl s⟩) (fun _ => rfl) ?_
  simp [optP]
  refine call (c_free_Meets l im hi k hkl n) (by simp [Lay.cells, Img.cells, Kern.cells, Need.cells]) (fun _ => rfl) ?_
  simp
  refine call (c_r18Meets l im hi k hkl n) (by simp [Lay.cells, Img.cells, Kern.cells, Need.cells]) (fun _ => rfl) ?_
  simp
  refine callIf (avs := [l.av, im.av, k.av, p.av]) (I (canN l im k p)) rfl (fun _ => ⟨by simp [Lay.cells, Img.cells, Kern.cells, Path.cells], c_free_Can l im hi k p hcan⟩) (fun _ => rfl) ?_
  simp
  refine callIf (avs := [l.av, im.av, k.av, p.av]) (I (canN l im k p)) rfl (fun _ => ⟨by simp [Lay.cells, Img.cells, Kern.cells, Path.cells], c_r18Can l im hi k p hcan⟩) (fun _ => rfl) ?_
  simp
  refine callIf (avs := [k.av]) (.bool (rightK k)) rfl (fun _ => ⟨by simp [Kern.cells], c_free_Right k hkl hk⟩) (fun _ => rfl) ?_
  simp
  refine callIf (avs := [k.av]) (.bool (rightK k)) rfl (fun _ => ⟨by simp [Kern.cells], c_r18Right k hkl hk⟩) (fun _ => rfl) ?_
  simp
  refine call (c_free_Same k m hkl) (by simp [Kern.cells]) (fun _ => rfl) ?_
  simp
  refine call (c_r18Same k m hkl) (by simp [Kern.cells]) (fun _ => rfl) ?_
  simp
  refine callIf (avs := [k.av]) k.av (by simp [AV.pure]) (fun _ => ⟨by simp [Kern.cells], c_free_Own k hkl⟩) (by simp) ?_
  simp
  refine callIf (avs := [k.av, k.av]) (.bool (sameK k k)) rfl (fun _ => ⟨by simp [Kern.cells], c_r18Same k k hkl⟩) (fun _ => rfl) ?_
  simp [sameK_refl]
  exact callIf (avs := []) (.bool true) rfl (fun _ => ⟨rfl, c_wakes18⟩) (fun _ => rfl) (by simp)
end Go.Lb.LK

namespace Go.Lb.LK
open Go Go.Lb Go.Proofs
@[simp] noncomputable def qkfreestale_0 : SE := .agg [.inp 0, .inp 1, .inp 2, .inp 3, .inp 4, .inp 5, .inp 6, .inp 7, .inp 8, .inp 9, .inp 10]
@[simp] noncomputable def qkfreestale_1 : SE := .agg [.inp 11, .inp 12, .inp 13, .inp 14, .inp 15, .inp 16, .inp 17, .inp 18, .inp 19, .inp 20, .inp 21, .inp 22, .inp 23, .inp 24, .inp 25, .inp 26, .inp 27, .inp 28, .inp 29, .inp 30, .inp 31, .inp 32, .inp 33, .inp 34, .inp 35, .inp 36, .inp 37, .inp 38, .inp 39]
@[simp] noncomputable def qkfreestale_2 : SE := .agg [.inp 40, .inp 41, .inp 42, .inp 43, .inp 44, .inp 45, .inp 46, .inp 47, .inp 48, .inp 49, .inp 50, .inp 51, .inp 52, .inp 53, .inp 54, .inp 55, .inp 56, .inp 57, .inp 58, .inp 59, .inp 60, .inp 61, .inp 62, .inp 63, .inp 64, .inp 65, .inp 66, .inp 67, .inp 68, .inp 69, .inp 70, .inp 71, .inp 72, .inp 73, .inp 74, .inp 75, .inp 76, .inp 77, .inp 78, .inp 79, .inp 80, .inp 81, .inp 82, .inp 83, .inp 84, .inp 85, .inp 86, .inp 87, .inp 88, .inp 89, .inp 90, .inp 91, .inp 92, .inp 93, .inp 94, .inp 95, .inp 96, .inp 97, .inp 98, .inp 99, .inp 100, .inp 101, .inp 102, .inp 103, .inp 104, .inp 105, .inp 106, .inp 107, .inp 108, .inp 109, .inp 110, .inp 111, .inp 112, .inp 113]
@[simp] noncomputable def qkfreestale_3 : SE := .agg [.inp 114, .inp 115, .inp 116]
@[simp] noncomputable def qkfreestale_4 : SE := .app .pick [.inp 118, .bool true, .inp 119]
@[simp] noncomputable def qkfreestale_5 : SE := .app (.bin .lss) [.app .len [.inp 116], .int .i64 1]
@[simp] noncomputable def qkfreestale_6 : SE := .app (.bin .neq) [.inp 123, .int .i64 190]
@[simp] noncomputable def qkfreestale_7 : SE := .app .pick [.inp 122, .bool true, qkfreestale_6]
@[simp] noncomputable def qkfreestale_8 : SE := .app (.un .not) [.app (.tproj 1) [.inp 124]]
@[simp] noncomputable def qkfreestale_9 : SE := .app .pick [qkfreestale_8, .app (.un .not) [.inp 126], .bool false]
@[simp] noncomputable def qkfreestale_10 : SE := .app (.eqb false) [.inp 125, qkfreestale_9]
noncomputable def rt_lockbarlaw18_FreeStale : RT :=
.seg [.chk [] (.isAgg 11) [qkfreestale_0]] <|
.seg [.chk [] (.isAgg 29) [qkfreestale_1]] <|
.seg [.chk [] (.isAgg 74) [qkfreestale_2]] <|
.seg [.chk [] (.isAgg 3) [qkfreestale_3]] <|
.seg [.call 118 [] 8 [qkfreestale_0] false] <|
.seg [.call 119 [(.inp 118, false)] 9 [qkfreestale_2] false] <|
.seg [.chk [] .pick [.inp 118, .bool true, .inp 119]] <|
.seg [.chk [(qkfreestale_4, false)] .len [.inp 116]] <|
.seg [.chk [(qkfreestale_4, false)] (.bin .lss) [.app .len [.inp 116], .int .i64 1]] <|
.seg [.chk [] .pick [qkfreestale_4, .bool true, qkfreestale_5]] <|
.cond (.app .pick [qkfreestale_4, .bool true, qkfreestale_5])
 (.seg [.call 120 [] 11 [] false] <|
.ret (.inp 120))
 (.seg [.chk [] (.isAgg 3) [qkfreestale_3]] <|
.seg [.call 120 [] 10 [.app .lst [qkfreestale_3]] true] <|
.cond (.inp 120)
 (.seg [.call 121 [] 11 [] false] <|
.ret (.inp 121))
 (.seg [.call 121 [] 35 [qkfreestale_0, qkfreestale_1] false] <|
.seg [.call 122 [(.inp 121, true)] 18 [qkfreestale_0, qkfreestale_1, qkfreestale_2, .inp 117] false] <|
.seg [.call 123 [(.inp 122, false), (.inp 121, true)] 22 [qkfreestale_0, qkfreestale_1, qkfreestale_2, qkfreestale_3] false] <|
.seg [.chk [(.inp 122, false), (.inp 121, true)] (.bin .neq) [.inp 123, .int .i64 190]] <|
.seg [.chk [(.inp 121, true)] .pick [.inp 122, .bool true, qkfreestale_6]] <|
.seg [.chk [] .pick [.inp 121, qkfreestale_7, .bool false]] <|
.cond (.app .pick [.inp 121, qkfreestale_7, .bool false])
 (.ret (.bool false))
 (.seg [.call 124 [] 12 [qkfreestale_2, .inp 117] false] <|
.seg [.chk [] (.tproj 0) [.inp 124]] <|
.seg [.chk [] (.tproj 1) [.inp 124]] <|
.seg [.call 125 [] 18 [qkfreestale_0, qkfreestale_1, qkfreestale_2, .inp 117] false] <|
.seg [.chk [] (.un .not) [.app (.tproj 1) [.inp 124]]] <|
.seg [.call 126 [(qkfreestale_8, true)] 34 [qkfreestale_0, qkfreestale_1, .inp 117] false] <|
.seg [.chk [(qkfreestale_8, true)] (.un .not) [.inp 126]] <|
.seg [.chk [] .pick [qkfreestale_8, .app (.un .not) [.inp 126], .bool false]] <|
.seg [.chk [] (.eqb false) [.inp 125, qkfreestale_9]] <|
.seg [.call 127 [(qkfreestale_10, true)] 11 [] false] <|
.seg [.chk [] .pick [qkfreestale_10, .inp 127, .bool false]] <|
.seg [.bind 128 (.app .pick [qkfreestale_10, .inp 127, .bool false])] <|
.ret (.inp 128))))
theorem run_lockbarlaw18_FreeStale : runF E 6 [.agg [.inp 0, .inp 1, .inp 2, .inp 3, .inp 4, .inp 5, .inp 6, .inp 7, .inp 8, .inp 9, .inp 10], .agg [.inp 11, .inp 12, .inp 13, .inp 14, .inp 15, .inp 16, .inp 17, .inp 18, .inp 19, .inp 20, .inp 21, .inp 22, .inp 23, .inp 24, .inp 25, .inp 26, .inp 27, .inp 28, .inp 29, .inp 30, .inp 31, .inp 32, .inp 33, .inp 34, .inp 35, .inp 36, .inp 37, .inp 38, .inp 39], .agg [.inp 40, .inp 41, .inp 42, .inp 43, .inp 44, .inp 45, .inp 46, .inp 47, .inp 48, .inp 49, .inp 50, .inp 51, .inp 52, .inp 53, .inp 54, .inp 55, .inp 56, .inp 57, .inp 58, .inp 59, .inp 60, .inp 61, .inp 62, .inp 63, .inp 64, .inp 65, .inp 66, .inp 67, .inp 68, .inp 69, .inp 70, .inp 71, .inp 72, .inp 73, .inp 74, .inp 75, .inp 76, .inp 77, .inp 78, .inp 79, .inp 80, .inp 81, .inp 82, .inp 83, .inp 84, .inp 85, .inp 86, .inp 87, .inp 88, .inp 89, .inp 90, .inp 91, .inp 92, .inp 93, .inp 94, .inp 95, .inp 96, .inp 97, .inp 98, .inp 99, .inp 100, .inp 101, .inp 102, .inp 103, .inp 104, .inp 105, .inp 106, .inp 107, .inp 108, .inp 109, .inp 110, .inp 111, .inp 112, .inp 113], .agg [.inp 114, .inp 115, .inp 116], .inp 117] 118 = rt_lockbarlaw18_FreeStale := by kernel_rfl

end Go.Lb.LK

namespace Go.Lb.LK
open Go Go.Lb Go.Proofs Go.RowKit

theorem stale_occ {l : Lay} {im : Img} (h : stale l im = true) (s : Int) : occupied l im s = true := by simp [occupied, h]
theorem stale_free {l : Lay} {im : Img} (k : Kern) (h : stale l im = true) (s : Int) : freeN l im k s = false := by simp [freeN, stale_occ h]
theorem stale_can {l : Lay} {im : Img} {k : Kern} {p : Path} (h : stale l im = true) (hp : p.steps ≠ []) : canN l im k p = 190 := by
  obtain ⟨s, hs⟩ := List.exists_mem_of_ne_nil _ hp
  exact can_step (List.mem_append_left _ hs) (stale_free k h s.s)
set_option maxRecDepth 100000 in
set_option maxHeartbeats 4000000 in
theorem c_FreeStale (l : Lay) (hl : l.ok) (im : Img) (hi : im.ok) (k : Kern) (p : Path) (s : Int) : C f_lockbarlaw18_FreeStale [l.av, im.av, k.av, p.av, I s] (.bool true) := by
  refine ctr (l.cells ++ im.cells ++ k.cells ++ p.cells ++ [I s]) run_lockbarlaw18_FreeStale rfl (by simp [pureAll_append, AV.pureAll, AV.pure]) rfl ?_ rfl
  unfold rt_lockbarlaw18_FreeStale
  simp [Lay.cells, Img.cells, Kern.cells, Path.cells]
  refine call (c_r06_Great l) (by simp [Lay.cells]) (by simp) ?_
  simp
  refine callIf (avs := [k.av]) (.bool (great18 k)) rfl (fun _ => ⟨by simp [Kern.cells], c_r18Great k⟩) (by simp) ?_
  cases g1 : great6 l
  case true =>
    simp
    exact call c_wakes18 rfl (by simp) (by simp)
  cases g2 : great18 k
  case true =>
    simp
    exact call c_wakes18 rfl (by simp) (by simp)
  by_cases g3 : p.steps = []
  · simp [g3]
    exact call c_wakes18 rfl (by simp) (by simp)
  have g3' : ¬ ((p.steps.length : Int) < 1) := by
    have := List.length_pos_iff.2 g3; omega
  simp [g3']
  refine call (c_r12Great p) (by simp [Path.cells]) (fun _ => rfl) ?_
  by_cases g4 : 30 < p.steps.length
  · simp [g4]
    exact call c_wakes18 rfl (by simp) (by simp)
  simp [g4]
  have hkl := (small18 g2).1
  have hcan := canOk_of (p := p) hl g1 g2 (by omega)
  refine call (c_r15Stale l im) (by simp [Lay.cells, Img.cells]) (fun _ => rfl) ?_
  simp
  refine callIf (avs := [l.av, im.av, k.av, I s]) (.bool (freeN l im k s)) rfl (fun _ => ⟨by simp [Lay.cells, Img.cells, Kern.cells], c_free_Free l im hi k hkl s⟩) (fun _ => rfl) ?_
  simp
  refine callIf (avs := [l.av, im.av, k.av, p.av]) (I (canN l im k p)) rfl (fun _ => ⟨by simp [Lay.cells, Img.cells, Kern.cells, Path.cells], c_free_Can l im hi k p hcan⟩) (fun _ => rfl) ?_
  have hgo : (stale l im = true → freeN l im k s = false ∧ canN l im k p = 190) := fun h => ⟨stale_free k h s, stale_can h g3⟩
  simp
  refine ⟨hgo, fun _ => ?_⟩
  refine call (c_free_Holder k hkl s) (by simp [Kern.cells]) (by simp [optP]) ?_
  simp [optP]
  refine call (c_free_Free l im hi k hkl s) (by simp [Lay.cells, Img.cells, Kern.cells]) (fun _ => rfl) ?_
  simp
  refine callIf (avs := [l.av, im.av, I s]) (.bool (occupied l im s)) rfl (fun _ => ⟨by simp [Lay.cells, Img.cells], c_r15Occupied l im hi s⟩) (fun _ => rfl) ?_
  have hf : freeN l im k s = (!(holderN k s).isSome && !occupied l im s) := by
    unfold freeN; cases holderN k s <;> rfl
  simp [hf]
  refine callIf (avs := []) (.bool true) rfl (fun _ => ⟨rfl, c_wakes18⟩) (fun _ => rfl) ?_
  simp
  cases holderN k s <;> simp
end Go.Lb.LK
