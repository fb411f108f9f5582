/- A need that can be met is wanted at no other position; if it is locked, or its machine has failed, or its section is not free, the point stands there, unless it is but called: FreeMeets answers true, and its arguments read as they did, where the package variables it reads read as the program's text lays them. Conditions: what it reads holds together at most 1048576 values (the second form). -/
import Derived.Test.YtmaldhbaihlmbaaGreatDoorCh10
import Derived.Test.YtmaldhbaihlmbaaGreatDoorCh7
import Derived.Test.YtmaldhbaihlmbaaGreatDoorRows
import Derived.Test.YtmaldhbaihlmbaaGreatDoorTie
import Derived.Test.YtmaldhbaihlmbaaGreatDoorCards
import Derived.ProofKit
import Derived.LaidMore
import Derived.OpenShut
import Derived.Stop.Joined
import Derived.SevenTiedAt
import Derived.Deep.DeepHandedRow
set_option linter.unusedSimpArgs false
set_option linter.unusedVariables false
namespace Go.Lb.LK
open Go Go.Lb Go.Proofs Go.RowKit

theorem args7 : argsS Tryz.prog 8 Tryz.f7.params.toList = [(true, layT), (true, imgT), (true, kernT), (true, needT)] := by kernel_rfl
theorem law7 {avs : List AV} (h : TyArgs Tryz.prog 8 Tryz.f7.params.toList avs) (hb : AV.bnds 1048576 avs) : C 7 avs (.bool true) := by
  have h := TyArgs_fits _ _ h
  rw [args7] at h
  obtain ⟨x0, q, rfl, h0a, h0b, x1, q, rfl, h1a, h1b, x2, q, rfl, h2a, h2b, x3, q, rfl, h3a, h3b, rfl⟩ := h
  obtain ⟨l, rfl, hl⟩ := lay_arg h0a h0b
  obtain ⟨im, rfl, him⟩ := img_arg h1a h1b
  obtain ⟨k, rfl, hk⟩ := kern_arg h2a h2b
  obtain ⟨n, rfl⟩ := need_arg h3a h3b
  have hkl : k.len := kern_bnd (bnds_mem hb _ (by simp))
  exact c_FreeMeets l im him k hkl hk n
end Go.Lb.LK

namespace Go.Proofs.YtmaldhbaihlmbaaGreatDoor
open Go Go.ChangeShapes Go.WideShapes Go.ChangeAt Go.RowKit Go.Lb Go.Lb.LK

theorem part_le7 {H : Type} {d : DataW H} {l : List (DataW H)} (h : d ∈ l) : Rows.uptoBulk d ≤ Rows.uptoBulkAll l := by
  induction l with
  | nil => cases h
  | cons x r ih =>
    simp only [Rows.uptoBulkAll]
    cases List.mem_cons.1 h with
    | inl e => subst e; omega
    | inr e => have := ih e; omega
theorem pos7 {H : Type} (d : DataW H) : 1 ≤ Rows.uptoBulk d := by
  cases d with
  | lit l => cases l <;> simp [Rows.uptoBulk]
  | nil => simp [Rows.uptoBulk]
  | ptr d => simp [Rows.uptoBulk]
  | slice elems spare => simp [Rows.uptoBulk]
  | agg parts => simp [Rows.uptoBulk]
  | iface t d => simp [Rows.uptoBulk]
  | map entries => simp [Rows.uptoBulk]
  | held h => simp [Rows.uptoBulk]
theorem length_le7 {H : Type} (l : List (DataW H)) : l.length ≤ Rows.uptoBulkAll l := by
  induction l with
  | nil => simp [Rows.uptoBulkAll]
  | cons x r ih => have := pos7 x; simp only [Rows.uptoBulkAll, List.length_cons]; omega
def bulk7 (H : Type) : Bulk H where
  f := Rows.uptoBulk
  sl := fun elems spare => by
    have := length_le7 elems
    simp only [Rows.uptoBulk]; omega
  el := fun elems spare d hd => by
    have := part_le7 hd
    simp only [Rows.uptoBulk]; omega
  ag := fun parts d hd => by
    have := part_le7 hd
    simp only [Rows.uptoBulk]; omega
def zargs7 : Array Value := #[.agg #[.slice none 0 0, .slice none 0 0, .slice none 0 0, .slice none 0 0, .int .i64 0, .int .i64 0, .int .i64 0, .int .i64 0, .int .i64 0, .int .i64 0, .int .i64 0], .agg #[.int .i64 0, .int .i64 0, .int .i64 0, .int .i64 0, .int .i64 0, .int .i64 0, .int .i64 0, .int .i64 0, .int .i64 0, .int .i64 0, .int .i64 0, .int .i64 0, .int .i64 0, .int .i64 0, .int .i64 0, .int .i64 0, .int .i64 0, .int .i64 0, .int .i64 0, .int .i64 0, .int .i64 0, .int .i64 0, .int .i64 0, .int .i64 0, .int .i64 0, .int .u32 0, .int .u32 0, .int .u32 0, .int .u32 0], .agg #[.int .i64 0, .slice none 0 0, .int .i64 0, .int .i64 0, .bool false, .int .i64 0, .int .i64 0, .bool false, .int .i64 0, .int .i64 0, .bool false, .int .i64 0, .int .i64 0, .bool false, .int .i64 0, .int .i64 0, .bool false, .int .i64 0, .int .i64 0, .bool false, .int .i64 0, .int .i64 0, .bool false, .int .i64 0, .int .i64 0, .bool false, .int .i64 0, .int .i64 0, .bool false, .int .i64 0, .int .i64 0, .bool false, .int .i64 0, .int .i64 0, .bool false, .int .i64 0, .int .i64 0, .bool false, .int .i64 0, .int .i64 0, .bool false, .int .i64 0, .int .i64 0, .bool false, .int .i64 0, .int .i64 0, .bool false, .int .i64 0, .int .i64 0, .bool false, .int .i64 0, .int .i64 0, .bool false, .int .i64 0, .int .i64 0, .bool false, .int .i64 0, .int .i64 0, .bool false, .int .i64 0, .int .i64 0, .bool false, .int .i64 0, .int .i64 0, .bool false, .int .i64 0, .int .i64 0, .bool false, .int .i64 0, .int .i64 0, .bool false, .int .i64 0, .int .i64 0, .bool false], .agg #[.int .i64 0, .int .i64 0, .int .i64 0]]
theorem own7 : ownKnob Tryz.prog.godebug = none := by kernel_rfl
theorem laidOut7 : laidOutB Tryz.prog = true := by kernel_rfl
theorem door_met7 (os : Os) (args : Array Value) : laidMetH Tryz.prog Rows.freeMeetsUptoRow.laid ((World.doorLaid Tryz.prog 400 os).forCall (fun _ _ => 0) ⟨#[], args, []⟩).memory :=
  laidMetH_of_parts3 (fuel := 8) (laidMet_of_run' 8 (by kernel_rfl) (by kernel_rfl)) (by kernel_rfl) (by kernel_rfl)
theorem okw7 (os : Os) : Input.okWideB Tryz.prog ((World.doorLaid Tryz.prog 400 os).forCall (fun _ _ => 0) ⟨#[], zargs7, []⟩) 7 ⟨#[], zargs7, []⟩ = true := by kernel_rfl
theorem reads7 (os : Os) {H : Type} (enc : TypeId × Value → H) : (DataW.whole enc Tryz.prog ((World.doorLaid Tryz.prog 400 os).forCall (fun _ _ => 0) ⟨#[], zargs7, []⟩).memory Tryz.f7.params.toList Rows.freeMeetsSpec.vars false zargs7.toList 8).isSome = true := by kernel_rfl

set_option maxRecDepth 100000 in
theorem freeMeetsUpto_lifted (os : Os) (started : os.Started) (H : Type) (enc : TypeId × Value → H) (F : Stop.Interp) :
    ReturnsInHanded {} Tryz.checked os 7 .any ((Rows.OpenSpec.upto Rows.freeMeetsSpec).preRow enc Tryz.prog Tryz.f7 [] false Rows.freeMeetsUptoRow.laid) (((Rows.OpenSpec.upto Rows.freeMeetsSpec).at F).post enc Tryz.prog Tryz.f7 false true false false) := by
  refine law_laid_upto (C := Tryz.checked) (s := Rows.freeMeetsSpec) os started 8 H enc (G := GL) (small := Rows.uptoSmall) (B := 1048576) F (bulk7 H) (fun ds h d hd => Nat.le_trans (part_le7 hd) (of_decide_eq_true h)) own7 laidOut7 (by kernel_rfl) Tryz.func7
    ⟨World.doorLaid Tryz.prog 400 os, fun _ _ => 0, ⟨#[], zargs7, []⟩, rfl, World.shaped_of_RefB (by kernel_rfl) (by kernel_rfl), (Input.okWide_of_okWideB (base := 0) (okw7 os)).1, (Input.okWide_of_okWideB (okw7 os)).2,
      OpenSpec.preRow_of_cond 8 (x := (DataW.whole enc Tryz.prog ((World.doorLaid Tryz.prog 400 os).forCall (fun _ _ => 0) ⟨#[], zargs7, []⟩).memory Tryz.f7.params.toList Rows.freeMeetsSpec.vars false zargs7.toList 8).get (reads7 os enc)) (Option.some_get (reads7 os enc)).symm rfl (fun k hk => by cases hk; kernel_rfl) (by kernel_rfl) (door_met7 os _), by
        simp only [Assume.holds]
        exact ⟨by simp, by simp, fun _ => Modest.zero, by simp, by simp⟩⟩
    rfl rfl (by kernel_rfl) (by kernel_rfl) (fun ds h => ?_) (fun w h => globOk_of_laid 8 (by kernel_rfl) (by kernel_rfl) h) (fun avs h hb => law7 h hb)
  have h : ds.length = 4 := h
  match ds, h with
  | [a, b, c, d], _ => exact ⟨rfl, rfl, rfl⟩

theorem freeMeetsUpto_said : Rows.FreeMeetsUptoSaid :=
  OpenClaim.holds_of_cond 7 Tryz.f7 rfl rfl rfl rfl rfl rfl rfl ⟨rfl, rfl, rfl, rfl, rfl⟩ rfl rfl rfl rfl rfl (by kernel_rfl) Tryz.func7 (by kernel_rfl)
    (of_decide_eq_true (by kernel_rfl)) (by unfold Func.isWrapper; first | (rw [if_pos (by decide +kernel)]; kernel_rfl) | (rw [if_neg (by decide +kernel)]; exact ⟨rfl, rfl⟩))
    (fun os started H enc _ F => by rw [OpenClaim.pre_eq_preRow]; exact freeMeetsUpto_lifted os started H enc F)

theorem freeMeetsUpto_holds : Rows.FreeMeetsUptoCardSaid :=
  Claim7.holds_tied_plain_at .later [] [.data] true _ false
    freeMeetsUpto_said (fun _ h => by cases h) (by kernel_rfl) (fun _ h => by cases h) freeMeetsUpto_row_tie rfl ⟨rfl, rfl⟩ (by kernel_rfl) rfl
    (fun f fn hf hfn => by
      obtain rfl : f = 7 := Option.some.inj ((show Tryz.prog.funcNamed Rows.freeMeetsUptoRow.func = some 7 by kernel_rfl).symm.trans hf) |>.symm
      obtain rfl : fn = Tryz.f7 := (Option.some.inj (Tryz.func7.symm.trans hfn)).symm
      exact ⟨by kernel_rfl, fun j t ht => by
        have hm : t ∈ Tryz.f7.params.toList := by simpa using Array.mem_of_getElem? ht
        have hall : (Tryz.f7.params.toList.all fun u => !Tryz.prog.wantsStandIn u) = true := by kernel_rfl
        exact (show Tryz.prog.wantsStandIn t = false by simpa using List.all_eq_true.1 hall t hm)⟩)
    (by kernel_rfl)
end Go.Proofs.YtmaldhbaihlmbaaGreatDoor
