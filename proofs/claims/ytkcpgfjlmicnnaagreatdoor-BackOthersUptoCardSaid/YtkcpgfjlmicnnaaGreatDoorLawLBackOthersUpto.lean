/- Of a kernel that may be all other routes are as they were, and so are its machines, and Next; what comes of it is told; the kernel may be behind it: BackOthers answers true, and its arguments read as they did, where the package variables it reads read as the program's text lays them. Conditions: what it reads holds together at most 1048576 values (the second form). -/
import Derived.Test.YtkcpgfjlmicnnaaGreatDoorCh9
import Derived.Test.YtkcpgfjlmicnnaaGreatDoorCh5
import Derived.Test.YtkcpgfjlmicnnaaGreatDoorCh6
import Derived.Test.YtkcpgfjlmicnnaaGreatDoorRows
import Derived.Test.YtkcpgfjlmicnnaaGreatDoorTie
import Derived.Test.YtkcpgfjlmicnnaaGreatDoorCards
import Derived.ProofKit
import Derived.LaidMore
import Derived.OpenShut
import Derived.Stop.Joined
import Derived.SevenTiedAt
import Derived.Deep.DeepHandedRow
set_option linter.unusedSimpArgs false
set_option linter.unusedVariables false
namespace Go.Lb.LK
open Go Go.Lb Go.Proofs Go.RowKit

theorem args5 : argsS Tryz.prog 8 Tryz.f5.params.toList = [(true, layT), (true, imgT), (true, kernT), (false, iT)] := by kernel_rfl
theorem law5 {avs : List AV} (h : TyArgs Tryz.prog 8 Tryz.f5.params.toList avs) (hb : AV.bnds 1048576 avs) : C 5 avs (.bool true) := by
  have h := TyArgs_fits _ _ h
  rw [args5] at h
  obtain ⟨x0, q, rfl, h0a, h0b, x1, q, rfl, h1a, h1b, x2, q, rfl, h2a, h2b, x3, q, rfl, h3a, h3b, rfl⟩ := h
  obtain ⟨l, rfl, hl⟩ := lay_arg h0a h0b
  obtain ⟨im, rfl, him⟩ := img_arg h1a h1b
  obtain ⟨k, rfl, hk⟩ := kern_arg h2a h2b
  obtain ⟨x, rfl⟩ := int_arg h3a h3b
  have hkl : k.len := kern_bnd (bnds_mem hb _ (by simp))
  exact c_BackOthers l hl im him k hkl hk x
end Go.Lb.LK

namespace Go.Proofs.YtkcpgfjlmicnnaaGreatDoor
open Go Go.ChangeShapes Go.WideShapes Go.ChangeAt Go.RowKit Go.Lb Go.Lb.LK

theorem part_le5 {H : Type} {d : DataW H} {l : List (DataW H)} (h : d ∈ l) : Rows.uptoBulk d ≤ Rows.uptoBulkAll l := by
  induction l with
  | nil => cases h
  | cons x r ih =>
    simp only [Rows.uptoBulkAll]
    cases List.mem_cons.1 h with
    | inl e => subst e; omega
    | inr e => have := ih e; omega
theorem pos5 {H : Type} (d : DataW H) : 1 ≤ Rows.uptoBulk d := by
  cases d with
  | lit l => cases l <;> simp [Rows.uptoBulk]
  | nil => simp [Rows.uptoBulk]
  | ptr d => simp [Rows.uptoBulk]
  | slice elems spare => simp [Rows.uptoBulk]
  | agg parts => simp [Rows.uptoBulk]
  | iface t d => simp [Rows.uptoBulk]
  | map entries => simp [Rows.uptoBulk]
  | held h => simp [Rows.uptoBulk]
theorem length_le5 {H : Type} (l : List (DataW H)) : l.length ≤ Rows.uptoBulkAll l := by
  induction l with
  | nil => simp [Rows.uptoBulkAll]
  | cons x r ih => have := pos5 x; simp only [Rows.uptoBulkAll, List.length_cons]; omega
def bulk5 (H : Type) : Bulk H where
  f := Rows.uptoBulk
  sl := fun elems spare => by
    have := length_le5 elems
    simp only [Rows.uptoBulk]; omega
  el := fun elems spare d hd => by
    have := part_le5 hd
    simp only [Rows.uptoBulk]; omega
  ag := fun parts d hd => by
    have := part_le5 hd
    simp only [Rows.uptoBulk]; omega
def zargs5 : Array Value := #[.agg #[.slice none 0 0, .slice none 0 0, .slice none 0 0, .slice none 0 0, .int .i64 0, .int .i64 0, .int .i64 0, .int .i64 0, .int .i64 0, .int .i64 0, .int .i64 0], .agg #[.int .i64 0, .int .i64 0, .int .i64 0, .int .i64 0, .int .i64 0, .int .i64 0, .int .i64 0, .int .i64 0, .int .i64 0, .int .i64 0, .int .i64 0, .int .i64 0, .int .i64 0, .int .i64 0, .int .i64 0, .int .i64 0, .int .i64 0, .int .i64 0, .int .i64 0, .int .i64 0, .int .i64 0, .int .i64 0, .int .i64 0, .int .i64 0, .int .i64 0, .int .u32 0, .int .u32 0, .int .u32 0, .int .u32 0], .agg #[.int .i64 0, .slice none 0 0, .int .i64 0, .int .i64 0, .bool false, .int .i64 0, .int .i64 0, .bool false, .int .i64 0, .int .i64 0, .bool false, .int .i64 0, .int .i64 0, .bool false, .int .i64 0, .int .i64 0, .bool false, .int .i64 0, .int .i64 0, .bool false, .int .i64 0, .int .i64 0, .bool false, .int .i64 0, .int .i64 0, .bool false, .int .i64 0, .int .i64 0, .bool false, .int .i64 0, .int .i64 0, .bool false, .int .i64 0, .int .i64 0, .bool false, .int .i64 0, .int .i64 0, .bool false, .int .i64 0, .int .i64 0, .bool false, .int .i64 0, .int .i64 0, .bool false, .int .i64 0, .int .i64 0, .bool false, .int .i64 0, .int .i64 0, .bool false, .int .i64 0, .int .i64 0, .bool false, .int .i64 0, .int .i64 0, .bool false, .int .i64 0, .int .i64 0, .bool false, .int .i64 0, .int .i64 0, .bool false, .int .i64 0, .int .i64 0, .bool false, .int .i64 0, .int .i64 0, .bool false, .int .i64 0, .int .i64 0, .bool false, .int .i64 0, .int .i64 0, .bool false], .int .i64 0]
theorem own5 : ownKnob Tryz.prog.godebug = none := by kernel_rfl
theorem laidOut5 : laidOutB Tryz.prog = true := by kernel_rfl
theorem door_met5 (os : Os) (args : Array Value) : laidMetH Tryz.prog Rows.backOthersUptoRow.laid ((World.doorLaid Tryz.prog 400 os).forCall (fun _ _ => 0) ⟨#[], args, []⟩).memory :=
  laidMetH_of_parts3 (fuel := 8) (laidMet_of_run' 8 (by kernel_rfl) (by kernel_rfl)) (by kernel_rfl) (by kernel_rfl)
theorem okw5 (os : Os) : Input.okWideB Tryz.prog ((World.doorLaid Tryz.prog 400 os).forCall (fun _ _ => 0) ⟨#[], zargs5, []⟩) 5 ⟨#[], zargs5, []⟩ = true := by kernel_rfl
theorem reads5 (os : Os) {H : Type} (enc : TypeId × Value → H) : (DataW.whole enc Tryz.prog ((World.doorLaid Tryz.prog 400 os).forCall (fun _ _ => 0) ⟨#[], zargs5, []⟩).memory Tryz.f5.params.toList Rows.backOthersSpec.vars false zargs5.toList 8).isSome = true := by kernel_rfl

set_option maxRecDepth 100000 in
theorem backOthersUpto_lifted (os : Os) (started : os.Started) (H : Type) (enc : TypeId × Value → H) (F : Stop.Interp) :
    ReturnsInHanded {} Tryz.checked os 5 .any ((Rows.OpenSpec.upto Rows.backOthersSpec).preRow enc Tryz.prog Tryz.f5 [] false Rows.backOthersUptoRow.laid) (((Rows.OpenSpec.upto Rows.backOthersSpec).at F).post enc Tryz.prog Tryz.f5 false true false false) := by
  refine law_laid_upto (C := Tryz.checked) (s := Rows.backOthersSpec) os started 8 H enc (G := GL) (small := Rows.uptoSmall) (B := 1048576) F (bulk5 H) (fun ds h d hd => Nat.le_trans (part_le5 hd) (of_decide_eq_true h)) own5 laidOut5 (by kernel_rfl) Tryz.func5
    ⟨World.doorLaid Tryz.prog 400 os, fun _ _ => 0, ⟨#[], zargs5, []⟩, rfl, World.shaped_of_RefB (by kernel_rfl) (by kernel_rfl), (Input.okWide_of_okWideB (base := 0) (okw5 os)).1, (Input.okWide_of_okWideB (okw5 os)).2,
      OpenSpec.preRow_of_cond 8 (x := (DataW.whole enc Tryz.prog ((World.doorLaid Tryz.prog 400 os).forCall (fun _ _ => 0) ⟨#[], zargs5, []⟩).memory Tryz.f5.params.toList Rows.backOthersSpec.vars false zargs5.toList 8).get (reads5 os enc)) (Option.some_get (reads5 os enc)).symm rfl (fun k hk => by cases hk; kernel_rfl) (by kernel_rfl) (door_met5 os _), by
        simp only [Assume.holds]
        exact ⟨by simp, by simp, fun _ => Modest.zero, by simp, by simp⟩⟩
    rfl rfl (by kernel_rfl) (by kernel_rfl) (fun ds h => ?_) (fun w h => globOk_of_laid 8 (by kernel_rfl) (by kernel_rfl) h) (fun avs h hb => law5 h hb)
  have h : ds.length = 4 := h
  match ds, h with
  | [a, b, c, d], _ => exact ⟨rfl, rfl, rfl⟩

theorem backOthersUpto_said : Rows.BackOthersUptoSaid :=
  OpenClaim.holds_of_cond 5 Tryz.f5 rfl rfl rfl rfl rfl rfl rfl ⟨rfl, rfl, rfl, rfl, rfl⟩ rfl rfl rfl rfl rfl (by kernel_rfl) Tryz.func5 (by kernel_rfl)
    (of_decide_eq_true (by kernel_rfl)) (by unfold Func.isWrapper; first | (rw [if_pos (by decide +kernel)]; kernel_rfl) | (rw [if_neg (by decide +kernel)]; exact ⟨rfl, rfl⟩))
    (fun os started H enc _ F => by rw [OpenClaim.pre_eq_preRow]; exact backOthersUpto_lifted os started H enc F)

theorem backOthersUpto_holds : Rows.BackOthersUptoCardSaid :=
  Claim7.holds_tied_plain_at .later [] [.data, .data, .data, .data] true _ false
    backOthersUpto_said (fun _ h => by cases h) (by kernel_rfl) (fun _ h => by cases h) backOthersUpto_row_tie rfl ⟨rfl, rfl⟩ (by kernel_rfl) rfl
    (fun f fn hf hfn => by
      obtain rfl : f = 5 := Option.some.inj ((show Tryz.prog.funcNamed Rows.backOthersUptoRow.func = some 5 by kernel_rfl).symm.trans hf) |>.symm
      obtain rfl : fn = Tryz.f5 := (Option.some.inj (Tryz.func5.symm.trans hfn)).symm
      exact ⟨by kernel_rfl, fun j t ht => by
        have hm : t ∈ Tryz.f5.params.toList := by simpa using Array.mem_of_getElem? ht
        have hall : (Tryz.f5.params.toList.all fun u => !Tryz.prog.wantsStandIn u) = true := by kernel_rfl
        exact (show Tryz.prog.wantsStandIn t = false by simpa using List.all_eq_true.1 hall t hm)⟩)
    (by kernel_rfl)
end Go.Proofs.YtkcpgfjlmicnnaaGreatDoor
