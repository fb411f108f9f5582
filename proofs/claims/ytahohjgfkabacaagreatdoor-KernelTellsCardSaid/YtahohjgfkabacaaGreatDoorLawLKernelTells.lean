/- Kernels behind a tick, and who failed; keys; what is driven; what is safe: as the document has it: KernelTells answers true, and its arguments read as they did, where the package variables it reads read as the program's text lays them. Conditions: none; for every input. -/
import Derived.Test.YtahohjgfkabacaaGreatDoorCh11
import Derived.Test.YtahohjgfkabacaaGreatDoorCh6
import Derived.Test.YtahohjgfkabacaaGreatDoorRows
import Derived.Test.YtahohjgfkabacaaGreatDoorTie
import Derived.Test.YtahohjgfkabacaaGreatDoorCards
import Derived.ProofKit
import Derived.LaidMore
import Derived.OpenShut
import Derived.Stop.Joined
import Derived.SevenTiedAt
set_option linter.unusedSimpArgs false
set_option linter.unusedVariables false
namespace Go.Lb.LK
open Go Go.Lb Go.Proofs Go.RowKit
theorem args3 : zqG Tryz.prog 8 Tryz.f3.params.toList = [(true, layT), (true, imgT), (true, zot), (false, iT), (false, iT)] := by kernel_rfl
theorem law3 {avs : List AV} (h : zio Tryz.prog 8 Tryz.f3.params.toList avs) : C 3 avs (.bool true) := by
 have h := zd0 _ _ h
 rw [args3] at h
 obtain ⟨x0, q, rfl, h0a, h0b, x1, q, rfl, h1a, h1b, x2, q, rfl, h2a, h2b, x3, q, rfl, h3a, h3b, x4, q, rfl, h4a, h4b, rfl⟩ := h
 obtain ⟨l, rfl, hl⟩ := zl3 h0a h0b
 obtain ⟨im, rfl, him⟩ := zl1 h1a h1b
 obtain ⟨k, rfl, hk⟩ := zkd h2a h2b
 obtain ⟨p, rfl⟩ := zml h3a h3b
 obtain ⟨pos, rfl, hpos⟩ := zj5 h4a h4b
 exact zj2 l im him k hk p pos hpos.1 hpos.2
end Go.Lb.LK
namespace Go.Proofs.YtahohjgfkabacaaGreatDoor
open Go Go.ChangeShapes Go.WideShapes Go.ChangeAt Go.RowKit Go.Lb Go.Lb.LK
theorem own3 : ownKnob Tryz.prog.godebug = none := by kernel_rfl
theorem zqr : laidOutB Tryz.prog = true := by kernel_rfl
theorem zp7 (os : Os) (args : Array Value) : laidMetH Tryz.prog Rows.kernelTellsRow.laid ((World.doorLaid Tryz.prog 400 os).forCall (fun _ _ => 0) ⟨#[], args, []⟩).memory :=
 laidMetH_of_parts3 (fuel := 8) (laidMet_of_run' 8 (by kernel_rfl) (by kernel_rfl)) (by kernel_rfl) (by kernel_rfl)
set_option maxRecDepth 100000 in
theorem kernelTells_lifted (os : Os) (started : os.Started) (H : Type) (enc : TypeId × Value → H) :
  ReturnsInHanded {} Tryz.checked os 3 .any (fun w args => (Rows.kernelTellsSpec.pre enc Tryz.prog Tryz.f3 [] false w args ∧ laidMetH Tryz.prog Rows.kernelTellsRow.laid w) ∧ sizedMet enc Tryz.prog Tryz.f3 (OpenSpec.ofChange Rows.kernelTellsSpec) false w args)
   (Rows.kernelTellsSpec.post enc Tryz.prog Tryz.f3 false true false false) := by
 refine zjY (C := Tryz.checked) os started 8 H enc (G := GL) (by kernel_rfl) own3 zqr (by kernel_rfl) Tryz.func3
  (ChangeSpec.witness_shaped (enc := enc) (C := Tryz.checked) (os := os) (X := fun w _ => laidMetH Tryz.prog Rows.kernelTellsRow.laid w) false (World.doorLaid Tryz.prog 400 os) #[.agg #[.slice none 0 0, .slice none 0 0, .slice none 0 0, .slice none 0 0, .int .i64 0, .int .i64 0, .int .i64 0, .int .i64 0, .int .i64 0, .int .i64 0, .int .i64 0], .agg #[.int .i64 0, .int .i64 0, .int .i64 0, .int .i64 0, .int .i64 0, .int .i64 0, .int .i64 0, .int .i64 0, .int .i64 0, .int .i64 0, .int .i64 0, .int .i64 0, .int .i64 0, .int .i64 0, .int .i64 0, .int .i64 0, .int .i64 0, .int .i64 0, .int .i64 0, .int .i64 0, .int .i64 0, .int .i64 0, .int .i64 0, .int .i64 0, .int .i64 0, .int .u32 0, .int .u32 0, .int .u32 0, .int .u32 0], .agg #[.int .i64 0, .slice none 0 0, .int .i64 0, .int .i64 0, .bool false, .int .i64 0, .int .i64 0, .bool false, .int .i64 0, .int .i64 0, .bool false, .int .i64 0, .int .i64 0, .bool false, .int .i64 0, .int .i64 0, .bool false, .int .i64 0, .int .i64 0, .bool false, .int .i64 0, .int .i64 0, .bool false, .int .i64 0, .int .i64 0, .bool false, .int .i64 0, .int .i64 0, .bool false, .int .i64 0, .int .i64 0, .bool false, .int .i64 0, .int .i64 0, .bool false, .int .i64 0, .int .i64 0, .bool false, .int .i64 0, .int .i64 0, .bool false, .int .i64 0, .int .i64 0, .bool false, .int .i64 0, .int .i64 0, .bool false, .int .i64 0, .int .i64 0, .bool false, .int .i64 0, .int .i64 0, .bool false, .int .i64 0, .int .i64 0, .bool false, .int .i64 0, .int .i64 0, .bool false, .int .i64 0, .int .i64 0, .bool false, .int .i64 0, .int .i64 0, .bool false, .int .i64 0, .int .i64 0, .bool false, .int .i64 0, .int .i64 0, .bool false, .int .i64 0, .int .i64 0, .bool false], .int .i64 0, .int .i64 0] 8 rfl (World.shaped_of_RefB (by kernel_rfl) (by kernel_rfl)) (by kernel_rfl) (by kernel_rfl) (by kernel_rfl) (zp7 os _))
  rfl rfl (by kernel_rfl) (by kernel_rfl) (fun ds h => ?_) (fun w h => zdv 8 (by kernel_rfl) (by kernel_rfl) h) (fun avs h => law3 h)
 have h : ds.length = 5 := h
 match ds, h with
 | [a, b, c, d, e], _ => exact ⟨rfl, rfl, rfl⟩
theorem kernelTells_said : Rows.KernelTellsSaid :=
 OpenClaim.holds_of_wide 3 Tryz.f3 rfl rfl rfl rfl rfl rfl rfl ⟨rfl, rfl, rfl, rfl, rfl⟩ rfl rfl rfl rfl rfl (by kernel_rfl) Tryz.func3 (by kernel_rfl)
  (of_decide_eq_true (by kernel_rfl)) (by unfold Func.isWrapper; first | (rw [if_pos (by decide +kernel)]; kernel_rfl) | (rw [if_neg (by decide +kernel)]; exact ⟨rfl, rfl⟩))
  (fun os started H enc _ => kernelTells_lifted os started H enc)
theorem kernelTells_holds : Rows.KernelTellsCardSaid :=
 Claim7.holds_tied_plain_at .later [] [.data] true _ false
  kernelTells_said (fun _ h => by cases h) (by kernel_rfl) (fun _ h => by cases h) kernelTells_row_tie rfl ⟨rfl, rfl⟩ (by kernel_rfl) rfl
  (fun f fn hf hfn => by
   obtain rfl : f = 3 := Option.some.inj ((show Tryz.prog.funcNamed Rows.kernelTellsRow.func = some 3 by kernel_rfl).symm.trans hf) |>.symm
   obtain rfl : fn = Tryz.f3 := (Option.some.inj (Tryz.func3.symm.trans hfn)).symm
   exact ⟨by kernel_rfl, fun j t ht => by
    have hm : t ∈ Tryz.f3.params.toList := by simpa using Array.mem_of_getElem? ht
    have hall : (Tryz.f3.params.toList.all fun u => !Tryz.prog.wantsStandIn u) = true := by kernel_rfl
    exact (show Tryz.prog.wantsStandIn t = false by simpa using List.all_eq_true.1 hall t hm)⟩)
  (by kernel_rfl)
end Go.Proofs.YtahohjgfkabacaaGreatDoor
