/- A tick of a route in another stage, or with an image that is stale, changes nothing; of one in HtBack, in which no train is told, Timer alone; with one it runs: BackStill answers true, and its arguments read as they did, where the package variables it reads read as the program's text lays them. Conditions: none; for every input. -/
import Derived.Test.YtkcpgfjlmicnnaaGreatDoorCh8
import Derived.Test.YtkcpgfjlmicnnaaGreatDoorCh6
import Derived.Test.YtkcpgfjlmicnnaaGreatDoorRows
import Derived.Test.YtkcpgfjlmicnnaaGreatDoorTie
import Derived.Test.YtkcpgfjlmicnnaaGreatDoorCards
import Derived.ProofKit
import Derived.LaidMore
import Derived.OpenShut
import Derived.Stop.Joined
import Derived.SevenTiedAt
set_option linter.unusedSimpArgs false
set_option linter.unusedVariables false
namespace Go.Lb.LK
open Go Go.Lb Go.Proofs Go.RowKit

theorem args6 : argsS Tryz.prog 8 Tryz.f6.params.toList = [(true, layT), (true, imgT), (true, heldT)] := by kernel_rfl
theorem law6 {avs : List AV} (h : TyArgs Tryz.prog 8 Tryz.f6.params.toList avs) : C 6 avs (.bool true) := by
  have h := TyArgs_fits _ _ h
  rw [args6] at h
  obtain ⟨x0, q, rfl, h0a, h0b, x1, q, rfl, h1a, h1b, x2, q, rfl, h2a, h2b, rfl⟩ := h
  obtain ⟨l, rfl, hl⟩ := lay_arg h0a h0b
  obtain ⟨im, rfl, him⟩ := img_arg h1a h1b
  obtain ⟨hd, rfl, hhd⟩ := held_arg h2a h2b
  exact c_BackStill l im him hd
end Go.Lb.LK

namespace Go.Proofs.YtkcpgfjlmicnnaaGreatDoor
open Go Go.ChangeShapes Go.WideShapes Go.ChangeAt Go.RowKit Go.Lb Go.Lb.LK

theorem own6 : ownKnob Tryz.prog.godebug = none := by kernel_rfl
theorem laidOut6 : laidOutB Tryz.prog = true := by kernel_rfl
theorem door_met6 (os : Os) (args : Array Value) : laidMetH Tryz.prog Rows.backStillRow.laid ((World.doorLaid Tryz.prog 400 os).forCall (fun _ _ => 0) ⟨#[], args, []⟩).memory :=
  laidMetH_of_parts3 (fuel := 8) (laidMet_of_run' 8 (by kernel_rfl) (by kernel_rfl)) (by kernel_rfl) (by kernel_rfl)

set_option maxRecDepth 100000 in
theorem backStill_lifted (os : Os) (started : os.Started) (H : Type) (enc : TypeId × Value → H) :
    ReturnsInHanded {} Tryz.checked os 6 .any (fun w args => (Rows.backStillSpec.pre enc Tryz.prog Tryz.f6 [] false w args ∧ laidMetH Tryz.prog Rows.backStillRow.laid w) ∧ sizedMet enc Tryz.prog Tryz.f6 (OpenSpec.ofChange Rows.backStillSpec) false w args)
      (Rows.backStillSpec.post enc Tryz.prog Tryz.f6 false true false false) := by
  refine law_laid (C := Tryz.checked) os started 8 H enc (G := GL) (by kernel_rfl) own6 laidOut6 (by kernel_rfl) Tryz.func6
    (ChangeSpec.witness_shaped (enc := enc) (C := Tryz.checked) (os := os) (X := fun w _ => laidMetH Tryz.prog Rows.backStillRow.laid w) false (World.doorLaid Tryz.prog 400 os) #[.agg #[.slice none 0 0, .slice none 0 0, .slice none 0 0, .slice none 0 0, .int .i64 0, .int .i64 0, .int .i64 0, .int .i64 0, .int .i64 0, .int .i64 0, .int .i64 0], .agg #[.int .i64 0, .int .i64 0, .int .i64 0, .int .i64 0, .int .i64 0, .int .i64 0, .int .i64 0, .int .i64 0, .int .i64 0, .int .i64 0, .int .i64 0, .int .i64 0, .int .i64 0, .int .i64 0, .int .i64 0, .int .i64 0, .int .i64 0, .int .i64 0, .int .i64 0, .int .i64 0, .int .i64 0, .int .i64 0, .int .i64 0, .int .i64 0, .int .i64 0, .int .u32 0, .int .u32 0, .int .u32 0, .int .u32 0], .agg #[.int .i64 0, .int .i64 0, .int .i64 0, .slice none 0 0, .slice none 0 0, .slice none 0 0, .int .u8 0, .int .i64 0, .bool false, .bool false, .bool false, .bool false, .bool false, .bool false, .bool false, .bool false, .bool false, .bool false, .bool false, .bool false, .bool false, .int .i64 0, .bool false]] 8 rfl (World.shaped_of_RefB (by kernel_rfl) (by kernel_rfl)) (by kernel_rfl) (by kernel_rfl) (by kernel_rfl) (door_met6 os _))
    rfl rfl (by kernel_rfl) (by kernel_rfl) (fun ds h => ?_) (fun w h => globOk_of_laid 8 (by kernel_rfl) (by kernel_rfl) h) (fun avs h => law6 h)
  have h : ds.length = 3 := h
  match ds, h with
  | [a, b, c], _ => exact ⟨rfl, rfl, rfl⟩

theorem backStill_said : Rows.BackStillSaid :=
  OpenClaim.holds_of_wide 6 Tryz.f6 rfl rfl rfl rfl rfl rfl rfl ⟨rfl, rfl, rfl, rfl, rfl⟩ rfl rfl rfl rfl rfl (by kernel_rfl) Tryz.func6 (by kernel_rfl)
    (of_decide_eq_true (by kernel_rfl)) (by unfold Func.isWrapper; first | (rw [if_pos (by decide +kernel)]; kernel_rfl) | (rw [if_neg (by decide +kernel)]; exact ⟨rfl, rfl⟩))
    (fun os started H enc _ => backStill_lifted os started H enc)

theorem backStill_holds : Rows.BackStillCardSaid :=
  Claim7.holds_tied_plain_at .later [] [.data, .data, .data, .data] true _ false
    backStill_said (fun _ h => by cases h) (by kernel_rfl) (fun _ h => by cases h) backStill_row_tie rfl ⟨rfl, rfl⟩ (by kernel_rfl) rfl
    (fun f fn hf hfn => by
      obtain rfl : f = 6 := Option.some.inj ((show Tryz.prog.funcNamed Rows.backStillRow.func = some 6 by kernel_rfl).symm.trans hf) |>.symm
      obtain rfl : fn = Tryz.f6 := (Option.some.inj (Tryz.func6.symm.trans hfn)).symm
      exact ⟨by kernel_rfl, fun j t ht => by
        have hm : t ∈ Tryz.f6.params.toList := by simpa using Array.mem_of_getElem? ht
        have hall : (Tryz.f6.params.toList.all fun u => !Tryz.prog.wantsStandIn u) = true := by kernel_rfl
        exact (show Tryz.prog.wantsStandIn t = false by simpa using List.all_eq_true.1 hall t hm)⟩)
    (by kernel_rfl)
end Go.Proofs.YtkcpgfjlmicnnaaGreatDoor
