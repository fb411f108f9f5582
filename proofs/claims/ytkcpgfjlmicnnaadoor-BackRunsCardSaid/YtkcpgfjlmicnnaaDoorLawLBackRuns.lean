/- A route that runs is timed just if no train is in it; one that was cancelled already stays so; one that was never shown, or is called, is gone at once: BackRuns answers true, and its arguments read as they did, where the package variables it reads read as the program's text lays them. Conditions: none; for every input. -/
import Derived.Test.YtkcpgfjlmicnnaaDoorCh6
import Derived.Test.YtkcpgfjlmicnnaaDoorCh4
import Derived.Test.YtkcpgfjlmicnnaaDoorRows
import Derived.Test.YtkcpgfjlmicnnaaDoorTie
import Derived.Test.YtkcpgfjlmicnnaaDoorCards
import Derived.ProofKit
import Derived.LaidMore
import Derived.OpenShut
import Derived.Stop.Joined
import Derived.SevenTiedAt
set_option linter.unusedSimpArgs false
set_option linter.unusedVariables false
namespace Go.Lb.LK
open Go Go.Lb Go.Proofs Go.RowKit

theorem args3 : argsS Tryd.prog 8 Tryd.f3.params.toList = [(true, layT), (true, imgT), (true, heldT)] := by kernel_rfl
theorem law3 {avs : List AV} (h : TyArgs Tryd.prog 8 Tryd.f3.params.toList avs) : C 3 avs (.bool true) := by
  have h := TyArgs_fits _ _ h
  rw [args3] at h
  obtain ⟨x0, q, rfl, h0a, h0b, x1, q, rfl, h1a, h1b, x2, q, rfl, h2a, h2b, rfl⟩ := h
  obtain ⟨l, rfl, hl⟩ := lay_arg h0a h0b
  obtain ⟨im, rfl, him⟩ := img_arg h1a h1b
  obtain ⟨hd, rfl, hhd⟩ := held_arg h2a h2b
  exact c_BackRuns l hl im him hd
end Go.Lb.LK

namespace Go.Proofs.YtkcpgfjlmicnnaaDoor
open Go Go.ChangeShapes Go.WideShapes Go.ChangeAt Go.RowKit Go.Lb Go.Lb.LK

theorem own3 : ownKnob Tryd.prog.godebug = none := by kernel_rfl
theorem laidOut3 : laidOutB Tryd.prog = true := by kernel_rfl
theorem door_met3 (os : Os) (args : Array Value) : laidMetH Tryd.prog Rows.backRunsRow.laid ((World.doorLaid Tryd.prog 400 os).forCall (fun _ _ => 0) ⟨#[], args, []⟩).memory :=
  laidMetH_of_parts3 (fuel := 8) (laidMet_of_run' 8 (by kernel_rfl) (by kernel_rfl)) (by kernel_rfl) (by kernel_rfl)

set_option maxRecDepth 100000 in
theorem backRuns_lifted (os : Os) (started : os.Started) (H : Type) (enc : TypeId × Value → H) :
    ReturnsInHanded {} Tryd.checked os 3 .any (fun w args => (Rows.backRunsSpec.pre enc Tryd.prog Tryd.f3 [] false w args ∧ laidMetH Tryd.prog Rows.backRunsRow.laid w) ∧ sizedMet enc Tryd.prog Tryd.f3 (OpenSpec.ofChange Rows.backRunsSpec) false w args)
      (Rows.backRunsSpec.post enc Tryd.prog Tryd.f3 false true false false) := by
  refine law_laid (C := Tryd.checked) os started 8 H enc (G := GL) (by kernel_rfl) own3 laidOut3 (by kernel_rfl) Tryd.func3
    (ChangeSpec.witness_shaped (enc := enc) (C := Tryd.checked) (os := os) (X := fun w _ => laidMetH Tryd.prog Rows.backRunsRow.laid w) false (World.doorLaid Tryd.prog 400 os) #[.agg #[.slice none 0 0, .slice none 0 0, .slice none 0 0, .slice none 0 0, .int .i64 0, .int .i64 0, .int .i64 0, .int .i64 0, .int .i64 0, .int .i64 0, .int .i64 0], .agg #[.int .i64 0, .int .i64 0, .int .i64 0, .int .i64 0, .int .i64 0, .int .i64 0, .int .i64 0, .int .i64 0, .int .i64 0, .int .i64 0, .int .i64 0, .int .i64 0, .int .i64 0, .int .i64 0, .int .i64 0, .int .i64 0, .int .i64 0, .int .i64 0, .int .i64 0, .int .i64 0, .int .i64 0, .int .i64 0, .int .i64 0, .int .i64 0, .int .i64 0, .int .u32 0, .int .u32 0, .int .u32 0, .int .u32 0], .agg #[.int .i64 0, .int .i64 0, .int .i64 0, .slice none 0 0, .slice none 0 0, .slice none 0 0, .int .u8 0, .int .i64 0, .bool false, .bool false, .bool false, .bool false, .bool false, .bool false, .bool false, .bool false, .bool false, .bool false, .bool false, .bool false, .bool false, .int .i64 0, .bool false]] 8 rfl (World.shaped_of_RefB (by kernel_rfl) (by kernel_rfl)) (by kernel_rfl) (by kernel_rfl) (by kernel_rfl) (door_met3 os _))
    rfl rfl (by kernel_rfl) (by kernel_rfl) (fun ds h => ?_) (fun w h => globOk_of_laid 8 (by kernel_rfl) (by kernel_rfl) h) (fun avs h => law3 h)
  have h : ds.length = 3 := h
  match ds, h with
  | [a, b, c], _ => exact ⟨rfl, rfl, rfl⟩

theorem backRuns_said : Rows.BackRunsSaid :=
  OpenClaim.holds_of_wide 3 Tryd.f3 rfl rfl rfl rfl rfl rfl rfl ⟨rfl, rfl, rfl, rfl, rfl⟩ rfl rfl rfl rfl rfl (by kernel_rfl) Tryd.func3 (by kernel_rfl)
    (of_decide_eq_true (by kernel_rfl)) (by unfold Func.isWrapper; first | (rw [if_pos (by decide +kernel)]; kernel_rfl) | (rw [if_neg (by decide +kernel)]; exact ⟨rfl, rfl⟩))
    (fun os started H enc _ => backRuns_lifted os started H enc)

theorem backRuns_holds : Rows.BackRunsCardSaid :=
  Claim7.holds_tied_plain_at .later [] [.data, .data, .data, .data] true _ false
    backRuns_said (fun _ h => by cases h) (by kernel_rfl) (fun _ h => by cases h) backRuns_row_tie rfl ⟨rfl, rfl⟩ (by kernel_rfl) rfl
    (fun f fn hf hfn => by
      obtain rfl : f = 3 := Option.some.inj ((show Tryd.prog.funcNamed Rows.backRunsRow.func = some 3 by kernel_rfl).symm.trans hf) |>.symm
      obtain rfl : fn = Tryd.f3 := (Option.some.inj (Tryd.func3.symm.trans hfn)).symm
      exact ⟨by kernel_rfl, fun j t ht => by
        have hm : t ∈ Tryd.f3.params.toList := by simpa using Array.mem_of_getElem? ht
        have hall : (Tryd.f3.params.toList.all fun u => !Tryd.prog.wantsStandIn u) = true := by kernel_rfl
        exact (show Tryd.prog.wantsStandIn t = false by simpa using List.all_eq_true.1 hall t hm)⟩)
    (by kernel_rfl)
end Go.Proofs.YtkcpgfjlmicnnaaDoor
