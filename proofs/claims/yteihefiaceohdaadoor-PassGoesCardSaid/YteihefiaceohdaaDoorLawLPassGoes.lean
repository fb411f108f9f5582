/- A train that is told in each section in order, the next one ahead of leaving the one, and of which each one reads clear behind it, releases all, in order, and behind that all is open: PassGoes answers true, and its arguments read as they did, where the package variables it reads read as the program's text lays them. Conditions: none; for every input. -/
import Derived.Test.YteihefiaceohdaaDoorCh9
import Derived.Test.YteihefiaceohdaaDoorRows
import Derived.Test.YteihefiaceohdaaDoorTie
import Derived.Test.YteihefiaceohdaaDoorCards
import Derived.ProofKit
import Derived.LaidMore
import Derived.OpenShut
import Derived.Stop.Joined
import Derived.SevenTiedAt
set_option linter.unusedSimpArgs false
set_option linter.unusedVariables false
namespace Go.Lb.LK
open Go Go.Lb Go.Proofs Go.RowKit

theorem args5 : argsS Tryd.prog 8 Tryd.f5.params.toList = [(false, iT), (false, iT)] := by kernel_rfl
theorem law5 {avs : List AV} (h : TyArgs Tryd.prog 8 Tryd.f5.params.toList avs) : C 5 avs (.bool true) := by
  have h := TyArgs_fits _ _ h
  rw [args5] at h
  obtain ⟨x0, q, rfl, h0a, h0b, x1, q, rfl, h1a, h1b, rfl⟩ := h
  obtain ⟨n, rfl⟩ := int_arg h0a h0b
  obtain ⟨c, rfl⟩ := int_arg h1a h1b
  exact c_PassGoes n c
end Go.Lb.LK

namespace Go.Proofs.YteihefiaceohdaaDoor
open Go Go.ChangeShapes Go.WideShapes Go.ChangeAt Go.RowKit Go.Lb Go.Lb.LK

theorem own5 : ownKnob Tryd.prog.godebug = none := by kernel_rfl
theorem laidOut5 : laidOutB Tryd.prog = true := by kernel_rfl
theorem door_met5 (os : Os) (args : Array Value) : laidMetH Tryd.prog Rows.passGoesRow.laid ((World.doorLaid Tryd.prog 400 os).forCall (fun _ _ => 0) ⟨#[], args, []⟩).memory :=
  laidMetH_of_parts3 (fuel := 8) (laidMet_of_run' 8 (by kernel_rfl) (by kernel_rfl)) (by kernel_rfl) (by kernel_rfl)

set_option maxRecDepth 100000 in
theorem passGoes_lifted (os : Os) (started : os.Started) (H : Type) (enc : TypeId × Value → H) :
    ReturnsInHanded {} Tryd.checked os 5 .any (fun w args => (Rows.passGoesSpec.pre enc Tryd.prog Tryd.f5 [] false w args ∧ laidMetH Tryd.prog Rows.passGoesRow.laid w) ∧ sizedMet enc Tryd.prog Tryd.f5 (OpenSpec.ofChange Rows.passGoesSpec) false w args)
      (Rows.passGoesSpec.post enc Tryd.prog Tryd.f5 false true false false) := by
  refine law_laid (C := Tryd.checked) os started 8 H enc (G := GL) (by kernel_rfl) own5 laidOut5 (by kernel_rfl) Tryd.func5
    (ChangeSpec.witness_shaped (enc := enc) (C := Tryd.checked) (os := os) (X := fun w _ => laidMetH Tryd.prog Rows.passGoesRow.laid w) false (World.doorLaid Tryd.prog 400 os) #[.int .i64 0, .int .i64 0] 8 rfl (World.shaped_of_RefB (by kernel_rfl) (by kernel_rfl)) (by kernel_rfl) (by kernel_rfl) (by kernel_rfl) (door_met5 os _))
    rfl rfl (by kernel_rfl) (by kernel_rfl) (fun ds h => ?_) (fun w h => globOk_of_laid 8 (by kernel_rfl) (by kernel_rfl) h) (fun avs h => law5 h)
  have h : ds.length = 2 := h
  match ds, h with
  | [a, b], _ => exact ⟨rfl, rfl, rfl⟩

theorem passGoes_said : Rows.PassGoesSaid :=
  OpenClaim.holds_of_wide 5 Tryd.f5 rfl rfl rfl rfl rfl rfl rfl ⟨rfl, rfl, rfl, rfl, rfl⟩ rfl rfl rfl rfl rfl (by kernel_rfl) Tryd.func5 (by kernel_rfl)
    (of_decide_eq_true (by kernel_rfl)) (by unfold Func.isWrapper; first | (rw [if_pos (by decide +kernel)]; kernel_rfl) | (rw [if_neg (by decide +kernel)]; exact ⟨rfl, rfl⟩))
    (fun os started H enc _ => passGoes_lifted os started H enc)

theorem passGoes_holds : Rows.PassGoesCardSaid :=
  Claim7.holds_tied_plain_at .later [] [.data] true _ false
    passGoes_said (fun _ h => by cases h) (by kernel_rfl) (fun _ h => by cases h) passGoes_row_tie rfl ⟨rfl, rfl⟩ (by kernel_rfl) rfl
    (fun f fn hf hfn => by
      obtain rfl : f = 5 := Option.some.inj ((show Tryd.prog.funcNamed Rows.passGoesRow.func = some 5 by kernel_rfl).symm.trans hf) |>.symm
      obtain rfl : fn = Tryd.f5 := (Option.some.inj (Tryd.func5.symm.trans hfn)).symm
      exact ⟨by kernel_rfl, fun j t ht => by
        have hm : t ∈ Tryd.f5.params.toList := by simpa using Array.mem_of_getElem? ht
        have hall : (Tryd.f5.params.toList.all fun u => !Tryd.prog.wantsStandIn u) = true := by kernel_rfl
        exact (show Tryd.prog.wantsStandIn t = false by simpa using List.all_eq_true.1 hall t hm)⟩)
    (by kernel_rfl)
end Go.Proofs.YteihefiaceohdaaDoor
