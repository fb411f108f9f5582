/- A request comes just of an entrance, then vias, then an exit: PressAsks answers true, and its arguments read as they did. Conditions: none; for every input. -/
import Derived.Test.YtcidpfilgicfcaaCh9
import Derived.Test.YtcidpfilgicfcaaCh7
import Derived.Test.YtcidpfilgicfcaaRows
import Derived.ProofKit
set_option linter.unusedSimpArgs false
set_option linter.unusedVariables false
namespace Go.Lb.C25
open Go Go.Lb Go.Proofs Go.RowKit

theorem args4 : argsS Try.prog 8 Try.f4.params.toList = [(true, layT), (false, .sl true prT)] := by kernel_rfl

theorem law4 {avs : List AV} (h : TyArgs Try.prog 8 Try.f4.params.toList avs) : C 4 avs (.bool true) := by
  have h := TyArgs_fits _ _ h
  rw [args4] at h
  obtain ⟨x0, q, rfl, h0a, h0b, x1, q, rfl, h1a, h1b, rfl⟩ := h
  obtain ⟨l, rfl, hl⟩ := lay_arg h0a h0b
  obtain ⟨ps, rfl⟩ := prs_arg h1a h1b
  exact c4 l hl ps
end Go.Lb.C25

namespace Go.Proofs.Ytcidpfilgicfcaa
open Go.ChangeShapes Go.WideShapes Go.ChangeAt Go.RowKit Go.Lb Go.Lb.C25

set_option maxRecDepth 100000 in
theorem pressAsks_lifted (os : Os) (started : os.Started) (H : Type) (enc : TypeId × Value → H) :
    ReturnsInHanded {} Try.checked os 4 .any (Rows.pressAsksSpec.pre6 enc Try.prog Try.f4 [] false) (Rows.pressAsksSpec.post enc Try.prog Try.f4 false true false false) := by
  refine law_lifted os started 8 H enc own laidOut (by kernel_rfl) Try.func4
    (ChangeSpec.witness6 (enc := enc) (C := Try.checked) false ⟨#[], #[.agg #[.slice none 0 0, .slice none 0 0, .slice none 0 0, .slice none 0 0, .int .i64 0, .int .i64 0, .int .i64 0, .int .i64 0, .int .i64 0, .int .i64 0, .int .i64 0],
      .slice none 0 0], []⟩ 8 (by kernel_rfl) (by kernel_rfl) (by kernel_rfl) (by kernel_rfl))
    rfl rfl (by kernel_rfl) (by kernel_rfl) (fun ds h => ?_) (fun avs h => law4 h)
  have h : ds.length = 2 := h
  match ds, h with
  | [a, b], _ => exact ⟨rfl, rfl, rfl⟩

theorem pressAsks_holds : Rows.PressAsksSaid :=
  OpenClaim.holds_of_wide 4 Try.f4 rfl rfl rfl rfl rfl rfl rfl ⟨rfl, rfl, rfl, rfl, rfl⟩ rfl rfl rfl rfl rfl (by kernel_rfl) Try.func4 (by kernel_rfl)
    (of_decide_eq_true (by kernel_rfl)) (by unfold Func.isWrapper; first | (rw [if_pos (by decide +kernel)]; kernel_rfl) | (rw [if_neg (by decide +kernel)]; exact ⟨rfl, rfl⟩))
    (fun os started H enc _ => pressAsks_lifted os started H enc)
end Go.Proofs.Ytcidpfilgicfcaa
