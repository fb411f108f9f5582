/- A cancel, an auto, and then an entrance are for that signal, once: PressModes answers true, and its arguments read as they did. Conditions: none; for every input. -/
import Derived.Test.YtcidpfilgicfcaaCh9
import Derived.Test.YtcidpfilgicfcaaCh7
import Derived.Test.YtcidpfilgicfcaaRows
import Derived.ProofKit
set_option linter.unusedSimpArgs false
set_option linter.unusedVariables false
namespace Go.Lb.C25
open Go Go.Lb Go.Proofs Go.RowKit

theorem args7 : argsS Try.prog 8 Try.f7.params.toList = [(true, layT), (true, deskT), (false, iT), (false, iT), (false, iT), (false, .bool)] := by kernel_rfl

theorem law7 {avs : List AV} (h : TyArgs Try.prog 8 Try.f7.params.toList avs) : C 7 avs (.bool true) := by
  have h := TyArgs_fits _ _ h
  rw [args7] at h
  obtain ⟨x0, q, rfl, h0a, h0b, x1, q, rfl, h1a, h1b, x2, q, rfl, h2a, h2b, x3, q, rfl, h3a, h3b, x4, q, rfl, h4a, h4b, x5, q, rfl, h5a, h5b, rfl⟩ := h
  obtain ⟨l, rfl, hl⟩ := lay_arg h0a h0b
  obtain ⟨d, rfl, hd, _⟩ := desk_arg h1a h1b
  obtain ⟨s, rfl⟩ := int_arg h2a h2b
  obtain ⟨p, rfl⟩ := int_arg h3a h3b
  obtain ⟨pos, rfl⟩ := int_arg h4a h4b
  obtain ⟨can, rfl⟩ := bool_arg h5a h5b
  exact c7 l hl d s p pos can
end Go.Lb.C25

namespace Go.Proofs.Ytcidpfilgicfcaa
open Go.ChangeShapes Go.WideShapes Go.ChangeAt Go.RowKit Go.Lb Go.Lb.C25

set_option maxRecDepth 100000 in
theorem pressModes_lifted (os : Os) (started : os.Started) (H : Type) (enc : TypeId × Value → H) :
    ReturnsInHanded {} Try.checked os 7 .any (Rows.pressModesSpec.pre6 enc Try.prog Try.f7 [] false) (Rows.pressModesSpec.post enc Try.prog Try.f7 false true false false) := by
  refine law_lifted os started 8 H enc own laidOut (by kernel_rfl) Try.func7
    (ChangeSpec.witness6 (enc := enc) (C := Try.checked) false ⟨#[], #[.agg #[.slice none 0 0, .slice none 0 0, .slice none 0 0, .slice none 0 0, .int .i64 0, .int .i64 0, .int .i64 0, .int .i64 0, .int .i64 0, .int .i64 0, .int .i64 0],
      .agg #[.int .i64 0, .slice none 0 0, .int .i64 0, .int .u8 0, .int .i64 0],
      .int .i64 0,
      .int .i64 0,
      .int .i64 0,
      .bool false], []⟩ 8 (by kernel_rfl) (by kernel_rfl) (by kernel_rfl) (by kernel_rfl))
    rfl rfl (by kernel_rfl) (by kernel_rfl) (fun ds h => ?_) (fun avs h => law7 h)
  have h : ds.length = 6 := h
  match ds, h with
  | [a, b, c, d, e, f], _ => exact ⟨rfl, rfl, rfl⟩

theorem pressModes_holds : Rows.PressModesSaid :=
  OpenClaim.holds_of_wide 7 Try.f7 rfl rfl rfl rfl rfl rfl rfl ⟨rfl, rfl, rfl, rfl, rfl⟩ rfl rfl rfl rfl rfl (by kernel_rfl) Try.func7 (by kernel_rfl)
    (of_decide_eq_true (by kernel_rfl)) (by unfold Func.isWrapper; first | (rw [if_pos (by decide +kernel)]; kernel_rfl) | (rw [if_neg (by decide +kernel)]; exact ⟨rfl, rfl⟩))
    (fun os started H enc _ => pressModes_lifted os started H enc)
end Go.Proofs.Ytcidpfilgicfcaa
