/- A desk at which nothing happens is late behind as many ticks as its timer tells: PressLate answers true, and its arguments read as they did. Conditions: none; for every input. -/
import Derived.Test.YtcidpfilgicfcaaCh8
import Derived.Test.YtcidpfilgicfcaaCh7
import Derived.Test.YtcidpfilgicfcaaRows
import Derived.ProofKit
set_option linter.unusedSimpArgs false
set_option linter.unusedVariables false
namespace Go.Lb.C25
open Go Go.Lb Go.Proofs Go.RowKit

theorem args6 : argsS Try.prog 8 Try.f6.params.toList = [(true, layT), (true, deskT)] := by kernel_rfl

theorem law6 {avs : List AV} (h : TyArgs Try.prog 8 Try.f6.params.toList avs) : C 6 avs (.bool true) := by
  have h := TyArgs_fits _ _ h
  rw [args6] at h
  obtain ⟨x0, q, rfl, h0a, h0b, x1, q, rfl, h1a, h1b, rfl⟩ := h
  obtain ⟨l, rfl, hl⟩ := lay_arg h0a h0b
  obtain ⟨d, rfl, hd, _⟩ := desk_arg h1a h1b
  exact c6 l hl d
end Go.Lb.C25

namespace Go.Proofs.Ytcidpfilgicfcaa
open Go.ChangeShapes Go.WideShapes Go.ChangeAt Go.RowKit Go.Lb Go.Lb.C25

set_option maxRecDepth 100000 in
theorem pressLate_lifted (os : Os) (started : os.Started) (H : Type) (enc : TypeId × Value → H) :
    ReturnsInHanded {} Try.checked os 6 .any (Rows.pressLateSpec.pre6 enc Try.prog Try.f6 [] false) (Rows.pressLateSpec.post enc Try.prog Try.f6 false true false false) := by
  refine law_lifted os started 8 H enc own laidOut (by kernel_rfl) Try.func6
    (ChangeSpec.witness6 (enc := enc) (C := Try.checked) false ⟨#[], #[.agg #[.slice none 0 0, .slice none 0 0, .slice none 0 0, .slice none 0 0, .int .i64 0, .int .i64 0, .int .i64 0, .int .i64 0, .int .i64 0, .int .i64 0, .int .i64 0],
      .agg #[.int .i64 0, .slice none 0 0, .int .i64 0, .int .u8 0, .int .i64 0]], []⟩ 8 (by kernel_rfl) (by kernel_rfl) (by kernel_rfl) (by kernel_rfl))
    rfl rfl (by kernel_rfl) (by kernel_rfl) (fun ds h => ?_) (fun avs h => law6 h)
  have h : ds.length = 2 := h
  match ds, h with
  | [a, b], _ => exact ⟨rfl, rfl, rfl⟩

theorem pressLate_holds : Rows.PressLateSaid :=
  OpenClaim.holds_of_wide 6 Try.f6 rfl rfl rfl rfl rfl rfl rfl ⟨rfl, rfl, rfl, rfl, rfl⟩ rfl rfl rfl rfl rfl (by kernel_rfl) Try.func6 (by kernel_rfl)
    (of_decide_eq_true (by kernel_rfl)) (by unfold Func.isWrapper; first | (rw [if_pos (by decide +kernel)]; kernel_rfl) | (rw [if_neg (by decide +kernel)]; exact ⟨rfl, rfl⟩))
    (fun os started H enc _ => pressLate_lifted os started H enc)
end Go.Proofs.Ytcidpfilgicfcaa
