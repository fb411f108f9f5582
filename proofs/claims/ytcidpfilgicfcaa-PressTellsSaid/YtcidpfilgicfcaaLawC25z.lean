/- New desks, which may be, what presses do, one and all, ticks, the same: PressTells answers true, and its arguments read as they did. Conditions: none; for every input. -/
import Derived.Test.YtcidpfilgicfcaaCh7
import Derived.Test.YtcidpfilgicfcaaRows
import Derived.ProofKit
set_option linter.unusedSimpArgs false
set_option linter.unusedVariables false
namespace Go.Lb.C25
open Go Go.Lb Go.Proofs Go.RowKit

theorem args3 : argsS Try.prog 8 Try.f3.params.toList = [(true, layT), (true, deskT), (true, deskT), (false, .sl true prT)] := by kernel_rfl

theorem law3 {avs : List AV} (h : TyArgs Try.prog 8 Try.f3.params.toList avs) : C 3 avs (.bool true) := by
  have h := TyArgs_fits _ _ h
  rw [args3] at h
  obtain ⟨x0, q, rfl, h0a, h0b, x1, q, rfl, h1a, h1b, x2, q, rfl, h2a, h2b, x3, q, rfl, h3a, h3b, rfl⟩ := h
  obtain ⟨l, rfl, hl⟩ := lay_arg h0a h0b
  obtain ⟨d, rfl, hd, _⟩ := desk_arg h1a h1b
  obtain ⟨o, rfl, ho, _⟩ := desk_arg h2a h2b
  obtain ⟨ps, rfl⟩ := prs_arg h3a h3b
  exact c3 l hl d o hd.1 ps
end Go.Lb.C25

namespace Go.Proofs.Ytcidpfilgicfcaa
open Go.ChangeShapes Go.WideShapes Go.ChangeAt Go.RowKit Go.Lb Go.Lb.C25

set_option maxRecDepth 100000 in
theorem pressTells_lifted (os : Os) (started : os.Started) (H : Type) (enc : TypeId × Value → H) :
    ReturnsInHanded {} Try.checked os 3 .any (Rows.pressTellsSpec.pre6 enc Try.prog Try.f3 [] false) (Rows.pressTellsSpec.post enc Try.prog Try.f3 false true false false) := by
  refine law_lifted os started 8 H enc own laidOut (by kernel_rfl) Try.func3
    (ChangeSpec.witness6 (enc := enc) (C := Try.checked) false ⟨#[], #[.agg #[.slice none 0 0, .slice none 0 0, .slice none 0 0, .slice none 0 0, .int .i64 0, .int .i64 0, .int .i64 0, .int .i64 0, .int .i64 0, .int .i64 0, .int .i64 0],
      .agg #[.int .i64 0, .slice none 0 0, .int .i64 0, .int .u8 0, .int .i64 0],
      .agg #[.int .i64 0, .slice none 0 0, .int .i64 0, .int .u8 0, .int .i64 0],
      .slice none 0 0], []⟩ 8 (by kernel_rfl) (by kernel_rfl) (by kernel_rfl) (by kernel_rfl))
    rfl rfl (by kernel_rfl) (by kernel_rfl) (fun ds h => ?_) (fun avs h => law3 h)
  have h : ds.length = 4 := h
  match ds, h with
  | [a, b, c, d], _ => exact ⟨rfl, rfl, rfl⟩

theorem pressTells_holds : Rows.PressTellsSaid :=
  OpenClaim.holds_of_wide 3 Try.f3 rfl rfl rfl rfl rfl rfl rfl ⟨rfl, rfl, rfl, rfl, rfl⟩ rfl rfl rfl rfl rfl (by kernel_rfl) Try.func3 (by kernel_rfl)
    (of_decide_eq_true (by kernel_rfl)) (by unfold Func.isWrapper; first | (rw [if_pos (by decide +kernel)]; kernel_rfl) | (rw [if_neg (by decide +kernel)]; exact ⟨rfl, rfl⟩))
    (fun os started H enc _ => pressTells_lifted os started H enc)
end Go.Proofs.Ytcidpfilgicfcaa
