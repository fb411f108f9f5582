/-
  DERIVED. GIVEN WITH THE SEED: THE PROGRAM's TIES (one call each: nine closed facts by the kernel) AND EACH ROW's TIE, after the 31st guide's Derived/Test/Toyas{Tie, Card}.lean. No idea stands in it: it is a product of the set-up. Laid BY PROGRAM, IN A SANDBOX (cutbox-door.mjs). By AI agents, Wed Nov 11 2026. No macro, syntax, notation, axiom, sorry.
-/
import Derived.Test.YtkcpgfjlmicnnaaDoorRows
import Derived.LaidByTextLater
import Derived.SevenTiedAt
import Derived.LaidSub
import Derived.LaidOnce
namespace Go.Proofs.YtkcpgfjlmicnnaaDoor
open Go
set_option maxRecDepth 100000
theorem seatTie1 : Tryd.prog.laidByTextLater [("lockbar/port.kinds", Rows.laid_lockbar_port_kinds), ("lockbar/tick.tops", Rows.laid_lockbar_tick_tops), ("lockbar/join.end", Rows.laid_lockbar_join_end), ("lockbar/beyond.end", Rows.laid_lockbar_beyond_end)] [.data, .data, .data, .data] true :=
  Program.laidByTextLater_by_one 40 8 29 (by kernel_rfl) (by kernel_rfl) (by kernel_rfl) (by kernel_rfl) (by kernel_rfl) (by kernel_rfl) (fun _ _ => by kernel_rfl)
theorem noOwnUnsafe : Tryd.pinned.checked.prog.headLifts.contains "ownunsafe" = false := by kernel_rfl
theorem tie : Tryd.prog.laidByTextLater [("lockbar/port.kinds", Rows.laid_lockbar_port_kinds), ("lockbar/tick.tops", Rows.laid_lockbar_tick_tops), ("lockbar/join.end", Rows.laid_lockbar_join_end), ("lockbar/beyond.end", Rows.laid_lockbar_beyond_end)] [.data, .data, .data, .data] true :=
  Program.laidByTextLater.sub seatTie1 ["lockbar/port.kinds", "lockbar/tick.tops", "lockbar/join.end", "lockbar/beyond.end"] (by kernel_rfl) (by kernel_rfl)
theorem backRuns_row_tie : Rows.backRunsRow.laidByTextAt .later Tryd.pinned [.data, .data, .data, .data] true :=
  OpenClaim.laidByTextAt_later rfl rfl tie noOwnUnsafe
theorem backRunsUpto_row_tie : Rows.backRunsUptoRow.laidByTextAt .later Tryd.pinned [.data, .data, .data, .data] true :=
  OpenClaim.laidByTextAt_later rfl rfl tie noOwnUnsafe
end Go.Proofs.YtkcpgfjlmicnnaaDoor
