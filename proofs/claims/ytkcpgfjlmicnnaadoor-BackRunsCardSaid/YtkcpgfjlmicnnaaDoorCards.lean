/-
  DERIVED. GIVEN WITH THE SEED: THE CARDS: each row of YtkcpgfjlmicnnaaDoorRows.lean that lists a variable, with what it lists TIED to the program's text (the seventh form; the later family's looks); each row that meets fmt, with fmt's text TOLD by the authors' own Lean function (tested against real Go, not proved from fmt's source: count such statements apart). THE CARD IS WHAT COUNTS. Prove the row's statement (the work); the ties are given (YtkcpgfjlmicnnaaDoorTie.lean); close each card by the builder's one call (the guide's Derived/Test/ToyasCard.lean, 'card_holds'). Laid BY PROGRAM, IN A SANDBOX (cutbox-door.mjs). By AI agents, Wed Nov 11 2026. No macro, syntax, notation, axiom, sorry.
-/
import Derived.Test.YtkcpgfjlmicnnaaDoorRows
import GoSem.ClaimSeven
namespace Go.Proofs.YtkcpgfjlmicnnaaDoor
namespace Rows

/-- THE TIED CARD OF 'lockbarlaw22.BackRuns'. -/
def backRunsCard : Claim7 := { stood := { row := backRunsRow, standIns := [], harness := (true, "a38eb0f8befdb449abbfaa304767a41a923691cfdd0871abd951e53ac2f0d616"), looks := false }, kinds := [], alts := [], laidByText := true, laidKinds := [.data, .data, .data, .data], laidTests := true, laidLooks := .later }
def BackRunsCardSaid : Prop := Claim7.holds Tryd.pinned (.plain (OpenSpec.ofChange backRunsSpec)) backRunsCard

/-- THE SECOND FORM's CARD OF 'lockbarlaw22.BackRuns'. -/
def backRunsUptoCard : Claim7 := { stood := { row := backRunsUptoRow, standIns := [], harness := (true, "a38eb0f8befdb449abbfaa304767a41a923691cfdd0871abd951e53ac2f0d616"), looks := false }, kinds := [], alts := [], laidByText := true, laidKinds := [.data, .data, .data, .data], laidTests := true, laidLooks := .later }
def BackRunsUptoCardSaid : Prop := Claim7.holds Tryd.pinned (.plain (OpenSpec.upto backRunsSpec)) backRunsUptoCard
end Rows
end Go.Proofs.YtkcpgfjlmicnnaaDoor
