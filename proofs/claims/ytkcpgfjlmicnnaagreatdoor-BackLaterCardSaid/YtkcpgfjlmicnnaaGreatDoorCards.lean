/-
  DERIVED. GIVEN WITH THE SEED: THE CARDS: each row of YtkcpgfjlmicnnaaGreatDoorRows.lean that lists a variable, with what it lists TIED to the program's text (the seventh form; the later family's looks); each row that meets fmt, with fmt's text TOLD by the authors' own Lean function (tested against real Go, not proved from fmt's source: count such statements apart). THE CARD IS WHAT COUNTS. Prove the row's statement (the work); the ties are given (YtkcpgfjlmicnnaaGreatDoorTie.lean); close each card by the builder's one call (the guide's Derived/Test/ToyasCard.lean, 'card_holds'). Laid BY PROGRAM, IN A SANDBOX (cutbox-door.mjs). By AI agents, Wed Nov 11 2026. No macro, syntax, notation, axiom, sorry.
-/
import Derived.Test.YtkcpgfjlmicnnaaGreatDoorRows
import GoSem.ClaimSeven
namespace Go.Proofs.YtkcpgfjlmicnnaaGreatDoor
namespace Rows

/-- THE TIED CARD OF 'lockbarlaw22.BackTells'. -/
def backTellsCard : Claim7 := { stood := { row := backTellsRow, standIns := [], harness := (true, "c94cd8ac5aa67de45ee601ebebb915d6d259ec655e8c605c758f5be9cdd403a1"), looks := false }, kinds := [], alts := [], laidByText := true, laidKinds := [.data, .data, .data, .data], laidTests := true, laidLooks := .later }
def BackTellsCardSaid : Prop := Claim7.holds Tryz.pinned (.plain (OpenSpec.ofChange backTellsSpec)) backTellsCard

/-- THE TIED CARD OF 'lockbarlaw22.BackLater'. -/
def backLaterCard : Claim7 := { stood := { row := backLaterRow, standIns := [], harness := (true, "c94cd8ac5aa67de45ee601ebebb915d6d259ec655e8c605c758f5be9cdd403a1"), looks := false }, kinds := [], alts := [], laidByText := true, laidKinds := [.data, .data, .data, .data], laidTests := true, laidLooks := .later }
def BackLaterCardSaid : Prop := Claim7.holds Tryz.pinned (.plain (OpenSpec.ofChange backLaterSpec)) backLaterCard

/-- THE TIED CARD OF 'lockbarlaw22.BackOthers'. -/
def backOthersCard : Claim7 := { stood := { row := backOthersRow, standIns := [], harness := (true, "c94cd8ac5aa67de45ee601ebebb915d6d259ec655e8c605c758f5be9cdd403a1"), looks := false }, kinds := [], alts := [], laidByText := true, laidKinds := [.data, .data, .data, .data], laidTests := true, laidLooks := .later }
def BackOthersCardSaid : Prop := Claim7.holds Tryz.pinned (.plain (OpenSpec.ofChange backOthersSpec)) backOthersCard

/-- THE TIED CARD OF 'lockbarlaw22.BackStill'. -/
def backStillCard : Claim7 := { stood := { row := backStillRow, standIns := [], harness := (true, "c94cd8ac5aa67de45ee601ebebb915d6d259ec655e8c605c758f5be9cdd403a1"), looks := false }, kinds := [], alts := [], laidByText := true, laidKinds := [.data, .data, .data, .data], laidTests := true, laidLooks := .later }
def BackStillCardSaid : Prop := Claim7.holds Tryz.pinned (.plain (OpenSpec.ofChange backStillSpec)) backStillCard

/-- THE SECOND FORM's CARD OF 'lockbarlaw22.BackTells'. -/
def backTellsUptoCard : Claim7 := { stood := { row := backTellsUptoRow, standIns := [], harness := (true, "c94cd8ac5aa67de45ee601ebebb915d6d259ec655e8c605c758f5be9cdd403a1"), looks := false }, kinds := [], alts := [], laidByText := true, laidKinds := [.data, .data, .data, .data], laidTests := true, laidLooks := .later }
def BackTellsUptoCardSaid : Prop := Claim7.holds Tryz.pinned (.plain (OpenSpec.upto backTellsSpec)) backTellsUptoCard

/-- THE SECOND FORM's CARD OF 'lockbarlaw22.BackLater'. -/
def backLaterUptoCard : Claim7 := { stood := { row := backLaterUptoRow, standIns := [], harness := (true, "c94cd8ac5aa67de45ee601ebebb915d6d259ec655e8c605c758f5be9cdd403a1"), looks := false }, kinds := [], alts := [], laidByText := true, laidKinds := [.data, .data, .data, .data], laidTests := true, laidLooks := .later }
def BackLaterUptoCardSaid : Prop := Claim7.holds Tryz.pinned (.plain (OpenSpec.upto backLaterSpec)) backLaterUptoCard

/-- THE SECOND FORM's CARD OF 'lockbarlaw22.BackOthers'. -/
def backOthersUptoCard : Claim7 := { stood := { row := backOthersUptoRow, standIns := [], harness := (true, "c94cd8ac5aa67de45ee601ebebb915d6d259ec655e8c605c758f5be9cdd403a1"), looks := false }, kinds := [], alts := [], laidByText := true, laidKinds := [.data, .data, .data, .data], laidTests := true, laidLooks := .later }
def BackOthersUptoCardSaid : Prop := Claim7.holds Tryz.pinned (.plain (OpenSpec.upto backOthersSpec)) backOthersUptoCard

/-- THE SECOND FORM's CARD OF 'lockbarlaw22.BackStill'. -/
def backStillUptoCard : Claim7 := { stood := { row := backStillUptoRow, standIns := [], harness := (true, "c94cd8ac5aa67de45ee601ebebb915d6d259ec655e8c605c758f5be9cdd403a1"), looks := false }, kinds := [], alts := [], laidByText := true, laidKinds := [.data, .data, .data, .data], laidTests := true, laidLooks := .later }
def BackStillUptoCardSaid : Prop := Claim7.holds Tryz.pinned (.plain (OpenSpec.upto backStillSpec)) backStillUptoCard
end Rows
end Go.Proofs.YtkcpgfjlmicnnaaGreatDoor
