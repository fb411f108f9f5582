/-
  DERIVED. GIVEN WITH THE SEED: THE CARDS: each row of YtmaldhbaihlmbaaGreatDoorRows.lean that lists a variable, with what it lists TIED to the program's text (the seventh form; the later family's looks); each row that meets fmt, with fmt's text TOLD by the authors' own Lean function (tested against real Go, not proved from fmt's source: count such statements apart). THE CARD IS WHAT COUNTS. Prove the row's statement (the work); the ties are given (YtmaldhbaihlmbaaGreatDoorTie.lean); close each card by the builder's one call (the guide's Derived/Test/ToyasCard.lean, 'card_holds'). Laid BY PROGRAM, IN A SANDBOX (cutbox-door.mjs). By AI agents, Wed Nov 11 2026. No macro, syntax, notation, axiom, sorry.
-/
import Derived.Test.YtmaldhbaihlmbaaGreatDoorRows
import GoSem.ClaimSeven
namespace Go.Proofs.YtmaldhbaihlmbaaGreatDoor
namespace Rows

/-- THE TIED CARD OF 'lockbarlaw18.FreeTells'. -/
def freeTellsCard : Claim7 := { stood := { row := freeTellsRow, standIns := [], harness := (true, "99dfd421df137044400a938e88df7e14d3b6145605934c41f6dccd29bf5a2588"), looks := false }, kinds := [], alts := [], laidByText := true, laidKinds := [.data], laidTests := true, laidLooks := .later }
def FreeTellsCardSaid : Prop := Claim7.holds Tryz.pinned (.plain (OpenSpec.ofChange freeTellsSpec)) freeTellsCard

/-- THE TIED CARD OF 'lockbarlaw18.FreeApart'. -/
def freeApartCard : Claim7 := { stood := { row := freeApartRow, standIns := [], harness := (true, "99dfd421df137044400a938e88df7e14d3b6145605934c41f6dccd29bf5a2588"), looks := false }, kinds := [], alts := [], laidByText := true, laidKinds := [.data], laidTests := true, laidLooks := .later }
def FreeApartCardSaid : Prop := Claim7.holds Tryz.pinned (.plain (OpenSpec.ofChange freeApartSpec)) freeApartCard

/-- THE TIED CARD OF 'lockbarlaw18.FreeOne'. -/
def freeOneCard : Claim7 := { stood := { row := freeOneRow, standIns := [], harness := (true, "99dfd421df137044400a938e88df7e14d3b6145605934c41f6dccd29bf5a2588"), looks := false }, kinds := [], alts := [], laidByText := true, laidKinds := [.data], laidTests := true, laidLooks := .later }
def FreeOneCardSaid : Prop := Claim7.holds Tryz.pinned (.plain (OpenSpec.ofChange freeOneSpec)) freeOneCard

/-- THE TIED CARD OF 'lockbarlaw18.FreeStale'. -/
def freeStaleCard : Claim7 := { stood := { row := freeStaleRow, standIns := [], harness := (true, "99dfd421df137044400a938e88df7e14d3b6145605934c41f6dccd29bf5a2588"), looks := false }, kinds := [], alts := [], laidByText := true, laidKinds := [.data], laidTests := true, laidLooks := .later }
def FreeStaleCardSaid : Prop := Claim7.holds Tryz.pinned (.plain (OpenSpec.ofChange freeStaleSpec)) freeStaleCard

/-- THE TIED CARD OF 'lockbarlaw18.FreeMeets'. -/
def freeMeetsCard : Claim7 := { stood := { row := freeMeetsRow, standIns := [], harness := (true, "99dfd421df137044400a938e88df7e14d3b6145605934c41f6dccd29bf5a2588"), looks := false }, kinds := [], alts := [], laidByText := true, laidKinds := [.data], laidTests := true, laidLooks := .later }
def FreeMeetsCardSaid : Prop := Claim7.holds Tryz.pinned (.plain (OpenSpec.ofChange freeMeetsSpec)) freeMeetsCard

/-- THE SECOND FORM's CARD OF 'lockbarlaw18.FreeTells'. -/
def freeTellsUptoCard : Claim7 := { stood := { row := freeTellsUptoRow, standIns := [], harness := (true, "99dfd421df137044400a938e88df7e14d3b6145605934c41f6dccd29bf5a2588"), looks := false }, kinds := [], alts := [], laidByText := true, laidKinds := [.data], laidTests := true, laidLooks := .later }
def FreeTellsUptoCardSaid : Prop := Claim7.holds Tryz.pinned (.plain (OpenSpec.upto freeTellsSpec)) freeTellsUptoCard

/-- THE SECOND FORM's CARD OF 'lockbarlaw18.FreeApart'. -/
def freeApartUptoCard : Claim7 := { stood := { row := freeApartUptoRow, standIns := [], harness := (true, "99dfd421df137044400a938e88df7e14d3b6145605934c41f6dccd29bf5a2588"), looks := false }, kinds := [], alts := [], laidByText := true, laidKinds := [.data], laidTests := true, laidLooks := .later }
def FreeApartUptoCardSaid : Prop := Claim7.holds Tryz.pinned (.plain (OpenSpec.upto freeApartSpec)) freeApartUptoCard

/-- THE SECOND FORM's CARD OF 'lockbarlaw18.FreeOne'. -/
def freeOneUptoCard : Claim7 := { stood := { row := freeOneUptoRow, standIns := [], harness := (true, "99dfd421df137044400a938e88df7e14d3b6145605934c41f6dccd29bf5a2588"), looks := false }, kinds := [], alts := [], laidByText := true, laidKinds := [.data], laidTests := true, laidLooks := .later }
def FreeOneUptoCardSaid : Prop := Claim7.holds Tryz.pinned (.plain (OpenSpec.upto freeOneSpec)) freeOneUptoCard

/-- THE SECOND FORM's CARD OF 'lockbarlaw18.FreeStale'. -/
def freeStaleUptoCard : Claim7 := { stood := { row := freeStaleUptoRow, standIns := [], harness := (true, "99dfd421df137044400a938e88df7e14d3b6145605934c41f6dccd29bf5a2588"), looks := false }, kinds := [], alts := [], laidByText := true, laidKinds := [.data], laidTests := true, laidLooks := .later }
def FreeStaleUptoCardSaid : Prop := Claim7.holds Tryz.pinned (.plain (OpenSpec.upto freeStaleSpec)) freeStaleUptoCard

/-- THE SECOND FORM's CARD OF 'lockbarlaw18.FreeMeets'. -/
def freeMeetsUptoCard : Claim7 := { stood := { row := freeMeetsUptoRow, standIns := [], harness := (true, "99dfd421df137044400a938e88df7e14d3b6145605934c41f6dccd29bf5a2588"), looks := false }, kinds := [], alts := [], laidByText := true, laidKinds := [.data], laidTests := true, laidLooks := .later }
def FreeMeetsUptoCardSaid : Prop := Claim7.holds Tryz.pinned (.plain (OpenSpec.upto freeMeetsSpec)) freeMeetsUptoCard
end Rows
end Go.Proofs.YtmaldhbaihlmbaaGreatDoor
