/-
  DERIVED. GIVEN WITH THE SEED: THE CARDS: each row of YtbofccnennefnaaGreatDoorRows.lean that lists a variable, with what it lists TIED to the program's text (the seventh form; the later family's looks); each row that meets fmt, with fmt's text TOLD by the authors' own Lean function (tested against real Go, not proved from fmt's source: count such statements apart). THE CARD IS WHAT COUNTS. Prove the row's statement (the work); the ties are given (YtbofccnennefnaaGreatDoorTie.lean); close each card by the builder's one call (the guide's Derived/Test/ToyasCard.lean, 'card_holds'). Laid BY PROGRAM, IN A SANDBOX (cutbox-door.mjs). By AI agents, Wed Nov 11 2026. No macro, syntax, notation, axiom, sorry.
-/
import Derived.Test.YtbofccnennefnaaGreatDoorRows
import GoSem.ClaimSeven
namespace Go.Proofs.YtbofccnennefnaaGreatDoor
namespace Rows

/-- THE TIED CARD OF 'lockbarlaw19.CommitTells'. -/
def commitTellsCard : Claim7 := { stood := { row := commitTellsRow, standIns := [], harness := (true, "a40f16db91655e11154d0b0b966826a62eaa9e660be49149dd6cbe95c226ff15"), looks := false }, kinds := [], alts := [], laidByText := true, laidKinds := [.data, .data, .data], laidTests := true, laidLooks := .later }
def CommitTellsCardSaid : Prop := Claim7.holds Tryz.pinned (.plain (OpenSpec.ofChange commitTellsSpec)) commitTellsCard

/-- THE TIED CARD OF 'lockbarlaw19.CommitApart'. -/
def commitApartCard : Claim7 := { stood := { row := commitApartRow, standIns := [], harness := (true, "a40f16db91655e11154d0b0b966826a62eaa9e660be49149dd6cbe95c226ff15"), looks := false }, kinds := [], alts := [], laidByText := true, laidKinds := [.data, .data, .data], laidTests := true, laidLooks := .later }
def CommitApartCardSaid : Prop := Claim7.holds Tryz.pinned (.plain (OpenSpec.ofChange commitApartSpec)) commitApartCard

/-- THE TIED CARD OF 'lockbarlaw19.CommitIs'. -/
def commitIsCard : Claim7 := { stood := { row := commitIsRow, standIns := [], harness := (true, "a40f16db91655e11154d0b0b966826a62eaa9e660be49149dd6cbe95c226ff15"), looks := false }, kinds := [], alts := [], laidByText := true, laidKinds := [.data, .data, .data], laidTests := true, laidLooks := .later }
def CommitIsCardSaid : Prop := Claim7.holds Tryz.pinned (.plain (OpenSpec.ofChange commitIsSpec)) commitIsCard

/-- THE TIED CARD OF 'lockbarlaw19.CommitOnly'. -/
def commitOnlyCard : Claim7 := { stood := { row := commitOnlyRow, standIns := [], harness := (true, "a40f16db91655e11154d0b0b966826a62eaa9e660be49149dd6cbe95c226ff15"), looks := false }, kinds := [], alts := [], laidByText := true, laidKinds := [.data, .data, .data], laidTests := true, laidLooks := .later }
def CommitOnlyCardSaid : Prop := Claim7.holds Tryz.pinned (.plain (OpenSpec.ofChange commitOnlySpec)) commitOnlyCard

/-- THE TIED CARD OF 'lockbarlaw19.CommitFinds'. -/
def commitFindsCard : Claim7 := { stood := { row := commitFindsRow, standIns := [], harness := (true, "a40f16db91655e11154d0b0b966826a62eaa9e660be49149dd6cbe95c226ff15"), looks := false }, kinds := [], alts := [], laidByText := true, laidKinds := [.data, .data, .data], laidTests := true, laidLooks := .later }
def CommitFindsCardSaid : Prop := Claim7.holds Tryz.pinned (.plain (OpenSpec.ofChange commitFindsSpec)) commitFindsCard

/-- THE SECOND FORM's CARD OF 'lockbarlaw19.CommitTells'. -/
def commitTellsUptoCard : Claim7 := { stood := { row := commitTellsUptoRow, standIns := [], harness := (true, "a40f16db91655e11154d0b0b966826a62eaa9e660be49149dd6cbe95c226ff15"), looks := false }, kinds := [], alts := [], laidByText := true, laidKinds := [.data, .data, .data], laidTests := true, laidLooks := .later }
def CommitTellsUptoCardSaid : Prop := Claim7.holds Tryz.pinned (.plain (OpenSpec.upto commitTellsSpec)) commitTellsUptoCard

/-- THE SECOND FORM's CARD OF 'lockbarlaw19.CommitApart'. -/
def commitApartUptoCard : Claim7 := { stood := { row := commitApartUptoRow, standIns := [], harness := (true, "a40f16db91655e11154d0b0b966826a62eaa9e660be49149dd6cbe95c226ff15"), looks := false }, kinds := [], alts := [], laidByText := true, laidKinds := [.data, .data, .data], laidTests := true, laidLooks := .later }
def CommitApartUptoCardSaid : Prop := Claim7.holds Tryz.pinned (.plain (OpenSpec.upto commitApartSpec)) commitApartUptoCard

/-- THE SECOND FORM's CARD OF 'lockbarlaw19.CommitIs'. -/
def commitIsUptoCard : Claim7 := { stood := { row := commitIsUptoRow, standIns := [], harness := (true, "a40f16db91655e11154d0b0b966826a62eaa9e660be49149dd6cbe95c226ff15"), looks := false }, kinds := [], alts := [], laidByText := true, laidKinds := [.data, .data, .data], laidTests := true, laidLooks := .later }
def CommitIsUptoCardSaid : Prop := Claim7.holds Tryz.pinned (.plain (OpenSpec.upto commitIsSpec)) commitIsUptoCard

/-- THE SECOND FORM's CARD OF 'lockbarlaw19.CommitOnly'. -/
def commitOnlyUptoCard : Claim7 := { stood := { row := commitOnlyUptoRow, standIns := [], harness := (true, "a40f16db91655e11154d0b0b966826a62eaa9e660be49149dd6cbe95c226ff15"), looks := false }, kinds := [], alts := [], laidByText := true, laidKinds := [.data, .data, .data], laidTests := true, laidLooks := .later }
def CommitOnlyUptoCardSaid : Prop := Claim7.holds Tryz.pinned (.plain (OpenSpec.upto commitOnlySpec)) commitOnlyUptoCard

/-- THE SECOND FORM's CARD OF 'lockbarlaw19.CommitFinds'. -/
def commitFindsUptoCard : Claim7 := { stood := { row := commitFindsUptoRow, standIns := [], harness := (true, "a40f16db91655e11154d0b0b966826a62eaa9e660be49149dd6cbe95c226ff15"), looks := false }, kinds := [], alts := [], laidByText := true, laidKinds := [.data, .data, .data], laidTests := true, laidLooks := .later }
def CommitFindsUptoCardSaid : Prop := Claim7.holds Tryz.pinned (.plain (OpenSpec.upto commitFindsSpec)) commitFindsUptoCard
end Rows
end Go.Proofs.YtbofccnennefnaaGreatDoor
