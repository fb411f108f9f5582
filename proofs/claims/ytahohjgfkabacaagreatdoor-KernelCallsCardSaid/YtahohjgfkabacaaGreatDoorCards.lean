/-
  DERIVED. GIVEN WITH THE SEED: THE CARDS: each row of YtahohjgfkabacaaGreatDoorRows.lean that lists a variable, with what it lists TIED to the program's text (the seventh form; the later family's looks); each row that meets fmt, with fmt's text TOLD by the authors' own Lean function (tested against real Go, not proved from fmt's source: count such statements apart). THE CARD IS WHAT COUNTS. Prove the row's statement (the work); the ties are given (YtahohjgfkabacaaGreatDoorTie.lean); close each card by the builder's one call (the guide's Derived/Test/ToyasCard.lean, 'card_holds'). Laid BY PROGRAM, IN A SANDBOX (cutbox-door.mjs). By AI agents, Wed Nov 11 2026. No macro, syntax, notation, axiom, sorry.
-/
import Derived.Test.YtahohjgfkabacaaGreatDoorRows
import GoSem.ClaimSeven
namespace Go.Proofs.YtahohjgfkabacaaGreatDoor
namespace Rows

/-- THE TIED CARD OF 'lockbarlaw23.KernelTells'. -/
def kernelTellsCard : Claim7 := { stood := { row := kernelTellsRow, standIns := [], harness := (true, "9b82fc6623ebd656d5c5e2c7d9552f50c5e40357a0e90e99619ab0aa59319341"), looks := false }, kinds := [], alts := [], laidByText := true, laidKinds := [.data], laidTests := true, laidLooks := .later }
def KernelTellsCardSaid : Prop := Claim7.holds Tryz.pinned (.plain (OpenSpec.ofChange kernelTellsSpec)) kernelTellsCard

/-- THE TIED CARD OF 'lockbarlaw23.KernelSafe'. -/
def kernelSafeCard : Claim7 := { stood := { row := kernelSafeRow, standIns := [], harness := (true, "9b82fc6623ebd656d5c5e2c7d9552f50c5e40357a0e90e99619ab0aa59319341"), looks := false }, kinds := [], alts := [], laidByText := true, laidKinds := [.data], laidTests := true, laidLooks := .later }
def KernelSafeCardSaid : Prop := Claim7.holds Tryz.pinned (.plain (OpenSpec.ofChange kernelSafeSpec)) kernelSafeCard

/-- THE TIED CARD OF 'lockbarlaw23.KernelLess'. -/
def kernelLessCard : Claim7 := { stood := { row := kernelLessRow, standIns := [], harness := (true, "9b82fc6623ebd656d5c5e2c7d9552f50c5e40357a0e90e99619ab0aa59319341"), looks := false }, kinds := [], alts := [], laidByText := true, laidKinds := [.data], laidTests := true, laidLooks := .later }
def KernelLessCardSaid : Prop := Claim7.holds Tryz.pinned (.plain (OpenSpec.ofChange kernelLessSpec)) kernelLessCard

/-- THE TIED CARD OF 'lockbarlaw23.KernelCalls'. -/
def kernelCallsCard : Claim7 := { stood := { row := kernelCallsRow, standIns := [], harness := (true, "9b82fc6623ebd656d5c5e2c7d9552f50c5e40357a0e90e99619ab0aa59319341"), looks := false }, kinds := [], alts := [], laidByText := true, laidKinds := [.data], laidTests := true, laidLooks := .later }
def KernelCallsCardSaid : Prop := Claim7.holds Tryz.pinned (.plain (OpenSpec.ofChange kernelCallsSpec)) kernelCallsCard

/-- THE TIED CARD OF 'lockbarlaw23.KernelKeys'. -/
def kernelKeysCard : Claim7 := { stood := { row := kernelKeysRow, standIns := [], harness := (true, "9b82fc6623ebd656d5c5e2c7d9552f50c5e40357a0e90e99619ab0aa59319341"), looks := false }, kinds := [], alts := [], laidByText := true, laidKinds := [.data], laidTests := true, laidLooks := .later }
def KernelKeysCardSaid : Prop := Claim7.holds Tryz.pinned (.plain (OpenSpec.ofChange kernelKeysSpec)) kernelKeysCard

/-- THE SECOND FORM's CARD OF 'lockbarlaw23.KernelTells'. -/
def kernelTellsUptoCard : Claim7 := { stood := { row := kernelTellsUptoRow, standIns := [], harness := (true, "9b82fc6623ebd656d5c5e2c7d9552f50c5e40357a0e90e99619ab0aa59319341"), looks := false }, kinds := [], alts := [], laidByText := true, laidKinds := [.data], laidTests := true, laidLooks := .later }
def KernelTellsUptoCardSaid : Prop := Claim7.holds Tryz.pinned (.plain (OpenSpec.upto kernelTellsSpec)) kernelTellsUptoCard

/-- THE SECOND FORM's CARD OF 'lockbarlaw23.KernelSafe'. -/
def kernelSafeUptoCard : Claim7 := { stood := { row := kernelSafeUptoRow, standIns := [], harness := (true, "9b82fc6623ebd656d5c5e2c7d9552f50c5e40357a0e90e99619ab0aa59319341"), looks := false }, kinds := [], alts := [], laidByText := true, laidKinds := [.data], laidTests := true, laidLooks := .later }
def KernelSafeUptoCardSaid : Prop := Claim7.holds Tryz.pinned (.plain (OpenSpec.upto kernelSafeSpec)) kernelSafeUptoCard

/-- THE SECOND FORM's CARD OF 'lockbarlaw23.KernelLess'. -/
def kernelLessUptoCard : Claim7 := { stood := { row := kernelLessUptoRow, standIns := [], harness := (true, "9b82fc6623ebd656d5c5e2c7d9552f50c5e40357a0e90e99619ab0aa59319341"), looks := false }, kinds := [], alts := [], laidByText := true, laidKinds := [.data], laidTests := true, laidLooks := .later }
def KernelLessUptoCardSaid : Prop := Claim7.holds Tryz.pinned (.plain (OpenSpec.upto kernelLessSpec)) kernelLessUptoCard

/-- THE SECOND FORM's CARD OF 'lockbarlaw23.KernelCalls'. -/
def kernelCallsUptoCard : Claim7 := { stood := { row := kernelCallsUptoRow, standIns := [], harness := (true, "9b82fc6623ebd656d5c5e2c7d9552f50c5e40357a0e90e99619ab0aa59319341"), looks := false }, kinds := [], alts := [], laidByText := true, laidKinds := [.data], laidTests := true, laidLooks := .later }
def KernelCallsUptoCardSaid : Prop := Claim7.holds Tryz.pinned (.plain (OpenSpec.upto kernelCallsSpec)) kernelCallsUptoCard

/-- THE SECOND FORM's CARD OF 'lockbarlaw23.KernelKeys'. -/
def kernelKeysUptoCard : Claim7 := { stood := { row := kernelKeysUptoRow, standIns := [], harness := (true, "9b82fc6623ebd656d5c5e2c7d9552f50c5e40357a0e90e99619ab0aa59319341"), looks := false }, kinds := [], alts := [], laidByText := true, laidKinds := [.data], laidTests := true, laidLooks := .later }
def KernelKeysUptoCardSaid : Prop := Claim7.holds Tryz.pinned (.plain (OpenSpec.upto kernelKeysSpec)) kernelKeysUptoCard
end Rows
end Go.Proofs.YtahohjgfkabacaaGreatDoor
