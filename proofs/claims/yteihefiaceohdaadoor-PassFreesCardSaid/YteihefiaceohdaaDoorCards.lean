/-
  DERIVED. GIVEN WITH THE SEED: THE CARDS: each row of YteihefiaceohdaaDoorRows.lean that lists a variable, with what it lists TIED to the program's text (the seventh form; the later family's looks); each row that meets fmt, with fmt's text TOLD by the authors' own Lean function (tested against real Go, not proved from fmt's source: count such statements apart). THE CARD IS WHAT COUNTS. Prove the row's statement (the work); the ties are given (YteihefiaceohdaaDoorTie.lean); close each card by the builder's one call (the guide's Derived/Test/ToyasCard.lean, 'card_holds'). Laid BY PROGRAM, IN A SANDBOX (cutbox-door.mjs). By AI agents, Wed Nov 11 2026. No macro, syntax, notation, axiom, sorry.
-/
import Derived.Test.YteihefiaceohdaaDoorRows
import GoSem.ClaimSeven
namespace Go.Proofs.YteihefiaceohdaaDoor
namespace Rows

/-- THE TIED CARD OF 'lockbarlaw21.PassTells'. -/
def passTellsCard : Claim7 := { stood := { row := passTellsRow, standIns := [], harness := (true, "76529b758857dc58d7c48e0568b80b2d9070aeaf737b494fe5f2ba78db86c451"), looks := false }, kinds := [], alts := [], laidByText := true, laidKinds := [.data], laidTests := true, laidLooks := .later }
def PassTellsCardSaid : Prop := Claim7.holds Tryd.pinned (.plain (OpenSpec.ofChange passTellsSpec)) passTellsCard

/-- THE TIED CARD OF 'lockbarlaw21.PassFrees'. -/
def passFreesCard : Claim7 := { stood := { row := passFreesRow, standIns := [], harness := (true, "76529b758857dc58d7c48e0568b80b2d9070aeaf737b494fe5f2ba78db86c451"), looks := false }, kinds := [], alts := [], laidByText := true, laidKinds := [.data], laidTests := true, laidLooks := .later }
def PassFreesCardSaid : Prop := Claim7.holds Tryd.pinned (.plain (OpenSpec.ofChange passFreesSpec)) passFreesCard

/-- THE TIED CARD OF 'lockbarlaw21.PassGoes'. -/
def passGoesCard : Claim7 := { stood := { row := passGoesRow, standIns := [], harness := (true, "76529b758857dc58d7c48e0568b80b2d9070aeaf737b494fe5f2ba78db86c451"), looks := false }, kinds := [], alts := [], laidByText := true, laidKinds := [.data], laidTests := true, laidLooks := .later }
def PassGoesCardSaid : Prop := Claim7.holds Tryd.pinned (.plain (OpenSpec.ofChange passGoesSpec)) passGoesCard

/-- THE TIED CARD OF 'lockbarlaw21.PassStages'. -/
def passStagesCard : Claim7 := { stood := { row := passStagesRow, standIns := [], harness := (true, "76529b758857dc58d7c48e0568b80b2d9070aeaf737b494fe5f2ba78db86c451"), looks := false }, kinds := [], alts := [], laidByText := true, laidKinds := [.data], laidTests := true, laidLooks := .later }
def PassStagesCardSaid : Prop := Claim7.holds Tryd.pinned (.plain (OpenSpec.ofChange passStagesSpec)) passStagesCard

/-- THE TIED CARD OF 'lockbarlaw21.PassLess'. -/
def passLessCard : Claim7 := { stood := { row := passLessRow, standIns := [], harness := (true, "76529b758857dc58d7c48e0568b80b2d9070aeaf737b494fe5f2ba78db86c451"), looks := false }, kinds := [], alts := [], laidByText := true, laidKinds := [.data], laidTests := true, laidLooks := .later }
def PassLessCardSaid : Prop := Claim7.holds Tryd.pinned (.plain (OpenSpec.ofChange passLessSpec)) passLessCard

/-- THE SECOND FORM's CARD OF 'lockbarlaw21.PassTells'. -/
def passTellsUptoCard : Claim7 := { stood := { row := passTellsUptoRow, standIns := [], harness := (true, "76529b758857dc58d7c48e0568b80b2d9070aeaf737b494fe5f2ba78db86c451"), looks := false }, kinds := [], alts := [], laidByText := true, laidKinds := [.data], laidTests := true, laidLooks := .later }
def PassTellsUptoCardSaid : Prop := Claim7.holds Tryd.pinned (.plain (OpenSpec.upto passTellsSpec)) passTellsUptoCard

/-- THE SECOND FORM's CARD OF 'lockbarlaw21.PassFrees'. -/
def passFreesUptoCard : Claim7 := { stood := { row := passFreesUptoRow, standIns := [], harness := (true, "76529b758857dc58d7c48e0568b80b2d9070aeaf737b494fe5f2ba78db86c451"), looks := false }, kinds := [], alts := [], laidByText := true, laidKinds := [.data], laidTests := true, laidLooks := .later }
def PassFreesUptoCardSaid : Prop := Claim7.holds Tryd.pinned (.plain (OpenSpec.upto passFreesSpec)) passFreesUptoCard

/-- THE SECOND FORM's CARD OF 'lockbarlaw21.PassGoes'. -/
def passGoesUptoCard : Claim7 := { stood := { row := passGoesUptoRow, standIns := [], harness := (true, "76529b758857dc58d7c48e0568b80b2d9070aeaf737b494fe5f2ba78db86c451"), looks := false }, kinds := [], alts := [], laidByText := true, laidKinds := [.data], laidTests := true, laidLooks := .later }
def PassGoesUptoCardSaid : Prop := Claim7.holds Tryd.pinned (.plain (OpenSpec.upto passGoesSpec)) passGoesUptoCard

/-- THE SECOND FORM's CARD OF 'lockbarlaw21.PassStages'. -/
def passStagesUptoCard : Claim7 := { stood := { row := passStagesUptoRow, standIns := [], harness := (true, "76529b758857dc58d7c48e0568b80b2d9070aeaf737b494fe5f2ba78db86c451"), looks := false }, kinds := [], alts := [], laidByText := true, laidKinds := [.data], laidTests := true, laidLooks := .later }
def PassStagesUptoCardSaid : Prop := Claim7.holds Tryd.pinned (.plain (OpenSpec.upto passStagesSpec)) passStagesUptoCard

/-- THE SECOND FORM's CARD OF 'lockbarlaw21.PassLess'. -/
def passLessUptoCard : Claim7 := { stood := { row := passLessUptoRow, standIns := [], harness := (true, "76529b758857dc58d7c48e0568b80b2d9070aeaf737b494fe5f2ba78db86c451"), looks := false }, kinds := [], alts := [], laidByText := true, laidKinds := [.data], laidTests := true, laidLooks := .later }
def PassLessUptoCardSaid : Prop := Claim7.holds Tryd.pinned (.plain (OpenSpec.upto passLessSpec)) passLessUptoCard
end Rows
end Go.Proofs.YteihefiaceohdaaDoor
