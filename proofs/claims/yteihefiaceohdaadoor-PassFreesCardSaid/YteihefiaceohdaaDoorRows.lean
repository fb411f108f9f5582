/-
  NARROWER THAN 'FOR EVERY INPUT', by the rows' own cells (each row's printed sentence says how): PassTells: laid · PassFrees: laid · PassGoes: laid · PassStages: laid · PassLess: laid.
  DERIVED. THE GIVEN ROWS OF THIS SEAT. 5 by the template 'for every input the law returns true; each argument reads behind the call as it read before'; 0 by the template 'total and deterministic' (their statements: YteihefiaceohdaaDoorTotals.lean).
  GIVEN WITH THE SEED: the statements are not yours to turn. If you find one false, say at which input.
  Laid BY PROGRAM, IN A SANDBOX (cutbox-rows.mjs): the forced cells as the released guide's own fill.sh prints them over the translation 46d4736db3f4aab7… (all of the seat's roots in one cut). By AI agents, Wed Nov 11 2026. No macro, syntax, notation, axiom, sorry.
-/
import Derived.Test.YteihefiaceohdaaDoorChecked
import GoSem.Claim
import GoSem.ClaimJoined
import GoSem.ClaimMapViews
import Derived.JoinedTies
import Derived.KernelRfl
namespace Go.Proofs.YteihefiaceohdaaDoor
/- THE CELL 'sum', in the pinned program and in every row, IS THE sha256 OF THE DUMP (.gsa) THAT YteihefiaceohdaaDoorProg.lean LOADS. Nothing in Lean hashes anything: it is a label: what it is worth is what the hold of that sum in a sandbox is worth. -/
noncomputable def Tryd.pinned : Pinned := { name := "yteihefiaceohdaadoor", sum := "46d4736db3f4aab7fd5aa617a35ebd7cd34fda1be74699671ea800fc63185d1f", checked := Tryd.checked }
namespace Rows
def none {H : Type} : Left H := { results := [], args := [] }

/- WHAT THE LISTED PACKAGE-LEVEL VARIABLES READ AS WHEN THE CALL BEGINS. Each datum BY PROGRAM (the guide's laid-datum.mjs) off the statement by which the dump's own 'gosem.cut.vars' lays the variable. In a bare row this is a premise. The card (YteihefiaceohdaaDoorCards.lean) ties it to the program's text. -/
def laid_lockbar_tick_tops {H : Type} : DataW H := .agg [.lit (.int .i64 1073741824), .lit (.int .i64 65535)]

/-- 'lockbarlaw21.PassTells': WHATEVER THE INPUT: true; the input reads as it did. -/
def passTellsSpec : ChangeSpec := { name := "passTells", fn := fun _ => fun
  | [d1, d2, d3] => { results := [.lit (.bool true)], args := [d1, d2, d3] }
  | _ => none }
def passTellsRow : OpenClaim := { program := "yteihefiaceohdaadoor", sum := "46d4736db3f4aab7fd5aa617a35ebd7cd34fda1be74699671ea800fc63185d1f", func := "lockbar/lockbarlaw21.PassTells", spec := "passTells", unfollowed := true, recurses := true, named := ["lockbar/tick.tops"], apart := false, laid := [("lockbar/tick.tops", laid_lockbar_tick_tops)] }
def PassTellsSaid : Prop := passTellsRow.holds Tryd.pinned (OpenSpec.ofChange passTellsSpec)

/-- ITS FALSE NEIGHBOUR: 'it returns false'. Refute it at one input. -/
def passTellsWrong : ChangeSpec := { name := "passTells", fn := fun _ => fun
  | [d1, d2, d3] => { results := [.lit (.bool false)], args := [d1, d2, d3] }
  | _ => none }
def PassTellsWrongFalsely : Prop := passTellsRow.holds Tryd.pinned (OpenSpec.ofChange passTellsWrong)

/-- 'lockbarlaw21.PassFrees': WHATEVER THE INPUT: true; the input reads as it did. -/
def passFreesSpec : ChangeSpec := { name := "passFrees", fn := fun _ => fun
  | [d1, d2, d3] => { results := [.lit (.bool true)], args := [d1, d2, d3] }
  | _ => none }
def passFreesRow : OpenClaim := { program := "yteihefiaceohdaadoor", sum := "46d4736db3f4aab7fd5aa617a35ebd7cd34fda1be74699671ea800fc63185d1f", func := "lockbar/lockbarlaw21.PassFrees", spec := "passFrees", unfollowed := true, recurses := true, named := ["lockbar/tick.tops"], apart := false, laid := [("lockbar/tick.tops", laid_lockbar_tick_tops)] }
def PassFreesSaid : Prop := passFreesRow.holds Tryd.pinned (OpenSpec.ofChange passFreesSpec)

/-- ITS FALSE NEIGHBOUR: 'it returns false'. Refute it at one input. -/
def passFreesWrong : ChangeSpec := { name := "passFrees", fn := fun _ => fun
  | [d1, d2, d3] => { results := [.lit (.bool false)], args := [d1, d2, d3] }
  | _ => none }
def PassFreesWrongFalsely : Prop := passFreesRow.holds Tryd.pinned (OpenSpec.ofChange passFreesWrong)

/-- 'lockbarlaw21.PassGoes': WHATEVER THE INPUT: true; the input reads as it did. -/
def passGoesSpec : ChangeSpec := { name := "passGoes", fn := fun _ => fun
  | [d1, d2] => { results := [.lit (.bool true)], args := [d1, d2] }
  | _ => none }
def passGoesRow : OpenClaim := { program := "yteihefiaceohdaadoor", sum := "46d4736db3f4aab7fd5aa617a35ebd7cd34fda1be74699671ea800fc63185d1f", func := "lockbar/lockbarlaw21.PassGoes", spec := "passGoes", unfollowed := true, recurses := true, named := ["lockbar/tick.tops"], apart := false, laid := [("lockbar/tick.tops", laid_lockbar_tick_tops)] }
def PassGoesSaid : Prop := passGoesRow.holds Tryd.pinned (OpenSpec.ofChange passGoesSpec)

/-- ITS FALSE NEIGHBOUR: 'it returns false'. Refute it at one input. -/
def passGoesWrong : ChangeSpec := { name := "passGoes", fn := fun _ => fun
  | [d1, d2] => { results := [.lit (.bool false)], args := [d1, d2] }
  | _ => none }
def PassGoesWrongFalsely : Prop := passGoesRow.holds Tryd.pinned (OpenSpec.ofChange passGoesWrong)

/-- 'lockbarlaw21.PassStages': WHATEVER THE INPUT: true; the input reads as it did. -/
def passStagesSpec : ChangeSpec := { name := "passStages", fn := fun _ => fun
  | [d1, d2, d3] => { results := [.lit (.bool true)], args := [d1, d2, d3] }
  | _ => none }
def passStagesRow : OpenClaim := { program := "yteihefiaceohdaadoor", sum := "46d4736db3f4aab7fd5aa617a35ebd7cd34fda1be74699671ea800fc63185d1f", func := "lockbar/lockbarlaw21.PassStages", spec := "passStages", unfollowed := true, recurses := true, named := ["lockbar/tick.tops"], apart := false, laid := [("lockbar/tick.tops", laid_lockbar_tick_tops)] }
def PassStagesSaid : Prop := passStagesRow.holds Tryd.pinned (OpenSpec.ofChange passStagesSpec)

/-- ITS FALSE NEIGHBOUR: 'it returns false'. Refute it at one input. -/
def passStagesWrong : ChangeSpec := { name := "passStages", fn := fun _ => fun
  | [d1, d2, d3] => { results := [.lit (.bool false)], args := [d1, d2, d3] }
  | _ => none }
def PassStagesWrongFalsely : Prop := passStagesRow.holds Tryd.pinned (OpenSpec.ofChange passStagesWrong)

/-- 'lockbarlaw21.PassLess': WHATEVER THE INPUT: true; the input reads as it did. -/
def passLessSpec : ChangeSpec := { name := "passLess", fn := fun _ => fun
  | [d1, d2, d3] => { results := [.lit (.bool true)], args := [d1, d2, d3] }
  | _ => none }
def passLessRow : OpenClaim := { program := "yteihefiaceohdaadoor", sum := "46d4736db3f4aab7fd5aa617a35ebd7cd34fda1be74699671ea800fc63185d1f", func := "lockbar/lockbarlaw21.PassLess", spec := "passLess", unfollowed := true, recurses := true, named := ["lockbar/tick.tops"], apart := false, laid := [("lockbar/tick.tops", laid_lockbar_tick_tops)] }
def PassLessSaid : Prop := passLessRow.holds Tryd.pinned (OpenSpec.ofChange passLessSpec)

/-- ITS FALSE NEIGHBOUR: 'it returns false'. Refute it at one input. -/
def passLessWrong : ChangeSpec := { name := "passLess", fn := fun _ => fun
  | [d1, d2, d3] => { results := [.lit (.bool false)], args := [d1, d2, d3] }
  | _ => none }
def PassLessWrongFalsely : Prop := passLessRow.holds Tryd.pinned (OpenSpec.ofChange passLessWrong)

/- THE SECOND FORM. 'bulk': how many values and letters a reading holds, each counted each time it is reached (what is shared counts as often as it is met; a slice's spare places count too). A statement '..UptoSaid' is the law's where the arguments, and the package variables that the reading takes, are together of bulk at most 1048576: NARROWER than '..Said'. Prove '..Said' where nothing that the law and all that it calls make is longer than what came in: it says more and counts as full. Else prove '..UptoSaid'. A law counts once. -/
mutual
def uptoBulk {H : Type} : DataW H → Nat
  | .lit (.string bytes) => bytes.length + 1
  | .lit _ => 1
  | .nil => 1
  | .ptr d => uptoBulk d + 1
  | .slice elems spare => uptoBulkAll elems + uptoBulkAll spare + 1
  | .agg parts => uptoBulkAll parts + 1
  | .iface _ d => uptoBulk d + 1
  | .map entries => uptoBulkEntries entries + 1
  | .held _ => 1
def uptoBulkAll {H : Type} : List (DataW H) → Nat
  | [] => 0
  | d :: r => uptoBulk d + uptoBulkAll r
def uptoBulkEntries {H : Type} : List (Lit × DataW H) → Nat
  | [] => 0
  | x :: r => uptoBulkEntry x + uptoBulkEntries r
def uptoBulkEntry {H : Type} : Lit × DataW H → Nat
  | (.string bytes, d) => bytes.length + uptoBulk d + 1
  | (_, d) => uptoBulk d + 1
 end
def uptoSmall : (H : Type) → List (DataW H) → Bool := fun _ ds => decide (uptoBulkAll ds ≤ 1048576)
def OpenSpec.upto (s : _root_.Go.ChangeSpec) : _root_.Go.OpenSpec := { _root_.Go.OpenSpec.ofChange s with cond := some uptoSmall }

/-- 'lockbarlaw21.PassTells', WHERE WHAT IT READS IS OF BULK AT MOST 1048576: true; the input reads as it did. -/
def passTellsUptoRow : OpenClaim := { program := "yteihefiaceohdaadoor", sum := "46d4736db3f4aab7fd5aa617a35ebd7cd34fda1be74699671ea800fc63185d1f", func := "lockbar/lockbarlaw21.PassTells", spec := "passTells", unfollowed := true, recurses := true, named := ["lockbar/tick.tops"], apart := false, laid := [("lockbar/tick.tops", laid_lockbar_tick_tops)], narrowed := true }
def PassTellsUptoSaid : Prop := passTellsUptoRow.holds Tryd.pinned (OpenSpec.upto passTellsSpec)

/-- 'lockbarlaw21.PassFrees', WHERE WHAT IT READS IS OF BULK AT MOST 1048576: true; the input reads as it did. -/
def passFreesUptoRow : OpenClaim := { program := "yteihefiaceohdaadoor", sum := "46d4736db3f4aab7fd5aa617a35ebd7cd34fda1be74699671ea800fc63185d1f", func := "lockbar/lockbarlaw21.PassFrees", spec := "passFrees", unfollowed := true, recurses := true, named := ["lockbar/tick.tops"], apart := false, laid := [("lockbar/tick.tops", laid_lockbar_tick_tops)], narrowed := true }
def PassFreesUptoSaid : Prop := passFreesUptoRow.holds Tryd.pinned (OpenSpec.upto passFreesSpec)

/-- 'lockbarlaw21.PassGoes', WHERE WHAT IT READS IS OF BULK AT MOST 1048576: true; the input reads as it did. -/
def passGoesUptoRow : OpenClaim := { program := "yteihefiaceohdaadoor", sum := "46d4736db3f4aab7fd5aa617a35ebd7cd34fda1be74699671ea800fc63185d1f", func := "lockbar/lockbarlaw21.PassGoes", spec := "passGoes", unfollowed := true, recurses := true, named := ["lockbar/tick.tops"], apart := false, laid := [("lockbar/tick.tops", laid_lockbar_tick_tops)], narrowed := true }
def PassGoesUptoSaid : Prop := passGoesUptoRow.holds Tryd.pinned (OpenSpec.upto passGoesSpec)

/-- 'lockbarlaw21.PassStages', WHERE WHAT IT READS IS OF BULK AT MOST 1048576: true; the input reads as it did. -/
def passStagesUptoRow : OpenClaim := { program := "yteihefiaceohdaadoor", sum := "46d4736db3f4aab7fd5aa617a35ebd7cd34fda1be74699671ea800fc63185d1f", func := "lockbar/lockbarlaw21.PassStages", spec := "passStages", unfollowed := true, recurses := true, named := ["lockbar/tick.tops"], apart := false, laid := [("lockbar/tick.tops", laid_lockbar_tick_tops)], narrowed := true }
def PassStagesUptoSaid : Prop := passStagesUptoRow.holds Tryd.pinned (OpenSpec.upto passStagesSpec)

/-- 'lockbarlaw21.PassLess', WHERE WHAT IT READS IS OF BULK AT MOST 1048576: true; the input reads as it did. -/
def passLessUptoRow : OpenClaim := { program := "yteihefiaceohdaadoor", sum := "46d4736db3f4aab7fd5aa617a35ebd7cd34fda1be74699671ea800fc63185d1f", func := "lockbar/lockbarlaw21.PassLess", spec := "passLess", unfollowed := true, recurses := true, named := ["lockbar/tick.tops"], apart := false, laid := [("lockbar/tick.tops", laid_lockbar_tick_tops)], narrowed := true }
def PassLessUptoSaid : Prop := passLessUptoRow.holds Tryd.pinned (OpenSpec.upto passLessSpec)

end Rows
end Go.Proofs.YteihefiaceohdaaDoor
