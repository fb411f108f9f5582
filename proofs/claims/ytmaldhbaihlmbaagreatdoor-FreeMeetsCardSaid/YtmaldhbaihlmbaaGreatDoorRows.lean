/-
  NARROWER THAN 'FOR EVERY INPUT', by the rows' own cells (each row's printed sentence says how): FreeTells: laid · FreeApart: laid · FreeOne: laid · FreeStale: laid · FreeMeets: laid.
  DERIVED. THE GIVEN ROWS OF THIS SEAT. 5 by the template 'for every input the law returns true; each argument reads behind the call as it read before'; 0 by the template 'total and deterministic' (their statements: YtmaldhbaihlmbaaGreatDoorTotals.lean).
  GIVEN WITH THE SEED: the statements are not yours to turn. If you find one false, say at which input.
  Laid BY PROGRAM, IN A SANDBOX (cutbox-rows.mjs): the forced cells as the released guide's own fill.sh prints them over the translation c8c89b5e3a3cb467… (all of the seat's roots in one cut). By AI agents, Wed Nov 11 2026. No macro, syntax, notation, axiom, sorry.
-/
import Derived.Test.YtmaldhbaihlmbaaGreatDoorChecked
import GoSem.Claim
import GoSem.ClaimJoined
import GoSem.ClaimMapViews
import Derived.JoinedTies
import Derived.KernelRfl
namespace Go.Proofs.YtmaldhbaihlmbaaGreatDoor
/- THE CELL 'sum', in the pinned program and in every row, IS THE sha256 OF THE DUMP (.gsa) THAT YtmaldhbaihlmbaaGreatDoorProg.lean LOADS. Nothing in Lean hashes anything: it is a label: what it is worth is what the hold of that sum in a sandbox is worth. -/
noncomputable def Tryz.pinned : Pinned := { name := "ytmaldhbaihlmbaagreatdoor", sum := "c8c89b5e3a3cb46734ccef80165f8567793ccb60f40d07710ffc6b2c91c198a9", checked := Tryz.checked }
namespace Rows
def none {H : Type} : Left H := { results := [], args := [] }

/- WHAT THE LISTED PACKAGE-LEVEL VARIABLES READ AS WHEN THE CALL BEGINS. Each datum BY PROGRAM (the guide's laid-datum.mjs) off the statement by which the dump's own 'gosem.cut.vars' lays the variable. In a bare row this is a premise. The card (YtmaldhbaihlmbaaGreatDoorCards.lean) ties it to the program's text. -/
def laid_lockbar_port_kinds {H : Type} : DataW H := .agg [.agg [.lit (.int .i64 0), .agg [.agg [.lit (.int .i64 0), .lit (.int .i64 0)], .agg [.lit (.int .i64 0), .lit (.int .i64 0)]], .lit (.int .i64 0), .lit (.bool false)], .agg [.lit (.int .i64 2), .agg [.agg [.lit (.int .i64 0), .lit (.int .i64 1)], .agg [.lit (.int .i64 0), .lit (.int .i64 0)]], .lit (.int .i64 1), .lit (.bool false)], .agg [.lit (.int .i64 3), .agg [.agg [.lit (.int .i64 0), .lit (.int .i64 1)], .agg [.lit (.int .i64 0), .lit (.int .i64 2)]], .lit (.int .i64 2), .lit (.bool true)], .agg [.lit (.int .i64 4), .agg [.agg [.lit (.int .i64 0), .lit (.int .i64 1)], .agg [.lit (.int .i64 2), .lit (.int .i64 3)]], .lit (.int .i64 2), .lit (.bool false)]]

/-- 'lockbarlaw18.FreeTells': WHATEVER THE INPUT: true; the input reads as it did. -/
def freeTellsSpec : ChangeSpec := { name := "freeTells", fn := fun _ => fun
  | [d1, d2, d3, d4, d5, d6, d7] => { results := [.lit (.bool true)], args := [d1, d2, d3, d4, d5, d6, d7] }
  | _ => none }
def freeTellsRow : OpenClaim := { program := "ytmaldhbaihlmbaagreatdoor", sum := "c8c89b5e3a3cb46734ccef80165f8567793ccb60f40d07710ffc6b2c91c198a9", func := "lockbar/lockbarlaw18.FreeTells", spec := "freeTells", unfollowed := true, recurses := true, named := ["lockbar/port.kinds"], apart := false, laid := [("lockbar/port.kinds", laid_lockbar_port_kinds)] }
def FreeTellsSaid : Prop := freeTellsRow.holds Tryz.pinned (OpenSpec.ofChange freeTellsSpec)

/-- ITS FALSE NEIGHBOUR: 'it returns false'. Refute it at one input. -/
def freeTellsWrong : ChangeSpec := { name := "freeTells", fn := fun _ => fun
  | [d1, d2, d3, d4, d5, d6, d7] => { results := [.lit (.bool false)], args := [d1, d2, d3, d4, d5, d6, d7] }
  | _ => none }
def FreeTellsWrongFalsely : Prop := freeTellsRow.holds Tryz.pinned (OpenSpec.ofChange freeTellsWrong)

/-- 'lockbarlaw18.FreeApart': WHATEVER THE INPUT: true; the input reads as it did. -/
def freeApartSpec : ChangeSpec := { name := "freeApart", fn := fun _ => fun
  | [d1, d2, d3, d4] => { results := [.lit (.bool true)], args := [d1, d2, d3, d4] }
  | _ => none }
def freeApartRow : OpenClaim := { program := "ytmaldhbaihlmbaagreatdoor", sum := "c8c89b5e3a3cb46734ccef80165f8567793ccb60f40d07710ffc6b2c91c198a9", func := "lockbar/lockbarlaw18.FreeApart", spec := "freeApart", unfollowed := true, recurses := true, named := ["lockbar/port.kinds"], apart := false, laid := [("lockbar/port.kinds", laid_lockbar_port_kinds)] }
def FreeApartSaid : Prop := freeApartRow.holds Tryz.pinned (OpenSpec.ofChange freeApartSpec)

/-- ITS FALSE NEIGHBOUR: 'it returns false'. Refute it at one input. -/
def freeApartWrong : ChangeSpec := { name := "freeApart", fn := fun _ => fun
  | [d1, d2, d3, d4] => { results := [.lit (.bool false)], args := [d1, d2, d3, d4] }
  | _ => none }
def FreeApartWrongFalsely : Prop := freeApartRow.holds Tryz.pinned (OpenSpec.ofChange freeApartWrong)

/-- 'lockbarlaw18.FreeOne': WHATEVER THE INPUT: true; the input reads as it did. -/
def freeOneSpec : ChangeSpec := { name := "freeOne", fn := fun _ => fun
  | [d1, d2] => { results := [.lit (.bool true)], args := [d1, d2] }
  | _ => none }
def freeOneRow : OpenClaim := { program := "ytmaldhbaihlmbaagreatdoor", sum := "c8c89b5e3a3cb46734ccef80165f8567793ccb60f40d07710ffc6b2c91c198a9", func := "lockbar/lockbarlaw18.FreeOne", spec := "freeOne", unfollowed := true, recurses := true, named := ["lockbar/port.kinds"], apart := false, laid := [("lockbar/port.kinds", laid_lockbar_port_kinds)] }
def FreeOneSaid : Prop := freeOneRow.holds Tryz.pinned (OpenSpec.ofChange freeOneSpec)

/-- ITS FALSE NEIGHBOUR: 'it returns false'. Refute it at one input. -/
def freeOneWrong : ChangeSpec := { name := "freeOne", fn := fun _ => fun
  | [d1, d2] => { results := [.lit (.bool false)], args := [d1, d2] }
  | _ => none }
def FreeOneWrongFalsely : Prop := freeOneRow.holds Tryz.pinned (OpenSpec.ofChange freeOneWrong)

/-- 'lockbarlaw18.FreeStale': WHATEVER THE INPUT: true; the input reads as it did. -/
def freeStaleSpec : ChangeSpec := { name := "freeStale", fn := fun _ => fun
  | [d1, d2, d3, d4, d5] => { results := [.lit (.bool true)], args := [d1, d2, d3, d4, d5] }
  | _ => none }
def freeStaleRow : OpenClaim := { program := "ytmaldhbaihlmbaagreatdoor", sum := "c8c89b5e3a3cb46734ccef80165f8567793ccb60f40d07710ffc6b2c91c198a9", func := "lockbar/lockbarlaw18.FreeStale", spec := "freeStale", unfollowed := true, recurses := true, named := ["lockbar/port.kinds"], apart := false, laid := [("lockbar/port.kinds", laid_lockbar_port_kinds)] }
def FreeStaleSaid : Prop := freeStaleRow.holds Tryz.pinned (OpenSpec.ofChange freeStaleSpec)

/-- ITS FALSE NEIGHBOUR: 'it returns false'. Refute it at one input. -/
def freeStaleWrong : ChangeSpec := { name := "freeStale", fn := fun _ => fun
  | [d1, d2, d3, d4, d5] => { results := [.lit (.bool false)], args := [d1, d2, d3, d4, d5] }
  | _ => none }
def FreeStaleWrongFalsely : Prop := freeStaleRow.holds Tryz.pinned (OpenSpec.ofChange freeStaleWrong)

/-- 'lockbarlaw18.FreeMeets': WHATEVER THE INPUT: true; the input reads as it did. -/
def freeMeetsSpec : ChangeSpec := { name := "freeMeets", fn := fun _ => fun
  | [d1, d2, d3, d4] => { results := [.lit (.bool true)], args := [d1, d2, d3, d4] }
  | _ => none }
def freeMeetsRow : OpenClaim := { program := "ytmaldhbaihlmbaagreatdoor", sum := "c8c89b5e3a3cb46734ccef80165f8567793ccb60f40d07710ffc6b2c91c198a9", func := "lockbar/lockbarlaw18.FreeMeets", spec := "freeMeets", unfollowed := true, recurses := true, named := ["lockbar/port.kinds"], apart := false, laid := [("lockbar/port.kinds", laid_lockbar_port_kinds)] }
def FreeMeetsSaid : Prop := freeMeetsRow.holds Tryz.pinned (OpenSpec.ofChange freeMeetsSpec)

/-- ITS FALSE NEIGHBOUR: 'it returns false'. Refute it at one input. -/
def freeMeetsWrong : ChangeSpec := { name := "freeMeets", fn := fun _ => fun
  | [d1, d2, d3, d4] => { results := [.lit (.bool false)], args := [d1, d2, d3, d4] }
  | _ => none }
def FreeMeetsWrongFalsely : Prop := freeMeetsRow.holds Tryz.pinned (OpenSpec.ofChange freeMeetsWrong)

/- THE SECOND FORM. 'bulk': how many values and letters a reading holds, each counted each time it is reached (what is shared counts as often as it is met; a slice's spare places count too). A statement '..UptoSaid' is the law's where the arguments, and the package variables that the reading takes, are together of bulk at most 1048576: NARROWER than '..Said'. Prove '..Said' where nothing that the law and all that it calls make is longer than what came in: it says more and counts as full. Else prove '..UptoSaid'. A law counts once. -/
mutual
def uptoBulk {H : Type} : DataW H → Nat
  | .lit (.string bytes) => bytes.length + 1
  | .lit _ => 1
  | .nil => 1
  | .ptr d => uptoBulk d + 1
  | .slice elems spare => uptoBulkAll elems + uptoBulkAll spare + 1
  | .agg parts => uptoBulkAll parts + 1
  | .iface _ d => uptoBulk d + 1
  | .map entries => uptoBulkEntries entries + 1
  | .held _ => 1
def uptoBulkAll {H : Type} : List (DataW H) → Nat
  | [] => 0
  | d :: r => uptoBulk d + uptoBulkAll r
def uptoBulkEntries {H : Type} : List (Lit × DataW H) → Nat
  | [] => 0
  | x :: r => uptoBulkEntry x + uptoBulkEntries r
def uptoBulkEntry {H : Type} : Lit × DataW H → Nat
  | (.string bytes, d) => bytes.length + uptoBulk d + 1
  | (_, d) => uptoBulk d + 1
 end
def uptoSmall : (H : Type) → List (DataW H) → Bool := fun _ ds => decide (uptoBulkAll ds ≤ 1048576)
def OpenSpec.upto (s : _root_.Go.ChangeSpec) : _root_.Go.OpenSpec := { _root_.Go.OpenSpec.ofChange s with cond := some uptoSmall }

/-- 'lockbarlaw18.FreeTells', WHERE WHAT IT READS IS OF BULK AT MOST 1048576: true; the input reads as it did. -/
def freeTellsUptoRow : OpenClaim := { program := "ytmaldhbaihlmbaagreatdoor", sum := "c8c89b5e3a3cb46734ccef80165f8567793ccb60f40d07710ffc6b2c91c198a9", func := "lockbar/lockbarlaw18.FreeTells", spec := "freeTells", unfollowed := true, recurses := true, named := ["lockbar/port.kinds"], apart := false, laid := [("lockbar/port.kinds", laid_lockbar_port_kinds)], narrowed := true }
def FreeTellsUptoSaid : Prop := freeTellsUptoRow.holds Tryz.pinned (OpenSpec.upto freeTellsSpec)

/-- 'lockbarlaw18.FreeApart', WHERE WHAT IT READS IS OF BULK AT MOST 1048576: true; the input reads as it did. -/
def freeApartUptoRow : OpenClaim := { program := "ytmaldhbaihlmbaagreatdoor", sum := "c8c89b5e3a3cb46734ccef80165f8567793ccb60f40d07710ffc6b2c91c198a9", func := "lockbar/lockbarlaw18.FreeApart", spec := "freeApart", unfollowed := true, recurses := true, named := ["lockbar/port.kinds"], apart := false, laid := [("lockbar/port.kinds", laid_lockbar_port_kinds)], narrowed := true }
def FreeApartUptoSaid : Prop := freeApartUptoRow.holds Tryz.pinned (OpenSpec.upto freeApartSpec)

/-- 'lockbarlaw18.FreeOne', WHERE WHAT IT READS IS OF BULK AT MOST 1048576: true; the input reads as it did. -/
def freeOneUptoRow : OpenClaim := { program := "ytmaldhbaihlmbaagreatdoor", sum := "c8c89b5e3a3cb46734ccef80165f8567793ccb60f40d07710ffc6b2c91c198a9", func := "lockbar/lockbarlaw18.FreeOne", spec := "freeOne", unfollowed := true, recurses := true, named := ["lockbar/port.kinds"], apart := false, laid := [("lockbar/port.kinds", laid_lockbar_port_kinds)], narrowed := true }
def FreeOneUptoSaid : Prop := freeOneUptoRow.holds Tryz.pinned (OpenSpec.upto freeOneSpec)

/-- 'lockbarlaw18.FreeStale', WHERE WHAT IT READS IS OF BULK AT MOST 1048576: true; the input reads as it did. -/
def freeStaleUptoRow : OpenClaim := { program := "ytmaldhbaihlmbaagreatdoor", sum := "c8c89b5e3a3cb46734ccef80165f8567793ccb60f40d07710ffc6b2c91c198a9", func := "lockbar/lockbarlaw18.FreeStale", spec := "freeStale", unfollowed := true, recurses := true, named := ["lockbar/port.kinds"], apart := false, laid := [("lockbar/port.kinds", laid_lockbar_port_kinds)], narrowed := true }
def FreeStaleUptoSaid : Prop := freeStaleUptoRow.holds Tryz.pinned (OpenSpec.upto freeStaleSpec)

/-- 'lockbarlaw18.FreeMeets', WHERE WHAT IT READS IS OF BULK AT MOST 1048576: true; the input reads as it did. -/
def freeMeetsUptoRow : OpenClaim := { program := "ytmaldhbaihlmbaagreatdoor", sum := "c8c89b5e3a3cb46734ccef80165f8567793ccb60f40d07710ffc6b2c91c198a9", func := "lockbar/lockbarlaw18.FreeMeets", spec := "freeMeets", unfollowed := true, recurses := true, named := ["lockbar/port.kinds"], apart := false, laid := [("lockbar/port.kinds", laid_lockbar_port_kinds)], narrowed := true }
def FreeMeetsUptoSaid : Prop := freeMeetsUptoRow.holds Tryz.pinned (OpenSpec.upto freeMeetsSpec)

end Rows
end Go.Proofs.YtmaldhbaihlmbaaGreatDoor
