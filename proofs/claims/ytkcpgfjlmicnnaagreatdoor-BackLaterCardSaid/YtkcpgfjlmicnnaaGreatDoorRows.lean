/-
  NARROWER THAN 'FOR EVERY INPUT', by the rows' own cells (each row's printed sentence says how): BackTells: laid · BackLater: laid · BackOthers: laid · BackStill: laid.
  DERIVED. THE GIVEN ROWS OF THIS SEAT. 4 by the template 'for every input the law returns true; each argument reads behind the call as it read before'; 0 by the template 'total and deterministic' (their statements: YtkcpgfjlmicnnaaGreatDoorTotals.lean).
  GIVEN WITH THE SEED: the statements are not yours to turn. If you find one false, say at which input.
  Laid BY PROGRAM, IN A SANDBOX (cutbox-rows.mjs): the forced cells as the released guide's own fill.sh prints them over the translation 837930804cb96380… (all of the seat's roots in one cut). By AI agents, Wed Nov 11 2026. No macro, syntax, notation, axiom, sorry.
-/
import Derived.Test.YtkcpgfjlmicnnaaGreatDoorChecked
import GoSem.Claim
import GoSem.ClaimJoined
import GoSem.ClaimMapViews
import Derived.JoinedTies
import Derived.KernelRfl
namespace Go.Proofs.YtkcpgfjlmicnnaaGreatDoor
/- THE CELL 'sum', in the pinned program and in every row, IS THE sha256 OF THE DUMP (.gsa) THAT YtkcpgfjlmicnnaaGreatDoorProg.lean LOADS. Nothing in Lean hashes anything: it is a label: what it is worth is what the hold of that sum in a sandbox is worth. -/
noncomputable def Tryz.pinned : Pinned := { name := "ytkcpgfjlmicnnaagreatdoor", sum := "837930804cb963801c42261e31b2644340947812fc3ade4b0b4a4dcda7845cc4", checked := Tryz.checked }
namespace Rows
def none {H : Type} : Left H := { results := [], args := [] }

/- WHAT THE LISTED PACKAGE-LEVEL VARIABLES READ AS WHEN THE CALL BEGINS. Each datum BY PROGRAM (the guide's laid-datum.mjs) off the statement by which the dump's own 'gosem.cut.vars' lays the variable. In a bare row this is a premise. The card (YtkcpgfjlmicnnaaGreatDoorCards.lean) ties it to the program's text. -/
def laid_lockbar_port_kinds {H : Type} : DataW H := .agg [.agg [.lit (.int .i64 0), .agg [.agg [.lit (.int .i64 0), .lit (.int .i64 0)], .agg [.lit (.int .i64 0), .lit (.int .i64 0)]], .lit (.int .i64 0), .lit (.bool false)], .agg [.lit (.int .i64 2), .agg [.agg [.lit (.int .i64 0), .lit (.int .i64 1)], .agg [.lit (.int .i64 0), .lit (.int .i64 0)]], .lit (.int .i64 1), .lit (.bool false)], .agg [.lit (.int .i64 3), .agg [.agg [.lit (.int .i64 0), .lit (.int .i64 1)], .agg [.lit (.int .i64 0), .lit (.int .i64 2)]], .lit (.int .i64 2), .lit (.bool true)], .agg [.lit (.int .i64 4), .agg [.agg [.lit (.int .i64 0), .lit (.int .i64 1)], .agg [.lit (.int .i64 2), .lit (.int .i64 3)]], .lit (.int .i64 2), .lit (.bool false)]]
def laid_lockbar_tick_tops {H : Type} : DataW H := .agg [.lit (.int .i64 1073741824), .lit (.int .i64 65535)]
def laid_lockbar_join_end {H : Type} : DataW H := .agg [.lit (.int .i64 (-1)), .lit (.int .i64 0)]
def laid_lockbar_beyond_end {H : Type} : DataW H := .agg [.lit (.int .i64 (-1)), .lit (.int .i64 0)]

/-- 'lockbarlaw22.BackTells': WHATEVER THE INPUT: true; the input reads as it did. -/
def backTellsSpec : ChangeSpec := { name := "backTells", fn := fun _ => fun
  | [d1, d2, d3, d4, d5] => { results := [.lit (.bool true)], args := [d1, d2, d3, d4, d5] }
  | _ => none }
def backTellsRow : OpenClaim := { program := "ytkcpgfjlmicnnaagreatdoor", sum := "837930804cb963801c42261e31b2644340947812fc3ade4b0b4a4dcda7845cc4", func := "lockbar/lockbarlaw22.BackTells", spec := "backTells", unfollowed := true, recurses := true, named := ["lockbar/beyond.end", "lockbar/join.end", "lockbar/port.kinds", "lockbar/tick.tops"], apart := false, laid := [("lockbar/port.kinds", laid_lockbar_port_kinds), ("lockbar/tick.tops", laid_lockbar_tick_tops), ("lockbar/join.end", laid_lockbar_join_end), ("lockbar/beyond.end", laid_lockbar_beyond_end)] }
def BackTellsSaid : Prop := backTellsRow.holds Tryz.pinned (OpenSpec.ofChange backTellsSpec)

/-- ITS FALSE NEIGHBOUR: 'it returns false'. Refute it at one input. -/
def backTellsWrong : ChangeSpec := { name := "backTells", fn := fun _ => fun
  | [d1, d2, d3, d4, d5] => { results := [.lit (.bool false)], args := [d1, d2, d3, d4, d5] }
  | _ => none }
def BackTellsWrongFalsely : Prop := backTellsRow.holds Tryz.pinned (OpenSpec.ofChange backTellsWrong)

/-- 'lockbarlaw22.BackLater': WHATEVER THE INPUT: true; the input reads as it did. -/
def backLaterSpec : ChangeSpec := { name := "backLater", fn := fun _ => fun
  | [d1, d2, d3, d4] => { results := [.lit (.bool true)], args := [d1, d2, d3, d4] }
  | _ => none }
def backLaterRow : OpenClaim := { program := "ytkcpgfjlmicnnaagreatdoor", sum := "837930804cb963801c42261e31b2644340947812fc3ade4b0b4a4dcda7845cc4", func := "lockbar/lockbarlaw22.BackLater", spec := "backLater", unfollowed := true, recurses := true, named := ["lockbar/beyond.end", "lockbar/join.end", "lockbar/port.kinds", "lockbar/tick.tops"], apart := false, laid := [("lockbar/port.kinds", laid_lockbar_port_kinds), ("lockbar/tick.tops", laid_lockbar_tick_tops), ("lockbar/join.end", laid_lockbar_join_end), ("lockbar/beyond.end", laid_lockbar_beyond_end)] }
def BackLaterSaid : Prop := backLaterRow.holds Tryz.pinned (OpenSpec.ofChange backLaterSpec)

/-- ITS FALSE NEIGHBOUR: 'it returns false'. Refute it at one input. -/
def backLaterWrong : ChangeSpec := { name := "backLater", fn := fun _ => fun
  | [d1, d2, d3, d4] => { results := [.lit (.bool false)], args := [d1, d2, d3, d4] }
  | _ => none }
def BackLaterWrongFalsely : Prop := backLaterRow.holds Tryz.pinned (OpenSpec.ofChange backLaterWrong)

/-- 'lockbarlaw22.BackOthers': WHATEVER THE INPUT: true; the input reads as it did. -/
def backOthersSpec : ChangeSpec := { name := "backOthers", fn := fun _ => fun
  | [d1, d2, d3, d4] => { results := [.lit (.bool true)], args := [d1, d2, d3, d4] }
  | _ => none }
def backOthersRow : OpenClaim := { program := "ytkcpgfjlmicnnaagreatdoor", sum := "837930804cb963801c42261e31b2644340947812fc3ade4b0b4a4dcda7845cc4", func := "lockbar/lockbarlaw22.BackOthers", spec := "backOthers", unfollowed := true, recurses := true, named := ["lockbar/beyond.end", "lockbar/join.end", "lockbar/port.kinds", "lockbar/tick.tops"], apart := false, laid := [("lockbar/port.kinds", laid_lockbar_port_kinds), ("lockbar/tick.tops", laid_lockbar_tick_tops), ("lockbar/join.end", laid_lockbar_join_end), ("lockbar/beyond.end", laid_lockbar_beyond_end)] }
def BackOthersSaid : Prop := backOthersRow.holds Tryz.pinned (OpenSpec.ofChange backOthersSpec)

/-- ITS FALSE NEIGHBOUR: 'it returns false'. Refute it at one input. -/
def backOthersWrong : ChangeSpec := { name := "backOthers", fn := fun _ => fun
  | [d1, d2, d3, d4] => { results := [.lit (.bool false)], args := [d1, d2, d3, d4] }
  | _ => none }
def BackOthersWrongFalsely : Prop := backOthersRow.holds Tryz.pinned (OpenSpec.ofChange backOthersWrong)

/-- 'lockbarlaw22.BackStill': WHATEVER THE INPUT: true; the input reads as it did. -/
def backStillSpec : ChangeSpec := { name := "backStill", fn := fun _ => fun
  | [d1, d2, d3] => { results := [.lit (.bool true)], args := [d1, d2, d3] }
  | _ => none }
def backStillRow : OpenClaim := { program := "ytkcpgfjlmicnnaagreatdoor", sum := "837930804cb963801c42261e31b2644340947812fc3ade4b0b4a4dcda7845cc4", func := "lockbar/lockbarlaw22.BackStill", spec := "backStill", unfollowed := true, recurses := true, named := ["lockbar/beyond.end", "lockbar/join.end", "lockbar/port.kinds", "lockbar/tick.tops"], apart := false, laid := [("lockbar/port.kinds", laid_lockbar_port_kinds), ("lockbar/tick.tops", laid_lockbar_tick_tops), ("lockbar/join.end", laid_lockbar_join_end), ("lockbar/beyond.end", laid_lockbar_beyond_end)] }
def BackStillSaid : Prop := backStillRow.holds Tryz.pinned (OpenSpec.ofChange backStillSpec)

/-- ITS FALSE NEIGHBOUR: 'it returns false'. Refute it at one input. -/
def backStillWrong : ChangeSpec := { name := "backStill", fn := fun _ => fun
  | [d1, d2, d3] => { results := [.lit (.bool false)], args := [d1, d2, d3] }
  | _ => none }
def BackStillWrongFalsely : Prop := backStillRow.holds Tryz.pinned (OpenSpec.ofChange backStillWrong)

/- THE SECOND FORM. 'bulk': how many values and letters a reading holds, each counted each time it is reached (what is shared counts as often as it is met; a slice's spare places count too). A statement '..UptoSaid' is the law's where the arguments, and the package variables that the reading takes, are together of bulk at most 1048576: NARROWER than '..Said'. Prove '..Said' where nothing that the law and all that it calls make is longer than what came in: it says more and counts as full. Else prove '..UptoSaid'. A law counts once. -/
mutual
def uptoBulk {H : Type} : DataW H → Nat
  | .lit (.string bytes) => bytes.length + 1
  | .lit _ => 1
  | .nil => 1
  | .ptr d => uptoBulk d + 1
  | .slice elems spare => uptoBulkAll elems + uptoBulkAll spare + 1
  | .agg parts => uptoBulkAll parts + 1
  | .iface _ d => uptoBulk d + 1
  | .map entries => uptoBulkEntries entries + 1
  | .held _ => 1
def uptoBulkAll {H : Type} : List (DataW H) → Nat
  | [] => 0
  | d :: r => uptoBulk d + uptoBulkAll r
def uptoBulkEntries {H : Type} : List (Lit × DataW H) → Nat
  | [] => 0
  | x :: r => uptoBulkEntry x + uptoBulkEntries r
def uptoBulkEntry {H : Type} : Lit × DataW H → Nat
  | (.string bytes, d) => bytes.length + uptoBulk d + 1
  | (_, d) => uptoBulk d + 1
 end
def uptoSmall : (H : Type) → List (DataW H) → Bool := fun _ ds => decide (uptoBulkAll ds ≤ 1048576)
def OpenSpec.upto (s : _root_.Go.ChangeSpec) : _root_.Go.OpenSpec := { _root_.Go.OpenSpec.ofChange s with cond := some uptoSmall }

/-- 'lockbarlaw22.BackTells', WHERE WHAT IT READS IS OF BULK AT MOST 1048576: true; the input reads as it did. -/
def backTellsUptoRow : OpenClaim := { program := "ytkcpgfjlmicnnaagreatdoor", sum := "837930804cb963801c42261e31b2644340947812fc3ade4b0b4a4dcda7845cc4", func := "lockbar/lockbarlaw22.BackTells", spec := "backTells", unfollowed := true, recurses := true, named := ["lockbar/beyond.end", "lockbar/join.end", "lockbar/port.kinds", "lockbar/tick.tops"], apart := false, laid := [("lockbar/port.kinds", laid_lockbar_port_kinds), ("lockbar/tick.tops", laid_lockbar_tick_tops), ("lockbar/join.end", laid_lockbar_join_end), ("lockbar/beyond.end", laid_lockbar_beyond_end)], narrowed := true }
def BackTellsUptoSaid : Prop := backTellsUptoRow.holds Tryz.pinned (OpenSpec.upto backTellsSpec)

/-- 'lockbarlaw22.BackLater', WHERE WHAT IT READS IS OF BULK AT MOST 1048576: true; the input reads as it did. -/
def backLaterUptoRow : OpenClaim := { program := "ytkcpgfjlmicnnaagreatdoor", sum := "837930804cb963801c42261e31b2644340947812fc3ade4b0b4a4dcda7845cc4", func := "lockbar/lockbarlaw22.BackLater", spec := "backLater", unfollowed := true, recurses := true, named := ["lockbar/beyond.end", "lockbar/join.end", "lockbar/port.kinds", "lockbar/tick.tops"], apart := false, laid := [("lockbar/port.kinds", laid_lockbar_port_kinds), ("lockbar/tick.tops", laid_lockbar_tick_tops), ("lockbar/join.end", laid_lockbar_join_end), ("lockbar/beyond.end", laid_lockbar_beyond_end)], narrowed := true }
def BackLaterUptoSaid : Prop := backLaterUptoRow.holds Tryz.pinned (OpenSpec.upto backLaterSpec)

/-- 'lockbarlaw22.BackOthers', WHERE WHAT IT READS IS OF BULK AT MOST 1048576: true; the input reads as it did. -/
def backOthersUptoRow : OpenClaim := { program := "ytkcpgfjlmicnnaagreatdoor", sum := "837930804cb963801c42261e31b2644340947812fc3ade4b0b4a4dcda7845cc4", func := "lockbar/lockbarlaw22.BackOthers", spec := "backOthers", unfollowed := true, recurses := true, named := ["lockbar/beyond.end", "lockbar/join.end", "lockbar/port.kinds", "lockbar/tick.tops"], apart := false, laid := [("lockbar/port.kinds", laid_lockbar_port_kinds), ("lockbar/tick.tops", laid_lockbar_tick_tops), ("lockbar/join.end", laid_lockbar_join_end), ("lockbar/beyond.end", laid_lockbar_beyond_end)], narrowed := true }
def BackOthersUptoSaid : Prop := backOthersUptoRow.holds Tryz.pinned (OpenSpec.upto backOthersSpec)

/-- 'lockbarlaw22.BackStill', WHERE WHAT IT READS IS OF BULK AT MOST 1048576: true; the input reads as it did. -/
def backStillUptoRow : OpenClaim := { program := "ytkcpgfjlmicnnaagreatdoor", sum := "837930804cb963801c42261e31b2644340947812fc3ade4b0b4a4dcda7845cc4", func := "lockbar/lockbarlaw22.BackStill", spec := "backStill", unfollowed := true, recurses := true, named := ["lockbar/beyond.end", "lockbar/join.end", "lockbar/port.kinds", "lockbar/tick.tops"], apart := false, laid := [("lockbar/port.kinds", laid_lockbar_port_kinds), ("lockbar/tick.tops", laid_lockbar_tick_tops), ("lockbar/join.end", laid_lockbar_join_end), ("lockbar/beyond.end", laid_lockbar_beyond_end)], narrowed := true }
def BackStillUptoSaid : Prop := backStillUptoRow.holds Tryz.pinned (OpenSpec.upto backStillSpec)

end Rows
end Go.Proofs.YtkcpgfjlmicnnaaGreatDoor
