/-
  NARROWER THAN 'FOR EVERY INPUT', by the rows' own cells (each row's printed sentence says how): CommitTells: laid · CommitApart: laid · CommitIs: laid · CommitOnly: laid · CommitFinds: laid.
  DERIVED. THE GIVEN ROWS OF THIS SEAT. 5 by the template 'for every input the law returns true; each argument reads behind the call as it read before'; 0 by the template 'total and deterministic' (their statements: YtbofccnennefnaaGreatDoorTotals.lean).
  GIVEN WITH THE SEED: the statements are not yours to turn. If you find one false, say at which input.
  Laid BY PROGRAM, IN A SANDBOX (cutbox-rows.mjs): the forced cells as the released guide's own fill.sh prints them over the translation 893a0c027b6650ae… (all of the seat's roots in one cut). By AI agents, Wed Nov 11 2026. No macro, syntax, notation, axiom, sorry.
-/
import Derived.Test.YtbofccnennefnaaGreatDoorChecked
import GoSem.Claim
import GoSem.ClaimJoined
import GoSem.ClaimMapViews
import Derived.JoinedTies
import Derived.KernelRfl
namespace Go.Proofs.YtbofccnennefnaaGreatDoor
/- THE CELL 'sum', in the pinned program and in every row, IS THE sha256 OF THE DUMP (.gsa) THAT YtbofccnennefnaaGreatDoorProg.lean LOADS. Nothing in Lean hashes anything: it is a label: what it is worth is what the hold of that sum in a sandbox is worth. -/
noncomputable def Tryz.pinned : Pinned := { name := "ytbofccnennefnaagreatdoor", sum := "893a0c027b6650aec4108f07ddbf390c80151417e1d93f6a2d544f6fe4904192", checked := Tryz.checked }
namespace Rows
def none {H : Type} : Left H := { results := [], args := [] }

/- WHAT THE LISTED PACKAGE-LEVEL VARIABLES READ AS WHEN THE CALL BEGINS. Each datum BY PROGRAM (the guide's laid-datum.mjs) off the statement by which the dump's own 'gosem.cut.vars' lays the variable. In a bare row this is a premise. The card (YtbofccnennefnaaGreatDoorCards.lean) ties it to the program's text. -/
def laid_lockbar_port_kinds {H : Type} : DataW H := .agg [.agg [.lit (.int .i64 0), .agg [.agg [.lit (.int .i64 0), .lit (.int .i64 0)], .agg [.lit (.int .i64 0), .lit (.int .i64 0)]], .lit (.int .i64 0), .lit (.bool false)], .agg [.lit (.int .i64 2), .agg [.agg [.lit (.int .i64 0), .lit (.int .i64 1)], .agg [.lit (.int .i64 0), .lit (.int .i64 0)]], .lit (.int .i64 1), .lit (.bool false)], .agg [.lit (.int .i64 3), .agg [.agg [.lit (.int .i64 0), .lit (.int .i64 1)], .agg [.lit (.int .i64 0), .lit (.int .i64 2)]], .lit (.int .i64 2), .lit (.bool true)], .agg [.lit (.int .i64 4), .agg [.agg [.lit (.int .i64 0), .lit (.int .i64 1)], .agg [.lit (.int .i64 2), .lit (.int .i64 3)]], .lit (.int .i64 2), .lit (.bool false)]]
def laid_lockbar_port_none {H : Type} : DataW H := .agg [.lit (.int .i64 (-1)), .lit (.int .i64 0)]
def laid_lockbar_join_end {H : Type} : DataW H := .agg [.lit (.int .i64 (-1)), .lit (.int .i64 0)]

/-- 'lockbarlaw19.CommitTells': WHATEVER THE INPUT: true; the input reads as it did. -/
def commitTellsSpec : ChangeSpec := { name := "commitTells", fn := fun _ => fun
  | [d1, d2, d3, d4, d5] => { results := [.lit (.bool true)], args := [d1, d2, d3, d4, d5] }
  | _ => none }
def commitTellsRow : OpenClaim := { program := "ytbofccnennefnaagreatdoor", sum := "893a0c027b6650aec4108f07ddbf390c80151417e1d93f6a2d544f6fe4904192", func := "lockbar/lockbarlaw19.CommitTells", spec := "commitTells", unfollowed := true, recurses := true, named := ["lockbar/port.none", "lockbar/port.kinds", "lockbar/join.end"], apart := false, laid := [("lockbar/port.kinds", laid_lockbar_port_kinds), ("lockbar/port.none", laid_lockbar_port_none), ("lockbar/join.end", laid_lockbar_join_end)] }
def CommitTellsSaid : Prop := commitTellsRow.holds Tryz.pinned (OpenSpec.ofChange commitTellsSpec)

/-- ITS FALSE NEIGHBOUR: 'it returns false'. Refute it at one input. -/
def commitTellsWrong : ChangeSpec := { name := "commitTells", fn := fun _ => fun
  | [d1, d2, d3, d4, d5] => { results := [.lit (.bool false)], args := [d1, d2, d3, d4, d5] }
  | _ => none }
def CommitTellsWrongFalsely : Prop := commitTellsRow.holds Tryz.pinned (OpenSpec.ofChange commitTellsWrong)

/-- 'lockbarlaw19.CommitApart': WHATEVER THE INPUT: true; the input reads as it did. -/
def commitApartSpec : ChangeSpec := { name := "commitApart", fn := fun _ => fun
  | [d1, d2, d3, d4] => { results := [.lit (.bool true)], args := [d1, d2, d3, d4] }
  | _ => none }
def commitApartRow : OpenClaim := { program := "ytbofccnennefnaagreatdoor", sum := "893a0c027b6650aec4108f07ddbf390c80151417e1d93f6a2d544f6fe4904192", func := "lockbar/lockbarlaw19.CommitApart", spec := "commitApart", unfollowed := true, recurses := true, named := ["lockbar/port.none", "lockbar/port.kinds", "lockbar/join.end"], apart := false, laid := [("lockbar/port.kinds", laid_lockbar_port_kinds), ("lockbar/port.none", laid_lockbar_port_none), ("lockbar/join.end", laid_lockbar_join_end)] }
def CommitApartSaid : Prop := commitApartRow.holds Tryz.pinned (OpenSpec.ofChange commitApartSpec)

/-- ITS FALSE NEIGHBOUR: 'it returns false'. Refute it at one input. -/
def commitApartWrong : ChangeSpec := { name := "commitApart", fn := fun _ => fun
  | [d1, d2, d3, d4] => { results := [.lit (.bool false)], args := [d1, d2, d3, d4] }
  | _ => none }
def CommitApartWrongFalsely : Prop := commitApartRow.holds Tryz.pinned (OpenSpec.ofChange commitApartWrong)

/-- 'lockbarlaw19.CommitIs': WHATEVER THE INPUT: true; the input reads as it did. -/
def commitIsSpec : ChangeSpec := { name := "commitIs", fn := fun _ => fun
  | [d1, d2, d3, d4] => { results := [.lit (.bool true)], args := [d1, d2, d3, d4] }
  | _ => none }
def commitIsRow : OpenClaim := { program := "ytbofccnennefnaagreatdoor", sum := "893a0c027b6650aec4108f07ddbf390c80151417e1d93f6a2d544f6fe4904192", func := "lockbar/lockbarlaw19.CommitIs", spec := "commitIs", unfollowed := true, recurses := true, named := ["lockbar/port.none", "lockbar/port.kinds", "lockbar/join.end"], apart := false, laid := [("lockbar/port.kinds", laid_lockbar_port_kinds), ("lockbar/port.none", laid_lockbar_port_none), ("lockbar/join.end", laid_lockbar_join_end)] }
def CommitIsSaid : Prop := commitIsRow.holds Tryz.pinned (OpenSpec.ofChange commitIsSpec)

/-- ITS FALSE NEIGHBOUR: 'it returns false'. Refute it at one input. -/
def commitIsWrong : ChangeSpec := { name := "commitIs", fn := fun _ => fun
  | [d1, d2, d3, d4] => { results := [.lit (.bool false)], args := [d1, d2, d3, d4] }
  | _ => none }
def CommitIsWrongFalsely : Prop := commitIsRow.holds Tryz.pinned (OpenSpec.ofChange commitIsWrong)

/-- 'lockbarlaw19.CommitOnly': WHATEVER THE INPUT: true; the input reads as it did. -/
def commitOnlySpec : ChangeSpec := { name := "commitOnly", fn := fun _ => fun
  | [d1, d2, d3, d4] => { results := [.lit (.bool true)], args := [d1, d2, d3, d4] }
  | _ => none }
def commitOnlyRow : OpenClaim := { program := "ytbofccnennefnaagreatdoor", sum := "893a0c027b6650aec4108f07ddbf390c80151417e1d93f6a2d544f6fe4904192", func := "lockbar/lockbarlaw19.CommitOnly", spec := "commitOnly", unfollowed := true, recurses := true, named := ["lockbar/port.none", "lockbar/port.kinds", "lockbar/join.end"], apart := false, laid := [("lockbar/port.kinds", laid_lockbar_port_kinds), ("lockbar/port.none", laid_lockbar_port_none), ("lockbar/join.end", laid_lockbar_join_end)] }
def CommitOnlySaid : Prop := commitOnlyRow.holds Tryz.pinned (OpenSpec.ofChange commitOnlySpec)

/-- ITS FALSE NEIGHBOUR: 'it returns false'. Refute it at one input. -/
def commitOnlyWrong : ChangeSpec := { name := "commitOnly", fn := fun _ => fun
  | [d1, d2, d3, d4] => { results := [.lit (.bool false)], args := [d1, d2, d3, d4] }
  | _ => none }
def CommitOnlyWrongFalsely : Prop := commitOnlyRow.holds Tryz.pinned (OpenSpec.ofChange commitOnlyWrong)

/-- 'lockbarlaw19.CommitFinds': WHATEVER THE INPUT: true; the input reads as it did. -/
def commitFindsSpec : ChangeSpec := { name := "commitFinds", fn := fun _ => fun
  | [d1, d2] => { results := [.lit (.bool true)], args := [d1, d2] }
  | _ => none }
def commitFindsRow : OpenClaim := { program := "ytbofccnennefnaagreatdoor", sum := "893a0c027b6650aec4108f07ddbf390c80151417e1d93f6a2d544f6fe4904192", func := "lockbar/lockbarlaw19.CommitFinds", spec := "commitFinds", unfollowed := true, recurses := true, named := ["lockbar/port.none", "lockbar/port.kinds", "lockbar/join.end"], apart := false, laid := [("lockbar/port.kinds", laid_lockbar_port_kinds), ("lockbar/port.none", laid_lockbar_port_none), ("lockbar/join.end", laid_lockbar_join_end)] }
def CommitFindsSaid : Prop := commitFindsRow.holds Tryz.pinned (OpenSpec.ofChange commitFindsSpec)

/-- ITS FALSE NEIGHBOUR: 'it returns false'. Refute it at one input. -/
def commitFindsWrong : ChangeSpec := { name := "commitFinds", fn := fun _ => fun
  | [d1, d2] => { results := [.lit (.bool false)], args := [d1, d2] }
  | _ => none }
def CommitFindsWrongFalsely : Prop := commitFindsRow.holds Tryz.pinned (OpenSpec.ofChange commitFindsWrong)

/- THE SECOND FORM. 'bulk': how many values and letters a reading holds, each counted each time it is reached (what is shared counts as often as it is met; a slice's spare places count too). A statement '..UptoSaid' is the law's where the arguments, and the package variables that the reading takes, are together of bulk at most 1048576: NARROWER than '..Said'. Prove '..Said' where nothing that the law and all that it calls make is longer than what came in: it says more and counts as full. Else prove '..UptoSaid'. A law counts once. -/
mutual
def uptoBulk {H : Type} : DataW H → Nat
  | .lit (.string bytes) => bytes.length + 1
  | .lit _ => 1
  | .nil => 1
  | .ptr d => uptoBulk d + 1
  | .slice elems spare => uptoBulkAll elems + uptoBulkAll spare + 1
  | .agg parts => uptoBulkAll parts + 1
  | .iface _ d => uptoBulk d + 1
  | .map entries => uptoBulkEntries entries + 1
  | .held _ => 1
def uptoBulkAll {H : Type} : List (DataW H) → Nat
  | [] => 0
  | d :: r => uptoBulk d + uptoBulkAll r
def uptoBulkEntries {H : Type} : List (Lit × DataW H) → Nat
  | [] => 0
  | x :: r => uptoBulkEntry x + uptoBulkEntries r
def uptoBulkEntry {H : Type} : Lit × DataW H → Nat
  | (.string bytes, d) => bytes.length + uptoBulk d + 1
  | (_, d) => uptoBulk d + 1
 end
def uptoSmall : (H : Type) → List (DataW H) → Bool := fun _ ds => decide (uptoBulkAll ds ≤ 1048576)
def OpenSpec.upto (s : _root_.Go.ChangeSpec) : _root_.Go.OpenSpec := { _root_.Go.OpenSpec.ofChange s with cond := some uptoSmall }

/-- 'lockbarlaw19.CommitTells', WHERE WHAT IT READS IS OF BULK AT MOST 1048576: true; the input reads as it did. -/
def commitTellsUptoRow : OpenClaim := { program := "ytbofccnennefnaagreatdoor", sum := "893a0c027b6650aec4108f07ddbf390c80151417e1d93f6a2d544f6fe4904192", func := "lockbar/lockbarlaw19.CommitTells", spec := "commitTells", unfollowed := true, recurses := true, named := ["lockbar/port.none", "lockbar/port.kinds", "lockbar/join.end"], apart := false, laid := [("lockbar/port.kinds", laid_lockbar_port_kinds), ("lockbar/port.none", laid_lockbar_port_none), ("lockbar/join.end", laid_lockbar_join_end)], narrowed := true }
def CommitTellsUptoSaid : Prop := commitTellsUptoRow.holds Tryz.pinned (OpenSpec.upto commitTellsSpec)

/-- 'lockbarlaw19.CommitApart', WHERE WHAT IT READS IS OF BULK AT MOST 1048576: true; the input reads as it did. -/
def commitApartUptoRow : OpenClaim := { program := "ytbofccnennefnaagreatdoor", sum := "893a0c027b6650aec4108f07ddbf390c80151417e1d93f6a2d544f6fe4904192", func := "lockbar/lockbarlaw19.CommitApart", spec := "commitApart", unfollowed := true, recurses := true, named := ["lockbar/port.none", "lockbar/port.kinds", "lockbar/join.end"], apart := false, laid := [("lockbar/port.kinds", laid_lockbar_port_kinds), ("lockbar/port.none", laid_lockbar_port_none), ("lockbar/join.end", laid_lockbar_join_end)], narrowed := true }
def CommitApartUptoSaid : Prop := commitApartUptoRow.holds Tryz.pinned (OpenSpec.upto commitApartSpec)

/-- 'lockbarlaw19.CommitIs', WHERE WHAT IT READS IS OF BULK AT MOST 1048576: true; the input reads as it did. -/
def commitIsUptoRow : OpenClaim := { program := "ytbofccnennefnaagreatdoor", sum := "893a0c027b6650aec4108f07ddbf390c80151417e1d93f6a2d544f6fe4904192", func := "lockbar/lockbarlaw19.CommitIs", spec := "commitIs", unfollowed := true, recurses := true, named := ["lockbar/port.none", "lockbar/port.kinds", "lockbar/join.end"], apart := false, laid := [("lockbar/port.kinds", laid_lockbar_port_kinds), ("lockbar/port.none", laid_lockbar_port_none), ("lockbar/join.end", laid_lockbar_join_end)], narrowed := true }
def CommitIsUptoSaid : Prop := commitIsUptoRow.holds Tryz.pinned (OpenSpec.upto commitIsSpec)

/-- 'lockbarlaw19.CommitOnly', WHERE WHAT IT READS IS OF BULK AT MOST 1048576: true; the input reads as it did. -/
def commitOnlyUptoRow : OpenClaim := { program := "ytbofccnennefnaagreatdoor", sum := "893a0c027b6650aec4108f07ddbf390c80151417e1d93f6a2d544f6fe4904192", func := "lockbar/lockbarlaw19.CommitOnly", spec := "commitOnly", unfollowed := true, recurses := true, named := ["lockbar/port.none", "lockbar/port.kinds", "lockbar/join.end"], apart := false, laid := [("lockbar/port.kinds", laid_lockbar_port_kinds), ("lockbar/port.none", laid_lockbar_port_none), ("lockbar/join.end", laid_lockbar_join_end)], narrowed := true }
def CommitOnlyUptoSaid : Prop := commitOnlyUptoRow.holds Tryz.pinned (OpenSpec.upto commitOnlySpec)

/-- 'lockbarlaw19.CommitFinds', WHERE WHAT IT READS IS OF BULK AT MOST 1048576: true; the input reads as it did. -/
def commitFindsUptoRow : OpenClaim := { program := "ytbofccnennefnaagreatdoor", sum := "893a0c027b6650aec4108f07ddbf390c80151417e1d93f6a2d544f6fe4904192", func := "lockbar/lockbarlaw19.CommitFinds", spec := "commitFinds", unfollowed := true, recurses := true, named := ["lockbar/port.none", "lockbar/port.kinds", "lockbar/join.end"], apart := false, laid := [("lockbar/port.kinds", laid_lockbar_port_kinds), ("lockbar/port.none", laid_lockbar_port_none), ("lockbar/join.end", laid_lockbar_join_end)], narrowed := true }
def CommitFindsUptoSaid : Prop := commitFindsUptoRow.holds Tryz.pinned (OpenSpec.upto commitFindsSpec)

end Rows
end Go.Proofs.YtbofccnennefnaaGreatDoor
