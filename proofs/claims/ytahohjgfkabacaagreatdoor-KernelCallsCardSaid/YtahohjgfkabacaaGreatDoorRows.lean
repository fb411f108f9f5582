/-
  NARROWER THAN 'FOR EVERY INPUT', by the rows' own cells (each row's printed sentence says how): KernelTells: laid · KernelSafe: laid · KernelLess: laid · KernelCalls: laid · KernelKeys: laid.
  DERIVED. THE GIVEN ROWS OF THIS SEAT. 5 by the template 'for every input the law returns true; each argument reads behind the call as it read before'; 0 by the template 'total and deterministic' (their statements: YtahohjgfkabacaaGreatDoorTotals.lean).
  GIVEN WITH THE SEED: the statements are not yours to turn. If you find one false, say at which input.
  Laid BY PROGRAM, IN A SANDBOX (cutbox-rows.mjs): the forced cells as the released guide's own fill.sh prints them over the translation 62f528e33830a2e4… (all of the seat's roots in one cut). By AI agents, Wed Nov 11 2026. No macro, syntax, notation, axiom, sorry.
-/
import Derived.Test.YtahohjgfkabacaaGreatDoorChecked
import GoSem.Claim
import GoSem.ClaimJoined
import GoSem.ClaimMapViews
import Derived.JoinedTies
import Derived.KernelRfl
namespace Go.Proofs.YtahohjgfkabacaaGreatDoor
/- THE CELL 'sum', in the pinned program and in every row, IS THE sha256 OF THE DUMP (.gsa) THAT YtahohjgfkabacaaGreatDoorProg.lean LOADS. Nothing in Lean hashes anything: it is a label: what it is worth is what the hold of that sum in a sandbox is worth. -/
noncomputable def Tryz.pinned : Pinned := { name := "ytahohjgfkabacaagreatdoor", sum := "62f528e33830a2e427a474207eb1d34501c3b7914c6f835808ffb5b5e61dba7c", checked := Tryz.checked }
namespace Rows
def none {H : Type} : Left H := { results := [], args := [] }

/- WHAT THE LISTED PACKAGE-LEVEL VARIABLES READ AS WHEN THE CALL BEGINS. Each datum BY PROGRAM (the guide's laid-datum.mjs) off the statement by which the dump's own 'gosem.cut.vars' lays the variable. In a bare row this is a premise. The card (YtahohjgfkabacaaGreatDoorCards.lean) ties it to the program's text. -/
def laid_lockbar_tick_tops {H : Type} : DataW H := .agg [.lit (.int .i64 1073741824), .lit (.int .i64 65535)]

/-- 'lockbarlaw23.KernelTells': WHATEVER THE INPUT: true; the input reads as it did. -/
def kernelTellsSpec : ChangeSpec := { name := "kernelTells", fn := fun _ => fun
  | [d1, d2, d3, d4, d5] => { results := [.lit (.bool true)], args := [d1, d2, d3, d4, d5] }
  | _ => none }
def kernelTellsRow : OpenClaim := { program := "ytahohjgfkabacaagreatdoor", sum := "62f528e33830a2e427a474207eb1d34501c3b7914c6f835808ffb5b5e61dba7c", func := "lockbar/lockbarlaw23.KernelTells", spec := "kernelTells", unfollowed := true, recurses := true, named := ["lockbar/tick.tops"], apart := false, laid := [("lockbar/tick.tops", laid_lockbar_tick_tops)] }
def KernelTellsSaid : Prop := kernelTellsRow.holds Tryz.pinned (OpenSpec.ofChange kernelTellsSpec)

/-- ITS FALSE NEIGHBOUR: 'it returns false'. Refute it at one input. -/
def kernelTellsWrong : ChangeSpec := { name := "kernelTells", fn := fun _ => fun
  | [d1, d2, d3, d4, d5] => { results := [.lit (.bool false)], args := [d1, d2, d3, d4, d5] }
  | _ => none }
def KernelTellsWrongFalsely : Prop := kernelTellsRow.holds Tryz.pinned (OpenSpec.ofChange kernelTellsWrong)

/-- 'lockbarlaw23.KernelSafe': WHATEVER THE INPUT: true; the input reads as it did. -/
def kernelSafeSpec : ChangeSpec := { name := "kernelSafe", fn := fun _ => fun
  | [d1, d2, d3, d4, d5] => { results := [.lit (.bool true)], args := [d1, d2, d3, d4, d5] }
  | _ => none }
def kernelSafeRow : OpenClaim := { program := "ytahohjgfkabacaagreatdoor", sum := "62f528e33830a2e427a474207eb1d34501c3b7914c6f835808ffb5b5e61dba7c", func := "lockbar/lockbarlaw23.KernelSafe", spec := "kernelSafe", unfollowed := true, recurses := true, named := ["lockbar/tick.tops"], apart := false, laid := [("lockbar/tick.tops", laid_lockbar_tick_tops)] }
def KernelSafeSaid : Prop := kernelSafeRow.holds Tryz.pinned (OpenSpec.ofChange kernelSafeSpec)

/-- ITS FALSE NEIGHBOUR: 'it returns false'. Refute it at one input. -/
def kernelSafeWrong : ChangeSpec := { name := "kernelSafe", fn := fun _ => fun
  | [d1, d2, d3, d4, d5] => { results := [.lit (.bool false)], args := [d1, d2, d3, d4, d5] }
  | _ => none }
def KernelSafeWrongFalsely : Prop := kernelSafeRow.holds Tryz.pinned (OpenSpec.ofChange kernelSafeWrong)

/-- 'lockbarlaw23.KernelLess': WHATEVER THE INPUT: true; the input reads as it did. -/
def kernelLessSpec : ChangeSpec := { name := "kernelLess", fn := fun _ => fun
  | [d1, d2, d3] => { results := [.lit (.bool true)], args := [d1, d2, d3] }
  | _ => none }
def kernelLessRow : OpenClaim := { program := "ytahohjgfkabacaagreatdoor", sum := "62f528e33830a2e427a474207eb1d34501c3b7914c6f835808ffb5b5e61dba7c", func := "lockbar/lockbarlaw23.KernelLess", spec := "kernelLess", unfollowed := true, recurses := true, named := ["lockbar/tick.tops"], apart := false, laid := [("lockbar/tick.tops", laid_lockbar_tick_tops)] }
def KernelLessSaid : Prop := kernelLessRow.holds Tryz.pinned (OpenSpec.ofChange kernelLessSpec)

/-- ITS FALSE NEIGHBOUR: 'it returns false'. Refute it at one input. -/
def kernelLessWrong : ChangeSpec := { name := "kernelLess", fn := fun _ => fun
  | [d1, d2, d3] => { results := [.lit (.bool false)], args := [d1, d2, d3] }
  | _ => none }
def KernelLessWrongFalsely : Prop := kernelLessRow.holds Tryz.pinned (OpenSpec.ofChange kernelLessWrong)

/-- 'lockbarlaw23.KernelCalls': WHATEVER THE INPUT: true; the input reads as it did. -/
def kernelCallsSpec : ChangeSpec := { name := "kernelCalls", fn := fun _ => fun
  | [d1, d2, d3] => { results := [.lit (.bool true)], args := [d1, d2, d3] }
  | _ => none }
def kernelCallsRow : OpenClaim := { program := "ytahohjgfkabacaagreatdoor", sum := "62f528e33830a2e427a474207eb1d34501c3b7914c6f835808ffb5b5e61dba7c", func := "lockbar/lockbarlaw23.KernelCalls", spec := "kernelCalls", unfollowed := true, recurses := true, named := ["lockbar/tick.tops"], apart := false, laid := [("lockbar/tick.tops", laid_lockbar_tick_tops)] }
def KernelCallsSaid : Prop := kernelCallsRow.holds Tryz.pinned (OpenSpec.ofChange kernelCallsSpec)

/-- ITS FALSE NEIGHBOUR: 'it returns false'. Refute it at one input. -/
def kernelCallsWrong : ChangeSpec := { name := "kernelCalls", fn := fun _ => fun
  | [d1, d2, d3] => { results := [.lit (.bool false)], args := [d1, d2, d3] }
  | _ => none }
def KernelCallsWrongFalsely : Prop := kernelCallsRow.holds Tryz.pinned (OpenSpec.ofChange kernelCallsWrong)

/-- 'lockbarlaw23.KernelKeys': WHATEVER THE INPUT: true; the input reads as it did. -/
def kernelKeysSpec : ChangeSpec := { name := "kernelKeys", fn := fun _ => fun
  | [d1, d2, d3, d4, d5] => { results := [.lit (.bool true)], args := [d1, d2, d3, d4, d5] }
  | _ => none }
def kernelKeysRow : OpenClaim := { program := "ytahohjgfkabacaagreatdoor", sum := "62f528e33830a2e427a474207eb1d34501c3b7914c6f835808ffb5b5e61dba7c", func := "lockbar/lockbarlaw23.KernelKeys", spec := "kernelKeys", unfollowed := true, recurses := true, named := ["lockbar/tick.tops"], apart := false, laid := [("lockbar/tick.tops", laid_lockbar_tick_tops)] }
def KernelKeysSaid : Prop := kernelKeysRow.holds Tryz.pinned (OpenSpec.ofChange kernelKeysSpec)

/-- ITS FALSE NEIGHBOUR: 'it returns false'. Refute it at one input. -/
def kernelKeysWrong : ChangeSpec := { name := "kernelKeys", fn := fun _ => fun
  | [d1, d2, d3, d4, d5] => { results := [.lit (.bool false)], args := [d1, d2, d3, d4, d5] }
  | _ => none }
def KernelKeysWrongFalsely : Prop := kernelKeysRow.holds Tryz.pinned (OpenSpec.ofChange kernelKeysWrong)

/- THE SECOND FORM. 'bulk': how many values and letters a reading holds, each counted each time it is reached (what is shared counts as often as it is met; a slice's spare places count too). A statement '..UptoSaid' is the law's where the arguments, and the package variables that the reading takes, are together of bulk at most 1048576: NARROWER than '..Said'. Prove '..Said' where nothing that the law and all that it calls make is longer than what came in: it says more and counts as full. Else prove '..UptoSaid'. A law counts once. -/
mutual
def uptoBulk {H : Type} : DataW H → Nat
  | .lit (.string bytes) => bytes.length + 1
  | .lit _ => 1
  | .nil => 1
  | .ptr d => uptoBulk d + 1
  | .slice elems spare => uptoBulkAll elems + uptoBulkAll spare + 1
  | .agg parts => uptoBulkAll parts + 1
  | .iface _ d => uptoBulk d + 1
  | .map entries => uptoBulkEntries entries + 1
  | .held _ => 1
def uptoBulkAll {H : Type} : List (DataW H) → Nat
  | [] => 0
  | d :: r => uptoBulk d + uptoBulkAll r
def uptoBulkEntries {H : Type} : List (Lit × DataW H) → Nat
  | [] => 0
  | x :: r => uptoBulkEntry x + uptoBulkEntries r
def uptoBulkEntry {H : Type} : Lit × DataW H → Nat
  | (.string bytes, d) => bytes.length + uptoBulk d + 1
  | (_, d) => uptoBulk d + 1
 end
def uptoSmall : (H : Type) → List (DataW H) → Bool := fun _ ds => decide (uptoBulkAll ds ≤ 1048576)
def OpenSpec.upto (s : _root_.Go.ChangeSpec) : _root_.Go.OpenSpec := { _root_.Go.OpenSpec.ofChange s with cond := some uptoSmall }

/-- 'lockbarlaw23.KernelTells', WHERE WHAT IT READS IS OF BULK AT MOST 1048576: true; the input reads as it did. -/
def kernelTellsUptoRow : OpenClaim := { program := "ytahohjgfkabacaagreatdoor", sum := "62f528e33830a2e427a474207eb1d34501c3b7914c6f835808ffb5b5e61dba7c", func := "lockbar/lockbarlaw23.KernelTells", spec := "kernelTells", unfollowed := true, recurses := true, named := ["lockbar/tick.tops"], apart := false, laid := [("lockbar/tick.tops", laid_lockbar_tick_tops)], narrowed := true }
def KernelTellsUptoSaid : Prop := kernelTellsUptoRow.holds Tryz.pinned (OpenSpec.upto kernelTellsSpec)

/-- 'lockbarlaw23.KernelSafe', WHERE WHAT IT READS IS OF BULK AT MOST 1048576: true; the input reads as it did. -/
def kernelSafeUptoRow : OpenClaim := { program := "ytahohjgfkabacaagreatdoor", sum := "62f528e33830a2e427a474207eb1d34501c3b7914c6f835808ffb5b5e61dba7c", func := "lockbar/lockbarlaw23.KernelSafe", spec := "kernelSafe", unfollowed := true, recurses := true, named := ["lockbar/tick.tops"], apart := false, laid := [("lockbar/tick.tops", laid_lockbar_tick_tops)], narrowed := true }
def KernelSafeUptoSaid : Prop := kernelSafeUptoRow.holds Tryz.pinned (OpenSpec.upto kernelSafeSpec)

/-- 'lockbarlaw23.KernelLess', WHERE WHAT IT READS IS OF BULK AT MOST 1048576: true; the input reads as it did. -/
def kernelLessUptoRow : OpenClaim := { program := "ytahohjgfkabacaagreatdoor", sum := "62f528e33830a2e427a474207eb1d34501c3b7914c6f835808ffb5b5e61dba7c", func := "lockbar/lockbarlaw23.KernelLess", spec := "kernelLess", unfollowed := true, recurses := true, named := ["lockbar/tick.tops"], apart := false, laid := [("lockbar/tick.tops", laid_lockbar_tick_tops)], narrowed := true }
def KernelLessUptoSaid : Prop := kernelLessUptoRow.holds Tryz.pinned (OpenSpec.upto kernelLessSpec)

/-- 'lockbarlaw23.KernelCalls', WHERE WHAT IT READS IS OF BULK AT MOST 1048576: true; the input reads as it did. -/
def kernelCallsUptoRow : OpenClaim := { program := "ytahohjgfkabacaagreatdoor", sum := "62f528e33830a2e427a474207eb1d34501c3b7914c6f835808ffb5b5e61dba7c", func := "lockbar/lockbarlaw23.KernelCalls", spec := "kernelCalls", unfollowed := true, recurses := true, named := ["lockbar/tick.tops"], apart := false, laid := [("lockbar/tick.tops", laid_lockbar_tick_tops)], narrowed := true }
def KernelCallsUptoSaid : Prop := kernelCallsUptoRow.holds Tryz.pinned (OpenSpec.upto kernelCallsSpec)

/-- 'lockbarlaw23.KernelKeys', WHERE WHAT IT READS IS OF BULK AT MOST 1048576: true; the input reads as it did. -/
def kernelKeysUptoRow : OpenClaim := { program := "ytahohjgfkabacaagreatdoor", sum := "62f528e33830a2e427a474207eb1d34501c3b7914c6f835808ffb5b5e61dba7c", func := "lockbar/lockbarlaw23.KernelKeys", spec := "kernelKeys", unfollowed := true, recurses := true, named := ["lockbar/tick.tops"], apart := false, laid := [("lockbar/tick.tops", laid_lockbar_tick_tops)], narrowed := true }
def KernelKeysUptoSaid : Prop := kernelKeysUptoRow.holds Tryz.pinned (OpenSpec.upto kernelKeysSpec)

end Rows
end Go.Proofs.YtahohjgfkabacaaGreatDoor
