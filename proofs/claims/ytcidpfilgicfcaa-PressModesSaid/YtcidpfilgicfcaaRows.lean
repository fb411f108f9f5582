/-
  No cell of these rows narrows 'for every input' (looked for: loops, veiled, ifaces, maps, wideKeys, modest, calm, conditions, laid).
  DERIVED. THE GIVEN ROWS OF THIS SEAT. 5 by the template 'for every input the law returns true; each argument reads behind the call as it read before'; 0 by the template 'total and deterministic' (their statements: YtcidpfilgicfcaaTotals.lean).
  GIVEN WITH THE SEED: the statements are not yours to turn. If you find one false, say at which input.
  Laid BY PROGRAM, IN A SANDBOX (cutbox-rows.mjs): the forced cells as the released guide's own fill.sh prints them over the translation 0a23438f7ef8bb18… (all of the seat's roots in one cut). By AI agents, Wed Nov 11 2026. No macro, syntax, notation, axiom, sorry.
-/
import Derived.Test.YtcidpfilgicfcaaChecked
import GoSem.Claim
import GoSem.ClaimJoined
import GoSem.ClaimMapViews
import Derived.JoinedTies
import Derived.KernelRfl
namespace Go.Proofs.Ytcidpfilgicfcaa
/- THE CELL 'sum', in the pinned program and in every row, IS THE sha256 OF THE DUMP (.gsa) THAT YtcidpfilgicfcaaProg.lean LOADS. Nothing in Lean hashes anything: it is a label: what it is worth is what the hold of that sum in a sandbox is worth. -/
noncomputable def Try.pinned : Pinned := { name := "ytcidpfilgicfcaa", sum := "0a23438f7ef8bb18fc36e98c0ffae34ff9351c34ab406a14a9460022146d946e", checked := Try.checked }
namespace Rows
def none {H : Type} : Left H := { results := [], args := [] }

/-- 'lockbarlaw25.PressTells': WHATEVER THE INPUT: true; the input reads as it did. -/
def pressTellsSpec : ChangeSpec := { name := "pressTells", fn := fun _ => fun
  | [d1, d2, d3, d4] => { results := [.lit (.bool true)], args := [d1, d2, d3, d4] }
  | _ => none }
def pressTellsRow : OpenClaim := { program := "ytcidpfilgicfcaa", sum := "0a23438f7ef8bb18fc36e98c0ffae34ff9351c34ab406a14a9460022146d946e", func := "lockbar/lockbarlaw25.PressTells", spec := "pressTells", unfollowed := true, recurses := true, apart := false }
def PressTellsSaid : Prop := pressTellsRow.holds Try.pinned (OpenSpec.ofChange pressTellsSpec)

/-- ITS FALSE NEIGHBOUR: 'it returns false'. Refute it at one input. -/
def pressTellsWrong : ChangeSpec := { name := "pressTells", fn := fun _ => fun
  | [d1, d2, d3, d4] => { results := [.lit (.bool false)], args := [d1, d2, d3, d4] }
  | _ => none }
def PressTellsWrongFalsely : Prop := pressTellsRow.holds Try.pinned (OpenSpec.ofChange pressTellsWrong)

/-- 'lockbarlaw25.PressAsks': WHATEVER THE INPUT: true; the input reads as it did. -/
def pressAsksSpec : ChangeSpec := { name := "pressAsks", fn := fun _ => fun
  | [d1, d2] => { results := [.lit (.bool true)], args := [d1, d2] }
  | _ => none }
def pressAsksRow : OpenClaim := { program := "ytcidpfilgicfcaa", sum := "0a23438f7ef8bb18fc36e98c0ffae34ff9351c34ab406a14a9460022146d946e", func := "lockbar/lockbarlaw25.PressAsks", spec := "pressAsks", unfollowed := true, recurses := true, apart := false }
def PressAsksSaid : Prop := pressAsksRow.holds Try.pinned (OpenSpec.ofChange pressAsksSpec)

/-- ITS FALSE NEIGHBOUR: 'it returns false'. Refute it at one input. -/
def pressAsksWrong : ChangeSpec := { name := "pressAsks", fn := fun _ => fun
  | [d1, d2] => { results := [.lit (.bool false)], args := [d1, d2] }
  | _ => none }
def PressAsksWrongFalsely : Prop := pressAsksRow.holds Try.pinned (OpenSpec.ofChange pressAsksWrong)

/-- 'lockbarlaw25.PressStays': WHATEVER THE INPUT: true; the input reads as it did. -/
def pressStaysSpec : ChangeSpec := { name := "pressStays", fn := fun _ => fun
  | [d1, d2, d3] => { results := [.lit (.bool true)], args := [d1, d2, d3] }
  | _ => none }
def pressStaysRow : OpenClaim := { program := "ytcidpfilgicfcaa", sum := "0a23438f7ef8bb18fc36e98c0ffae34ff9351c34ab406a14a9460022146d946e", func := "lockbar/lockbarlaw25.PressStays", spec := "pressStays", unfollowed := true, recurses := true, apart := false }
def PressStaysSaid : Prop := pressStaysRow.holds Try.pinned (OpenSpec.ofChange pressStaysSpec)

/-- ITS FALSE NEIGHBOUR: 'it returns false'. Refute it at one input. -/
def pressStaysWrong : ChangeSpec := { name := "pressStays", fn := fun _ => fun
  | [d1, d2, d3] => { results := [.lit (.bool false)], args := [d1, d2, d3] }
  | _ => none }
def PressStaysWrongFalsely : Prop := pressStaysRow.holds Try.pinned (OpenSpec.ofChange pressStaysWrong)

/-- 'lockbarlaw25.PressLate': WHATEVER THE INPUT: true; the input reads as it did. -/
def pressLateSpec : ChangeSpec := { name := "pressLate", fn := fun _ => fun
  | [d1, d2] => { results := [.lit (.bool true)], args := [d1, d2] }
  | _ => none }
def pressLateRow : OpenClaim := { program := "ytcidpfilgicfcaa", sum := "0a23438f7ef8bb18fc36e98c0ffae34ff9351c34ab406a14a9460022146d946e", func := "lockbar/lockbarlaw25.PressLate", spec := "pressLate", unfollowed := true, recurses := true, apart := false }
def PressLateSaid : Prop := pressLateRow.holds Try.pinned (OpenSpec.ofChange pressLateSpec)

/-- ITS FALSE NEIGHBOUR: 'it returns false'. Refute it at one input. -/
def pressLateWrong : ChangeSpec := { name := "pressLate", fn := fun _ => fun
  | [d1, d2] => { results := [.lit (.bool false)], args := [d1, d2] }
  | _ => none }
def PressLateWrongFalsely : Prop := pressLateRow.holds Try.pinned (OpenSpec.ofChange pressLateWrong)

/-- 'lockbarlaw25.PressModes': WHATEVER THE INPUT: true; the input reads as it did. -/
def pressModesSpec : ChangeSpec := { name := "pressModes", fn := fun _ => fun
  | [d1, d2, d3, d4, d5, d6] => { results := [.lit (.bool true)], args := [d1, d2, d3, d4, d5, d6] }
  | _ => none }
def pressModesRow : OpenClaim := { program := "ytcidpfilgicfcaa", sum := "0a23438f7ef8bb18fc36e98c0ffae34ff9351c34ab406a14a9460022146d946e", func := "lockbar/lockbarlaw25.PressModes", spec := "pressModes", unfollowed := true, recurses := true, apart := false }
def PressModesSaid : Prop := pressModesRow.holds Try.pinned (OpenSpec.ofChange pressModesSpec)

/-- ITS FALSE NEIGHBOUR: 'it returns false'. Refute it at one input. -/
def pressModesWrong : ChangeSpec := { name := "pressModes", fn := fun _ => fun
  | [d1, d2, d3, d4, d5, d6] => { results := [.lit (.bool false)], args := [d1, d2, d3, d4, d5, d6] }
  | _ => none }
def PressModesWrongFalsely : Prop := pressModesRow.holds Try.pinned (OpenSpec.ofChange pressModesWrong)

/- THE SECOND FORM. 'bulk': how many values and letters a reading holds, each counted each time it is reached (what is shared counts as often as it is met; a slice's spare places count too). A statement '..UptoSaid' is the law's where the arguments, and the package variables that the reading takes, are together of bulk at most 1048576: NARROWER than '..Said'. Prove '..Said' where nothing that the law and all that it calls make is longer than what came in: it says more and counts as full. Else prove '..UptoSaid'. A law counts once. -/
mutual
def uptoBulk {H : Type} : DataW H → Nat
  | .lit (.string bytes) => bytes.length + 1
  | .lit _ => 1
  | .nil => 1
  | .ptr d => uptoBulk d + 1
  | .slice elems spare => uptoBulkAll elems + uptoBulkAll spare + 1
  | .agg parts => uptoBulkAll parts + 1
  | .iface _ d => uptoBulk d + 1
  | .map entries => uptoBulkEntries entries + 1
  | .held _ => 1
def uptoBulkAll {H : Type} : List (DataW H) → Nat
  | [] => 0
  | d :: r => uptoBulk d + uptoBulkAll r
def uptoBulkEntries {H : Type} : List (Lit × DataW H) → Nat
  | [] => 0
  | x :: r => uptoBulkEntry x + uptoBulkEntries r
def uptoBulkEntry {H : Type} : Lit × DataW H → Nat
  | (.string bytes, d) => bytes.length + uptoBulk d + 1
  | (_, d) => uptoBulk d + 1
 end
def uptoSmall : (H : Type) → List (DataW H) → Bool := fun _ ds => decide (uptoBulkAll ds ≤ 1048576)
def OpenSpec.upto (s : _root_.Go.ChangeSpec) : _root_.Go.OpenSpec := { _root_.Go.OpenSpec.ofChange s with cond := some uptoSmall }

/-- 'lockbarlaw25.PressTells', WHERE WHAT IT READS IS OF BULK AT MOST 1048576: true; the input reads as it did. -/
def pressTellsUptoRow : OpenClaim := { program := "ytcidpfilgicfcaa", sum := "0a23438f7ef8bb18fc36e98c0ffae34ff9351c34ab406a14a9460022146d946e", func := "lockbar/lockbarlaw25.PressTells", spec := "pressTells", unfollowed := true, recurses := true, apart := false, narrowed := true }
def PressTellsUptoSaid : Prop := pressTellsUptoRow.holds Try.pinned (OpenSpec.upto pressTellsSpec)

/-- 'lockbarlaw25.PressAsks', WHERE WHAT IT READS IS OF BULK AT MOST 1048576: true; the input reads as it did. -/
def pressAsksUptoRow : OpenClaim := { program := "ytcidpfilgicfcaa", sum := "0a23438f7ef8bb18fc36e98c0ffae34ff9351c34ab406a14a9460022146d946e", func := "lockbar/lockbarlaw25.PressAsks", spec := "pressAsks", unfollowed := true, recurses := true, apart := false, narrowed := true }
def PressAsksUptoSaid : Prop := pressAsksUptoRow.holds Try.pinned (OpenSpec.upto pressAsksSpec)

/-- 'lockbarlaw25.PressStays', WHERE WHAT IT READS IS OF BULK AT MOST 1048576: true; the input reads as it did. -/
def pressStaysUptoRow : OpenClaim := { program := "ytcidpfilgicfcaa", sum := "0a23438f7ef8bb18fc36e98c0ffae34ff9351c34ab406a14a9460022146d946e", func := "lockbar/lockbarlaw25.PressStays", spec := "pressStays", unfollowed := true, recurses := true, apart := false, narrowed := true }
def PressStaysUptoSaid : Prop := pressStaysUptoRow.holds Try.pinned (OpenSpec.upto pressStaysSpec)

/-- 'lockbarlaw25.PressLate', WHERE WHAT IT READS IS OF BULK AT MOST 1048576: true; the input reads as it did. -/
def pressLateUptoRow : OpenClaim := { program := "ytcidpfilgicfcaa", sum := "0a23438f7ef8bb18fc36e98c0ffae34ff9351c34ab406a14a9460022146d946e", func := "lockbar/lockbarlaw25.PressLate", spec := "pressLate", unfollowed := true, recurses := true, apart := false, narrowed := true }
def PressLateUptoSaid : Prop := pressLateUptoRow.holds Try.pinned (OpenSpec.upto pressLateSpec)

/-- 'lockbarlaw25.PressModes', WHERE WHAT IT READS IS OF BULK AT MOST 1048576: true; the input reads as it did. -/
def pressModesUptoRow : OpenClaim := { program := "ytcidpfilgicfcaa", sum := "0a23438f7ef8bb18fc36e98c0ffae34ff9351c34ab406a14a9460022146d946e", func := "lockbar/lockbarlaw25.PressModes", spec := "pressModes", unfollowed := true, recurses := true, apart := false, narrowed := true }
def PressModesUptoSaid : Prop := pressModesUptoRow.holds Try.pinned (OpenSpec.upto pressModesSpec)

end Rows
end Go.Proofs.Ytcidpfilgicfcaa
