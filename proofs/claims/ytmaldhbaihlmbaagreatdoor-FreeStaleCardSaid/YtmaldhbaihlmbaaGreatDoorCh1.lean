/- The forms of what functions hand back that hand back functions. -/
import Derived.Test.YtmaldhbaihlmbaaGreatDoorFw5
set_option linter.unusedSimpArgs false
set_option linter.unusedVariables false
namespace Go.Lb
def prt (e : SE) (k : Nat) : SE := match e with
  | .agg cs => cs.getD k .undef
  | e => .app (.part k 1 false) [e]
/-- bit, its inner one; clear, its inner one; a layout's number of Stale, an image's of Age, of Occ. -/
def imgShape (bit bit1 clear clear1 : Nat) (f : Nat) (args : List SE) : Option SE :=
  if Nat.beq f bit = true then match args with
    | [x] => some (.clo bit1 [] [.ref [x] 0])
    | _ => none
  else if Nat.beq f clear = true then match args with
    | [l, im] => some (.clo clear1 [] [.ref [.app (.bin .lss) [prt l 6, prt im 0]] 0, .ref [.clo bit1 [] [.ref [prt im 25] 0]] 0])
    | _ => none
  else none
end Go.Lb
