/- The forms of what functions hand back that hand back functions. -/
/- The functions by name; the executor's setting. -/
/- What functions come to, printed by a program, checked by the kernel. -/
import Derived.Test.YtkcpgfjlmicnnaaDoorFw5
import Derived.Test.YtkcpgfjlmicnnaaDoorFw10
import Derived.Test.YtkcpgfjlmicnnaaDoorProg
import Derived.KernelRfl
set_option linter.unusedSimpArgs false
set_option linter.unusedVariables false
namespace Go.Lb
def prt (e : SE) (k : Nat) : SE := match e with
  | .agg cs => cs.getD k .undef
  | e => .app (.part k 1 false) [e]
/-- bit, its inner one; clear, its inner one; a layout's number of Stale, an image's of Age, of Occ. -/
def imgShape (bit bit1 clear clear1 : Nat) (f : Nat) (args : List SE) : Option SE :=
  if Nat.beq f bit = true then match args with
    | [x] => some (.clo bit1 [] [.ref [x] 0])
    | _ => none
  else if Nat.beq f clear = true then match args with
    | [l, im] => some (.clo clear1 [] [.ref [.app (.bin .lss) [prt l 6, prt im 0]] 0, .ref [.clo bit1 [] [.ref [prt im 25] 0]] 0])
    | _ => none
  else none
end Go.Lb

namespace Go.Lb.LK
open Go Go.Lb Go.Proofs
noncomputable abbrev PR : Program := Tryd.prog
def ips : Nat → Nat → List SE
  | _, 0 => []
  | a, n + 1 => .inp a :: ips (a + 1) n
abbrev f_lockbarlaw22_BackRuns : Nat := 3
abbrev f_lockbarref06_Great : Nat := 4
abbrev f_lockbarref18_Great : Nat := 5
abbrev f_lockbarlaw22_wakes : Nat := 6
abbrev f_back_Cancel : Nat := 7
abbrev f_back_In : Nat := 8
abbrev f_back_Rear : Nat := 9
abbrev f_lockbarref17_Same : Nat := 10
abbrev f_lockbarlaw22_three : Nat := 11
abbrev f_back_Tick : Nat := 12
abbrev f_lockbarref15_Take : Nat := 13
abbrev f_lockbarref18_Same : Nat := 14
abbrev f_lockbarref15_New : Nat := 15
abbrev f_image_Occupied : Nat := 20
abbrev f_beyond_Rear : Nat := 21
abbrev f_lockbarref11_Same : Nat := 22
abbrev f_lockbarref11_Steps : Nat := 23
abbrev f_lockbarref17_All : Nat := 24
abbrev f_held_Own : Nat := 25
abbrev f_image_Stale : Nat := 26
abbrev f_back_told : Nat := 27
abbrev f_pass_Run : Nat := 28
abbrev f_tick_Down : Nat := 29
abbrev f_lockbarref15_rows : Nat := 30
abbrev f_back_comes_1 : Nat := 31
abbrev f_back_comes_2 : Nat := 32
abbrev f_back_comes_3 : Nat := 33
abbrev f_image_clear : Nat := 36
abbrev f_join_Beyond : Nat := 37
abbrev f_route_Own : Nat := 38
abbrev f_slices_Clone_Step : Nat := 39
abbrev f_slices_Clone_Need : Nat := 40
abbrev f_tick_Late : Nat := 41
abbrev f_image_Told : Nat := 42
abbrev f_pass_asleep : Nat := 45
abbrev f_tick_Next : Nat := 47
abbrev f_lockbarref03_Row : Nat := 48
abbrev f_lockbarref15_Stale : Nat := 49
abbrev f_lockbarref15_bit : Nat := 50
abbrev f_image_bit : Nat := 52
abbrev f_image_clear_1 : Nat := 53
abbrev f_join_Has : Nat := 54
abbrev f_held_Right : Nat := 55
abbrev f_tick_on : Nat := 57
abbrev f_lockbarref03_More : Nat := 58
abbrev f_lockbarref03_Late : Nat := 59
abbrev f_image_bit_1 : Nat := 60
abbrev f_port_Ports : Nat := 61
abbrev f_held_clash : Nat := 62
abbrev f_slices_Concat_Step : Nat := 63
abbrev f_slices_Sort_int : Nat := 64
abbrev f_slices_Compact_int : Nat := 65
abbrev f_lockbarref03_Count : Nat := 68
abbrev f_port_of : Nat := 69
abbrev f_mathbits_Len : Nat := 76
abbrev f_lockbarref03_within : Nat := 78
noncomputable def hintsS : List Hint :=
  [⟨75, 2, ⟨134, [(0, ⟨[], .nils⟩), (1, ⟨[], .int .i64 0⟩), (2, ⟨[], .int .i64 0⟩), (3, ⟨[], .inp 0⟩), (8, ⟨[], .bool true⟩), (9, ⟨[], .bool true⟩)], [], 1, 22, []⟩, 0⟩,
   ⟨80, 1, ⟨49, [(0, ⟨[], .nils⟩), (1, ⟨[], .int .i64 0⟩), (2, ⟨[], .int .i64 0⟩), (6, ⟨[], .int .i64 1⟩), (8, ⟨[], .int .i64 0⟩), (9, ⟨[], .int .i64 1⟩)], [], 1, 48, []⟩, 0⟩]

def inlS : List Nat := [75, 80, 81, 82, 83, 84, 85, 87, 88, 91, 94, 95, 97, 92, 93, 86, 96]
def scal : List Nat := [0, 1, 2, 3, 4, 5, 6, 8, 9, 10, 13, 14, 15, 19, 20, 21, 22, 23, 24, 26, 27, 29, 30, 31, 32, 33, 37, 41, 42, 43, 44, 45, 47, 48, 49, 50, 51, 53, 54, 55, 56, 57, 58, 59, 60, 61, 62, 64, 66, 68, 69, 70, 71, 72, 73, 75, 76, 77, 78, 79, 80, 81, 82, 83, 84, 85, 86, 87, 88, 89, 90, 91, 92, 93, 94, 95, 96, 97, 99, 101, 103, 105, 107, 109, 110, 112, 114, 115, 116, 117, 118, 119, 120]
def GL : Glob := [[.int .i64 (-1), .int .i64 0], [.int .i64 (-1), .int .i64 0], [.int .i64 1073741824, .int .i64 65535], [.int .i64 0, .int .i64 0, .int .i64 0, .int .i64 0, .int .i64 0, .int .i64 0, .bool false, .int .i64 2, .int .i64 0, .int .i64 1, .int .i64 0, .int .i64 0, .int .i64 1, .bool false, .int .i64 3, .int .i64 0, .int .i64 1, .int .i64 0, .int .i64 2, .int .i64 2, .bool true, .int .i64 4, .int .i64 0, .int .i64 1, .int .i64 2, .int .i64 3, .int .i64 2, .bool false]]
def frzL : List (Nat × Nat) := []
def srtF : List Nat := [64]
def cptF : List Nat := [65]
noncomputable def ES : Env := { P := PR, G := [], inl := fun f => inlS.contains f, scal := fun f => scal.contains f, shape := imgShape 52 60 36 53, hints := hintsS }
theorem EmixS : ES.P.follows .mixedOrders = true := by kernel_rfl
def qh0 : SE := .app (.part 3 1 false) [.inp 63]
def qh1 : SE := .app (.part 10 1 false) [.inp 63]
def qh2 : SE := .app (.part 11 1 false) [.inp 63]
def qh3 : SE := .app (.part 12 1 false) [.inp 63]
def qh4 : SE := .app (.part 13 1 false) [.inp 63]
def qh5 : SE := .app (.part 14 1 false) [.inp 63]
def qh6 : SE := .app (.part 15 1 false) [.inp 63]
def qh7 : SE := .app (.part 16 1 false) [.inp 63]
def qh8 : SE := .app (.part 17 1 false) [.inp 63]
def qh9 : SE := .app (.part 18 1 false) [.inp 63]
def qh10 : SE := .app (.part 19 1 false) [.inp 63]
def qh11 : SE := .app (.part 8 1 false) [.inp 63]
def qh12 : SE := .app (.part 9 1 false) [.inp 63]
def qh27 : SE := .app (.bin .eql) [.inp 6, .int .u8 0]
def qh13 : SE := .app .pick [qh27, .bool true, .app (.bin .geq) [.inp 6, .int .u8 5]]
def qh14 : SE := .app (.part 20 1 false) [.inp 63]
def qh15 : SE := .app (.part 21 1 false) [.inp 63]
def qh16 : SE := .app (.part 22 1 false) [.inp 63]
def qh17 : SE := .app (.part 0 1 false) [.inp 63]
def qh18 : SE := .app (.part 1 1 false) [.inp 63]
def qh19 : SE := .app (.part 2 1 false) [.inp 63]
def qh20 : SE := .app (.part 4 1 false) [.inp 63]
def qh21 : SE := .app (.part 5 1 false) [.inp 63]
def qh22 : SE := .app (.part 6 1 false) [.inp 63]
def qh23 : SE := .app (.part 7 1 false) [.inp 63]
def qh24 : SE := .app (.bin .sub) [.app .len [qh0], .int .i64 1]
def qh25 : SE := .app (.eload 3 true) [.app (.eidx 3) [.inp 0, .inp 2]]
def qh26 : SE := .app (.bin .lss) [.inp 0, .int .i64 1]
def qh28 : SE := .app .len [.inp 0]
def qh29 : SE := .app .len [.inp 3]
noncomputable def hints : List Hint :=
  [⟨79, 2, ⟨19, [(0, ⟨[], .inp 0⟩), (1, ⟨[], .clo 71 [] [.ptr 0 0]⟩), (4, ⟨[], .int .i64 0⟩), (6, ⟨[], .inp 0⟩), (7, ⟨[], qh28⟩), (8, ⟨[], .inp 2⟩)], [(0, .box [.inp 1])], 3, 24, []⟩, 1⟩,
   ⟨79, 2, ⟨19, [(0, ⟨[], .inp 1⟩), (1, ⟨[], .clo 72 [] [.ptr 40 0]⟩), (4, ⟨[], .int .i64 0⟩), (6, ⟨[], .inp 1⟩), (7, ⟨[], .app .len [.inp 1]⟩), (8, ⟨[], .inp 3⟩)], [(0, .box [.inp 1]), (40, .box [.app (.part 0 1 false) [qh25], .app (.part 1 1 false) [qh25], .app (.part 2 1 false) [qh25]])], 4, 64, []⟩, 1⟩,
   ⟨55, 9, ⟨141, [(0, ⟨[], .agg (ips 0 23)⟩), (1, ⟨[], .ref (ips 0 23) 0⟩), (2, ⟨[], .bool false⟩), (3, ⟨[], qh29⟩), (4, ⟨[], .ptr 14 0⟩), (5, ⟨[], .row 148⟩), (10, ⟨[], .ref (ips 0 23) 1⟩), (11, ⟨[], .ref (ips 0 23) 3⟩), (12, ⟨[], .inp 3⟩), (13, ⟨[], qh29⟩), (14, ⟨[], .ref (ips 0 23) 0⟩), (15, ⟨[], .inp 0⟩), (16, ⟨[], qh26⟩), (17, ⟨[], qh26⟩), (24, ⟨[], .inp 23⟩), (25, ⟨[], .inp 23⟩), (29, ⟨[], .inp 24⟩), (30, ⟨[], .inp 24⟩), (33, ⟨[], .inp 25⟩), (34, ⟨[], .inp 25⟩), (37, ⟨[], .inp 26⟩), (38, ⟨[], .inp 26⟩), (43, ⟨[], .bool false⟩), (44, ⟨[], .ref (ips 0 23) 6⟩), (45, ⟨[], .inp 6⟩), (46, ⟨[], qh27⟩), (47, ⟨[], qh27⟩), (51, ⟨[], qh13⟩), (52, ⟨[], qh13⟩), (56, ⟨[], .inp 29⟩), (57, ⟨[], .inp 29⟩), (62, ⟨[], .inp 30⟩), (63, ⟨[], .inp 30⟩), (69, ⟨[], .bool false⟩), (71, ⟨[], .ref (ips 0 23) 8⟩), (72, ⟨[], qh29⟩), (73, ⟨[], .inp 32⟩), (74, ⟨[], .undef⟩), (75, ⟨[], .agg (ips 33 12)⟩), (76, ⟨[], .ref (ips 0 23) 8⟩), (77, ⟨[], .inp 45⟩), (78, ⟨[], .bool false⟩), (79, ⟨[], .ref (ips 0 23) 1⟩), (80, ⟨[], .ref (ips 0 23) 3⟩), (81, ⟨[], .inp 48⟩), (82, ⟨[], .ref (ips 0 23) 4⟩), (83, ⟨[], .inp 49⟩), (84, ⟨[], .inp 50⟩), (85, ⟨[], .inp 47⟩), (86, ⟨[], .app .len [.inp 47]⟩), (87, ⟨[], .inp 52⟩)], [(0, .gone), (14, .box (ips 33 12)), (140, .gone), (148, .row 1 (.inp 51))], 53, 151, []⟩, 2⟩,
   ⟨55, 16, ⟨141, [(0, ⟨[], .agg (ips 0 23)⟩), (1, ⟨[], .ref (ips 0 23) 0⟩), (2, ⟨[], .bool false⟩), (3, ⟨[], qh29⟩), (4, ⟨[], .ptr 14 0⟩), (10, ⟨[], .ref (ips 0 23) 1⟩), (11, ⟨[], .ref (ips 0 23) 3⟩), (12, ⟨[], .inp 3⟩), (13, ⟨[], qh29⟩), (14, ⟨[], .ref (ips 0 23) 0⟩), (15, ⟨[], .inp 0⟩), (16, ⟨[], qh26⟩), (17, ⟨[], qh26⟩), (24, ⟨[], .inp 23⟩), (25, ⟨[], .inp 23⟩), (29, ⟨[], .inp 24⟩), (30, ⟨[], .inp 24⟩), (33, ⟨[], .inp 25⟩), (34, ⟨[], .inp 25⟩), (37, ⟨[], .inp 26⟩), (38, ⟨[], .inp 26⟩), (43, ⟨[], .bool false⟩), (44, ⟨[], .ref (ips 0 23) 6⟩), (45, ⟨[], .inp 6⟩), (46, ⟨[], qh27⟩), (47, ⟨[], qh27⟩), (51, ⟨[], qh13⟩), (52, ⟨[], qh13⟩), (56, ⟨[], .inp 29⟩), (57, ⟨[], .inp 29⟩), (62, ⟨[], .inp 30⟩), (63, ⟨[], .inp 30⟩), (69, ⟨[], .bool false⟩), (71, ⟨[], .ref (ips 0 23) 8⟩), (72, ⟨[], qh29⟩), (73, ⟨[], .inp 32⟩), (74, ⟨[], .undef⟩), (75, ⟨[], .agg (ips 33 12)⟩), (76, ⟨[], .ref (ips 0 23) 8⟩), (77, ⟨[], .inp 45⟩), (78, ⟨[], .bool false⟩), (79, ⟨[], .ref (ips 0 23) 1⟩), (80, ⟨[], .ref (ips 0 23) 3⟩), (81, ⟨[], .inp 48⟩), (82, ⟨[], .ref (ips 0 23) 4⟩), (83, ⟨[], .inp 49⟩), (84, ⟨[], .inp 50⟩), (85, ⟨[], .inp 47⟩), (86, ⟨[], .app .len [.inp 47]⟩), (87, ⟨[], .inp 52⟩), (88, ⟨[], .bool false⟩), (98, ⟨[], .tup []⟩), (100, ⟨[], .row 157⟩), (101, ⟨[], .app .len [.inp 54]⟩), (102, ⟨[], qh29⟩), (103, ⟨[], .ref (ips 0 23) 4⟩), (104, ⟨[], .inp 55⟩), (105, ⟨[], .inp 56⟩), (106, ⟨[], .inp 57⟩), (107, ⟨[], .bool false⟩), (108, ⟨[], .ref (ips 0 23) 5⟩), (109, ⟨[], .inp 59⟩), (110, ⟨[], .inp 60⟩), (111, ⟨[], .inp 61⟩)], [(0, .gone), (14, .box (ips 33 12)), (140, .gone), (148, .gone), (157, .row 1 (.inp 54))], 62, 183, []⟩, 1⟩,
   ⟨63, 3, ⟨36, [(0, ⟨[], .inp 0⟩), (2, ⟨[], .enil⟩), (3, ⟨[], .inp 1⟩), (9, ⟨[], .inp 0⟩), (10, ⟨[], qh28⟩), (11, ⟨[], .inp 2⟩)], [], 3, 12, []⟩, 2⟩,
   ⟨63, 11, ⟨36, [(0, ⟨[], .inp 0⟩), (2, ⟨[], .enil⟩), (3, ⟨[], .inp 1⟩), (6, ⟨[], .row 74⟩), (9, ⟨[], .inp 0⟩), (10, ⟨[], qh28⟩), (11, ⟨[], .inp 2⟩), (12, ⟨[], .bool false⟩), (23, ⟨[], .inp 1⟩), (25, ⟨[], .inp 0⟩), (26, ⟨[], qh28⟩), (27, ⟨[], .inp 5⟩)], [(52, .gone), (58, .gone), (74, .row 3 (.inp 4))], 6, 77, []⟩, 2⟩,
   ⟨63, 11, ⟨36, [(0, ⟨[], .inp 0⟩), (2, ⟨[], .enil⟩), (3, ⟨[], .inp 1⟩), (6, ⟨[], .row 54⟩), (9, ⟨[], .inp 0⟩), (10, ⟨[], qh28⟩), (11, ⟨[], .inp 2⟩), (12, ⟨[], .bool false⟩), (23, ⟨[], .inp 1⟩), (24, ⟨[], .enil⟩), (25, ⟨[], .inp 0⟩), (26, ⟨[], qh28⟩), (27, ⟨[], .inp 4⟩)], [(54, .row 3 (.inp 3))], 5, 57, []⟩, 2⟩,
   ⟨56, 1, ⟨25, [(0, ⟨[], .yield 63⟩), (1, ⟨[], .ptr 54 0⟩), (3, ⟨[], .inp 65⟩), (4, ⟨[], .ptr 54 7⟩), (5, ⟨[], qh23⟩)], [(0, .box (ips 0 11)), (2, .box (ips 11 29)), (4, .box [qh17, qh18, qh19, qh0, qh20, qh21, qh22, qh23, qh11, qh12, qh1, qh2, qh3, qh4, qh5, qh6, qh7, qh8, qh9, qh10, qh14, qh15, qh16]), (6, .box [.int .i64 0, .int .i64 0, .int .i64 0, .enil, .enil, .enil, .int .u8 0, .int .i64 0, .bool false, .bool false, .bool false, .bool false, .bool false, .bool false, .bool false, .bool false, .bool false, .bool false, .bool false, .bool false, .bool false, .int .i64 0, .bool false]), (28, .box [.clo 43 [] [.ptr 0 0, .ptr 2 0]]), (40, .box (ips 66 12)), (54, .box [qh17, qh18, qh19, qh0, qh20, qh21, qh22, qh23, qh11, qh12, qh1, qh2, qh3, qh4, qh5, qh6, qh7, qh8, qh9, qh10, qh14, qh15, qh16]), (62, .dfr), (63, .loop .ready)], 78, 72, []⟩, 13⟩,
   ⟨28, 1000000, ⟨126, [(0, ⟨[], .agg (ips 0 11)⟩), (1, ⟨[], .agg (ips 11 29)⟩), (2, ⟨[], .agg (ips 40 23)⟩), (3, ⟨[], .ptr 0 0⟩), (4, ⟨[], .ptr 2 0⟩), (5, ⟨[], .ptr 4 0⟩), (6, ⟨[], .ptr 6 0⟩), (7, ⟨[], qh24⟩), (8, ⟨[], .ptr 28 0⟩), (9, ⟨[], .clo 44 [] [.ptr 0 0, .ptr 2 0]⟩), (10, ⟨[], .ptr 40 0⟩), (13, ⟨[], .agg (ips 40 23)⟩), (14, ⟨[], .inp 63⟩), (15, ⟨[], .ptr 4 1⟩), (16, ⟨[], .ptr 4 3⟩), (17, ⟨[], qh0⟩), (18, ⟨[], .app .len [qh0]⟩), (19, ⟨[], qh24⟩), (20, ⟨[], .clo 43 [] [.ptr 0 0, .ptr 2 0]⟩), (21, ⟨[], .clo 44 [] [.ptr 0 0, .ptr 2 0]⟩), (22, ⟨[], .ptr 4 8⟩), (23, ⟨[], .agg [qh11, qh12, qh1, qh2, qh3, qh4, qh5, qh6, qh7, qh8, qh9, qh10]⟩), (24, ⟨[], .agg (ips 0 11)⟩), (25, ⟨[], .agg (ips 11 29)⟩), (26, ⟨[], .agg [qh17, qh18, qh19, qh0, qh20, qh21, qh22, qh23, qh11, qh12, qh1, qh2, qh3, qh4, qh5, qh6, qh7, qh8, qh9, qh10, qh14, qh15, qh16]⟩), (27, ⟨[], .bool false⟩), (29, ⟨[], .agg [qh17, qh18, qh19, qh0, qh20, qh21, qh22, qh23, qh11, qh12, qh1, qh2, qh3, qh4, qh5, qh6, qh7, qh8, qh9, qh10, qh14, qh15, qh16]⟩), (30, ⟨[], .clo 56 [] [.ptr 54 0]⟩), (53, ⟨[], .agg (ips 66 12)⟩), (54, ⟨[], .ptr 4 8⟩), (55, ⟨[], .agg [qh11, qh12, qh1, qh2, qh3, qh4, qh5, qh6, qh7, qh8, qh9, qh10]⟩), (56, ⟨[], .bool true⟩), (57, ⟨[], .agg (ips 66 12)⟩), (58, ⟨[], .ptr 4 8⟩), (59, ⟨[], .ptr 4 7⟩), (60, ⟨[], .inp 84⟩), (61, ⟨[], qh24⟩), (62, ⟨[], .inp 85⟩), (63, ⟨[], .inp 86⟩), (68, ⟨[], .inp 87⟩), (69, ⟨[], .inp 88⟩), (81, ⟨[], .bool true⟩), (82, ⟨[], .bool true⟩), (83, ⟨[], .clo 44 [] [.ptr 0 0, .ptr 2 0]⟩), (84, ⟨[], .ptr 4 1⟩), (85, ⟨[], .ptr 4 3⟩), (86, ⟨[], qh0⟩), (87, ⟨[], .ptr 4 7⟩), (88, ⟨[], .inp 89⟩), (89, ⟨[], .inp 90⟩), (90, ⟨[], .inp 91⟩), (91, ⟨[], .inp 92⟩), (92, ⟨[], .bool true⟩), (93, ⟨[], .bool true⟩), (94, ⟨[], .ptr 4 7⟩), (95, ⟨[], .inp 93⟩), (96, ⟨[], .inp 94⟩), (97, ⟨[], .ptr 4 7⟩)], [(0, .box (ips 0 11)), (2, .box (ips 11 29)), (4, .box [qh17, qh18, qh19, qh0, qh20, qh21, qh22, .inp 95, .inp 66, .inp 67, .inp 68, .inp 69, .inp 70, .inp 71, .inp 72, .inp 73, .inp 74, .inp 75, .inp 76, .inp 77, qh14, qh15, qh16]), (6, .box [.int .i64 0, .int .i64 0, .int .i64 0, .enil, .enil, .enil, .int .u8 0, .int .i64 0, .bool false, .bool false, .bool false, .bool false, .bool false, .bool false, .bool false, .bool false, .bool false, .bool false, .bool false, .bool false, .bool false, .int .i64 0, .bool false]), (28, .box [.clo 43 [] [.ptr 0 0, .ptr 2 0]]), (40, .box (ips 66 12)), (54, .box [qh17, qh18, qh19, qh0, qh20, qh21, qh22, qh23, qh11, qh12, qh1, qh2, qh3, qh4, qh5, qh6, qh7, qh8, qh9, qh10, qh14, qh15, qh16]), (62, .dfr), (63, .gone)], 96, 184, [62]⟩, 12⟩,
   ⟨28, 1000000, ⟨126, [(0, ⟨[], .agg (ips 0 11)⟩), (1, ⟨[], .agg (ips 11 29)⟩), (2, ⟨[], .agg (ips 40 23)⟩), (3, ⟨[], .ptr 0 0⟩), (4, ⟨[], .ptr 2 0⟩), (5, ⟨[], .ptr 4 0⟩), (6, ⟨[], .ptr 6 0⟩), (7, ⟨[], qh24⟩), (8, ⟨[], .ptr 28 0⟩), (9, ⟨[], .clo 44 [] [.ptr 0 0, .ptr 2 0]⟩), (10, ⟨[], .ptr 40 0⟩), (13, ⟨[], .agg (ips 40 23)⟩), (14, ⟨[], .inp 63⟩), (15, ⟨[], .ptr 4 1⟩), (16, ⟨[], .ptr 4 3⟩), (17, ⟨[], qh0⟩), (18, ⟨[], .app .len [qh0]⟩), (19, ⟨[], qh24⟩), (20, ⟨[], .clo 43 [] [.ptr 0 0, .ptr 2 0]⟩), (21, ⟨[], .clo 44 [] [.ptr 0 0, .ptr 2 0]⟩), (22, ⟨[], .ptr 4 8⟩), (23, ⟨[], .agg [qh11, qh12, qh1, qh2, qh3, qh4, qh5, qh6, qh7, qh8, qh9, qh10]⟩), (24, ⟨[], .agg (ips 0 11)⟩), (25, ⟨[], .agg (ips 11 29)⟩), (26, ⟨[], .agg [qh17, qh18, qh19, qh0, qh20, qh21, qh22, qh23, qh11, qh12, qh1, qh2, qh3, qh4, qh5, qh6, qh7, qh8, qh9, qh10, qh14, qh15, qh16]⟩), (27, ⟨[], .bool false⟩), (29, ⟨[], .agg [qh17, qh18, qh19, qh0, qh20, qh21, qh22, qh23, qh11, qh12, qh1, qh2, qh3, qh4, qh5, qh6, qh7, qh8, qh9, qh10, qh14, qh15, qh16]⟩), (30, ⟨[], .clo 56 [] [.ptr 54 0]⟩), (53, ⟨[], .agg (ips 66 12)⟩), (54, ⟨[], .ptr 4 8⟩), (55, ⟨[], .agg [qh11, qh12, qh1, qh2, qh3, qh4, qh5, qh6, qh7, qh8, qh9, qh10]⟩), (56, ⟨[], .bool false⟩), (59, ⟨[], .ptr 4 7⟩), (60, ⟨[], .inp 84⟩), (61, ⟨[], qh24⟩), (62, ⟨[], .inp 85⟩), (63, ⟨[], .inp 86⟩), (68, ⟨[], .inp 87⟩), (69, ⟨[], .inp 88⟩), (81, ⟨[], .bool true⟩), (82, ⟨[], .bool true⟩), (83, ⟨[], .clo 44 [] [.ptr 0 0, .ptr 2 0]⟩), (84, ⟨[], .ptr 4 1⟩), (85, ⟨[], .ptr 4 3⟩), (86, ⟨[], qh0⟩), (87, ⟨[], .ptr 4 7⟩), (88, ⟨[], .inp 89⟩), (89, ⟨[], .inp 90⟩), (90, ⟨[], .inp 91⟩), (91, ⟨[], .inp 92⟩), (92, ⟨[], .bool true⟩), (93, ⟨[], .bool true⟩), (94, ⟨[], .ptr 4 7⟩), (95, ⟨[], .inp 93⟩), (96, ⟨[], .inp 94⟩), (97, ⟨[], .ptr 4 7⟩)], [(0, .box (ips 0 11)), (2, .box (ips 11 29)), (4, .box [qh17, qh18, qh19, qh0, qh20, qh21, qh22, .inp 95, qh11, qh12, qh1, qh2, qh3, qh4, qh5, qh6, qh7, qh8, qh9, qh10, qh14, qh15, qh16]), (6, .box [.int .i64 0, .int .i64 0, .int .i64 0, .enil, .enil, .enil, .int .u8 0, .int .i64 0, .bool false, .bool false, .bool false, .bool false, .bool false, .bool false, .bool false, .bool false, .bool false, .bool false, .bool false, .bool false, .bool false, .int .i64 0, .bool false]), (28, .box [.clo 43 [] [.ptr 0 0, .ptr 2 0]]), (40, .box (ips 66 12)), (54, .box [qh17, qh18, qh19, qh0, qh20, qh21, qh22, qh23, qh11, qh12, qh1, qh2, qh3, qh4, qh5, qh6, qh7, qh8, qh9, qh10, qh14, qh15, qh16]), (62, .dfr), (63, .gone)], 96, 178, [62]⟩, 12⟩,
   ⟨23, 4, ⟨26, [(0, ⟨[], .inp 0⟩), (1, ⟨[], .inp 1⟩), (4, ⟨[], .bool false⟩), (5, ⟨[], .inp 2⟩), (6, ⟨[], .inp 0⟩), (7, ⟨[], qh28⟩), (8, ⟨[], .inp 1⟩), (9, ⟨[], .app .len [.inp 1]⟩), (10, ⟨[], .bool false⟩)], [], 3, 16, []⟩, 1⟩,
   ⟨30, 2, ⟨31, [(0, ⟨[], .agg (ips 0 11)⟩), (1, ⟨[], .agg (ips 11 29)⟩), (2, ⟨[], .ptr 0 0⟩), (3, ⟨[], .ptr 2 0⟩), (4, ⟨[], .ptr 4 0⟩), (5, ⟨[], .inp 40⟩)], [(0, .box (ips 0 11)), (2, .box [.inp 11, .inp 41, .inp 42, .inp 43, .inp 44, .inp 45, .inp 46, .inp 47, .inp 48, .inp 49, .inp 50, .inp 51, .inp 52, .inp 53, .inp 54, .inp 55, .inp 56, .inp 57, .inp 58, .inp 59, .inp 60, .inp 61, .inp 62, .inp 63, .inp 64, .inp 36, .inp 37, .inp 38, .inp 39]), (4, .box [.int .i64 0, .int .i64 0, .int .i64 0, .int .i64 0, .int .i64 0, .int .i64 0, .int .i64 0, .int .i64 0, .int .i64 0, .int .i64 0, .int .i64 0, .int .i64 0, .int .i64 0, .int .i64 0, .int .i64 0, .int .i64 0, .int .i64 0, .int .i64 0, .int .i64 0, .int .i64 0, .int .i64 0, .int .i64 0, .int .i64 0, .int .i64 0, .int .i64 0, .int .u32 0, .int .u32 0, .int .u32 0, .int .u32 0])], 65, 10, []⟩, 25⟩,
   ⟨24, 4, ⟨26, [(0, ⟨[], .inp 0⟩), (1, ⟨[], .inp 1⟩), (4, ⟨[], .bool false⟩), (5, ⟨[], .inp 2⟩), (6, ⟨[], .inp 0⟩), (7, ⟨[], qh28⟩), (8, ⟨[], .inp 1⟩), (9, ⟨[], .app .len [.inp 1]⟩), (10, ⟨[], .bool false⟩)], [], 3, 16, []⟩, 1⟩,
   ⟨51, 1, ⟨26, [(0, ⟨[], .yield 35⟩), (1, ⟨[], .ptr 26 0⟩), (5, ⟨[], .ptr 26 1⟩), (6, ⟨[], .ptr 26 3⟩), (7, ⟨[], .inp 43⟩), (8, ⟨[], .app .len [.inp 43]⟩), (9, ⟨[], .inp 63⟩)], [(0, .box (ips 0 11)), (2, .box (ips 11 29)), (4, .box (ips 40 23)), (14, .box (ips 0 11)), (16, .box (ips 11 29)), (18, .box (ips 40 23)), (20, .box [.clo 20 [] []]), (22, .box [.bool false]), (26, .box (ips 40 23)), (34, .dfr), (35, .loop .ready)], 64, 48, []⟩, 1⟩,
   ⟨51, 1, ⟨26, [(0, ⟨[], .yield 35⟩), (1, ⟨[], .ptr 26 0⟩), (5, ⟨[], .ptr 26 1⟩), (6, ⟨[], .ptr 26 3⟩), (7, ⟨[], .inp 43⟩), (8, ⟨[], .app .len [.inp 43]⟩), (9, ⟨[], .inp 63⟩)], [(0, .box (ips 0 11)), (2, .box (ips 11 29)), (4, .box (ips 40 23)), (14, .box (ips 0 11)), (16, .box (ips 11 29)), (18, .box (ips 40 23)), (20, .box [.clo 42 [] []]), (22, .box [.bool false]), (26, .box (ips 40 23)), (34, .dfr), (35, .loop .ready)], 64, 48, []⟩, 1⟩,
   ⟨17, 3, ⟨25, [(0, ⟨[], .agg (ips 40 74)⟩), (1, ⟨[], .ptr 42 0⟩), (2, ⟨[], .ptr 44 0⟩), (5, ⟨[], .ptr 42 1⟩), (6, ⟨[], .inp 41⟩), (7, ⟨[], .enil⟩), (8, ⟨[], .ptr 42 1⟩), (9, ⟨[], .ptr 42 1⟩), (10, ⟨[], .enil⟩), (11, ⟨[], .int .i64 0⟩), (12, ⟨[], .int .i64 0⟩)], [(0, .box (ips 0 11)), (2, .box (ips 11 29)), (4, .box (ips 40 74)), (6, .box [.int .i64 0, .enil, .int .i64 0, .int .i64 0, .bool false, .int .i64 0, .int .i64 0, .bool false, .int .i64 0, .int .i64 0, .bool false, .int .i64 0, .int .i64 0, .bool false, .int .i64 0, .int .i64 0, .bool false, .int .i64 0, .int .i64 0, .bool false, .int .i64 0, .int .i64 0, .bool false, .int .i64 0, .int .i64 0, .bool false, .int .i64 0, .int .i64 0, .bool false, .int .i64 0, .int .i64 0, .bool false, .int .i64 0, .int .i64 0, .bool false, .int .i64 0, .int .i64 0, .bool false, .int .i64 0, .int .i64 0, .bool false, .int .i64 0, .int .i64 0, .bool false, .int .i64 0, .int .i64 0, .bool false, .int .i64 0, .int .i64 0, .bool false, .int .i64 0, .int .i64 0, .bool false, .int .i64 0, .int .i64 0, .bool false, .int .i64 0, .int .i64 0, .bool false, .int .i64 0, .int .i64 0, .bool false, .int .i64 0, .int .i64 0, .bool false, .int .i64 0, .int .i64 0, .bool false, .int .i64 0, .int .i64 0, .bool false, .int .i64 0, .int .i64 0, .bool false]), (14, .box (ips 0 11)), (16, .box (ips 11 29)), (20, .mapo .u8 [1, 2, 3] [.clo 31 [] [], .clo 32 [] [.ptr 14 0, .ptr 16 0], .clo 33 [] [.ptr 14 0, .ptr 16 0]]), (42, .box [.inp 40, .enil, .inp 42, .inp 43, .inp 44, .inp 45, .inp 46, .inp 47, .inp 48, .inp 49, .inp 50, .inp 51, .inp 52, .inp 53, .inp 54, .inp 55, .inp 56, .inp 57, .inp 58, .inp 59, .inp 60, .inp 61, .inp 62, .inp 63, .inp 64, .inp 65, .inp 66, .inp 67, .inp 68, .inp 69, .inp 70, .inp 71, .inp 72, .inp 73, .inp 74, .inp 75, .inp 76, .inp 77, .inp 78, .inp 79, .inp 80, .inp 81, .inp 82, .inp 83, .inp 84, .inp 85, .inp 86, .inp 87, .inp 88, .inp 89, .inp 90, .inp 91, .inp 92, .inp 93, .inp 94, .inp 95, .inp 96, .inp 97, .inp 98, .inp 99, .inp 100, .inp 101, .inp 102, .inp 103, .inp 104, .inp 105, .inp 106, .inp 107, .inp 108, .inp 109, .inp 110, .inp 111, .inp 112, .inp 113]), (44, .box [.int .i64 0, .enil, .int .i64 0, .int .i64 0, .bool false, .int .i64 0, .int .i64 0, .bool false, .int .i64 0, .int .i64 0, .bool false, .int .i64 0, .int .i64 0, .bool false, .int .i64 0, .int .i64 0, .bool false, .int .i64 0, .int .i64 0, .bool false, .int .i64 0, .int .i64 0, .bool false, .int .i64 0, .int .i64 0, .bool false, .int .i64 0, .int .i64 0, .bool false, .int .i64 0, .int .i64 0, .bool false, .int .i64 0, .int .i64 0, .bool false, .int .i64 0, .int .i64 0, .bool false, .int .i64 0, .int .i64 0, .bool false, .int .i64 0, .int .i64 0, .bool false, .int .i64 0, .int .i64 0, .bool false, .int .i64 0, .int .i64 0, .bool false, .int .i64 0, .int .i64 0, .bool false, .int .i64 0, .int .i64 0, .bool false, .int .i64 0, .int .i64 0, .bool false, .int .i64 0, .int .i64 0, .bool false, .int .i64 0, .int .i64 0, .bool false, .int .i64 0, .int .i64 0, .bool false, .int .i64 0, .int .i64 0, .bool false, .int .i64 0, .int .i64 0, .bool false])], 116, 72, []⟩, 0⟩,
   ⟨7, 4, ⟨103, [(0, ⟨[], .agg (ips 0 11)⟩), (1, ⟨[], .agg (ips 11 29)⟩), (2, ⟨[], .agg (ips 40 74)⟩), (3, ⟨[], .inp 114⟩), (4, ⟨[], .ptr 0 0⟩), (5, ⟨[], .ptr 2 0⟩), (6, ⟨[], .ptr 4 0⟩), (8, ⟨[], .ptr 6 0⟩), (9, ⟨[], .bool false⟩), (10, ⟨[], .int .i64 (-1)⟩), (11, ⟨[], .mref 20⟩), (14, ⟨[], .agg (ips 0 11)⟩), (15, ⟨[], .agg (ips 11 29)⟩), (16, ⟨[], .mref 20⟩), (17, ⟨[], .agg (ips 40 74)⟩), (18, ⟨[], .agg [.inp 40, .enil, .inp 42, .inp 43, .inp 44, .inp 45, .inp 46, .inp 47, .inp 48, .inp 49, .inp 50, .inp 51, .inp 52, .inp 53, .inp 54, .inp 55, .inp 56, .inp 57, .inp 58, .inp 59, .inp 60, .inp 61, .inp 62, .inp 63, .inp 64, .inp 65, .inp 66, .inp 67, .inp 68, .inp 69, .inp 70, .inp 71, .inp 72, .inp 73, .inp 74, .inp 75, .inp 76, .inp 77, .inp 78, .inp 79, .inp 80, .inp 81, .inp 82, .inp 83, .inp 84, .inp 85, .inp 86, .inp 87, .inp 88, .inp 89, .inp 90, .inp 91, .inp 92, .inp 93, .inp 94, .inp 95, .inp 96, .inp 97, .inp 98, .inp 99, .inp 100, .inp 101, .inp 102, .inp 103, .inp 104, .inp 105, .inp 106, .inp 107, .inp 108, .inp 109, .inp 110, .inp 111, .inp 112, .inp 113]⟩), (19, ⟨[], .ptr 4 1⟩), (20, ⟨[], .enil⟩), (21, ⟨[], .int .i64 0⟩), (22, ⟨[], .int .i64 0⟩)], [(0, .box (ips 0 11)), (2, .box (ips 11 29)), (4, .box [.inp 40, .enil, .inp 42, .inp 43, .inp 44, .inp 45, .inp 46, .inp 47, .inp 48, .inp 49, .inp 50, .inp 51, .inp 52, .inp 53, .inp 54, .inp 55, .inp 56, .inp 57, .inp 58, .inp 59, .inp 60, .inp 61, .inp 62, .inp 63, .inp 64, .inp 65, .inp 66, .inp 67, .inp 68, .inp 69, .inp 70, .inp 71, .inp 72, .inp 73, .inp 74, .inp 75, .inp 76, .inp 77, .inp 78, .inp 79, .inp 80, .inp 81, .inp 82, .inp 83, .inp 84, .inp 85, .inp 86, .inp 87, .inp 88, .inp 89, .inp 90, .inp 91, .inp 92, .inp 93, .inp 94, .inp 95, .inp 96, .inp 97, .inp 98, .inp 99, .inp 100, .inp 101, .inp 102, .inp 103, .inp 104, .inp 105, .inp 106, .inp 107, .inp 108, .inp 109, .inp 110, .inp 111, .inp 112, .inp 113]), (6, .box [.int .i64 0, .enil, .int .i64 0, .int .i64 0, .bool false, .int .i64 0, .int .i64 0, .bool false, .int .i64 0, .int .i64 0, .bool false, .int .i64 0, .int .i64 0, .bool false, .int .i64 0, .int .i64 0, .bool false, .int .i64 0, .int .i64 0, .bool false, .int .i64 0, .int .i64 0, .bool false, .int .i64 0, .int .i64 0, .bool false, .int .i64 0, .int .i64 0, .bool false, .int .i64 0, .int .i64 0, .bool false, .int .i64 0, .int .i64 0, .bool false, .int .i64 0, .int .i64 0, .bool false, .int .i64 0, .int .i64 0, .bool false, .int .i64 0, .int .i64 0, .bool false, .int .i64 0, .int .i64 0, .bool false, .int .i64 0, .int .i64 0, .bool false, .int .i64 0, .int .i64 0, .bool false, .int .i64 0, .int .i64 0, .bool false, .int .i64 0, .int .i64 0, .bool false, .int .i64 0, .int .i64 0, .bool false, .int .i64 0, .int .i64 0, .bool false, .int .i64 0, .int .i64 0, .bool false, .int .i64 0, .int .i64 0, .bool false, .int .i64 0, .int .i64 0, .bool false]), (14, .box (ips 0 11)), (16, .box (ips 11 29)), (20, .mapo .u8 [1, 2, 3] [.clo 31 [] [], .clo 32 [] [.ptr 14 0, .ptr 16 0], .clo 33 [] [.ptr 14 0, .ptr 16 0]]), (42, .box [.inp 40, .enil, .inp 42, .inp 43, .inp 44, .inp 45, .inp 46, .inp 47, .inp 48, .inp 49, .inp 50, .inp 51, .inp 52, .inp 53, .inp 54, .inp 55, .inp 56, .inp 57, .inp 58, .inp 59, .inp 60, .inp 61, .inp 62, .inp 63, .inp 64, .inp 65, .inp 66, .inp 67, .inp 68, .inp 69, .inp 70, .inp 71, .inp 72, .inp 73, .inp 74, .inp 75, .inp 76, .inp 77, .inp 78, .inp 79, .inp 80, .inp 81, .inp 82, .inp 83, .inp 84, .inp 85, .inp 86, .inp 87, .inp 88, .inp 89, .inp 90, .inp 91, .inp 92, .inp 93, .inp 94, .inp 95, .inp 96, .inp 97, .inp 98, .inp 99, .inp 100, .inp 101, .inp 102, .inp 103, .inp 104, .inp 105, .inp 106, .inp 107, .inp 108, .inp 109, .inp 110, .inp 111, .inp 112, .inp 113]), (44, .box [.inp 40, .enil, .inp 42, .inp 43, .inp 44, .inp 45, .inp 46, .inp 47, .inp 48, .inp 49, .inp 50, .inp 51, .inp 52, .inp 53, .inp 54, .inp 55, .inp 56, .inp 57, .inp 58, .inp 59, .inp 60, .inp 61, .inp 62, .inp 63, .inp 64, .inp 65, .inp 66, .inp 67, .inp 68, .inp 69, .inp 70, .inp 71, .inp 72, .inp 73, .inp 74, .inp 75, .inp 76, .inp 77, .inp 78, .inp 79, .inp 80, .inp 81, .inp 82, .inp 83, .inp 84, .inp 85, .inp 86, .inp 87, .inp 88, .inp 89, .inp 90, .inp 91, .inp 92, .inp 93, .inp 94, .inp 95, .inp 96, .inp 97, .inp 98, .inp 99, .inp 100, .inp 101, .inp 102, .inp 103, .inp 104, .inp 105, .inp 106, .inp 107, .inp 108, .inp 109, .inp 110, .inp 111, .inp 112, .inp 113])], 116, 90, []⟩, 0⟩,
   ⟨17, 3, ⟨25, [(0, ⟨[], .agg (ips 40 74)⟩), (1, ⟨[], .ptr 42 0⟩), (2, ⟨[], .ptr 44 0⟩), (5, ⟨[], .ptr 42 1⟩), (6, ⟨[], .inp 41⟩), (7, ⟨[], .row 60⟩), (8, ⟨[], .ptr 42 1⟩), (9, ⟨[], .ptr 42 1⟩), (10, ⟨[], .row 60⟩), (11, ⟨[], .app .len [.app .app [.app .lst [], .inp 41]]⟩), (12, ⟨[], .inp 116⟩)], [(0, .box (ips 0 11)), (2, .box (ips 11 29)), (4, .box (ips 40 74)), (6, .box [.int .i64 0, .enil, .int .i64 0, .int .i64 0, .bool false, .int .i64 0, .int .i64 0, .bool false, .int .i64 0, .int .i64 0, .bool false, .int .i64 0, .int .i64 0, .bool false, .int .i64 0, .int .i64 0, .bool false, .int .i64 0, .int .i64 0, .bool false, .int .i64 0, .int .i64 0, .bool false, .int .i64 0, .int .i64 0, .bool false, .int .i64 0, .int .i64 0, .bool false, .int .i64 0, .int .i64 0, .bool false, .int .i64 0, .int .i64 0, .bool false, .int .i64 0, .int .i64 0, .bool false, .int .i64 0, .int .i64 0, .bool false, .int .i64 0, .int .i64 0, .bool false, .int .i64 0, .int .i64 0, .bool false, .int .i64 0, .int .i64 0, .bool false, .int .i64 0, .int .i64 0, .bool false, .int .i64 0, .int .i64 0, .bool false, .int .i64 0, .int .i64 0, .bool false, .int .i64 0, .int .i64 0, .bool false, .int .i64 0, .int .i64 0, .bool false, .int .i64 0, .int .i64 0, .bool false, .int .i64 0, .int .i64 0, .bool false, .int .i64 0, .int .i64 0, .bool false]), (14, .box (ips 0 11)), (16, .box (ips 11 29)), (20, .mapo .u8 [1, 2, 3] [.clo 31 [] [], .clo 32 [] [.ptr 14 0, .ptr 16 0], .clo 33 [] [.ptr 14 0, .ptr 16 0]]), (42, .box [.inp 40, .row 60, .inp 42, .inp 43, .inp 44, .inp 45, .inp 46, .inp 47, .inp 48, .inp 49, .inp 50, .inp 51, .inp 52, .inp 53, .inp 54, .inp 55, .inp 56, .inp 57, .inp 58, .inp 59, .inp 60, .inp 61, .inp 62, .inp 63, .inp 64, .inp 65, .inp 66, .inp 67, .inp 68, .inp 69, .inp 70, .inp 71, .inp 72, .inp 73, .inp 74, .inp 75, .inp 76, .inp 77, .inp 78, .inp 79, .inp 80, .inp 81, .inp 82, .inp 83, .inp 84, .inp 85, .inp 86, .inp 87, .inp 88, .inp 89, .inp 90, .inp 91, .inp 92, .inp 93, .inp 94, .inp 95, .inp 96, .inp 97, .inp 98, .inp 99, .inp 100, .inp 101, .inp 102, .inp 103, .inp 104, .inp 105, .inp 106, .inp 107, .inp 108, .inp 109, .inp 110, .inp 111, .inp 112, .inp 113]), (44, .box [.int .i64 0, .enil, .int .i64 0, .int .i64 0, .bool false, .int .i64 0, .int .i64 0, .bool false, .int .i64 0, .int .i64 0, .bool false, .int .i64 0, .int .i64 0, .bool false, .int .i64 0, .int .i64 0, .bool false, .int .i64 0, .int .i64 0, .bool false, .int .i64 0, .int .i64 0, .bool false, .int .i64 0, .int .i64 0, .bool false, .int .i64 0, .int .i64 0, .bool false, .int .i64 0, .int .i64 0, .bool false, .int .i64 0, .int .i64 0, .bool false, .int .i64 0, .int .i64 0, .bool false, .int .i64 0, .int .i64 0, .bool false, .int .i64 0, .int .i64 0, .bool false, .int .i64 0, .int .i64 0, .bool false, .int .i64 0, .int .i64 0, .bool false, .int .i64 0, .int .i64 0, .bool false, .int .i64 0, .int .i64 0, .bool false, .int .i64 0, .int .i64 0, .bool false, .int .i64 0, .int .i64 0, .bool false, .int .i64 0, .int .i64 0, .bool false, .int .i64 0, .int .i64 0, .bool false, .int .i64 0, .int .i64 0, .bool false, .int .i64 0, .int .i64 0, .bool false]), (56, .gone), (60, .row 23 (.inp 117))], 118, 78, []⟩, 2⟩,
   ⟨7, 4, ⟨103, [(0, ⟨[], .agg (ips 0 11)⟩), (1, ⟨[], .agg (ips 11 29)⟩), (2, ⟨[], .agg (ips 40 74)⟩), (3, ⟨[], .inp 114⟩), (4, ⟨[], .ptr 0 0⟩), (5, ⟨[], .ptr 2 0⟩), (6, ⟨[], .ptr 4 0⟩), (8, ⟨[], .ptr 6 0⟩), (9, ⟨[], .bool false⟩), (10, ⟨[], .inp 118⟩), (11, ⟨[], .mref 20⟩), (14, ⟨[], .agg (ips 0 11)⟩), (15, ⟨[], .agg (ips 11 29)⟩), (16, ⟨[], .mref 20⟩), (17, ⟨[], .agg (ips 40 74)⟩), (18, ⟨[], .agg [.inp 40, .row 60, .inp 42, .inp 43, .inp 44, .inp 45, .inp 46, .inp 47, .inp 48, .inp 49, .inp 50, .inp 51, .inp 52, .inp 53, .inp 54, .inp 55, .inp 56, .inp 57, .inp 58, .inp 59, .inp 60, .inp 61, .inp 62, .inp 63, .inp 64, .inp 65, .inp 66, .inp 67, .inp 68, .inp 69, .inp 70, .inp 71, .inp 72, .inp 73, .inp 74, .inp 75, .inp 76, .inp 77, .inp 78, .inp 79, .inp 80, .inp 81, .inp 82, .inp 83, .inp 84, .inp 85, .inp 86, .inp 87, .inp 88, .inp 89, .inp 90, .inp 91, .inp 92, .inp 93, .inp 94, .inp 95, .inp 96, .inp 97, .inp 98, .inp 99, .inp 100, .inp 101, .inp 102, .inp 103, .inp 104, .inp 105, .inp 106, .inp 107, .inp 108, .inp 109, .inp 110, .inp 111, .inp 112, .inp 113]⟩), (19, ⟨[], .ptr 4 1⟩), (20, ⟨[], .row 60⟩), (21, ⟨[], .app .len [.inp 117]⟩), (22, ⟨[], .inp 119⟩)], [(0, .box (ips 0 11)), (2, .box (ips 11 29)), (4, .box [.inp 40, .row 60, .inp 42, .inp 43, .inp 44, .inp 45, .inp 46, .inp 47, .inp 48, .inp 49, .inp 50, .inp 51, .inp 52, .inp 53, .inp 54, .inp 55, .inp 56, .inp 57, .inp 58, .inp 59, .inp 60, .inp 61, .inp 62, .inp 63, .inp 64, .inp 65, .inp 66, .inp 67, .inp 68, .inp 69, .inp 70, .inp 71, .inp 72, .inp 73, .inp 74, .inp 75, .inp 76, .inp 77, .inp 78, .inp 79, .inp 80, .inp 81, .inp 82, .inp 83, .inp 84, .inp 85, .inp 86, .inp 87, .inp 88, .inp 89, .inp 90, .inp 91, .inp 92, .inp 93, .inp 94, .inp 95, .inp 96, .inp 97, .inp 98, .inp 99, .inp 100, .inp 101, .inp 102, .inp 103, .inp 104, .inp 105, .inp 106, .inp 107, .inp 108, .inp 109, .inp 110, .inp 111, .inp 112, .inp 113]), (6, .box [.int .i64 0, .enil, .int .i64 0, .int .i64 0, .bool false, .int .i64 0, .int .i64 0, .bool false, .int .i64 0, .int .i64 0, .bool false, .int .i64 0, .int .i64 0, .bool false, .int .i64 0, .int .i64 0, .bool false, .int .i64 0, .int .i64 0, .bool false, .int .i64 0, .int .i64 0, .bool false, .int .i64 0, .int .i64 0, .bool false, .int .i64 0, .int .i64 0, .bool false, .int .i64 0, .int .i64 0, .bool false, .int .i64 0, .int .i64 0, .bool false, .int .i64 0, .int .i64 0, .bool false, .int .i64 0, .int .i64 0, .bool false, .int .i64 0, .int .i64 0, .bool false, .int .i64 0, .int .i64 0, .bool false, .int .i64 0, .int .i64 0, .bool false, .int .i64 0, .int .i64 0, .bool false, .int .i64 0, .int .i64 0, .bool false, .int .i64 0, .int .i64 0, .bool false, .int .i64 0, .int .i64 0, .bool false, .int .i64 0, .int .i64 0, .bool false, .int .i64 0, .int .i64 0, .bool false, .int .i64 0, .int .i64 0, .bool false, .int .i64 0, .int .i64 0, .bool false]), (14, .box (ips 0 11)), (16, .box (ips 11 29)), (20, .mapo .u8 [1, 2, 3] [.clo 31 [] [], .clo 32 [] [.ptr 14 0, .ptr 16 0], .clo 33 [] [.ptr 14 0, .ptr 16 0]]), (42, .box [.inp 40, .row 60, .inp 42, .inp 43, .inp 44, .inp 45, .inp 46, .inp 47, .inp 48, .inp 49, .inp 50, .inp 51, .inp 52, .inp 53, .inp 54, .inp 55, .inp 56, .inp 57, .inp 58, .inp 59, .inp 60, .inp 61, .inp 62, .inp 63, .inp 64, .inp 65, .inp 66, .inp 67, .inp 68, .inp 69, .inp 70, .inp 71, .inp 72, .inp 73, .inp 74, .inp 75, .inp 76, .inp 77, .inp 78, .inp 79, .inp 80, .inp 81, .inp 82, .inp 83, .inp 84, .inp 85, .inp 86, .inp 87, .inp 88, .inp 89, .inp 90, .inp 91, .inp 92, .inp 93, .inp 94, .inp 95, .inp 96, .inp 97, .inp 98, .inp 99, .inp 100, .inp 101, .inp 102, .inp 103, .inp 104, .inp 105, .inp 106, .inp 107, .inp 108, .inp 109, .inp 110, .inp 111, .inp 112, .inp 113]), (44, .box [.inp 40, .row 60, .inp 42, .inp 43, .inp 44, .inp 45, .inp 46, .inp 47, .inp 48, .inp 49, .inp 50, .inp 51, .inp 52, .inp 53, .inp 54, .inp 55, .inp 56, .inp 57, .inp 58, .inp 59, .inp 60, .inp 61, .inp 62, .inp 63, .inp 64, .inp 65, .inp 66, .inp 67, .inp 68, .inp 69, .inp 70, .inp 71, .inp 72, .inp 73, .inp 74, .inp 75, .inp 76, .inp 77, .inp 78, .inp 79, .inp 80, .inp 81, .inp 82, .inp 83, .inp 84, .inp 85, .inp 86, .inp 87, .inp 88, .inp 89, .inp 90, .inp 91, .inp 92, .inp 93, .inp 94, .inp 95, .inp 96, .inp 97, .inp 98, .inp 99, .inp 100, .inp 101, .inp 102, .inp 103, .inp 104, .inp 105, .inp 106, .inp 107, .inp 108, .inp 109, .inp 110, .inp 111, .inp 112, .inp 113]), (56, .gone), (60, .row 23 (.inp 117))], 120, 96, []⟩, 2⟩,
   ⟨17, 3, ⟨25, [(0, ⟨[], .agg (ips 0 74)⟩), (1, ⟨[], .ptr 0 0⟩), (2, ⟨[], .ptr 2 0⟩), (5, ⟨[], .ptr 0 1⟩), (6, ⟨[], .inp 1⟩), (7, ⟨[], .enil⟩), (8, ⟨[], .ptr 0 1⟩), (9, ⟨[], .ptr 0 1⟩), (10, ⟨[], .enil⟩), (11, ⟨[], .int .i64 0⟩), (12, ⟨[], .int .i64 0⟩)], [(0, .box [.inp 0, .enil, .inp 2, .inp 3, .inp 4, .inp 5, .inp 6, .inp 7, .inp 8, .inp 9, .inp 10, .inp 11, .inp 12, .inp 13, .inp 14, .inp 15, .inp 16, .inp 17, .inp 18, .inp 19, .inp 20, .inp 21, .inp 22, .inp 23, .inp 24, .inp 25, .inp 26, .inp 27, .inp 28, .inp 29, .inp 30, .inp 31, .inp 32, .inp 33, .inp 34, .inp 35, .inp 36, .inp 37, .inp 38, .inp 39, .inp 40, .inp 41, .inp 42, .inp 43, .inp 44, .inp 45, .inp 46, .inp 47, .inp 48, .inp 49, .inp 50, .inp 51, .inp 52, .inp 53, .inp 54, .inp 55, .inp 56, .inp 57, .inp 58, .inp 59, .inp 60, .inp 61, .inp 62, .inp 63, .inp 64, .inp 65, .inp 66, .inp 67, .inp 68, .inp 69, .inp 70, .inp 71, .inp 72, .inp 73]), (2, .box [.int .i64 0, .enil, .int .i64 0, .int .i64 0, .bool false, .int .i64 0, .int .i64 0, .bool false, .int .i64 0, .int .i64 0, .bool false, .int .i64 0, .int .i64 0, .bool false, .int .i64 0, .int .i64 0, .bool false, .int .i64 0, .int .i64 0, .bool false, .int .i64 0, .int .i64 0, .bool false, .int .i64 0, .int .i64 0, .bool false, .int .i64 0, .int .i64 0, .bool false, .int .i64 0, .int .i64 0, .bool false, .int .i64 0, .int .i64 0, .bool false, .int .i64 0, .int .i64 0, .bool false, .int .i64 0, .int .i64 0, .bool false, .int .i64 0, .int .i64 0, .bool false, .int .i64 0, .int .i64 0, .bool false, .int .i64 0, .int .i64 0, .bool false, .int .i64 0, .int .i64 0, .bool false, .int .i64 0, .int .i64 0, .bool false, .int .i64 0, .int .i64 0, .bool false, .int .i64 0, .int .i64 0, .bool false, .int .i64 0, .int .i64 0, .bool false, .int .i64 0, .int .i64 0, .bool false, .int .i64 0, .int .i64 0, .bool false, .int .i64 0, .int .i64 0, .bool false])], 75, 30, []⟩, 0⟩,
   ⟨17, 3, ⟨25, [(0, ⟨[], .agg (ips 0 74)⟩), (1, ⟨[], .ptr 0 0⟩), (2, ⟨[], .ptr 2 0⟩), (5, ⟨[], .ptr 0 1⟩), (6, ⟨[], .inp 1⟩), (7, ⟨[], .row 18⟩), (8, ⟨[], .ptr 0 1⟩), (9, ⟨[], .ptr 0 1⟩), (10, ⟨[], .row 18⟩), (11, ⟨[], .app .len [.app .app [.app .lst [], .inp 1]]⟩), (12, ⟨[], .inp 75⟩)], [(0, .box [.inp 0, .row 18, .inp 2, .inp 3, .inp 4, .inp 5, .inp 6, .inp 7, .inp 8, .inp 9, .inp 10, .inp 11, .inp 12, .inp 13, .inp 14, .inp 15, .inp 16, .inp 17, .inp 18, .inp 19, .inp 20, .inp 21, .inp 22, .inp 23, .inp 24, .inp 25, .inp 26, .inp 27, .inp 28, .inp 29, .inp 30, .inp 31, .inp 32, .inp 33, .inp 34, .inp 35, .inp 36, .inp 37, .inp 38, .inp 39, .inp 40, .inp 41, .inp 42, .inp 43, .inp 44, .inp 45, .inp 46, .inp 47, .inp 48, .inp 49, .inp 50, .inp 51, .inp 52, .inp 53, .inp 54, .inp 55, .inp 56, .inp 57, .inp 58, .inp 59, .inp 60, .inp 61, .inp 62, .inp 63, .inp 64, .inp 65, .inp 66, .inp 67, .inp 68, .inp 69, .inp 70, .inp 71, .inp 72, .inp 73]), (2, .box [.int .i64 0, .enil, .int .i64 0, .int .i64 0, .bool false, .int .i64 0, .int .i64 0, .bool false, .int .i64 0, .int .i64 0, .bool false, .int .i64 0, .int .i64 0, .bool false, .int .i64 0, .int .i64 0, .bool false, .int .i64 0, .int .i64 0, .bool false, .int .i64 0, .int .i64 0, .bool false, .int .i64 0, .int .i64 0, .bool false, .int .i64 0, .int .i64 0, .bool false, .int .i64 0, .int .i64 0, .bool false, .int .i64 0, .int .i64 0, .bool false, .int .i64 0, .int .i64 0, .bool false, .int .i64 0, .int .i64 0, .bool false, .int .i64 0, .int .i64 0, .bool false, .int .i64 0, .int .i64 0, .bool false, .int .i64 0, .int .i64 0, .bool false, .int .i64 0, .int .i64 0, .bool false, .int .i64 0, .int .i64 0, .bool false, .int .i64 0, .int .i64 0, .bool false, .int .i64 0, .int .i64 0, .bool false, .int .i64 0, .int .i64 0, .bool false, .int .i64 0, .int .i64 0, .bool false, .int .i64 0, .int .i64 0, .bool false, .int .i64 0, .int .i64 0, .bool false]), (14, .gone), (18, .row 23 (.inp 76))], 77, 36, []⟩, 2⟩,
   ⟨4, 2, ⟨45, [(0, ⟨[], .agg (ips 0 11)⟩), (1, ⟨[], .ptr 0 0⟩), (2, ⟨[], .bool false⟩), (3, ⟨[], .inp 11⟩)], [(0, .box (ips 0 11))], 12, 8, []⟩, 1⟩,
   ⟨14, 4, ⟨44, [(0, ⟨[], .agg (ips 0 74)⟩), (1, ⟨[], .agg (ips 74 74)⟩), (2, ⟨[], .ptr 0 0⟩), (3, ⟨[], .ptr 2 0⟩), (4, ⟨[], .bool false⟩), (5, ⟨[], .inp 148⟩), (6, ⟨[], .ptr 0 1⟩), (7, ⟨[], .inp 1⟩), (8, ⟨[], .app .len [.inp 1]⟩), (9, ⟨[], .ptr 2 1⟩), (10, ⟨[], .inp 75⟩), (11, ⟨[], .app .len [.inp 75]⟩), (12, ⟨[], .bool false⟩)], [(0, .box (ips 0 74)), (2, .box (ips 74 74))], 149, 24, []⟩, 1⟩,
   ⟨5, 2, ⟨42, [(0, ⟨[], .agg (ips 0 74)⟩), (1, ⟨[], .ptr 0 0⟩), (2, ⟨[], .bool false⟩), (3, ⟨[], .inp 74⟩)], [(0, .box (ips 0 74))], 75, 8, []⟩, 1⟩]

def inl : List Nat := [34, 17, 16, 70, 79, 74, 71, 72, 73, 43, 44, 46, 56, 67, 77, 66, 19, 35, 51]
noncomputable def E : Env := { P := PR, G := GL, inl := fun f => inl.contains f, scal := fun f => scal.contains f, shape := imgShape 52 60 36 53, hints := hints, frzAt := fun f k => frzL.contains (f, k), big := 9, srt := fun f => srtF.contains f, cpt := fun f => cptF.contains f, del := fun f => if f = 18 then 23 else 0 }
theorem Emix : E.P.follows .mixedOrders = true := by kernel_rfl
end Go.Lb.LK

namespace Go.Lb.LK
open Go Go.Lb Go.Proofs
@[simp] noncomputable def qka0_0 : SE := .app (.bin .geq) [.inp 0, .int .i64 0]
@[simp] noncomputable def qka0_1 : SE := .app (.bin .lss) [.inp 0, .int .i64 32]
@[simp] noncomputable def qka0_2 : SE := .app .pick [qka0_0, qka0_1, .bool false]
@[simp] noncomputable def qka0_3 : SE := .app (.eload 1 false) [.ref [.inp 1] 0]
@[simp] noncomputable def qka0_4 : SE := .app (.bin .shl) [.int .u32 1, .inp 0]
@[simp] noncomputable def qka0_5 : SE := .app (.bin .and) [qka0_3, qka0_4]
@[simp] noncomputable def qka0_6 : SE := .app (.bin .neq) [qka0_5, .int .u32 0]
@[simp] noncomputable def qka0_7 : SE := .agg [.inp 0, .inp 1, .inp 2, .inp 3, .inp 4, .inp 5, .inp 6, .inp 7, .inp 8, .inp 9, .inp 10]
@[simp] noncomputable def qka0_8 : SE := .agg [.inp 11, .inp 12, .inp 13, .inp 14, .inp 15, .inp 16, .inp 17, .inp 18, .inp 19, .inp 20, .inp 21, .inp 22, .inp 23, .inp 24, .inp 25, .inp 26, .inp 27, .inp 28, .inp 29, .inp 30, .inp 31, .inp 32, .inp 33, .inp 34, .inp 35, .inp 36, .inp 37, .inp 38, .inp 39]
@[simp] noncomputable def qka0_9 : SE := .clo 60 [] [.ref [.inp 36] 0]
@[simp] noncomputable def qka0_10 : SE := .ref [qka0_9] 0
@[simp] noncomputable def qka0_11 : SE := .app (.un .not) [qka0_3]
@[simp] noncomputable def qka0_12 : SE := .app (.mm false) [.app .len [.inp 0], .int .i64 24]
@[simp] noncomputable def qka0_13 : SE := .app (.bin .lss) [.inp 40, qka0_12]
@[simp] noncomputable def qka0_14 : SE := .app .pick [qka0_13, .inp 42, .bool false]
@[simp] noncomputable def qka0_15 : SE := .app (.bin .lss) [.inp 40, .int .i64 0]
@[simp] noncomputable def qka0_16 : SE := .app (.bin .geq) [.inp 40, qka0_12]
@[simp] noncomputable def qka0_17 : SE := .ref [.app (.bin .lss) [.inp 6, .inp 11]] 0
@[simp] noncomputable def qka0_18 : SE := .app (.aidx 24 1 1 1 false) [qka0_8, .inp 40]
@[simp] noncomputable def qka0_19 : SE := .app (.bin .lss) [qka0_18, .inp 4]
@[simp] noncomputable def qka0_20 : SE := .ref [.int .i64 1073741824, .int .i64 65535] 0
@[simp] noncomputable def qka0_21 : SE := .app (.eaidx 2 1) [qka0_20, .inp 0]
@[simp] noncomputable def qka0_22 : SE := .app (.eload 1 false) [qka0_21]
@[simp] noncomputable def qka0_23 : SE := .app (.mm false) [.inp 1, qka0_22]
@[simp] noncomputable def qka0_24 : SE := .app (.mm true) [.inp 2, .int .i64 0]
@[simp] noncomputable def qka0_25 : SE := .app (.bin .sub) [qka0_22, .inp 3]
@[simp] noncomputable def qka0_26 : SE := .app (.mm false) [qka0_24, qka0_25]
@[simp] noncomputable def qka0_27 : SE := .app (.bin .add) [.inp 3, .inp 4]
@[simp] noncomputable def qka0_28 : SE := .agg [.inp 0, .inp 1, .inp 3]
@[simp] noncomputable def qka0_29 : SE := .app .app [.app .lst [], .inp 0]
@[simp] noncomputable def qka0_30 : SE := .app (.bin .lss) [.inp 2, .app .len [.inp 0]]
@[simp] noncomputable def qka0_31 : SE := .app (.eidx 3) [.inp 0, .inp 2]
@[simp] noncomputable def qka0_32 : SE := .app (.eload 3 true) [qka0_31]
@[simp] noncomputable def qka0_33 : SE := .app (.eidx 3) [.inp 1, .inp 3]
@[simp] noncomputable def qka0_34 : SE := .app (.eload 3 true) [qka0_33]
@[simp] noncomputable def qka0_35 : SE := .app (.part 0 1 false) [qka0_32]
@[simp] noncomputable def qka0_36 : SE := .app (.part 1 1 false) [qka0_32]
@[simp] noncomputable def qka0_37 : SE := .app (.part 0 1 false) [qka0_34]
@[simp] noncomputable def qka0_38 : SE := .app (.part 1 1 false) [qka0_34]
@[simp] noncomputable def qka0_39 : SE := .app (.bin .eql) [qka0_35, qka0_37]
@[simp] noncomputable def qka0_40 : SE := .app (.bin .neq) [qka0_36, qka0_38]
@[simp] noncomputable def qka0_41 : SE := .app (.bin .add) [.inp 2, .int .i64 1]
@[simp] noncomputable def qka0_42 : SE := .agg [.inp 0, .inp 1, .inp 2, .inp 3, .inp 4, .inp 5, .inp 6, .inp 7, .inp 8, .inp 9, .inp 10, .inp 11, .inp 12, .inp 13, .inp 14, .inp 15, .inp 16, .inp 17, .inp 18, .inp 19, .inp 20, .inp 21, .inp 22]
@[simp] noncomputable def qka0_43 : SE := .agg [.inp 0, .app (.part 0 1 false) [.inp 23], .app (.part 1 1 false) [.inp 23], .app (.part 2 1 false) [.inp 23], .inp 24, .inp 25, .inp 6, .inp 7, .inp 8, .inp 9, .inp 10, .inp 11, .inp 12, .inp 13, .inp 14, .inp 15, .inp 16, .inp 17, .inp 18, .inp 19, .inp 20, .inp 21, .inp 22]
@[simp] noncomputable def qka0_44 : SE := .app (.bin .lss) [.inp 0, .int .i64 1]
@[simp] noncomputable def qka0_45 : SE := .app (.mm true) [.inp 0, .inp 21]
@[simp] noncomputable def qka0_46 : SE := .app (.bin .gtr) [qka0_45, .int .i64 1073741824]
@[simp] noncomputable def qka0_47 : SE := .app .pick [qka0_44, .bool true, qka0_46]
@[simp] noncomputable def qka0_48 : SE := .app (.bin .lss) [.inp 21, .int .i64 0]
@[simp] noncomputable def qka0_49 : SE := .app .pick [qka0_47, .bool true, qka0_48]
@[simp] noncomputable def qka0_50 : SE := .app (.bin .lss) [.app .len [.inp 3], .int .i64 1]
@[simp] noncomputable def qka0_51 : SE := .app .pick [qka0_49, .bool true, qka0_50]
@[simp] noncomputable def qka0_52 : SE := .app (.bin .gtr) [.app .len [.inp 3], .int .i64 12]
@[simp] noncomputable def qka0_53 : SE := .app .pick [qka0_51, .bool true, qka0_52]
@[simp] noncomputable def qka0_54 : SE := .app (.bin .gtr) [.app .len [.inp 4], .int .i64 2]
@[simp] noncomputable def qka0_55 : SE := .app (.bin .eql) [.inp 6, .int .u8 0]
@[simp] noncomputable def qka0_56 : SE := .app (.bin .geq) [.inp 6, .int .u8 5]
@[simp] noncomputable def qka0_57 : SE := .app .pick [qka0_55, .bool true, qka0_56]
@[simp] noncomputable def qka0_58 : SE := .app (.bin .lss) [.inp 7, .int .i64 0]
@[simp] noncomputable def qka0_59 : SE := .app .pick [qka0_57, .bool true, qka0_58]
@[simp] noncomputable def qka0_60 : SE := .app (.bin .gtr) [.inp 7, .app .len [.inp 3]]
@[simp] noncomputable def qka0_61 : SE := .app .pick [qka0_59, .bool true, qka0_60]
@[simp] noncomputable def qka0_62 : SE := .ref [.inp 0, .inp 1, .inp 2, .inp 3, .inp 4, .inp 5, .inp 6, .inp 7, .inp 8, .inp 9, .inp 10, .inp 11, .inp 12, .inp 13, .inp 14, .inp 15, .inp 16, .inp 17, .inp 18, .inp 19, .inp 20, .inp 21, .inp 22] 0
@[simp] noncomputable def qka0_63 : SE := .app .lst [.inp 8, .inp 9, .inp 10, .inp 11, .inp 12, .inp 13, .inp 14, .inp 15, .inp 16, .inp 17, .inp 18, .inp 19]
@[simp] noncomputable def qka0_64 : SE := .app (.slice false true) [qka0_63, .app .len [.inp 3]]
@[simp] noncomputable def qka0_65 : SE := .app .len [qka0_64]
@[simp] noncomputable def qka0_66 : SE := .ref [.inp 0, .inp 1, .inp 2, .inp 3, .inp 4, .inp 5, .inp 6, .inp 7, .inp 8, .inp 9, .inp 10, .inp 11, .inp 12, .inp 13, .inp 14, .inp 15, .inp 16, .inp 17, .inp 18, .inp 19, .inp 20, .inp 21, .inp 22] 8
@[simp] noncomputable def qka0_67 : SE := .agg [.inp 33, .inp 34, .inp 35, .inp 36, .inp 37, .inp 38, .inp 39, .inp 40, .inp 41, .inp 42, .inp 43, .inp 44]
@[simp] noncomputable def qka0_68 : SE := .app (.eload 12 true) [qka0_66]
@[simp] noncomputable def qka0_69 : SE := .ref [.inp 0, .inp 1, .inp 2, .inp 3, .inp 4, .inp 5, .inp 6, .inp 7, .inp 8, .inp 9, .inp 10, .inp 11, .inp 12, .inp 13, .inp 14, .inp 15, .inp 16, .inp 17, .inp 18, .inp 19, .inp 20, .inp 21, .inp 22] 3
@[simp] noncomputable def qka0_70 : SE := .ref [.inp 0, .inp 1, .inp 2, .inp 3, .inp 4, .inp 5, .inp 6, .inp 7, .inp 8, .inp 9, .inp 10, .inp 11, .inp 12, .inp 13, .inp 14, .inp 15, .inp 16, .inp 17, .inp 18, .inp 19, .inp 20, .inp 21, .inp 22] 4
@[simp] noncomputable def qka0_71 : SE := .app (.eload 1 false) [qka0_69]
@[simp] noncomputable def qka0_72 : SE := .app (.eload 1 false) [qka0_70]
@[simp] noncomputable def qka0_73 : SE := .app .lst [qka0_71, qka0_72]
@[simp] noncomputable def qka0_74 : SE := .app (.eidx 3) [.inp 47, .inp 52]
@[simp] noncomputable def qka0_75 : SE := .app (.eload 3 true) [qka0_74]
@[simp] noncomputable def qka0_76 : SE := .app (.part 0 1 false) [qka0_75]
@[simp] noncomputable def qka0_77 : SE := .app .lst [qka0_76]
@[simp] noncomputable def qka0_78 : SE := .app .len [qka0_72]
@[simp] noncomputable def qka0_79 : SE := .app (.bin .add) [.app .len [.inp 3], qka0_78]
@[simp] noncomputable def qka0_80 : SE := .ref [.inp 0, .inp 1, .inp 2, .inp 3, .inp 4, .inp 5, .inp 6, .inp 7, .inp 8, .inp 9, .inp 10, .inp 11, .inp 12, .inp 13, .inp 14, .inp 15, .inp 16, .inp 17, .inp 18, .inp 19, .inp 20, .inp 21, .inp 22] 5
@[simp] noncomputable def qka0_81 : SE := .app (.eload 1 false) [qka0_80]
@[simp] noncomputable def qka0_82 : SE := .app (.eidx 3) [.inp 59, .inp 61]
@[simp] noncomputable def qka0_83 : SE := .app (.eload 3 true) [qka0_82]
@[simp] noncomputable def qka0_84 : SE := .app (.part 2 1 false) [qka0_83]
@[simp] noncomputable def qka0_85 : SE := .app (.bin .lss) [qka0_84, .int .i64 0]
@[simp] noncomputable def qka0_86 : SE := .app (.bin .gtr) [qka0_84, .app .len [.inp 3]]
@[simp] noncomputable def qka0_87 : SE := .app .pick [qka0_85, .bool true, qka0_86]
@[simp] noncomputable def qka0_88 : SE := .app (.part 0 1 false) [qka0_83]
@[simp] noncomputable def qka0_89 : SE := .app (.bin .lss) [qka0_88, .int .i64 0]
@[simp] noncomputable def qka0_90 : SE := .app .pick [qka0_87, .bool true, qka0_89]
@[simp] noncomputable def qka0_91 : SE := .app (.bin .geq) [qka0_88, .int .i64 24]
@[simp] noncomputable def qka0_92 : SE := .app .pick [qka0_90, .bool true, qka0_91]
@[simp] noncomputable def qka0_93 : SE := .app (.part 1 1 false) [qka0_83]
@[simp] noncomputable def qka0_94 : SE := .app (.bin .shr) [qka0_93, .int .u64 1]
@[simp] noncomputable def qka0_95 : SE := .app (.bin .neq) [qka0_94, .int .i64 0]
@[simp] noncomputable def qka0_96 : SE := .app (.eidx 1) [.inp 0, .inp 2]
@[simp] noncomputable def qka0_97 : SE := .app (.eload 1 false) [qka0_96]
@[simp] noncomputable def qka0_98 : SE := .app .len [qka0_97]
@[simp] noncomputable def qka0_99 : SE := .app (.bin .add) [.inp 1, qka0_98]
@[simp] noncomputable def qka0_100 : SE := .app (.bin .sub) [.inp 1, .int .i64 0]
@[simp] noncomputable def qka0_101 : SE := .agg [.int .i64 0, .int .i64 0, .int .i64 0]
@[simp] noncomputable def qka0_102 : SE := .app .rep [qka0_100, qka0_101]
@[simp] noncomputable def qka0_103 : SE := .app (.eidx 1) [.inp 0, .inp 5]
@[simp] noncomputable def qka0_104 : SE := .app (.eload 1 false) [qka0_103]
@[simp] noncomputable def qka0_105 : SE := .app (.eidx 1) [.inp 0, .inp 4]
@[simp] noncomputable def qka0_106 : SE := .app (.eload 1 false) [qka0_105]
@[simp] noncomputable def qka0_107 : SE := .agg [.inp 40, .inp 41, .inp 42, .inp 43, .inp 44, .inp 45, .inp 46, .inp 47, .inp 48, .inp 49, .inp 50, .inp 51, .inp 52, .inp 53, .inp 54, .inp 55, .inp 56, .inp 57, .inp 58, .inp 59, .inp 60, .inp 61, .inp 62]
noncomputable def rt_slices_Sort_int : RT :=
.seg [.chk [] .len [.nils]] <|
.seg [.chk [] (.conv .u64) [.int .i64 0]] <|
.seg [.call 0 [] 76 [.int .u64 0] false] <|
.loop 0 1 [] <|
.seg [.chk [] (.bin .sub) [.int .i64 0, .int .i64 0]] <|
.seg [.chk [] (.bin .leq) [.int .i64 0, .int .i64 12]] <|
.seg [.chk [] (.bin .add) [.int .i64 0, .int .i64 1]] <|
.loop 1 1 [] <|
.seg [.chk [] (.bin .lss) [.int .i64 1, .int .i64 0]] <|
.ret (.tup [])
theorem run_slices_Sort_int : runF ES 64 [.nils] 0 = rt_slices_Sort_int := by kernel_rfl

noncomputable def rt_image_bit : RT :=
.seg [.chk [] .isOne [.inp 0]] <|
.ret (.clo 60 [] [.ref [.inp 0] 0])
theorem run_image_bit : runF E 52 [.inp 0] 1 = rt_image_bit := by kernel_rfl

noncomputable def rt_image_bit_1 : RT :=
.seg [.chk [] (.bin .geq) [.inp 0, .int .i64 0],
.chk [(qka0_0, true)] (.bin .lss) [.inp 0, .int .i64 32],
.chk [] .pick [qka0_0, qka0_1, .bool false],
.chk [(qka0_2, true)] (.eload 1 false) [.ref [.inp 1] 0],
.chk [(qka0_2, true)] (.bin .shl) [.int .u32 1, .inp 0],
.chk [(qka0_2, true)] (.bin .and) [qka0_3, qka0_4],
.chk [(qka0_2, true)] (.bin .neq) [qka0_5, .int .u32 0],
.chk [] .pick [qka0_2, qka0_6, .bool false]] <|
.seg [.bind 2 (.app .pick [qka0_2, qka0_6, .bool false])] <|
.ret (.inp 2)
theorem run_image_bit_1 : runF E 60 [.inp 0, .ref [.inp 1] 0] 2 = rt_image_bit_1 := by kernel_rfl

noncomputable def rt_image_clear : RT :=
.seg [.chk [] (.isAgg 11) [qka0_7]] <|
.seg [.chk [] (.isAgg 29) [qka0_8]] <|
.seg [.call 40 [] 26 [qka0_7, qka0_8] false,
.call 41 [] 52 [.inp 36] false,
.same 41 [] (qka0_9),
.chk [] .isOne [.inp 40]] <|
.ret (.clo 53 [] [.ref [.inp 40] 0, qka0_10])
theorem run_image_clear : runF E 36 [.agg [.inp 0, .inp 1, .inp 2, .inp 3, .inp 4, .inp 5, .inp 6, .inp 7, .inp 8, .inp 9, .inp 10], .agg [.inp 11, .inp 12, .inp 13, .inp 14, .inp 15, .inp 16, .inp 17, .inp 18, .inp 19, .inp 20, .inp 21, .inp 22, .inp 23, .inp 24, .inp 25, .inp 26, .inp 27, .inp 28, .inp 29, .inp 30, .inp 31, .inp 32, .inp 33, .inp 34, .inp 35, .inp 36, .inp 37, .inp 38, .inp 39]] 40 = rt_image_clear := by kernel_rfl

noncomputable def rt_image_clear_1 : RT :=
.seg [.chk [] (.eload 1 false) [.ref [.inp 1] 0]] <|
.seg [.chk [] (.un .not) [qka0_3]] <|
.seg [.chk [(qka0_11, true)] (.eload 1 false) [.ref [.clo 60 [] [.ref [.inp 2] 0]] 0]] <|
.seg [.call 3 [(qka0_11, true)] 60 [.inp 0, .ref [.inp 2] 0] false] <|
.seg [.chk [(qka0_11, true)] (.un .not) [.inp 3]] <|
.seg [.chk [] .pick [qka0_11, .app (.un .not) [.inp 3], .bool false]] <|
.ret (.app .pick [qka0_11, .app (.un .not) [.inp 3], .bool false])
theorem run_image_clear_1 : runF E 53 [.inp 0, .ref [.inp 1] 0, .ref [.clo 60 [] [.ref [.inp 2] 0]] 0] 3 = rt_image_clear_1 := by kernel_rfl

noncomputable def rt_image_Stale : RT :=
.seg [.chk [] (.isAgg 11) [qka0_7]] <|
.seg [.chk [] (.isAgg 29) [qka0_8]] <|
.seg [.call 40 [] 41 [.inp 11, .inp 6] false] <|
.ret (.inp 40)
theorem run_image_Stale : runF E 26 [.agg [.inp 0, .inp 1, .inp 2, .inp 3, .inp 4, .inp 5, .inp 6, .inp 7, .inp 8, .inp 9, .inp 10], .agg [.inp 11, .inp 12, .inp 13, .inp 14, .inp 15, .inp 16, .inp 17, .inp 18, .inp 19, .inp 20, .inp 21, .inp 22, .inp 23, .inp 24, .inp 25, .inp 26, .inp 27, .inp 28, .inp 29, .inp 30, .inp 31, .inp 32, .inp 33, .inp 34, .inp 35, .inp 36, .inp 37, .inp 38, .inp 39]] 40 = rt_image_Stale := by kernel_rfl

noncomputable def rt_image_Told : RT :=
.seg [.chk [] (.isAgg 11) [qka0_7]] <|
.seg [.chk [] (.isAgg 29) [qka0_8]] <|
.seg [.chk [] .len [.inp 0]] <|
.seg [.chk [] (.mm false) [.app .len [.inp 0], .int .i64 24]] <|
.seg [.chk [] (.bin .lss) [.inp 40, qka0_12]] <|
.seg [.call 41 [(qka0_13, true)] 52 [.inp 36] false,
.same 41 [(qka0_13, true)] (qka0_9)] <|
.seg [.call 42 [(qka0_13, true)] 60 [.inp 40, .ref [.inp 36] 0] false] <|
.seg [.chk [] .pick [qka0_13, .inp 42, .bool false]] <|
.seg [.call 43 [(qka0_14, true)] 26 [qka0_7, qka0_8] false] <|
.seg [.chk [(qka0_14, true)] (.un .not) [.inp 43]] <|
.seg [.chk [] .pick [qka0_14, .app (.un .not) [.inp 43], .bool false]] <|
.seg [.bind 44 (.app .pick [qka0_14, .app (.un .not) [.inp 43], .bool false])] <|
.ret (.inp 44)
theorem run_image_Told : runF E 42 [.agg [.inp 0, .inp 1, .inp 2, .inp 3, .inp 4, .inp 5, .inp 6, .inp 7, .inp 8, .inp 9, .inp 10], .agg [.inp 11, .inp 12, .inp 13, .inp 14, .inp 15, .inp 16, .inp 17, .inp 18, .inp 19, .inp 20, .inp 21, .inp 22, .inp 23, .inp 24, .inp 25, .inp 26, .inp 27, .inp 28, .inp 29, .inp 30, .inp 31, .inp 32, .inp 33, .inp 34, .inp 35, .inp 36, .inp 37, .inp 38, .inp 39], .inp 40] 41 = rt_image_Told := by kernel_rfl

noncomputable def rt_image_Occupied : RT :=
.seg [.chk [] (.isAgg 11) [qka0_7]] <|
.seg [.chk [] (.isAgg 29) [qka0_8]] <|
.seg [.chk [] (.bin .lss) [.inp 40, .int .i64 0]] <|
.seg [.chk [(qka0_15, false)] .len [.inp 0]] <|
.seg [.chk [(qka0_15, false)] (.mm false) [.app .len [.inp 0], .int .i64 24]] <|
.seg [.chk [(qka0_15, false)] (.bin .geq) [.inp 40, qka0_12]] <|
.seg [.chk [] .pick [qka0_15, .bool true, qka0_16]] <|
.seg [.bind 41 (.app .pick [qka0_15, .bool true, qka0_16])] <|
.cond (.inp 41)
 (.ret (.bool true))
 (.seg [.call 42 [] 36 [qka0_7, qka0_8] false,
.same 42 [] (.clo 53 [] [qka0_17, qka0_10]),
.call 43 [] 53 [.inp 40, qka0_17, qka0_10] false,
.chk [] (.un .not) [.inp 43],
.chk [(.app (.un .not) [.inp 43], false)] (.inr 24) [.inp 40],
.chk [(.app (.un .not) [.inp 43], false)] (.aidx 24 1 1 1 false) [qka0_8, .inp 40],
.chk [(.app (.un .not) [.inp 43], false)] (.bin .lss) [qka0_18, .inp 4],
.chk [] .pick [.app (.un .not) [.inp 43], .bool true, qka0_19]] <|
.seg [.bind 44 (.app .pick [.app (.un .not) [.inp 43], .bool true, qka0_19]),
.bind 45 (qka0_18),
.bind 46 (qka0_19)] <|
.ret (.inp 44))
theorem run_image_Occupied : runF E 20 [.agg [.inp 0, .inp 1, .inp 2, .inp 3, .inp 4, .inp 5, .inp 6, .inp 7, .inp 8, .inp 9, .inp 10], .agg [.inp 11, .inp 12, .inp 13, .inp 14, .inp 15, .inp 16, .inp 17, .inp 18, .inp 19, .inp 20, .inp 21, .inp 22, .inp 23, .inp 24, .inp 25, .inp 26, .inp 27, .inp 28, .inp 29, .inp 30, .inp 31, .inp 32, .inp 33, .inp 34, .inp 35, .inp 36, .inp 37, .inp 38, .inp 39], .inp 40] 41 = rt_image_Occupied := by kernel_rfl

noncomputable def rt_tick_Late : RT :=
.seg [.chk [] (.bin .lss) [.inp 1, .inp 0]] <|
.ret (.app (.bin .lss) [.inp 1, .inp 0])
theorem run_tick_Late : runF E 41 [.inp 0, .inp 1] 2 = rt_tick_Late := by kernel_rfl

noncomputable def rt_tick_on : RT :=
.seg [.chk [] .isOne [.inp 1]] <|
.seg [.chk [] (.eaidx 2 1) [qka0_20, .inp 0]] <|
.seg [.chk [] (.eload 1 false) [qka0_21]] <|
.seg [.chk [] (.mm false) [.inp 1, qka0_22]] <|
.seg [.chk [] (.mm true) [.int .i64 0, qka0_23]] <|
.seg [.bind 3 (.app (.mm true) [.int .i64 0, qka0_23])] <|
.seg [.chk [] .isOne [.inp 3]] <|
.seg [.chk [] .isOne [.inp 0]] <|
.seg [.chk [] .isOne [.inp 3]] <|
.seg [.chk [] .isOne [.inp 2]] <|
.seg [.chk [] (.mm true) [.inp 2, .int .i64 0],
.chk [] (.eaidx 2 1) [qka0_20, .inp 0],
.chk [] (.eload 1 false) [qka0_21],
.chk [] (.bin .sub) [qka0_22, .inp 3],
.chk [] (.mm false) [qka0_24, qka0_25],
.chk [] .isOne [qka0_26]] <|
.seg [.bind 4 (qka0_26)] <|
.seg [.chk [] (.bin .gtr) [.inp 4, .int .i64 0]] <|
.cond (.app (.bin .gtr) [.inp 4, .int .i64 0])
 (.seg [.chk [] (.bin .add) [.inp 3, .inp 4]] <|
.seg [.chk [] .isOne [qka0_27]] <|
.ret (qka0_27))
 (.ret (.inp 3))
theorem run_tick_on : runF E 57 [.inp 0, .inp 1, .inp 2] 3 = rt_tick_on := by kernel_rfl

noncomputable def rt_tick_Next : RT :=
.seg [.call 1 [] 57 [.int .i64 0, .inp 0, .int .i64 1] false] <|
.ret (.inp 1)
theorem run_tick_Next : runF E 47 [.inp 0] 1 = rt_tick_Next := by kernel_rfl

noncomputable def rt_route_Own : RT :=
.seg [.chk [] (.isAgg 3) [.agg [.inp 0, .inp 1, .inp 2]]] <|
.seg [.call 3 [] 39 [.inp 2] false] <|
.seg [.chk [] .isOne [.inp 3]] <|
.seg [.chk [] (.isAgg 3) [qka0_28]] <|
.ret (qka0_28)
theorem run_route_Own : runF E 38 [.agg [.inp 0, .inp 1, .inp 2]] 3 = rt_route_Own := by kernel_rfl

noncomputable def rt_slices_Clone_Step : RT :=
.seg [.chk [] .len [.inp 0],
.isNil 1 [] (.inp 0)] <|
.cond (.inp 1)
 (.ret (.nils))
 (.seg [.chk [] (.szs 3) [.inp 0],
.chk [] .app [.app .lst [], .inp 0]] <|
.ret (qka0_29))
theorem run_slices_Clone_Step : runF E 39 [.inp 0] 1 = rt_slices_Clone_Step := by kernel_rfl

noncomputable def rt_slices_Clone_Need : RT :=
.seg [.chk [] .len [.inp 0],
.isNil 1 [] (.inp 0)] <|
.cond (.inp 1)
 (.ret (.nils))
 (.seg [.chk [] (.szs 3) [.inp 0],
.chk [] .app [.app .lst [], .inp 0]] <|
.ret (qka0_29))
theorem run_slices_Clone_Need : runF E 40 [.inp 0] 1 = rt_slices_Clone_Need := by kernel_rfl

noncomputable def rt_held_clash : RT :=
.seg [.chk [] .isOne [.inp 1]] <|
.seg [.chk [] .len [.inp 0]] <|
.loop 0 2 [.int .i64 0] <|
.seg [.chk [] (.bin .lss) [.inp 2, .app .len [.inp 0]]] <|
.cond (qka0_30)
 (.seg [.chk [] (.eidx 3) [.inp 0, .inp 2]] <|
.seg [.chk [] (.eload 3 true) [qka0_31]] <|
.seg [.chk [] (.isAgg 3) [qka0_32]] <|
.seg [.chk [] .len [.inp 1]] <|
.loop 1 3 [.int .i64 0] <|
.seg [.chk [] (.bin .lss) [.inp 3, .app .len [.inp 1]]] <|
.cond (.app (.bin .lss) [.inp 3, .app .len [.inp 1]])
 (.seg [.chk [] (.eidx 3) [.inp 1, .inp 3]] <|
.seg [.chk [] (.eload 3 true) [qka0_33]] <|
.seg [.chk [] (.isAgg 3) [qka0_34]] <|
.seg [.chk [] (.isAgg 3) [.agg [qka0_35, qka0_36, .app (.part 2 1 false) [qka0_32]]]] <|
.seg [.chk [] (.isAgg 3) [.agg [qka0_37, qka0_38, .app (.part 2 1 false) [qka0_34]]]] <|
.seg [.chk [] (.bin .eql) [qka0_35, qka0_37]] <|
.seg [.chk [(qka0_39, true)] (.bin .neq) [qka0_36, qka0_38]] <|
.seg [.chk [] .pick [qka0_39, qka0_40, .bool false]] <|
.seg [.bind 4 (.app .pick [qka0_39, qka0_40, .bool false]),
.bind 5 (qka0_39),
.bind 6 (qka0_40)] <|
.cond (.inp 4)
 (.seg [.chk [] (.bin .geq) [.inp 3, .int .i64 0]] <|
.cond (.app (.bin .geq) [.inp 3, .int .i64 0])
 (.seg [.chk [] (.bin .geq) [.inp 2, .int .i64 0]] <|
.ret (.app (.bin .geq) [.inp 2, .int .i64 0]))
 (.seg [.chk [] (.bin .add) [.inp 2, .int .i64 1]] <|
.again 0 [qka0_41]))
 (.seg [.chk [] (.bin .add) [.inp 3, .int .i64 1]] <|
.again 1 [.app (.bin .add) [.inp 3, .int .i64 1]]))
 (.seg [.chk [] (.bin .geq) [.int .i64 (-1), .int .i64 0]] <|
.seg [.chk [] (.bin .add) [.inp 2, .int .i64 1]] <|
.again 0 [qka0_41]))
 (.seg [.chk [] (.bin .geq) [.int .i64 (-1), .int .i64 0]] <|
.ret (.bool false))
theorem run_held_clash : runF E 62 [.inp 0, .inp 1] 2 = rt_held_clash := by kernel_rfl

noncomputable def rt_held_Own : RT :=
.seg [.chk [] (.isAgg 23) [qka0_42]] <|
.seg [.call 23 [] 38 [.agg [.inp 1, .inp 2, .inp 3]] false,
.call 24 [] 39 [.inp 4] false,
.call 25 [] 40 [.inp 5] false,
.chk [] (.isAgg 3) [.inp 23],
.chk [] .isOne [.inp 24],
.chk [] .isOne [.inp 25]] <|
.seg [.chk [] (.isAgg 23) [qka0_43]] <|
.ret (qka0_43)
theorem run_held_Own : runF E 25 [.agg [.inp 0, .inp 1, .inp 2, .inp 3, .inp 4, .inp 5, .inp 6, .inp 7, .inp 8, .inp 9, .inp 10, .inp 11, .inp 12, .inp 13, .inp 14, .inp 15, .inp 16, .inp 17, .inp 18, .inp 19, .inp 20, .inp 21, .inp 22]] 23 = rt_held_Own := by kernel_rfl

noncomputable def rt_held_Right : RT :=
.seg [.chk [] (.isAgg 23) [qka0_42]] <|
.seg [.chk [] .len [.inp 3]] <|
.seg [.chk [] (.bin .lss) [.inp 0, .int .i64 1]] <|
.seg [.chk [(qka0_44, false)] (.mm true) [.inp 0, .inp 21]] <|
.seg [.chk [(qka0_44, false)] (.bin .gtr) [qka0_45, .int .i64 1073741824]] <|
.seg [.chk [] .pick [qka0_44, .bool true, qka0_46]] <|
.seg [.chk [(qka0_47, false)] (.bin .lss) [.inp 21, .int .i64 0]] <|
.seg [.chk [] .pick [qka0_47, .bool true, qka0_48]] <|
.seg [.chk [(qka0_49, false)] (.bin .lss) [.app .len [.inp 3], .int .i64 1]] <|
.seg [.chk [] .pick [qka0_49, .bool true, qka0_50]] <|
.seg [.chk [(qka0_51, false)] (.bin .gtr) [.app .len [.inp 3], .int .i64 12]] <|
.seg [.chk [] .pick [qka0_51, .bool true, qka0_52]] <|
.seg [.chk [(qka0_53, false)] .len [.inp 4]] <|
.seg [.chk [(qka0_53, false)] (.bin .gtr) [.app .len [.inp 4], .int .i64 2]] <|
.seg [.chk [] .pick [qka0_53, .bool true, qka0_54]] <|
.seg [.bind 23 (qka0_47),
.bind 24 (qka0_49),
.bind 25 (qka0_51),
.bind 26 (qka0_53),
.bind 27 (.app .pick [qka0_53, .bool true, qka0_54])] <|
.cond (.inp 27)
 (.ret (.bool false))
 (.seg [.chk [] (.bin .eql) [.inp 6, .int .u8 0]] <|
.seg [.chk [(qka0_55, false)] (.bin .geq) [.inp 6, .int .u8 5]] <|
.seg [.chk [] .pick [qka0_55, .bool true, qka0_56]] <|
.seg [.chk [(qka0_57, false)] (.bin .lss) [.inp 7, .int .i64 0]] <|
.seg [.chk [] .pick [qka0_57, .bool true, qka0_58]] <|
.seg [.chk [(qka0_59, false)] (.bin .gtr) [.inp 7, .app .len [.inp 3]]] <|
.seg [.chk [] .pick [qka0_59, .bool true, qka0_60]] <|
.seg [.call 28 [(qka0_61, false)] 62 [.inp 5, .inp 5] false] <|
.seg [.chk [] .pick [qka0_61, .bool true, .inp 28]] <|
.seg [.bind 29 (qka0_59),
.bind 30 (qka0_61),
.bind 31 (.app .pick [qka0_61, .bool true, .inp 28])] <|
.cond (.inp 31)
 (.ret (.bool false))
 (.seg [.chk [] (.eoff 8) [qka0_62],
.chk [] (.slice false true) [qka0_63, .app .len [.inp 3]],
.chk [] .isOne [.inp 8],
.chk [] .isOne [.inp 9],
.chk [] .isOne [.inp 10],
.chk [] .isOne [.inp 11],
.chk [] .isOne [.inp 12],
.chk [] .isOne [.inp 13],
.chk [] .isOne [.inp 14],
.chk [] .isOne [.inp 15],
.chk [] .isOne [.inp 16],
.chk [] .isOne [.inp 17],
.chk [] .isOne [.inp 18],
.chk [] .isOne [.inp 19],
.chk [] (.szs 1) [qka0_64]] <|
.seg [.bind 32 (qka0_64),
.bind 33 (.app .pick [.app (.bin .lss) [.int .i64 0, qka0_65], .app (.rowget 1 0 1 false) [qka0_64, .int .i64 0], .bool false]),
.bind 34 (.app .pick [.app (.bin .lss) [.int .i64 1, qka0_65], .app (.rowget 1 0 1 false) [qka0_64, .int .i64 1], .bool false]),
.bind 35 (.app .pick [.app (.bin .lss) [.int .i64 2, qka0_65], .app (.rowget 1 0 1 false) [qka0_64, .int .i64 2], .bool false]),
.bind 36 (.app .pick [.app (.bin .lss) [.int .i64 3, qka0_65], .app (.rowget 1 0 1 false) [qka0_64, .int .i64 3], .bool false]),
.bind 37 (.app .pick [.app (.bin .lss) [.int .i64 4, qka0_65], .app (.rowget 1 0 1 false) [qka0_64, .int .i64 4], .bool false]),
.bind 38 (.app .pick [.app (.bin .lss) [.int .i64 5, qka0_65], .app (.rowget 1 0 1 false) [qka0_64, .int .i64 5], .bool false]),
.bind 39 (.app .pick [.app (.bin .lss) [.int .i64 6, qka0_65], .app (.rowget 1 0 1 false) [qka0_64, .int .i64 6], .bool false]),
.bind 40 (.app .pick [.app (.bin .lss) [.int .i64 7, qka0_65], .app (.rowget 1 0 1 false) [qka0_64, .int .i64 7], .bool false]),
.bind 41 (.app .pick [.app (.bin .lss) [.int .i64 8, qka0_65], .app (.rowget 1 0 1 false) [qka0_64, .int .i64 8], .bool false]),
.bind 42 (.app .pick [.app (.bin .lss) [.int .i64 9, qka0_65], .app (.rowget 1 0 1 false) [qka0_64, .int .i64 9], .bool false]),
.bind 43 (.app .pick [.app (.bin .lss) [.int .i64 10, qka0_65], .app (.rowget 1 0 1 false) [qka0_64, .int .i64 10], .bool false]),
.bind 44 (.app .pick [.app (.bin .lss) [.int .i64 11, qka0_65], .app (.rowget 1 0 1 false) [qka0_64, .int .i64 11], .bool false])] <|
.seg [.chk [] (.eoff 8) [qka0_62]] <|
.seg [.chk [] (.eload 12 true) [qka0_66]] <|
.seg [.chk [] (.eqa [ none, none, none, none, none, none, none, none, none, none, none, none] true) [qka0_67, qka0_68]] <|
.seg [.bind 45 (qka0_68),
.bind 46 (.app (.eqa [ none, none, none, none, none, none, none, none, none, none, none, none] true) [qka0_67, qka0_68])] <|
.cond (.inp 46)
 (.ret (.bool false))
 (.seg [.chk [] (.eoff 1) [qka0_62]] <|
.seg [.chk [] (.eoff 2) [.ref [.inp 0, .inp 1, .inp 2, .inp 3, .inp 4, .inp 5, .inp 6, .inp 7, .inp 8, .inp 9, .inp 10, .inp 11, .inp 12, .inp 13, .inp 14, .inp 15, .inp 16, .inp 17, .inp 18, .inp 19, .inp 20, .inp 21, .inp 22] 1]] <|
.seg [.chk [] (.eload 1 false) [qka0_69]] <|
.seg [.chk [] (.eoff 4) [qka0_62]] <|
.seg [.chk [] (.eload 1 false) [qka0_70]] <|
.seg [.chk [] .isOne [qka0_71],
.chk [] .isOne [qka0_72],
.chk [] .isOne [qka0_71],
.chk [] .isOne [qka0_72]] <|
.seg [.call 47 [] 63 [qka0_73] false] <|
.seg [.chk [] .len [.inp 47]] <|
.seg [.bind 48 (qka0_71),
.bind 49 (qka0_72),
.bind 50 (qka0_73)] <|
.loop 0 51 [.nils, .int .i64 0] <|
.seg [.chk [] (.bin .lss) [.inp 52, .app .len [.inp 47]]] <|
.cond (.app (.bin .lss) [.inp 52, .app .len [.inp 47]])
 (.seg [.chk [] (.eidx 3) [.inp 47, .inp 52]] <|
.seg [.chk [] (.eload 3 true) [qka0_74]] <|
.seg [.chk [] (.isAgg 3) [qka0_75]] <|
.seg [.chk [] .isOne [qka0_76],
.chk [] .isOne [qka0_76]] <|
.seg [.chk [] (.szs 1) [qka0_77],
.chk [] .app [.inp 51, qka0_77]] <|
.seg [.chk [] (.bin .add) [.inp 52, .int .i64 1]] <|
.again 0 [.app .app [.inp 51, qka0_77], .app (.bin .add) [.inp 52, .int .i64 1]])
 (.seg [.srt 53 (.inp 51)] <|
.seg [.cmp 54 (.inp 53),
.chk [] .len [.inp 54],
.chk [] (.eoff 4) [qka0_62],
.chk [] (.eload 1 false) [qka0_70],
.chk [] .len [qka0_72],
.chk [] (.bin .add) [.app .len [.inp 3], qka0_78],
.chk [] (.bin .lss) [.app .len [.inp 54], qka0_79]] <|
.seg [.bind 55 (qka0_72),
.bind 56 (qka0_78),
.bind 57 (qka0_79),
.bind 58 (.app (.bin .lss) [.app .len [.inp 54], qka0_79])] <|
.cond (.inp 58)
 (.ret (.bool false))
 (.seg [.chk [] (.eoff 5) [qka0_62]] <|
.seg [.chk [] (.eload 1 false) [qka0_80]] <|
.seg [.chk [] .len [qka0_81]] <|
.seg [.bind 59 (qka0_81),
.bind 60 (.app .len [qka0_81])] <|
.loop 0 61 [.int .i64 0] <|
.seg [.chk [] (.bin .lss) [.inp 61, .inp 60]] <|
.cond (.app (.bin .lss) [.inp 61, .inp 60])
 (.seg [.chk [] (.eidx 3) [.inp 59, .inp 61]] <|
.seg [.chk [] (.eload 3 true) [qka0_82]] <|
.seg [.chk [] (.isAgg 3) [qka0_83]] <|
.seg [.chk [] (.bin .lss) [qka0_84, .int .i64 0]] <|
.seg [.chk [(qka0_85, false)] (.bin .gtr) [qka0_84, .app .len [.inp 3]]] <|
.seg [.chk [] .pick [qka0_85, .bool true, qka0_86]] <|
.seg [.chk [(qka0_87, false)] (.bin .lss) [qka0_88, .int .i64 0]] <|
.seg [.chk [] .pick [qka0_87, .bool true, qka0_89]] <|
.seg [.chk [(qka0_90, false)] (.bin .geq) [qka0_88, .int .i64 24]] <|
.seg [.chk [] .pick [qka0_90, .bool true, qka0_91]] <|
.seg [.chk [(qka0_92, false)] (.bin .shr) [qka0_93, .int .u64 1]] <|
.seg [.chk [(qka0_92, false)] (.bin .neq) [qka0_94, .int .i64 0]] <|
.seg [.chk [] .pick [qka0_92, .bool true, qka0_95]] <|
.seg [.bind 62 (qka0_87),
.bind 63 (qka0_90),
.bind 64 (qka0_92),
.bind 65 (.app .pick [qka0_92, .bool true, qka0_95])] <|
.cond (.inp 65)
 (.ret (.bool false))
 (.seg [.chk [] (.bin .add) [.inp 61, .int .i64 1]] <|
.again 0 [.app (.bin .add) [.inp 61, .int .i64 1]]))
 (.ret (.bool true)))))))
theorem run_held_Right : runF E 55 [.agg [.inp 0, .inp 1, .inp 2, .inp 3, .inp 4, .inp 5, .inp 6, .inp 7, .inp 8, .inp 9, .inp 10, .inp 11, .inp 12, .inp 13, .inp 14, .inp 15, .inp 16, .inp 17, .inp 18, .inp 19, .inp 20, .inp 21, .inp 22]] 23 = rt_held_Right := by kernel_rfl

noncomputable def rt_slices_Concat_Step : RT :=
.seg [.chk [] .len [.inp 0]] <|
.loop 0 1 [.int .i64 0, .int .i64 0] <|
.seg [.chk [] (.bin .lss) [.inp 2, .app .len [.inp 0]]] <|
.cond (qka0_30)
 (.seg [.chk [] (.eidx 1) [.inp 0, .inp 2]] <|
.seg [.chk [] (.eload 1 false) [qka0_96]] <|
.seg [.chk [] .len [qka0_97]] <|
.seg [.chk [] (.bin .add) [.inp 1, qka0_98]] <|
.seg [.chk [] (.bin .lss) [qka0_99, .int .i64 0]] <|
.cond (.app (.bin .lss) [qka0_99, .int .i64 0])
 (.dead 6 [.int .i64 9])
 (.seg [.chk [] (.bin .add) [.inp 2, .int .i64 1]] <|
.again 0 [qka0_99, qka0_41]))
 (.seg [.chk [] (.bin .lss) [.inp 1, .int .i64 0]] <|
.cond (.app (.bin .lss) [.inp 1, .int .i64 0])
 (.dead 6 [.int .i64 9])
 (.seg [.chk [] .len [.nils]] <|
.seg [.chk [] (.bin .sub) [.int .i64 0, .int .i64 0]] <|
.seg [.chk [] (.bin .sub) [.inp 1, .int .i64 0]] <|
.seg [.chk [] (.bin .gtr) [qka0_100, .int .i64 0]] <|
.cond (.app (.bin .gtr) [qka0_100, .int .i64 0])
 (.seg [.chk [] .rep [qka0_100, qka0_101]] <|
.seg [.chk [] .len [.nils]] <|
.seg [.chk [] (.slice false true) [qka0_102, .int .i64 0]] <|
.seg [.bind 3 (.app (.slice false true) [qka0_102, .int .i64 0])] <|
.seg [.chk [] .len [.inp 0]] <|
.loop 0 4 [.inp 3, .int .i64 0] <|
.seg [.chk [] (.bin .lss) [.inp 5, .app .len [.inp 0]]] <|
.cond (.app (.bin .lss) [.inp 5, .app .len [.inp 0]])
 (.seg [.chk [] (.eidx 1) [.inp 0, .inp 5]] <|
.seg [.chk [] (.eload 1 false) [qka0_103]] <|
.seg [.chk [] (.szs 3) [qka0_104],
.chk [] .app [.inp 4, qka0_104]] <|
.seg [.chk [] (.bin .add) [.inp 5, .int .i64 1]] <|
.again 0 [.app .app [.inp 4, qka0_104], .app (.bin .add) [.inp 5, .int .i64 1]])
 (.ret (.inp 4)))
 (.seg [.chk [] .len [.inp 0]] <|
.loop 0 3 [.nils, .int .i64 0] <|
.seg [.chk [] (.bin .lss) [.inp 4, .app .len [.inp 0]]] <|
.cond (.app (.bin .lss) [.inp 4, .app .len [.inp 0]])
 (.seg [.chk [] (.eidx 1) [.inp 0, .inp 4]] <|
.seg [.chk [] (.eload 1 false) [qka0_105]] <|
.seg [.chk [] (.szs 3) [qka0_106],
.chk [] .app [.inp 3, qka0_106]] <|
.seg [.chk [] (.bin .add) [.inp 4, .int .i64 1]] <|
.again 0 [.app .app [.inp 3, qka0_106], .app (.bin .add) [.inp 4, .int .i64 1]])
 (.ret (.inp 3)))))
theorem run_slices_Concat_Step : runF E 63 [.inp 0] 1 = rt_slices_Concat_Step := by kernel_rfl

noncomputable def rt_pass_asleep : RT :=
.seg [.chk [] (.isAgg 11) [qka0_7]] <|
.seg [.chk [] (.isAgg 29) [qka0_8]] <|
.seg [.chk [] (.isAgg 23) [qka0_107]] <|
.seg [.call 63 [] 55 [qka0_107] false] <|
.seg [.chk [] (.un .not) [.inp 63]] <|
.seg [.call 64 [(.app (.un .not) [.inp 63], false)] 26 [qka0_7, qka0_8] false] <|
.seg [.chk [] .pick [.app (.un .not) [.inp 63], .bool true, .inp 64]] <|
.ret (.app .pick [.app (.un .not) [.inp 63], .bool true, .inp 64])
theorem run_pass_asleep : runF E 45 [.agg [.inp 0, .inp 1, .inp 2, .inp 3, .inp 4, .inp 5, .inp 6, .inp 7, .inp 8, .inp 9, .inp 10], .agg [.inp 11, .inp 12, .inp 13, .inp 14, .inp 15, .inp 16, .inp 17, .inp 18, .inp 19, .inp 20, .inp 21, .inp 22, .inp 23, .inp 24, .inp 25, .inp 26, .inp 27, .inp 28, .inp 29, .inp 30, .inp 31, .inp 32, .inp 33, .inp 34, .inp 35, .inp 36, .inp 37, .inp 38, .inp 39], .agg [.inp 40, .inp 41, .inp 42, .inp 43, .inp 44, .inp 45, .inp 46, .inp 47, .inp 48, .inp 49, .inp 50, .inp 51, .inp 52, .inp 53, .inp 54, .inp 55, .inp 56, .inp 57, .inp 58, .inp 59, .inp 60, .inp 61, .inp 62]] 63 = rt_pass_asleep := by kernel_rfl

end Go.Lb.LK
