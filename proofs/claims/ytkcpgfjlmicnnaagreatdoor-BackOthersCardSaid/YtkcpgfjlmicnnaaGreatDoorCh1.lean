/- The forms of what functions hand back that hand back functions. -/
import Derived.Test.YtkcpgfjlmicnnaaGreatDoorFw6
import Derived.Test.YtkcpgfjlmicnnaaGreatDoorFw11
import Derived.Test.YtkcpgfjlmicnnaaGreatDoorProg
import Derived.KernelRfl
set_option linter.unusedSimpArgs false
set_option linter.unusedVariables false
namespace Go.Lb
def prt (e : SE) (k : Nat) : SE := match e with
 | .agg cs => cs.getD k .undef
 | e => .app (.part k 1 false) [e]
def zjH (bit bit1 clear clear1 : Nat) (f : Nat) (args : List SE) : Option SE :=
 if Nat.beq f bit = true then match args with
  | [x] => some (.clo bit1 [] [.ref [x] 0])
  | _ => none
 else if Nat.beq f clear = true then match args with
  | [l, im] => some (.clo clear1 [] [.ref [.app (.bin .lss) [prt l 6, prt im 0]] 0, .ref [.clo bit1 [] [.ref [prt im 25] 0]] 0])
  | _ => none
 else none
end Go.Lb
namespace Go.Lb.LK
open Go Go.Lb Go.Proofs
noncomputable abbrev PR : Program := Tryz.prog
abbrev f_lockbarlaw22_BackLater : Nat := 4
abbrev f_lockbarlaw22_BackOthers : Nat := 5
abbrev f_lockbarref06_Great : Nat := 7
abbrev f_lockbarlaw22_wakes : Nat := 9
abbrev f_back_Cancel : Nat := 10
abbrev f_back_Tick : Nat := 12
abbrev f_lockbarref18_Same : Nat := 14
abbrev f_lockbarref17_Same : Nat := 15
abbrev f_back_In : Nat := 16
abbrev f_back_Rear : Nat := 18
abbrev f_lockbarref18_Right : Nat := 20
abbrev f_lockbarref15_Take : Nat := 21
abbrev f_lockbarref15_New : Nat := 22
abbrev f_lockbarref15_Occupied : Nat := 23
abbrev f_lockbarref15_Told : Nat := 24
abbrev f_lockbarref15_Stale : Nat := 25
abbrev f_lockbarref21_Run : Nat := 26
abbrev f_lockbarlaw22_three : Nat := 28
abbrev f_held_Own : Nat := 34
abbrev f_image_Stale : Nat := 35
abbrev f_back_told : Nat := 36
abbrev f_pass_Run : Nat := 37
abbrev f_tick_Down : Nat := 38
abbrev f_lockbarref17_Own : Nat := 39
abbrev f_lockbarref11_Same : Nat := 41
abbrev f_lockbarref11_Steps : Nat := 42
abbrev f_lockbarref17_All : Nat := 43
abbrev f_image_Occupied : Nat := 45
abbrev f_beyond_Rear : Nat := 46
abbrev f_lockbarref17_Right : Nat := 48
abbrev f_lockbarref17_Apart : Nat := 49
abbrev f_lockbarref16_Right : Nat := 50
abbrev f_lockbarref15_rows : Nat := 51
abbrev f_lockbarref15_bit : Nat := 52
abbrev f_lockbarref03_Late : Nat := 53
abbrev f_lockbarref03_Next : Nat := 54
abbrev f_back_comes_1 : Nat := 55
abbrev f_back_comes_2 : Nat := 56
abbrev f_back_comes_3 : Nat := 57
abbrev f_route_Own : Nat := 59
abbrev f_slices_Clone_Step : Nat := 60
abbrev f_slices_Clone_Need : Nat := 61
abbrev f_tick_Late : Nat := 62
abbrev f_image_Told : Nat := 63
abbrev f_pass_asleep : Nat := 66
abbrev f_tick_Next : Nat := 68
abbrev f_lockbarref11_Own : Nat := 69
abbrev f_image_clear : Nat := 71
abbrev f_join_Beyond : Nat := 72
abbrev f_lockbarref17_clash : Nat := 75
abbrev f_lockbarref17_Sections : Nat := 76
abbrev f_lockbarref17_Has : Nat := 77
abbrev f_lockbarref17_Needs : Nat := 78
abbrev f_lockbarref16_Rest : Nat := 79
abbrev f_lockbarref03_Row : Nat := 80
abbrev f_lockbarref03_Clock : Nat := 81
abbrev f_image_bit : Nat := 82
abbrev f_held_Right : Nat := 83
abbrev f_tick_on : Nat := 85
abbrev f_image_clear_1 : Nat := 87
abbrev f_join_Has : Nat := 88
abbrev f_lockbarref03_More : Nat := 91
abbrev f_lockbarref03_within : Nat := 92
abbrev f_image_bit_1 : Nat := 93
abbrev f_held_clash : Nat := 94
abbrev f_slices_Concat_Step : Nat := 95
abbrev f_slices_Sort_int : Nat := 96
abbrev f_slices_Compact_int : Nat := 97
abbrev f_port_Ports : Nat := 100
abbrev f_lockbarref03_Count : Nat := 102
abbrev f_mathbits_Len : Nat := 109
abbrev f_port_of : Nat := 111
noncomputable def zoi : List Hint :=
 [⟨108, 2, ⟨134, [sL 0 .nils, sL 1 (zi 0), sL 2 (zi 0), sL 3 (.inp 0), sL 8 bT, sL 9 bT], [], 1, 22, []⟩, 0⟩, ⟨113, 1, ⟨49, [sL 0 .nils, sL 1 (zi 0), sL 2 (zi 0), sL 6 (zi 1)], [], 1, 48, []⟩, 0⟩]
def inlS : List Nat := [108, 113, 114, 115, 116, 117, 118, 120, 121, 124, 127, 128, 130, 125, 126, 119, 129]
def scal : List Nat := [0, 1, 2, 3, 4, 5, 6, 7, 8, 9, 14, 15, 16, 17, 18, 19, 20, 21, 22, 23, 24, 25, 27, 33, 35, 36, 38, 40, 41, 42, 43, 44, 45, 46, 47, 48, 49, 50, 51, 52, 53, 54, 55, 56, 57, 62, 63, 64, 65, 66, 68, 72, 73, 74, 75, 77, 79, 80, 81, 83, 84, 85, 86, 87, 88, 89, 90, 91, 92, 93, 94, 96, 98, 100, 101, 102, 103, 104, 105, 106, 108, 109, 110, 111, 112, 113, 114, 115, 116, 117, 118, 119, 120, 121, 122, 123, 124, 125, 126, 127, 128, 129, 130, 132, 134, 136, 138, 140, 142, 143, 145, 147, 148, 149, 150, 151, 152, 153]
def GL : Glob := [[.int .i64 (-1), .int .i64 0], [.int .i64 (-1), .int .i64 0], [.int .i64 1073741824, .int .i64 65535], [.int .i64 0, .int .i64 0, .int .i64 0, .int .i64 0, .int .i64 0, .int .i64 0, .bool false, .int .i64 2, .int .i64 0, .int .i64 1, .int .i64 0, .int .i64 0, .int .i64 1, .bool false, .int .i64 3, .int .i64 0, .int .i64 1, .int .i64 0, .int .i64 2, .int .i64 2, .bool true, .int .i64 4, .int .i64 0, .int .i64 1, .int .i64 2, .int .i64 3, .int .i64 2, .bool false]]
def frzL : List (Nat × Nat) := []
def srtF : List Nat := [96]
def cptF : List Nat := [97]
noncomputable def ES : Env := { P := PR, G := [], inl := fun f => inlS.contains f, scal := fun f => scal.contains f, shape := zjH 82 93 71 87, hints := zoi }
theorem EmixS : ES.P.follows .mixedOrders = true := by kernel_rfl
def qh0 : SE := .app .app [.app .app [.app .lst [], .inp 3], .inp 4]
def qh1 : SE := .app .len [.app (.part 3 1 false) [.inp 63]]
def qh2 : SE := .app (.eload 3 true) [.app (.eidx 3) [.inp 0, .inp 2]]
noncomputable def hints : List Hint :=
 [⟨112, 2, ⟨19, [sL 0 (.inp 0), sL 1 (.clo 104 [] [.ptr 0 0]), sL 4 (zi 0), sL 7 (.app .len [.inp 0]), sL 8 (.inp 2)], [(0, .box [.inp 1])], 3, 24, []⟩, 1⟩, ⟨112, 2, ⟨19, [sL 0 (.inp 1), sL 1 (.clo 105 [] [.ptr 40 0]), sL 4 (zi 0), sL 7 (.app .len [.inp 1]), sL 8 (.inp 3)], [(0, .box [.inp 1]), (40, .box [.app (.part 0 1 false) [qh2], .app (.part 1 1 false) [qh2], .app (.part 2 1 false) [qh2]])], 4, 64, []⟩, 1⟩, ⟨83, 9, ⟨141, [sL 0 (.agg (ips 0 23)), sL 1 (.ref (ips 0 23) 0), sL 2 bF, sL 3 (.app .len [.inp 3]), sL 5 (.row 148), sL 85 (.inp 47), sL 86 (.app .len [.inp 47]), sL 87 (.inp 52)], [(0, .gone), (14, .gone), (140, .gone), (148, .row 1 (.inp 51))], 53, 151, []⟩, 2⟩, ⟨83, 16, ⟨141, [sL 0 (.agg (ips 0 23)), sL 1 (.ref (ips 0 23) 0), sL 2 bF, sL 3 (.app .len [.inp 3]), sL 85 (.inp 47), sL 86 (.app .len [.inp 47]), sL 87 (.inp 52), sL 109 (.inp 59), sL 110 (.inp 60), sL 111 (.inp 61)], [(0, .gone), (14, .gone), (140, .gone), (148, .gone), (157, .row 1 (.inp 54))], 62, 183, []⟩, 1⟩, ⟨95, 3, ⟨36, [sL 0 (.inp 0), sL 2 .enil, sL 3 (.inp 1), sL 9 (.inp 0), sL 10 (.app .len [.inp 0]), sL 11 (.inp 2)], [], 3, 12, []⟩, 2⟩, ⟨95, 11, ⟨36, [sL 0 (.inp 0), sL 2 .enil, sL 3 (.inp 1), sL 6 (.row 74), sL 9 (.inp 0), sL 10 (.app .len [.inp 0]), sL 11 (.inp 2), sL 25 (.inp 0), sL 26 (.app .len [.inp 0]), sL 27 (.inp 5)], [(52, .gone), (58, .gone), (74, .row 3 (.inp 4))], 6, 77, []⟩, 2⟩, ⟨95, 11, ⟨36, [sL 0 (.inp 0), sL 2 .enil, sL 3 (.inp 1), sL 6 (.row 54), sL 9 (.inp 0), sL 10 (.app .len [.inp 0]), sL 11 (.inp 2), sL 25 (.inp 0), sL 26 (.app .len [.inp 0]), sL 27 (.inp 4)], [(54, .row 3 (.inp 3))], 5, 57, []⟩, 2⟩, ⟨84, 1, ⟨25, [sL 0 (.yield 63), sL 1 (.ptr 54 0), sL 3 (.inp 65)], [(0, .box (ips 0 11)), (2, .box (ips 11 29)), (4, .box (pts (.inp 63) 0 23)), (6, .box [zi 0, zi 0, zi 0, .enil, .enil, .enil, .int .u8 0, zi 0, bF, bF, bF, bF, bF, bF, bF, bF, bF, bF, bF, bF, bF, zi 0, bF]), (28, .box [.clo 64 [] [.ptr 0 0, .ptr 2 0]]), (40, .box (ips 66 12)), (54, .box (pts (.inp 63) 0 23)), (62, .dfr), (63, .loop .ready)], 78, 72, []⟩, 13⟩, ⟨37, 1000000, ⟨126, [sL 0 (.agg (ips 0 11)), sL 1 (.agg (ips 11 29)), sL 2 (.agg (ips 40 23)), sL 3 (.ptr 0 0), sL 5 (.ptr 4 0), sL 6 (.ptr 6 0), sL 7 (.app (.bin .sub) [qh1, zi 1]), sL 8 (.ptr 28 0), sL 9 (.clo 65 [] [.ptr 0 0, .ptr 2 0]), sL 10 (.ptr 40 0), sL 60 (.inp 84), sL 62 (.inp 85), sL 63 (.inp 86), sL 68 (.inp 87), sL 69 (.inp 88), sL 88 (.inp 89), sL 89 (.inp 90), sL 90 (.inp 91), sL 91 (.inp 92), sL 95 (.inp 93), sL 96 (.inp 94)], [(0, .box (ips 0 11)), (2, .box (ips 11 29)), (4, .box (ap (pts (.inp 63) 0 7) (ap [.inp 95] (ap (ips 66 12) [.app (.part 20 1 false) [.inp 63], .app (.part 21 1 false) [.inp 63], .app (.part 22 1 false) [.inp 63]])))), (6, .box [zi 0, zi 0, zi 0, .enil, .enil, .enil, .int .u8 0, zi 0, bF, bF, bF, bF, bF, bF, bF, bF, bF, bF, bF, bF, bF, zi 0, bF]), (28, .box [.clo 64 [] [.ptr 0 0, .ptr 2 0]]), (40, .box (ips 66 12)), (54, .box (pts (.inp 63) 0 23)), (62, .dfr), (63, .gone)], 96, 184, [62]⟩, 12⟩, ⟨37, 1000000, ⟨126, [sL 0 (.agg (ips 0 11)), sL 1 (.agg (ips 11 29)), sL 2 (.agg (ips 40 23)), sL 3 (.ptr 0 0), sL 5 (.ptr 4 0), sL 6 (.ptr 6 0), sL 7 (.app (.bin .sub) [qh1, zi 1]), sL 8 (.ptr 28 0), sL 9 (.clo 65 [] [.ptr 0 0, .ptr 2 0]), sL 10 (.ptr 40 0), sL 60 (.inp 84), sL 62 (.inp 85), sL 63 (.inp 86), sL 68 (.inp 87), sL 69 (.inp 88), sL 88 (.inp 89), sL 89 (.inp 90), sL 90 (.inp 91), sL 91 (.inp 92), sL 95 (.inp 93), sL 96 (.inp 94)], [(0, .box (ips 0 11)), (2, .box (ips 11 29)), (4, .box (ap (pts (.inp 63) 0 7) (ap [.inp 95] (pts (.inp 63) 8 15)))), (6, .box [zi 0, zi 0, zi 0, .enil, .enil, .enil, .int .u8 0, zi 0, bF, bF, bF, bF, bF, bF, bF, bF, bF, bF, bF, bF, bF, zi 0, bF]), (28, .box [.clo 64 [] [.ptr 0 0, .ptr 2 0]]), (40, .box (ips 66 12)), (54, .box (pts (.inp 63) 0 23)), (62, .dfr), (63, .gone)], 96, 178, [62]⟩, 12⟩, ⟨42, 4, ⟨26, [sL 0 (.inp 0), sL 1 (.inp 1), sL 4 bF, sL 5 (.inp 2)], [], 3, 16, []⟩, 1⟩, ⟨51, 2, ⟨31, [sL 0 (.agg (ips 0 11)), sL 1 (.agg (ips 11 29)), sL 2 (.ptr 0 0), sL 3 (.ptr 2 0), sL 4 (.ptr 4 0), sL 5 (.inp 40)], [(0, .box (ips 0 11)), (2, .box (ap [.inp 11] (ap (ips 41 24) (ips 36 4)))), (4, .box [zi 0, zi 0, zi 0, zi 0, zi 0, zi 0, zi 0, zi 0, zi 0, zi 0, zi 0, zi 0, zi 0, zi 0, zi 0, zi 0, zi 0, zi 0, zi 0, zi 0, zi 0, zi 0, zi 0, zi 0, zi 0, .int .u32 0, .int .u32 0, .int .u32 0, .int .u32 0])], 65, 10, []⟩, 25⟩, ⟨75, 2, ⟨43, [sL 0 (.inp 0), sL 1 (.inp 1), sL 4 bF, sL 5 (.inp 2)], [], 3, 6, []⟩, 1⟩, ⟨75, 5, ⟨43, [sL 0 (.inp 0), sL 1 (.inp 1), sL 4 bF, sL 5 (.inp 2), sL 6 (.inp 3)], [], 4, 18, []⟩, 1⟩, ⟨48, 6, ⟨154, [sL 0 (.agg (ips 0 23)), sL 1 (.ptr 0 0), sL 2 bF, sL 3 (.app .len [.inp 3]), sL 4 (.row 126), sL 5 (.inp 34)], [(0, .box (ips 0 23)), (112, .gone), (120, .gone), (126, .row 3 (qh0))], 35, 134, []⟩, 1⟩, ⟨48, 9, ⟨154, [sL 0 (.agg (ips 0 23)), sL 1 (.ptr 0 0), sL 2 bF, sL 3 (.app .len [.inp 3]), sL 4 (.row 126), sL 5 (.inp 34), sL 6 (.inp 35)], [(0, .box (ips 0 23)), (112, .gone), (120, .gone), (126, .row 3 (qh0))], 36, 146, []⟩, 1⟩, ⟨48, 14, ⟨154, [sL 0 (.agg (ips 0 23)), sL 1 (.ptr 0 0), sL 2 bF, sL 3 (.app .len [.inp 3]), sL 4 (.row 126), sL 5 (.inp 34), sL 7 (.inp 35)], [(0, .box (ips 0 23)), (112, .gone), (120, .gone), (126, .row 3 (qh0))], 36, 148, []⟩, 1⟩, ⟨48, 19, ⟨154, [sL 0 (.agg (ips 0 23)), sL 1 (.ptr 0 0), sL 2 bF, sL 3 (.app .len [.inp 3]), sL 4 (.row 126), sL 5 (.inp 34), sL 7 (.inp 35), sL 8 (.inp 36)], [(0, .box (ips 0 23)), (112, .gone), (120, .gone), (126, .row 3 (qh0))], 37, 156, []⟩, 1⟩, ⟨76, 3, ⟨49, [sL 0 (.agg (ips 0 23)), sL 1 (.ptr 0 0), sL 2 .enil, sL 3 (.row 14), sL 4 (.inp 24)], [(0, .box (ips 0 23)), (14, .row 1 (.inp 23))], 25, 17, []⟩, 2⟩, ⟨76, 7, ⟨49, [sL 0 (.agg (ips 0 23)), sL 1 (.ptr 0 0), sL 2 .enil, sL 3 (.row 31), sL 4 (.inp 24), sL 5 (.inp 26)], [(0, .box (ips 0 23)), (14, .gone), (31, .row 1 (.inp 25))], 27, 34, []⟩, 2⟩, ⟨77, 3, ⟨21, [sL 0 (.agg (ips 0 23)), sL 1 (.inp 23), sL 4 bF, sL 5 (.inp 24), sL 6 (.inp 25)], [(0, .gone)], 26, 14, []⟩, 1⟩, ⟨78, 3, ⟨43, [sL 0 (.agg (ips 0 23)), sL 1 (.ptr 0 0), sL 2 .enil, sL 3 (.row 8), sL 4 (.inp 24)], [(0, .box (ips 0 23)), (8, .row 3 (.inp 23))], 25, 11, []⟩, 2⟩, ⟨43, 4, ⟨26, [sL 0 (.inp 0), sL 1 (.inp 1), sL 4 bF, sL 5 (.inp 2)], [], 3, 16, []⟩, 1⟩, ⟨26, 6, ⟨133, [sL 0 (.agg (ips 0 11)), sL 1 (.agg (ips 11 29)), sL 2 (.agg (ips 40 23)), sL 3 (.ptr 0 0), sL 4 (.ptr 2 0), sL 5 (.ptr 4 0), sL 6 (.ptr 6 0), sL 7 qh1, sL 8 (.inp 66)], [(0, .box (ips 0 11)), (2, .box (ips 11 29)), (4, .box (ap (pts (.inp 63) 0 8) (ap (ips 67 12) [.app (.part 20 1 false) [.inp 63], .app (.part 21 1 false) [.inp 63], .app (.part 22 1 false) [.inp 63]]))), (6, .box [zi 0, zi 0, zi 0, .enil, .enil, .enil, .int .u8 0, zi 0, bF, bF, bF, bF, bF, bF, bF, bF, bF, bF, bF, bF, bF, zi 0, bF])], 79, 46, []⟩, 13⟩, ⟨26, 10, ⟨133, [sL 0 (.agg (ips 0 11)), sL 1 (.agg (ips 11 29)), sL 2 (.agg (ips 40 23)), sL 3 (.ptr 0 0), sL 4 (.ptr 2 0), sL 5 (.ptr 4 0), sL 6 (.ptr 6 0), sL 7 qh1, sL 8 (.inp 66)], [(0, .box (ips 0 11)), (2, .box (ips 11 29)), (4, .box (ap (pts (.inp 63) 0 7) (ap [.inp 79] (ap (ips 67 12) [.app (.part 20 1 false) [.inp 63], .app (.part 21 1 false) [.inp 63], .app (.part 22 1 false) [.inp 63]])))), (6, .box [zi 0, zi 0, zi 0, .enil, .enil, .enil, .int .u8 0, zi 0, bF, bF, bF, bF, bF, bF, bF, bF, bF, bF, bF, bF, bF, zi 0, bF])], 80, 54, []⟩, 1⟩, ⟨86, 1, ⟨26, [sL 0 (.yield 35), sL 1 (.ptr 26 0), sL 7 (.inp 43), sL 8 (.app .len [.inp 43]), sL 9 (.inp 63)], [(0, .gone), (2, .gone), (4, .gone), (14, .box (ips 0 11)), (16, .box (ips 11 29)), (18, .gone), (20, .box [.clo 45 [] []]), (22, .box [bF]), (26, .box (ips 40 23)), (34, .dfr), (35, .loop .ready)], 64, 48, []⟩, 1⟩, ⟨86, 1, ⟨26, [sL 0 (.yield 35), sL 1 (.ptr 26 0), sL 7 (.inp 43), sL 8 (.app .len [.inp 43]), sL 9 (.inp 63)], [(0, .gone), (2, .gone), (4, .gone), (14, .box (ips 0 11)), (16, .box (ips 11 29)), (18, .gone), (20, .box [.clo 63 [] []]), (22, .box [bF]), (26, .box (ips 40 23)), (34, .dfr), (35, .loop .ready)], 64, 48, []⟩, 1⟩, ⟨30, 3, ⟨25, [sL 0 (.agg (ips 40 74)), sL 1 (.ptr 42 0), sL 2 (.ptr 44 0), sL 10 .enil, sL 11 (zi 0), sL 12 (zi 0)], [(0, .box (ips 0 11)), (2, .gone), (4, .box (ips 40 74)), (6, .box (ap [zi 0, .enil] (zms 24))), (14, .box (ips 0 11)), (16, .box (ips 11 29)), (20, .mapo .u8 [1, 2, 3] [.clo 55 [] [], .clo 56 [] [.ptr 14 0, .ptr 16 0], .clo 57 [] [.ptr 14 0, .ptr 16 0]]), (42, .box (ap [.inp 40, .enil] (ips 42 72))), (44, .box (ap [zi 0, .enil] (zms 24)))], 116, 72, []⟩, 0⟩, ⟨10, 4, ⟨103, [sL 0 (.agg (ips 0 11)), sL 1 (.agg (ips 11 29)), sL 2 (.agg (ips 40 74)), sL 3 (.inp 114), sL 4 (.ptr 0 0), sL 6 (.ptr 4 0), sL 8 (.ptr 6 0), sL 9 bF, sL 10 (zi (-1)), sL 11 (.mref 20), sL 20 .enil, sL 21 (zi 0), sL 22 (zi 0)], [(0, .box (ips 0 11)), (2, .gone), (4, .box (ap [.inp 40, .enil] (ips 42 72))), (6, .box (ap [zi 0, .enil] (zms 24))), (14, .box (ips 0 11)), (16, .box (ips 11 29)), (20, .mapo .u8 [1, 2, 3] [.clo 55 [] [], .clo 56 [] [.ptr 14 0, .ptr 16 0], .clo 57 [] [.ptr 14 0, .ptr 16 0]]), (42, .box (ap [.inp 40, .enil] (ips 42 72))), (44, .box (ap [.inp 40, .enil] (ips 42 72)))], 116, 90, []⟩, 0⟩, ⟨30, 3, ⟨25, [sL 0 (.agg (ips 40 74)), sL 1 (.ptr 42 0), sL 2 (.ptr 44 0), sL 10 (.row 60), sL 11 (.app .len [.app .app [.app .lst [], .inp 41]]), sL 12 (.inp 116)], [(0, .box (ips 0 11)), (2, .gone), (4, .box (ips 40 74)), (6, .box (ap [zi 0, .enil] (zms 24))), (14, .box (ips 0 11)), (16, .box (ips 11 29)), (20, .mapo .u8 [1, 2, 3] [.clo 55 [] [], .clo 56 [] [.ptr 14 0, .ptr 16 0], .clo 57 [] [.ptr 14 0, .ptr 16 0]]), (42, .box (ap [.inp 40, .row 60] (ips 42 72))), (44, .box (ap [zi 0, .enil] (zms 24))), (56, .gone), (60, .row 23 (.inp 117))], 118, 78, []⟩, 2⟩, ⟨10, 4, ⟨103, [sL 0 (.agg (ips 0 11)), sL 1 (.agg (ips 11 29)), sL 2 (.agg (ips 40 74)), sL 3 (.inp 114), sL 4 (.ptr 0 0), sL 6 (.ptr 4 0), sL 8 (.ptr 6 0), sL 9 bF, sL 10 (.inp 118), sL 11 (.mref 20), sL 20 (.row 60), sL 21 (.app .len [.inp 117]), sL 22 (.inp 119)], [(0, .box (ips 0 11)), (2, .gone), (4, .box (ap [.inp 40, .row 60] (ips 42 72))), (6, .box (ap [zi 0, .enil] (zms 24))), (14, .box (ips 0 11)), (16, .box (ips 11 29)), (20, .mapo .u8 [1, 2, 3] [.clo 55 [] [], .clo 56 [] [.ptr 14 0, .ptr 16 0], .clo 57 [] [.ptr 14 0, .ptr 16 0]]), (42, .box (ap [.inp 40, .row 60] (ips 42 72))), (44, .box (ap [.inp 40, .row 60] (ips 42 72))), (56, .gone), (60, .row 23 (.inp 117))], 120, 96, []⟩, 2⟩, ⟨30, 3, ⟨25, [sL 0 (.agg (ips 0 74)), sL 1 (.ptr 0 0), sL 2 (.ptr 2 0), sL 10 .enil, sL 11 (zi 0), sL 12 (zi 0)], [(0, .box (ap [.inp 0, .enil] (ips 2 72))), (2, .box (ap [zi 0, .enil] (zms 24)))], 75, 30, []⟩, 0⟩, ⟨30, 3, ⟨25, [sL 0 (.agg (ips 0 74)), sL 1 (.ptr 0 0), sL 2 (.ptr 2 0), sL 10 (.row 18), sL 11 (.app .len [.app .app [.app .lst [], .inp 1]]), sL 12 (.inp 75)], [(0, .box (ap [.inp 0, .row 18] (ips 2 72))), (2, .box (ap [zi 0, .enil] (zms 24))), (14, .gone), (18, .row 23 (.inp 76))], 77, 36, []⟩, 2⟩, ⟨7, 2, ⟨45, [sL 0 (.agg (ips 0 11)), sL 1 (.ptr 0 0), sL 2 bF, sL 3 (.inp 11)], [(0, .box (ips 0 11))], 12, 8, []⟩, 1⟩, ⟨49, 3, ⟨27, [sL 0 (.agg (ips 0 23)), sL 1 (.agg (ips 23 23)), sL 2 (.ptr 0 0), sL 3 (.ptr 2 0), sL 4 bF, sL 5 (.inp 46), sL 6 (.inp 47)], [(0, .box (ips 0 23)), (2, .box (ips 23 23))], 48, 16, []⟩, 1⟩, ⟨32, 4, ⟨25, [sL 0 (.agg (ips 0 74)), sL 1 (.ptr 0 0), sL 2 (.ptr 2 0), sL 3 (.inp 1), sL 4 (.inp 74)], [(0, .box (ap [.inp 0, .row 16] (ips 2 72))), (2, .box (ap [zi 0, .enil] (zms 24))), (16, .row 23 (.inp 75))], 76, 19, []⟩, 2⟩, ⟨14, 4, ⟨44, [sL 0 (.agg (ips 0 74)), sL 1 (.agg (ips 74 74)), sL 2 (.ptr 0 0), sL 3 (.ptr 2 0), sL 4 bF, sL 5 (.inp 148)], [(0, .box (ips 0 74)), (2, .box (ips 74 74))], 149, 24, []⟩, 1⟩, ⟨20, 4, ⟨82, [sL 0 (.agg (ips 0 74)), sL 1 (.ptr 0 0), sL 2 bF, sL 3 (.inp 75)], [(0, .box (ips 0 74))], 76, 32, []⟩, 1⟩, ⟨20, 10, ⟨82, [sL 0 (.agg (ips 0 74)), sL 1 (.ptr 0 0), sL 2 bF, sL 3 (.inp 75), sL 4 (.ptr 52 0), sL 5 (.inp 81)], [(0, .box (ips 0 74)), (52, .box (pts (.app (.eload 23 true) [.app (.eidx 23) [.inp 1, .inp 75]]) 0 23))], 82, 112, []⟩, 1⟩, ⟨20, 15, ⟨82, [sL 0 (.agg (ips 0 74)), sL 1 (.ptr 0 0), sL 2 bF, sL 3 (.inp 75), sL 6 (.inp 76)], [(0, .box (ips 0 74))], 77, 46, []⟩, 1⟩, ⟨8, 2, ⟨42, [sL 0 (.agg (ips 0 74)), sL 1 (.ptr 0 0), sL 2 bF, sL 3 (.inp 74)], [(0, .box (ips 0 74))], 75, 8, []⟩, 1⟩, ⟨17, 2, ⟨32, [sL 0 (.agg (ips 0 11)), sL 1 (.agg (ips 11 29)), sL 2 (.agg (ips 40 23)), sL 3 (.ptr 0 0), sL 4 (.ptr 2 0), sL 5 (.ptr 4 0), sL 6 bF, sL 7 (.inp 63)], [(0, .box (ips 0 11)), (2, .box (ips 11 29)), (4, .box (ips 40 23))], 64, 12, []⟩, 1⟩, ⟨40, 2, ⟨32, [sL 0 (.agg (ips 0 11)), sL 1 (.agg (ips 11 29)), sL 2 (.agg (ips 40 23)), sL 3 (.ptr 0 0), sL 4 (.ptr 2 0), sL 5 (.ptr 4 0), sL 6 bF, sL 7 (.inp 63)], [(0, .box (ips 0 11)), (2, .box (ips 11 29)), (4, .box (ips 40 23))], 64, 12, []⟩, 1⟩, ⟨33, 3, ⟨44, [sL 0 (.agg (ips 0 74)), sL 1 (.inp 74), sL 2 (.ptr 0 0), sL 4 (zi 0), sL 5 (.inp 75), sL 6 (.inp 76)], [(0, .box (ips 0 74))], 77, 10, []⟩, 2⟩, ⟨32, 4, ⟨25, [sL 0 (.agg (ips 40 74)), sL 1 (.ptr 12 0), sL 2 (.ptr 14 0), sL 3 (.inp 41), sL 4 (.inp 115)], [(0, .box (ips 0 11)), (2, .box (ips 11 29)), (4, .box (ips 40 74)), (6, .box (ap [zi 0, .enil] (zms 24))), (12, .box (ap [.inp 40, .row 28] (ips 42 72))), (14, .box (ap [zi 0, .enil] (zms 24))), (28, .row 23 (.inp 116))], 117, 31, []⟩, 2⟩, ⟨4, 7, ⟨287, [sL 0 (.agg (ips 0 11)), sL 1 (.agg (ips 11 74)), sL 2 (.inp 85), sL 3 (.inp 86), sL 4 (.ptr 0 0), sL 5 (.ptr 2 0), sL 8 bF, sL 9 (.ptr 66 0), sL 10 (.ptr 86 0), sL 11 (.app (.tproj 1) [.inp 95]), sL 12 (.inp 96), sL 13 (.inp 97)], [(0, .box (ips 0 11)), (2, .box (ips 11 74)), (66, .box (pts (.inp 94) 0 29)), (86, .box (pts (.app (.tproj 0) [.inp 95]) 0 74))], 98, 98, []⟩, 2⟩, ⟨4, 21, ⟨287, [sL 0 (.agg (ips 0 11)), sL 1 (.agg (ips 11 74)), sL 2 (.inp 85), sL 3 (.inp 86), sL 4 (.ptr 0 0), sL 5 (.ptr 2 0), sL 8 bF, sL 9 (.ptr 66 0), sL 10 (.ptr 86 0), sL 11 (.app (.tproj 1) [.inp 95]), sL 12 (.inp 96), sL 13 (.inp 97), sL 14 (.ptr 122 0), sL 15 (.ptr 226 0), sL 16 (.inp 104), sL 17 (.inp 105)], [(0, .box (ips 0 11)), (2, .box (ips 11 74)), (66, .box (ips 106 29)), (86, .box (pts (.app (.tproj 0) [.inp 95]) 0 74)), (122, .box (pts (.app (.eload 23 true) [.app (.eidx 23) [.inp 12, .inp 96]]) 0 23)), (226, .box (ips 135 23))], 158, 236, []⟩, 54⟩, ⟨4, 26, ⟨287, [sL 0 (.agg (ips 0 11)), sL 1 (.agg (ips 11 74)), sL 2 (.inp 85), sL 3 (.inp 86), sL 4 (.ptr 0 0), sL 5 (.ptr 2 0), sL 8 bF, sL 9 (.ptr 66 0), sL 10 (.ptr 86 0), sL 11 (.app (.tproj 1) [.inp 95]), sL 12 (.inp 96), sL 13 (.inp 97), sL 14 (.ptr 122 0), sL 15 (.ptr 226 0), sL 16 (.inp 104), sL 17 (.inp 105), sL 18 (.inp 159), sL 19 (.inp 160), sL 20 (.inp 161)], [(0, .box (ips 0 11)), (2, .box (ips 11 74)), (66, .box (pts (.inp 158) 0 29)), (86, .box (pts (.app (.tproj 0) [.inp 95]) 0 74)), (122, .box (pts (.app (.eload 23 true) [.app (.eidx 23) [.inp 12, .inp 96]]) 0 23)), (226, .box (ips 135 23))], 162, 268, []⟩, 3⟩, ⟨5, 8, ⟨183, [sL 0 (.agg (ips 0 11)), sL 1 (.agg (ips 11 29)), sL 2 (.agg (ips 40 74)), sL 3 (.inp 114), sL 4 (.ptr 0 0), sL 6 (.ptr 4 0), sL 8 bF, sL 9 (.ptr 36 0), sL 10 (.app (.tproj 1) [.inp 117]), sL 11 (.inp 125), sL 12 (.inp 126), sL 13 (.inp 127)], [(0, .box (ips 0 11)), (2, .gone), (4, .box (ips 40 74)), (36, .box (pts (.app (.tproj 0) [.inp 117]) 0 74))], 128, 106, []⟩, 3⟩, ⟨6, 8, ⟨121, [sL 0 (.agg (ips 0 11)), sL 1 (.agg (ips 11 29)), sL 2 (.agg (ips 40 23)), sL 3 (.ptr 0 0), sL 4 (.ptr 2 0), sL 5 (.ptr 4 0), sL 6 bF, sL 7 (.ptr 36 0), sL 8 (.app (.tproj 1) [.inp 66]), sL 9 (.inp 68), sL 10 (.inp 69)], [(0, .box (ips 0 11)), (2, .box (ips 11 29)), (4, .box (ips 40 23)), (16, .row 23 (.inp 65)), (36, .box (pts (.app (.tproj 0) [.inp 66]) 0 23))], 70, 62, []⟩, 2⟩]
def inl : List Nat := [58, 30, 32, 29, 103, 112, 107, 104, 105, 106, 64, 65, 67, 84, 99, 110, 98, 44, 70, 86]
noncomputable def E : Env := { P := PR, G := GL, inl := fun f => inl.contains f, scal := fun f => scal.contains f, shape := zjH 82 93 71 87, hints := hints, frzAt := fun f k => frzL.contains (f, k), big := 9, srt := fun f => srtF.contains f, cpt := fun f => cptF.contains f, del := fun f => if f = 31 then 23 else 0 }
theorem Emix : E.P.follows .mixedOrders = true := by kernel_rfl
end Go.Lb.LK
namespace Go.Lb.LK
open Go Go.Lb Go.Proofs
noncomputable section
@[simp] def q0_0 : SE := bi .lss (.inp 0) (zi 32)
@[simp] def q0_1 : SE := pk (bi .geq (.inp 0) (zi 0)) q0_0 bF
@[simp] def q0_2 : SE := bi .shl (.int .u32 1) (.inp 0)
@[simp] def q0_3 : SE := bi .and (e1 (.ref [.inp 1] 0)) q0_2
@[simp] def q0_4 : SE := bi .neq q0_3 (.int .u32 0)
@[simp] def q0_5 : SE := .clo 93 [] [.ref [.inp 36] 0]
@[simp] def q0_6 : SE := .ref [q0_5] 0
@[simp] def q0_7 : SE := nt (e1 (.ref [.inp 1] 0))
@[simp] def q0_8 : SE := .app (.mm false) [ln (.inp 0), zi 24]
@[simp] def q0_9 : SE := bi .lss (.inp 40) q0_8
@[simp] def q0_10 : SE := pk q0_9 (.inp 42) bF
@[simp] def q0_11 : SE := bi .lss (.inp 40) (zi 0)
@[simp] def q0_12 : SE := bi .geq (.inp 40) q0_8
@[simp] def q0_13 : SE := .ref [bi .lss (.inp 6) (.inp 11)] 0
@[simp] def q0_14 : SE := .app (.aidx 24 1 1 1 false) [.agg (ipx 11 29), .inp 40]
@[simp] def q0_15 : SE := bi .lss q0_14 (.inp 4)
@[simp] def q0_16 : SE := .ref [zi 1073741824, zi 65535] 0
@[simp] def q0_17 : SE := .app (.eaidx 2 1) [q0_16, .inp 0]
@[simp] def q0_18 : SE := e1 q0_17
@[simp] def q0_19 : SE := .app (.mm false) [.inp 1, q0_18]
@[simp] def q0_20 : SE := .app (.mm true) [.inp 2, zi 0]
@[simp] def q0_21 : SE := bi .sub q0_18 (.inp 3)
@[simp] def q0_22 : SE := .app (.mm false) [q0_20, q0_21]
@[simp] def q0_23 : SE := bi .add (.inp 3) (.inp 4)
@[simp] def q0_24 : SE := .agg [.inp 0, .inp 1, .inp 3]
@[simp] def q0_25 : SE := .app .app [.app .lst [], .inp 0]
@[simp] def q0_26 : SE := bi .lss (.inp 2) (ln (.inp 0))
@[simp] def q0_27 : SE := el 3 (ei 3 (.inp 0) (.inp 2))
@[simp] def q0_28 : SE := el 3 (ei 3 (.inp 1) (.inp 3))
@[simp] def q0_29 : SE := pt 0 q0_27
@[simp] def q0_30 : SE := pt 1 q0_27
@[simp] def q0_31 : SE := pt 0 q0_28
@[simp] def q0_32 : SE := pt 1 q0_28
@[simp] def q0_33 : SE := bi .eql q0_29 q0_31
@[simp] def q0_34 : SE := bi .neq q0_30 q0_32
@[simp] def q0_35 : SE := .agg (ap [.inp 0, pt 0 (.inp 23), pt 1 (.inp 23), pt 2 (.inp 23), .inp 24, .inp 25] (ipx 6 17))
@[simp] def q0_36 : SE := .app (.mm true) [.inp 0, .inp 21]
@[simp] def q0_37 : SE := bi .gtr q0_36 (zi 1073741824)
@[simp] def q0_38 : SE := pk (bi .lss (.inp 0) (zi 1)) bT q0_37
@[simp] def q0_39 : SE := bi .lss (.inp 21) (zi 0)
@[simp] def q0_40 : SE := pk q0_38 bT q0_39
@[simp] def q0_41 : SE := bi .lss (ln (.inp 3)) (zi 1)
@[simp] def q0_42 : SE := pk q0_40 bT q0_41
@[simp] def q0_43 : SE := bi .gtr (ln (.inp 3)) (zi 12)
@[simp] def q0_44 : SE := pk q0_42 bT q0_43
@[simp] def q0_45 : SE := bi .gtr (ln (.inp 4)) (zi 2)
@[simp] def q0_46 : SE := bi .eql (.inp 6) (.int .u8 0)
@[simp] def q0_47 : SE := bi .geq (.inp 6) (.int .u8 5)
@[simp] def q0_48 : SE := pk q0_46 bT q0_47
@[simp] def q0_49 : SE := pk q0_48 bT (bi .lss (.inp 7) (zi 0))
@[simp] def q0_50 : SE := bi .gtr (.inp 7) (ln (.inp 3))
@[simp] def q0_51 : SE := pk q0_49 bT q0_50
@[simp] def q0_52 : SE := .app (.slice false true) [.app .lst (ipx 8 12), ln (.inp 3)]
@[simp] def q0_53 : SE := ln q0_52
@[simp] def q0_54 : SE := el 12 (.ref (ipx 0 23) 8)
@[simp] def q0_55 : SE := .app .lst [e1 (.ref (ipx 0 23) 3), e1 (.ref (ipx 0 23) 4)]
@[simp] def q0_56 : SE := ei 3 (.inp 47) (.inp 52)
@[simp] def q0_57 : SE := el 3 q0_56
@[simp] def q0_58 : SE := pt 0 q0_57
@[simp] def q0_59 : SE := .app .lst [q0_58]
@[simp] def q0_60 : SE := ln (e1 (.ref (ipx 0 23) 4))
@[simp] def q0_61 : SE := bi .add (ln (.inp 3)) q0_60
@[simp] def q0_62 : SE := ei 3 (.inp 59) (.inp 61)
@[simp] def q0_63 : SE := el 3 q0_62
@[simp] def q0_64 : SE := pt 2 q0_63
@[simp] def q0_65 : SE := bi .lss q0_64 (zi 0)
@[simp] def q0_66 : SE := bi .gtr q0_64 (ln (.inp 3))
@[simp] def q0_67 : SE := pk q0_65 bT q0_66
@[simp] def q0_68 : SE := pt 0 q0_63
@[simp] def q0_69 : SE := bi .lss q0_68 (zi 0)
@[simp] def q0_70 : SE := pk q0_67 bT q0_69
@[simp] def q0_71 : SE := bi .geq q0_68 (zi 24)
@[simp] def q0_72 : SE := pk q0_70 bT q0_71
@[simp] def q0_73 : SE := pt 1 q0_63
@[simp] def q0_74 : SE := bi .shr q0_73 (.int .u64 1)
@[simp] def q0_75 : SE := bi .neq q0_74 (zi 0)
@[simp] def q0_76 : SE := e1 (ei 1 (.inp 0) (.inp 2))
@[simp] def q0_77 : SE := ln q0_76
@[simp] def q0_78 : SE := bi .add (.inp 1) q0_77
@[simp] def q0_79 : SE := .app .rep [bi .sub (.inp 1) (zi 0), .agg [zi 0, zi 0, zi 0]]
@[simp] def q0_80 : SE := e1 (ei 1 (.inp 0) (.inp 5))
@[simp] def q0_81 : SE := e1 (ei 1 (.inp 0) (.inp 4))
def rt_slices_Sort_int : RT :=
 ck .len [.nils] <|
 ck (.conv .u64) [zi 0] <|
.seg [.call 0 [] 109 [.int .u64 0] false] <|
.loop 0 1 [] <|
 ck (.bin .sub) [zi 0, zi 0] <|
 ck (.bin .leq) [zi 0, zi 12] <|
 ck (.bin .add) [zi 0, zi 1] <|
.loop 1 1 [] <|
 ck (.bin .lss) [zi 1, zi 0] <|
.ret (.tup [])
theorem run_slices_Sort_int : runF ES 96 [.nils] 0 = rt_slices_Sort_int := by kernel_rfl
def rt_image_bit : RT :=
 ck .isOne [.inp 0] <|
.ret (.clo 93 [] [.ref [.inp 0] 0])
theorem run_image_bit : runF E 82 [.inp 0] 1 = rt_image_bit := by kernel_rfl
def rt_image_bit_1 : RT :=
.seg [.chk [] (.bin .geq) [.inp 0, zi 0],
.chk [(bi .geq (.inp 0) (zi 0), true)] (.bin .lss) [.inp 0, zi 32],
.chk [] .pick [bi .geq (.inp 0) (zi 0), q0_0, bF],
.chk [(q0_1, true)] (.eload 1 false) [.ref [.inp 1] 0],
.chk [(q0_1, true)] (.bin .shl) [.int .u32 1, .inp 0],
.chk [(q0_1, true)] (.bin .and) [e1 (.ref [.inp 1] 0), q0_2],
.chk [(q0_1, true)] (.bin .neq) [q0_3, .int .u32 0],
.chk [] .pick [q0_1, q0_4, bF]] <|
.seg [.bind 2 (pk q0_1 q0_4 bF)] <|
.ret (.inp 2)
theorem run_image_bit_1 : runF E 93 [.inp 0, .ref [.inp 1] 0] 2 = rt_image_bit_1 := by kernel_rfl
def rt_image_clear : RT :=
 ck (.isAgg 11) [.agg (ipx 0 11)] <|
 ck (.isAgg 29) [.agg (ipx 11 29)] <|
.seg [.call 40 [] 35 [.agg (ipx 0 11), .agg (ipx 11 29)] false,
.call 41 [] 82 [.inp 36] false,
.same 41 [] (q0_5),
.chk [] .isOne [.inp 40]] <|
.ret (.clo 87 [] [.ref [.inp 40] 0, q0_6])
theorem run_image_clear : runF E 71 [.agg (ips 0 11), .agg (ips 11 29)] 40 = rt_image_clear := by kernel_rfl
def rt_image_clear_1 : RT :=
 ck (.eload 1 false) [.ref [.inp 1] 0] <|
 ck (.un .not) [e1 (.ref [.inp 1] 0)] <|
 ckg (q0_7) true (.eload 1 false) [.ref [.clo 93 [] [.ref [.inp 2] 0]] 0] <|
.seg [.call 3 [(q0_7, true)] 93 [.inp 0, .ref [.inp 2] 0] false] <|
 ckg (q0_7) true (.un .not) [.inp 3] <|
 ck .pick [q0_7, nt (.inp 3), bF] <|
.ret (pk q0_7 (nt (.inp 3)) bF)
theorem run_image_clear_1 : runF E 87 [.inp 0, .ref [.inp 1] 0, .ref [.clo 93 [] [.ref [.inp 2] 0]] 0] 3 = rt_image_clear_1 := by kernel_rfl
def rt_image_Stale : RT :=
 ck (.isAgg 11) [.agg (ipx 0 11)] <|
 ck (.isAgg 29) [.agg (ipx 11 29)] <|
.seg [.call 40 [] 62 [.inp 11, .inp 6] false] <|
.ret (.inp 40)
theorem run_image_Stale : runF E 35 [.agg (ips 0 11), .agg (ips 11 29)] 40 = rt_image_Stale := by kernel_rfl
def rt_image_Told : RT :=
 ck (.isAgg 11) [.agg (ipx 0 11)] <|
 ck (.isAgg 29) [.agg (ipx 11 29)] <|
 ck .len [.inp 0] <|
 ck (.mm false) [ln (.inp 0), zi 24] <|
 ck (.bin .lss) [.inp 40, q0_8] <|
.seg [.call 41 [(q0_9, true)] 82 [.inp 36] false,
.same 41 [(q0_9, true)] (q0_5)] <|
.seg [.call 42 [(q0_9, true)] 93 [.inp 40, .ref [.inp 36] 0] false] <|
 ck .pick [q0_9, .inp 42, bF] <|
.seg [.call 43 [(q0_10, true)] 35 [.agg (ipx 0 11), .agg (ipx 11 29)] false] <|
 ckg (q0_10) true (.un .not) [.inp 43] <|
 ck .pick [q0_10, nt (.inp 43), bF] <|
.seg [.bind 44 (pk q0_10 (nt (.inp 43)) bF)] <|
.ret (.inp 44)
theorem run_image_Told : runF E 63 [.agg (ips 0 11), .agg (ips 11 29), .inp 40] 41 = rt_image_Told := by kernel_rfl
def rt_image_Occupied : RT :=
 ck (.isAgg 11) [.agg (ipx 0 11)] <|
 ck (.isAgg 29) [.agg (ipx 11 29)] <|
 ck (.bin .lss) [.inp 40, zi 0] <|
 ckg (q0_11) false .len [.inp 0] <|
 ckg (q0_11) false (.mm false) [ln (.inp 0), zi 24] <|
 ckg (q0_11) false (.bin .geq) [.inp 40, q0_8] <|
 ck .pick [q0_11, bT, q0_12] <|
.seg [.bind 41 (pk q0_11 bT q0_12)] <|
.cond (.inp 41)
 (.ret (bT))
 (.seg [.call 42 [] 71 [.agg (ipx 0 11), .agg (ipx 11 29)] false,
.same 42 [] (.clo 87 [] [q0_13, q0_6]),
.call 43 [] 87 [.inp 40, q0_13, q0_6] false,
.chk [] (.un .not) [.inp 43],
.chk [(nt (.inp 43), false)] (.inr 24) [.inp 40],
.chk [(nt (.inp 43), false)] (.aidx 24 1 1 1 false) [.agg (ipx 11 29), .inp 40],
.chk [(nt (.inp 43), false)] (.bin .lss) [q0_14, .inp 4],
.chk [] .pick [nt (.inp 43), bT, q0_15]] <|
.seg [.bind 44 (pk (nt (.inp 43)) bT q0_15),
.bind 45 (q0_14),
.bind 46 (q0_15)] <|
.ret (.inp 44))
theorem run_image_Occupied : runF E 45 [.agg (ips 0 11), .agg (ips 11 29), .inp 40] 41 = rt_image_Occupied := by kernel_rfl
def rt_tick_Late : RT :=
 ck (.bin .lss) [.inp 1, .inp 0] <|
.ret (bi .lss (.inp 1) (.inp 0))
theorem run_tick_Late : runF E 62 [.inp 0, .inp 1] 2 = rt_tick_Late := by kernel_rfl
def rt_tick_on : RT :=
 ck .isOne [.inp 1] <|
 ck (.eaidx 2 1) [q0_16, .inp 0] <|
 ck (.eload 1 false) [q0_17] <|
 ck (.mm false) [.inp 1, q0_18] <|
 ck (.mm true) [zi 0, q0_19] <|
.seg [.bind 3 (.app (.mm true) [zi 0, q0_19])] <|
 ck .isOne [.inp 3] <|
 ck .isOne [.inp 0] <|
 ck .isOne [.inp 3] <|
 ck .isOne [.inp 2] <|
.seg [.chk [] (.mm true) [.inp 2, zi 0],
.chk [] (.eaidx 2 1) [q0_16, .inp 0],
.chk [] (.eload 1 false) [q0_17],
.chk [] (.bin .sub) [q0_18, .inp 3],
.chk [] (.mm false) [q0_20, q0_21],
.chk [] .isOne [q0_22]] <|
.seg [.bind 4 (q0_22)] <|
 ck (.bin .gtr) [.inp 4, zi 0] <|
.cond (bi .gtr (.inp 4) (zi 0))
 (ck (.bin .add) [.inp 3, .inp 4] <|
 ck .isOne [q0_23] <|
.ret (q0_23))
 (.ret (.inp 3))
theorem run_tick_on : runF E 85 [.inp 0, .inp 1, .inp 2] 3 = rt_tick_on := by kernel_rfl
def rt_tick_Next : RT :=
.seg [.call 1 [] 85 [zi 0, .inp 0, zi 1] false] <|
.ret (.inp 1)
theorem run_tick_Next : runF E 68 [.inp 0] 1 = rt_tick_Next := by kernel_rfl
def rt_route_Own : RT :=
 ck (.isAgg 3) [.agg [.inp 0, .inp 1, .inp 2]] <|
.seg [.call 3 [] 60 [.inp 2] false] <|
 ck .isOne [.inp 3] <|
 ck (.isAgg 3) [q0_24] <|
.ret (q0_24)
theorem run_route_Own : runF E 59 [.agg [.inp 0, .inp 1, .inp 2]] 3 = rt_route_Own := by kernel_rfl
def rt_slices_Clone_Step : RT :=
.seg [.chk [] .len [.inp 0],
.isNil 1 [] (.inp 0)] <|
.cond (.inp 1)
 (.ret (.nils))
 (.seg [.chk [] (.szs 3) [.inp 0],
.chk [] .app [.app .lst [], .inp 0]] <|
.ret (q0_25))
theorem run_slices_Clone_Step : runF E 60 [.inp 0] 1 = rt_slices_Clone_Step := by kernel_rfl
def rt_slices_Clone_Need : RT :=
.seg [.chk [] .len [.inp 0],
.isNil 1 [] (.inp 0)] <|
.cond (.inp 1)
 (.ret (.nils))
 (.seg [.chk [] (.szs 3) [.inp 0],
.chk [] .app [.app .lst [], .inp 0]] <|
.ret (q0_25))
theorem run_slices_Clone_Need : runF E 61 [.inp 0] 1 = rt_slices_Clone_Need := by kernel_rfl
def rt_held_clash : RT :=
 ck .isOne [.inp 1] <|
 ck .len [.inp 0] <|
.loop 0 2 [zi 0] <|
 ck (.bin .lss) [.inp 2, ln (.inp 0)] <|
.cond (q0_26)
 (ck (.eidx 3) [.inp 0, .inp 2] <|
 ck (.eload 3 true) [ei 3 (.inp 0) (.inp 2)] <|
 ck (.isAgg 3) [q0_27] <|
 ck .len [.inp 1] <|
.loop 1 3 [zi 0] <|
 ck (.bin .lss) [.inp 3, ln (.inp 1)] <|
.cond (bi .lss (.inp 3) (ln (.inp 1)))
 (ck (.eidx 3) [.inp 1, .inp 3] <|
 ck (.eload 3 true) [ei 3 (.inp 1) (.inp 3)] <|
 ck (.isAgg 3) [q0_28] <|
 ck (.isAgg 3) [.agg [q0_29, q0_30, pt 2 q0_27]] <|
 ck (.isAgg 3) [.agg [q0_31, q0_32, pt 2 q0_28]] <|
 ck (.bin .eql) [q0_29, q0_31] <|
 ckg (q0_33) true (.bin .neq) [q0_30, q0_32] <|
 ck .pick [q0_33, q0_34, bF] <|
.seg [.bind 4 (pk q0_33 q0_34 bF),
.bind 5 (q0_33),
.bind 6 (q0_34)] <|
.cond (.inp 4)
 (ck (.bin .geq) [.inp 3, zi 0] <|
.cond (bi .geq (.inp 3) (zi 0))
 (ck (.bin .geq) [.inp 2, zi 0] <|
.ret (bi .geq (.inp 2) (zi 0)))
 (ck (.bin .add) [.inp 2, zi 1] <|
.again 0 [bi .add (.inp 2) (zi 1)]))
 (ck (.bin .add) [.inp 3, zi 1] <|
.again 1 [bi .add (.inp 3) (zi 1)]))
 (ck (.bin .geq) [zi (-1), zi 0] <|
 ck (.bin .add) [.inp 2, zi 1] <|
.again 0 [bi .add (.inp 2) (zi 1)]))
 (ck (.bin .geq) [zi (-1), zi 0] <|
.ret (bF))
theorem run_held_clash : runF E 94 [.inp 0, .inp 1] 2 = rt_held_clash := by kernel_rfl
def rt_held_Own : RT :=
 ck (.isAgg 23) [.agg (ipx 0 23)] <|
.seg [.call 23 [] 59 [.agg [.inp 1, .inp 2, .inp 3]] false,
.call 24 [] 60 [.inp 4] false,
.call 25 [] 61 [.inp 5] false,
.chk [] (.isAgg 3) [.inp 23],
.chk [] .isOne [.inp 24],
.chk [] .isOne [.inp 25]] <|
 ck (.isAgg 23) [q0_35] <|
.ret (q0_35)
theorem run_held_Own : runF E 34 [.agg (ips 0 23)] 23 = rt_held_Own := by kernel_rfl
def rt_held_Right : RT :=
 ck (.isAgg 23) [.agg (ipx 0 23)] <|
 ck .len [.inp 3] <|
 ck (.bin .lss) [.inp 0, zi 1] <|
 ckg (bi .lss (.inp 0) (zi 1)) false (.mm true) [.inp 0, .inp 21] <|
 ckg (bi .lss (.inp 0) (zi 1)) false (.bin .gtr) [q0_36, zi 1073741824] <|
 ck .pick [bi .lss (.inp 0) (zi 1), bT, q0_37] <|
 ckg (q0_38) false (.bin .lss) [.inp 21, zi 0] <|
 ck .pick [q0_38, bT, q0_39] <|
 ckg (q0_40) false (.bin .lss) [ln (.inp 3), zi 1] <|
 ck .pick [q0_40, bT, q0_41] <|
 ckg (q0_42) false (.bin .gtr) [ln (.inp 3), zi 12] <|
 ck .pick [q0_42, bT, q0_43] <|
 ckg (q0_44) false .len [.inp 4] <|
 ckg (q0_44) false (.bin .gtr) [ln (.inp 4), zi 2] <|
 ck .pick [q0_44, bT, q0_45] <|
.seg [.bind 23 (q0_38),
.bind 24 (q0_40),
.bind 25 (q0_42),
.bind 26 (q0_44),
.bind 27 (pk q0_44 bT q0_45)] <|
.cond (.inp 27)
 (.ret (bF))
 (ck (.bin .eql) [.inp 6, .int .u8 0] <|
 ckg (q0_46) false (.bin .geq) [.inp 6, .int .u8 5] <|
 ck .pick [q0_46, bT, q0_47] <|
 ckg (q0_48) false (.bin .lss) [.inp 7, zi 0] <|
 ck .pick [q0_48, bT, bi .lss (.inp 7) (zi 0)] <|
 ckg (q0_49) false (.bin .gtr) [.inp 7, ln (.inp 3)] <|
 ck .pick [q0_49, bT, q0_50] <|
.seg [.call 28 [(q0_51, false)] 94 [.inp 5, .inp 5] false] <|
 ck .pick [q0_51, bT, .inp 28] <|
.seg [.bind 29 (q0_49),
.bind 30 (q0_51),
.bind 31 (pk q0_51 bT (.inp 28))] <|
.cond (.inp 31)
 (.ret (bF))
 (.seg [.chk [] (.eoff 8) [.ref (ipx 0 23) 0],
.chk [] (.slice false true) [.app .lst (ipx 8 12), ln (.inp 3)],
.chk [] .isOne [.inp 8],
.chk [] .isOne [.inp 9],
.chk [] .isOne [.inp 10],
.chk [] .isOne [.inp 11],
.chk [] .isOne [.inp 12],
.chk [] .isOne [.inp 13],
.chk [] .isOne [.inp 14],
.chk [] .isOne [.inp 15],
.chk [] .isOne [.inp 16],
.chk [] .isOne [.inp 17],
.chk [] .isOne [.inp 18],
.chk [] .isOne [.inp 19],
.chk [] (.szs 1) [q0_52]] <|
.seg [.bind 32 (q0_52),
.bind 33 (pk (bi .lss (zi 0) q0_53) (.app (.rowget 1 0 1 false) [q0_52, zi 0]) bF),
.bind 34 (pk (bi .lss (zi 1) q0_53) (.app (.rowget 1 0 1 false) [q0_52, zi 1]) bF),
.bind 35 (pk (bi .lss (zi 2) q0_53) (.app (.rowget 1 0 1 false) [q0_52, zi 2]) bF),
.bind 36 (pk (bi .lss (zi 3) q0_53) (.app (.rowget 1 0 1 false) [q0_52, zi 3]) bF),
.bind 37 (pk (bi .lss (zi 4) q0_53) (.app (.rowget 1 0 1 false) [q0_52, zi 4]) bF),
.bind 38 (pk (bi .lss (zi 5) q0_53) (.app (.rowget 1 0 1 false) [q0_52, zi 5]) bF),
.bind 39 (pk (bi .lss (zi 6) q0_53) (.app (.rowget 1 0 1 false) [q0_52, zi 6]) bF),
.bind 40 (pk (bi .lss (zi 7) q0_53) (.app (.rowget 1 0 1 false) [q0_52, zi 7]) bF),
.bind 41 (pk (bi .lss (zi 8) q0_53) (.app (.rowget 1 0 1 false) [q0_52, zi 8]) bF),
.bind 42 (pk (bi .lss (zi 9) q0_53) (.app (.rowget 1 0 1 false) [q0_52, zi 9]) bF),
.bind 43 (pk (bi .lss (zi 10) q0_53) (.app (.rowget 1 0 1 false) [q0_52, zi 10]) bF),
.bind 44 (pk (bi .lss (zi 11) q0_53) (.app (.rowget 1 0 1 false) [q0_52, zi 11]) bF)] <|
 ck (.eoff 8) [.ref (ipx 0 23) 0] <|
 ck (.eload 12 true) [.ref (ipx 0 23) 8] <|
 ck (.eqa [ none, none, none, none, none, none, none, none, none, none, none, none] true) [.agg (ipx 33 12), q0_54] <|
.seg [.bind 45 (q0_54),
.bind 46 (.app (.eqa [ none, none, none, none, none, none, none, none, none, none, none, none] true) [.agg (ipx 33 12), q0_54])] <|
.cond (.inp 46)
 (.ret (bF))
 (ck (.eoff 1) [.ref (ipx 0 23) 0] <|
 ck (.eoff 2) [.ref (ipx 0 23) 1] <|
 ck (.eload 1 false) [.ref (ipx 0 23) 3] <|
 ck (.eoff 4) [.ref (ipx 0 23) 0] <|
 ck (.eload 1 false) [.ref (ipx 0 23) 4] <|
.seg [.chk [] .isOne [e1 (.ref (ipx 0 23) 3)],
.chk [] .isOne [e1 (.ref (ipx 0 23) 4)],
.chk [] .isOne [e1 (.ref (ipx 0 23) 3)],
.chk [] .isOne [e1 (.ref (ipx 0 23) 4)]] <|
.seg [.call 47 [] 95 [q0_55] false] <|
 ck .len [.inp 47] <|
.seg [.bind 48 (e1 (.ref (ipx 0 23) 3)),
.bind 49 (e1 (.ref (ipx 0 23) 4)),
.bind 50 (q0_55)] <|
.loop 0 51 [.nils, zi 0] <|
 ck (.bin .lss) [.inp 52, ln (.inp 47)] <|
.cond (bi .lss (.inp 52) (ln (.inp 47)))
 (ck (.eidx 3) [.inp 47, .inp 52] <|
 ck (.eload 3 true) [q0_56] <|
 ck (.isAgg 3) [q0_57] <|
.seg [.chk [] .isOne [q0_58],
.chk [] .isOne [q0_58]] <|
.seg [.chk [] (.szs 1) [q0_59],
.chk [] .app [.inp 51, q0_59]] <|
 ck (.bin .add) [.inp 52, zi 1] <|
.again 0 [.app .app [.inp 51, q0_59], bi .add (.inp 52) (zi 1)])
 (.seg [.srt 53 (.inp 51)] <|
.seg [.cmp 54 (.inp 53),
.chk [] .len [.inp 54],
.chk [] (.eoff 4) [.ref (ipx 0 23) 0],
.chk [] (.eload 1 false) [.ref (ipx 0 23) 4],
.chk [] .len [e1 (.ref (ipx 0 23) 4)],
.chk [] (.bin .add) [ln (.inp 3), q0_60],
.chk [] (.bin .lss) [ln (.inp 54), q0_61]] <|
.seg [.bind 55 (e1 (.ref (ipx 0 23) 4)),
.bind 56 (q0_60),
.bind 57 (q0_61),
.bind 58 (bi .lss (ln (.inp 54)) q0_61)] <|
.cond (.inp 58)
 (.ret (bF))
 (ck (.eoff 5) [.ref (ipx 0 23) 0] <|
 ck (.eload 1 false) [.ref (ipx 0 23) 5] <|
 ck .len [e1 (.ref (ipx 0 23) 5)] <|
.seg [.bind 59 (e1 (.ref (ipx 0 23) 5)),
.bind 60 (ln (e1 (.ref (ipx 0 23) 5)))] <|
.loop 0 61 [zi 0] <|
 ck (.bin .lss) [.inp 61, .inp 60] <|
.cond (bi .lss (.inp 61) (.inp 60))
 (ck (.eidx 3) [.inp 59, .inp 61] <|
 ck (.eload 3 true) [q0_62] <|
 ck (.isAgg 3) [q0_63] <|
 ck (.bin .lss) [q0_64, zi 0] <|
 ckg (q0_65) false (.bin .gtr) [q0_64, ln (.inp 3)] <|
 ck .pick [q0_65, bT, q0_66] <|
 ckg (q0_67) false (.bin .lss) [q0_68, zi 0] <|
 ck .pick [q0_67, bT, q0_69] <|
 ckg (q0_70) false (.bin .geq) [q0_68, zi 24] <|
 ck .pick [q0_70, bT, q0_71] <|
 ckg (q0_72) false (.bin .shr) [q0_73, .int .u64 1] <|
 ckg (q0_72) false (.bin .neq) [q0_74, zi 0] <|
 ck .pick [q0_72, bT, q0_75] <|
.seg [.bind 62 (q0_67),
.bind 63 (q0_70),
.bind 64 (q0_72),
.bind 65 (pk q0_72 bT q0_75)] <|
.cond (.inp 65)
 (.ret (bF))
 (ck (.bin .add) [.inp 61, zi 1] <|
.again 0 [bi .add (.inp 61) (zi 1)]))
 (.ret (bT)))))))
theorem run_held_Right : runF E 83 [.agg (ips 0 23)] 23 = rt_held_Right := by kernel_rfl
def rt_slices_Concat_Step : RT :=
 ck .len [.inp 0] <|
.loop 0 1 [zi 0, zi 0] <|
 ck (.bin .lss) [.inp 2, ln (.inp 0)] <|
.cond (q0_26)
 (ck (.eidx 1) [.inp 0, .inp 2] <|
 ck (.eload 1 false) [ei 1 (.inp 0) (.inp 2)] <|
 ck .len [q0_76] <|
 ck (.bin .add) [.inp 1, q0_77] <|
 ck (.bin .lss) [q0_78, zi 0] <|
.cond (bi .lss q0_78 (zi 0))
 (.dead 6 [zi 9])
 (ck (.bin .add) [.inp 2, zi 1] <|
.again 0 [q0_78, bi .add (.inp 2) (zi 1)]))
 (ck (.bin .lss) [.inp 1, zi 0] <|
.cond (bi .lss (.inp 1) (zi 0))
 (.dead 6 [zi 9])
 (ck .len [.nils] <|
 ck (.bin .sub) [zi 0, zi 0] <|
 ck (.bin .sub) [.inp 1, zi 0] <|
 ck (.bin .gtr) [bi .sub (.inp 1) (zi 0), zi 0] <|
.cond (bi .gtr (bi .sub (.inp 1) (zi 0)) (zi 0))
 (ck .rep [bi .sub (.inp 1) (zi 0), .agg [zi 0, zi 0, zi 0]] <|
 ck .len [.nils] <|
 ck (.slice false true) [q0_79, zi 0] <|
.seg [.bind 3 (.app (.slice false true) [q0_79, zi 0])] <|
 ck .len [.inp 0] <|
.loop 0 4 [.inp 3, zi 0] <|
 ck (.bin .lss) [.inp 5, ln (.inp 0)] <|
.cond (bi .lss (.inp 5) (ln (.inp 0)))
 (ck (.eidx 1) [.inp 0, .inp 5] <|
 ck (.eload 1 false) [ei 1 (.inp 0) (.inp 5)] <|
.seg [.chk [] (.szs 3) [q0_80],
.chk [] .app [.inp 4, q0_80]] <|
 ck (.bin .add) [.inp 5, zi 1] <|
.again 0 [.app .app [.inp 4, q0_80], bi .add (.inp 5) (zi 1)])
 (.ret (.inp 4)))
 (ck .len [.inp 0] <|
.loop 0 3 [.nils, zi 0] <|
 ck (.bin .lss) [.inp 4, ln (.inp 0)] <|
.cond (bi .lss (.inp 4) (ln (.inp 0)))
 (ck (.eidx 1) [.inp 0, .inp 4] <|
 ck (.eload 1 false) [ei 1 (.inp 0) (.inp 4)] <|
.seg [.chk [] (.szs 3) [q0_81],
.chk [] .app [.inp 3, q0_81]] <|
 ck (.bin .add) [.inp 4, zi 1] <|
.again 0 [.app .app [.inp 3, q0_81], bi .add (.inp 4) (zi 1)])
 (.ret (.inp 3)))))
theorem run_slices_Concat_Step : runF E 95 [.inp 0] 1 = rt_slices_Concat_Step := by kernel_rfl
def rt_pass_asleep : RT :=
 ck (.isAgg 11) [.agg (ipx 0 11)] <|
 ck (.isAgg 29) [.agg (ipx 11 29)] <|
 ck (.isAgg 23) [.agg (ipx 40 23)] <|
.seg [.call 63 [] 83 [.agg (ipx 40 23)] false] <|
 ck (.un .not) [.inp 63] <|
.seg [.call 64 [(nt (.inp 63), false)] 35 [.agg (ipx 0 11), .agg (ipx 11 29)] false] <|
 ck .pick [nt (.inp 63), bT, .inp 64] <|
.ret (pk (nt (.inp 63)) bT (.inp 64))
theorem run_pass_asleep : runF E 66 [.agg (ips 0 11), .agg (ips 11 29), .agg (ips 40 23)] 63 = rt_pass_asleep := by kernel_rfl
end
end Go.Lb.LK
namespace Go.Lb.LK
open Go Go.Lb Go.Proofs
noncomputable section
@[simp] def q1_0 : SE := .agg (ptx (.inp 63) 8 12)
@[simp] def q1_1 : SE := .agg (ptx (.inp 63) 0 23)
@[simp] def q1_2 : SE := ei 3 (pt 3 (.inp 63)) (.inp 65)
@[simp] def q1_3 : SE := .app (.eoff 0) [q1_2]
@[simp] def q1_4 : SE := bi .eql (.inp 65) (zi 0)
@[simp] def q1_5 : SE := bi .sub (.inp 65) (zi 1)
@[simp] def q1_6 : SE := .app (.aidx 12 1 0 1 false) [.agg (ipx 66 12), q1_5]
@[simp] def q1_7 : SE := pk q1_4 bT q1_6
@[simp] def q1_8 : SE := bi .add (.inp 65) (zi 1)
@[simp] def q1_9 : SE := pk (.inp 78) q1_7 bF
@[simp] def q1_10 : SE := .agg [q1_9]
@[simp] def q1_11 : SE := bi .sub (ln (pt 3 (.inp 63))) (zi 1)
@[simp] def q1_12 : SE := bi .leq (pt 7 (.inp 63)) q1_11
@[simp] def q1_13 : SE := .app (.aidx 12 1 0 1 false) [.agg (ipx 66 12), pt 7 (.inp 63)]
@[simp] def q1_14 : SE := pk q1_12 q1_13 bF
@[simp] def q1_15 : SE := bi .eql (pt 7 (.inp 63)) q1_11
@[simp] def q1_16 : SE := bi .add (pt 7 (.inp 63)) (zi 1)
@[simp] def q1_17 : SE := .app (.aidx 12 1 0 1 false) [.agg (ipx 66 12), q1_16]
@[simp] def q1_18 : SE := pk q1_15 bT q1_17
@[simp] def q1_19 : SE := pk q1_14 q1_18 bF
@[simp] def q1_20 : SE := ei 3 (pt 3 (.inp 63)) (pt 7 (.inp 63))
@[simp] def q1_21 : SE := .app (.eoff 0) [q1_20]
@[simp] def q1_22 : SE := e1 q1_21
@[simp] def q1_23 : SE := .app (.aidx 12 1 0 1 false) [.agg (ipx 66 12), q1_11]
@[simp] def q1_24 : SE := bi .geq (.inp 85) (.inp 8)
@[simp] def q1_25 : SE := pk (pt 20 (.inp 63)) bT q1_24
@[simp] def q1_26 : SE := bi .gtr (pt 7 (.inp 63)) q1_11
@[simp] def q1_27 : SE := pk q1_25 bT q1_26
@[simp] def q1_28 : SE := .agg (ap (ptx (.inp 63) 0 8) (ap (ipx 66 12) [.inp 86, .inp 85, pt 22 (.inp 63)]))
@[simp] def q1_29 : SE := pk (pt 20 (.inp 63)) bT q1_26
@[simp] def q1_30 : SE := .agg (ap (ptx (.inp 63) 0 8) (ap (ipx 66 12) [.inp 85, pt 21 (.inp 63), pt 22 (.inp 63)]))
@[simp] def q1_31 : SE := bi .leq (.inp 95) q1_11
@[simp] def q1_32 : SE := .app (.aidx 12 1 0 1 false) [.agg (ipx 66 12), .inp 95]
@[simp] def q1_33 : SE := pk q1_31 q1_32 bF
@[simp] def q1_34 : SE := bi .eql (.inp 95) q1_11
@[simp] def q1_35 : SE := bi .add (.inp 95) (zi 1)
@[simp] def q1_36 : SE := .app (.aidx 12 1 0 1 false) [.agg (ipx 66 12), q1_35]
@[simp] def q1_37 : SE := pk q1_34 bT q1_36
@[simp] def q1_38 : SE := pk q1_33 q1_37 bF
@[simp] def q1_39 : SE := ei 3 (pt 3 (.inp 63)) (.inp 95)
@[simp] def q1_40 : SE := .app (.eoff 0) [q1_39]
@[simp] def q1_41 : SE := e1 q1_40
@[simp] def q1_42 : SE := bi .geq (.inp 102) (.inp 8)
@[simp] def q1_43 : SE := pk (pt 20 (.inp 63)) bT q1_42
@[simp] def q1_44 : SE := bi .gtr (.inp 95) q1_11
@[simp] def q1_45 : SE := pk q1_43 bT q1_44
@[simp] def q1_46 : SE := .agg (ap (ptx (.inp 63) 0 7) (ap [.inp 95] (ap (ipx 66 12) [.inp 103, .inp 102, pt 22 (.inp 63)])))
@[simp] def q1_47 : SE := pk (pt 20 (.inp 63)) bT q1_44
@[simp] def q1_48 : SE := .agg (ap (ptx (.inp 63) 0 7) (ap [.inp 95] (ap (ipx 66 12) [.inp 102, pt 21 (.inp 63), pt 22 (.inp 63)])))
@[simp] def q1_49 : SE := bi .geq (.inp 101) (.inp 8)
@[simp] def q1_50 : SE := pk (pt 20 (.inp 63)) bT q1_49
@[simp] def q1_51 : SE := pk q1_50 bT q1_44
@[simp] def q1_52 : SE := .agg (ap (ptx (.inp 63) 0 7) (ap [.inp 95] (ap (ipx 66 12) [.inp 102, .inp 101, pt 22 (.inp 63)])))
@[simp] def q1_53 : SE := .agg (ap (ptx (.inp 63) 0 7) (ap [.inp 95] (ap (ipx 66 12) [.inp 101, pt 21 (.inp 63), pt 22 (.inp 63)])))
@[simp] def q1_54 : SE := bi .geq (.inp 84) (.inp 8)
@[simp] def q1_55 : SE := pk (pt 20 (.inp 63)) bT q1_54
@[simp] def q1_56 : SE := pk q1_55 bT q1_26
@[simp] def q1_57 : SE := .agg (ap (ptx (.inp 63) 0 8) (ap (ipx 66 12) [.inp 85, .inp 84, pt 22 (.inp 63)]))
@[simp] def q1_58 : SE := .agg (ap (ptx (.inp 63) 0 8) (ap (ipx 66 12) [.inp 84, pt 21 (.inp 63), pt 22 (.inp 63)]))
@[simp] def q1_59 : SE := .agg (ap (ptx (.inp 63) 0 20) [.inp 86, .inp 85, pt 22 (.inp 63)])
@[simp] def q1_60 : SE := .agg (ap (ptx (.inp 63) 0 20) [.inp 85, pt 21 (.inp 63), pt 22 (.inp 63)])
@[simp] def q1_61 : SE := .agg (ap (ptx (.inp 63) 0 7) (ap [.inp 95] (ap (ptx (.inp 63) 8 12) [.inp 103, .inp 102, pt 22 (.inp 63)])))
@[simp] def q1_62 : SE := .agg (ap (ptx (.inp 63) 0 7) (ap [.inp 95] (ap (ptx (.inp 63) 8 12) [.inp 102, pt 21 (.inp 63), pt 22 (.inp 63)])))
@[simp] def q1_63 : SE := .agg (ap (ptx (.inp 63) 0 7) (ap [.inp 95] (ap (ptx (.inp 63) 8 12) [.inp 102, .inp 101, pt 22 (.inp 63)])))
@[simp] def q1_64 : SE := .agg (ap (ptx (.inp 63) 0 7) (ap [.inp 95] (ap (ptx (.inp 63) 8 12) [.inp 101, pt 21 (.inp 63), pt 22 (.inp 63)])))
@[simp] def q1_65 : SE := .agg (ap (ptx (.inp 63) 0 20) [.inp 85, .inp 84, pt 22 (.inp 63)])
@[simp] def q1_66 : SE := .agg (ap (ptx (.inp 63) 0 20) [.inp 84, pt 21 (.inp 63), pt 22 (.inp 63)])
@[simp] def q1_67 : SE := .app (.mm true) [.inp 0, zi 0]
@[simp] def q1_68 : SE := bi .add (.inp 2) (.inp 3)
@[simp] def q1_69 : SE := .agg [.inp 0, .inp 1, .inp 2]
@[simp] def q1_70 : SE := bi .lss (.inp 2) (ln (.inp 0))
@[simp] def q1_71 : SE := el 3 (ei 3 (.inp 0) (.inp 2))
@[simp] def q1_72 : SE := el 3 (ei 3 (.inp 1) (.inp 2))
@[simp] def q1_73 : SE := bi .eql (.inp 0) (.inp 3)
@[simp] def q1_74 : SE := bi .eql (.inp 1) (.inp 4)
@[simp] def q1_75 : SE := pk q1_73 q1_74 bF
@[simp] def q1_76 : SE := bi .lss (.inp 1) (zi 32)
@[simp] def q1_77 : SE := pk (bi .geq (.inp 1) (zi 0)) q1_76 bF
@[simp] def q1_78 : SE := .app (.conv .u64) [.inp 1]
@[simp] def q1_79 : SE := bi .shr (.inp 0) q1_78
@[simp] def q1_80 : SE := bi .and q1_79 (.int .u32 1)
@[simp] def q1_81 : SE := bi .eql q1_80 (.int .u32 1)
@[simp] def q1_82 : SE := bi .lss (.inp 40) (zi 24)
@[simp] def q1_83 : SE := .agg (ap [.inp 11] (ap (ipx 41 24) (ipx 36 4)))
@[simp] def q1_84 : SE := .app (.aidx 24 1 1 1 false) [q1_83, .inp 40]
@[simp] def q1_85 : SE := bi .lss (.inp 40) (zi 0)
@[simp] def q1_86 : SE := bi .geq (.inp 40) (ln (.inp 0))
@[simp] def q1_87 : SE := pk q1_85 bT q1_86
@[simp] def q1_88 : SE := bi .geq (.inp 40) (zi 24)
@[simp] def q1_89 : SE := pk (.inp 42) bT (.inp 43)
@[simp] def q1_90 : SE := .app (.aidx 24 1 1 1 false) [.agg (ipx 11 29), .inp 40]
@[simp] def q1_91 : SE := bi .lss q1_90 (.inp 4)
@[simp] def q1_92 : SE := bi .geq (.inp 40) (zi 0)
@[simp] def q1_93 : SE := bi .lss (.inp 40) (ln (.inp 0))
@[simp] def q1_94 : SE := pk q1_92 q1_93 bF
@[simp] def q1_95 : SE := pk q1_94 q1_82 bF
@[simp] def q1_96 : SE := pk q1_95 (nt (.inp 41)) bF
@[simp] def q1_97 : SE := .app (.eoff 0) [ei 3 (.inp 0) (.inp 2)]
@[simp] def q1_98 : SE := .app (.eoff 0) [ei 3 (.inp 1) (.inp 3)]
@[simp] def q1_99 : SE := e1 q1_97
@[simp] def q1_100 : SE := e1 q1_98
@[simp] def q1_101 : SE := bi .eql q1_99 q1_100
@[simp] def q1_102 : SE := .app (.eoff 1) [ei 3 (.inp 0) (.inp 2)]
@[simp] def q1_103 : SE := .app (.eoff 1) [ei 3 (.inp 1) (.inp 3)]
@[simp] def q1_104 : SE := e1 q1_102
@[simp] def q1_105 : SE := e1 q1_103
@[simp] def q1_106 : SE := bi .neq q1_104 q1_105
def rt_pass_Run : RT :=
 ck (.isAgg 11) [.agg (ipx 0 11)] <|
 ck (.isAgg 29) [.agg (ipx 11 29)] <|
 ck (.isAgg 23) [.agg (ipx 40 23)] <|
.seg [.call 63 [] 34 [.agg (ipx 40 23)] false] <|
 ck (.isAgg 23) [.inp 63] <|
 ck .len [pt 3 (.inp 63)] <|
 ck (.bin .sub) [ln (pt 3 (.inp 63)), zi 1] <|
 ck (.isAgg 12) [q1_0] <|
.seg [.call 64 [] 66 [.agg (ipx 0 11), .agg (ipx 11 29), q1_1] false] <|
.cond (.inp 64)
 (ck (.isAgg 23) [q1_1] <|
.ret (q1_1))
 (ck (.isAgg 23) [q1_1] <|
.loop 0 65 (ptx (.inp 63) 7 13) <|
 ck .len [pt 3 (.inp 63)] <|
 ck (.bin .lss) [.inp 65, ln (pt 3 (.inp 63))] <|
.cond (bi .lss (.inp 65) (ln (pt 3 (.inp 63))))
 (ck (.eidx 3) [pt 3 (.inp 63), .inp 65] <|
 ck (.eoff 0) [q1_2] <|
 ck (.eload 1 false) [q1_3] <|
 ck (.inr 12) [.inp 65] <|
 ck (.aidx 12 1 0 1 false) [.agg (ipx 66 12), .inp 65] <|
.cond (.app (.aidx 12 1 0 1 false) [.agg (ipx 66 12), .inp 65])
 (ckg (.undef) true (.bin .eql) [.inp 65, zi 0] <|
.seg [.chk [(q1_4, false), (.undef, true)] (.bin .sub) [.inp 65, zi 1]] <|
.seg [.chk [(q1_4, false), (.undef, true)] (.inr 12) [q1_5]] <|
.seg [.chk [(q1_4, false), (.undef, true)] (.aidx 12 1 0 1 false) [.agg (ipx 66 12), q1_5]] <|
 ckg (.undef) true .pick [q1_4, bT, q1_6] <|
 ck (.inr 12) [.inp 65] <|
 ck (.inr 12) [.inp 65] <|
.seg [.bind 78 (q1_6),
.bind 79 (q1_7)] <|
 ck (.un .not) [bT] <|
 ck (.bin .add) [.inp 65, zi 1] <|
.again 0 [q1_8, .app (.cellset 0 12 1 0 1 0) [.inp 65, .inp 66, .agg [bT]], .app (.cellset 0 12 1 0 1 1) [.inp 65, .inp 67, .agg [bT]], .app (.cellset 0 12 1 0 1 2) [.inp 65, .inp 68, .agg [bT]], .app (.cellset 0 12 1 0 1 3) [.inp 65, .inp 69, .agg [bT]], .app (.cellset 0 12 1 0 1 4) [.inp 65, .inp 70, .agg [bT]], .app (.cellset 0 12 1 0 1 5) [.inp 65, .inp 71, .agg [bT]], .app (.cellset 0 12 1 0 1 6) [.inp 65, .inp 72, .agg [bT]], .app (.cellset 0 12 1 0 1 7) [.inp 65, .inp 73, .agg [bT]], .app (.cellset 0 12 1 0 1 8) [.inp 65, .inp 74, .agg [bT]], .app (.cellset 0 12 1 0 1 9) [.inp 65, .inp 75, .agg [bT]], .app (.cellset 0 12 1 0 1 10) [.inp 65, .inp 76, .agg [bT]], .app (.cellset 0 12 1 0 1 11) [.inp 65, .inp 77, .agg [bT]]])
 (.seg [.call 78 [] 63 [.agg (ipx 0 11), .agg (ipx 11 29), e1 q1_3] false] <|
 ckg (.inp 78) true (.bin .eql) [.inp 65, zi 0] <|
.seg [.chk [(q1_4, false), (.inp 78, true)] (.bin .sub) [.inp 65, zi 1]] <|
.seg [.chk [(q1_4, false), (.inp 78, true)] (.inr 12) [q1_5]] <|
.seg [.chk [(q1_4, false), (.inp 78, true)] (.aidx 12 1 0 1 false) [.agg (ipx 66 12), q1_5]] <|
 ckg (.inp 78) true .pick [q1_4, bT, q1_6] <|
 ck .pick [.inp 78, q1_7, bF] <|
 ck (.inr 12) [.inp 65] <|
.seg [.chk [] (.inr 12) [.inp 65],
.chk [] .isOne [q1_9]] <|
.seg [.bind 79 (q1_6),
.bind 80 (q1_7),
.bind 81 (q1_9),
.bind 82 (.app (.cellset 0 12 1 0 1 0) [.inp 65, .inp 66, q1_10]),
.bind 83 (.app (.cellset 0 12 1 0 1 1) [.inp 65, .inp 67, q1_10]),
.bind 84 (.app (.cellset 0 12 1 0 1 2) [.inp 65, .inp 68, q1_10]),
.bind 85 (.app (.cellset 0 12 1 0 1 3) [.inp 65, .inp 69, q1_10]),
.bind 86 (.app (.cellset 0 12 1 0 1 4) [.inp 65, .inp 70, q1_10]),
.bind 87 (.app (.cellset 0 12 1 0 1 5) [.inp 65, .inp 71, q1_10]),
.bind 88 (.app (.cellset 0 12 1 0 1 6) [.inp 65, .inp 72, q1_10]),
.bind 89 (.app (.cellset 0 12 1 0 1 7) [.inp 65, .inp 73, q1_10]),
.bind 90 (.app (.cellset 0 12 1 0 1 8) [.inp 65, .inp 74, q1_10]),
.bind 91 (.app (.cellset 0 12 1 0 1 9) [.inp 65, .inp 75, q1_10]),
.bind 92 (.app (.cellset 0 12 1 0 1 10) [.inp 65, .inp 76, q1_10]),
.bind 93 (.app (.cellset 0 12 1 0 1 11) [.inp 65, .inp 77, q1_10])] <|
 ck (.un .not) [bT] <|
 ck (.bin .add) [.inp 65, zi 1] <|
.again 0 (ap [q1_8] (ipx 82 12))))
 (ck (.eqa [ none, none, none, none, none, none, none, none, none, none, none, none] true) [.agg (ipx 66 12), q1_0] <|
.seg [.bind 78 (.app (.eqa [ none, none, none, none, none, none, none, none, none, none, none, none] true) [.agg (ipx 66 12), q1_0])] <|
.cond (.inp 78)
 (ck (.isAgg 12) [.agg (ipx 66 12)] <|
 ck (.bin .leq) [pt 7 (.inp 63), q1_11] <|
 ckg (q1_12) true (.inr 12) [pt 7 (.inp 63)] <|
 ckg (q1_12) true (.aidx 12 1 0 1 false) [.agg (ipx 66 12), pt 7 (.inp 63)] <|
 ck .pick [q1_12, q1_13, bF] <|
 ckg (q1_14) true (.bin .eql) [pt 7 (.inp 63), q1_11] <|
.seg [.chk [(q1_15, false), (q1_14, true)] (.bin .add) [pt 7 (.inp 63), zi 1]] <|
.seg [.chk [(q1_15, false), (q1_14, true)] (.inr 12) [q1_16]] <|
.seg [.chk [(q1_15, false), (q1_14, true)] (.aidx 12 1 0 1 false) [.agg (ipx 66 12), q1_16]] <|
 ckg (q1_14) true .pick [q1_15, bT, q1_17] <|
 ck .pick [q1_14, q1_18, bF] <|
 ckg (q1_19) true (.eidx 3) [pt 3 (.inp 63), pt 7 (.inp 63)] <|
 ckg (q1_19) true (.eoff 0) [q1_20] <|
 ckg (q1_19) true (.eload 1 false) [q1_21] <|
.cond (q1_19)
 (.seg [.call 79 [] 45 [.agg (ipx 0 11), .agg (ipx 11 29), q1_22] false] <|
 ck (.un .not) [.inp 79] <|
.seg [.bind 80 (q1_13),
.bind 81 (q1_14),
.bind 82 (q1_17),
.bind 83 (q1_18)] <|
.cond (.inp 79)
 (ck (.inr 12) [q1_11] <|
 ck (.aidx 12 1 0 1 false) [.agg (ipx 66 12), q1_11] <|
.seg [.bind 84 (q1_23)] <|
.cond (.inp 84)
 (.seg [.call 85 [] 68 [pt 21 (.inp 63)] false] <|
 ck .isOne [.inp 85] <|
 ckg (pt 20 (.inp 63)) false (.bin .geq) [.inp 85, .inp 8] <|
 ck .pick [pt 20 (.inp 63), bT, q1_24] <|
 ck .isOne [q1_25] <|
 ckg (q1_25) false (.bin .gtr) [pt 7 (.inp 63), q1_11] <|
 ck .pick [q1_25, bT, q1_26] <|
 ck .isOne [q1_27] <|
.seg [.bind 86 (q1_27)] <|
 ck (.isAgg 23) [q1_28] <|
.ret (q1_28))
 (ckg (pt 20 (.inp 63)) false (.bin .gtr) [pt 7 (.inp 63), q1_11] <|
 ck .pick [pt 20 (.inp 63), bT, q1_26] <|
 ck .isOne [q1_29] <|
.seg [.bind 85 (q1_29)] <|
 ck (.isAgg 23) [q1_30] <|
.ret (q1_30)))
 (ck (.bin .add) [pt 7 (.inp 63), zi 1] <|
 ck .isOne [q1_16] <|
.loop 0 84 [pt 7 (.inp 63), q1_12, q1_12, .inp 81, .inp 81, pt 7 (.inp 63), q1_20, q1_21, q1_22, pt 7 (.inp 63), q1_16, q1_16] <|
 ck (.bin .leq) [.inp 95, q1_11] <|
 ckg (q1_31) true (.inr 12) [.inp 95] <|
 ckg (q1_31) true (.aidx 12 1 0 1 false) [.agg (ipx 66 12), .inp 95] <|
 ck .pick [q1_31, q1_32, bF] <|
 ckg (q1_33) true (.bin .eql) [.inp 95, q1_11] <|
.seg [.chk [(q1_34, false), (q1_33, true)] (.bin .add) [.inp 95, zi 1]] <|
.seg [.chk [(q1_34, false), (q1_33, true)] (.inr 12) [q1_35]] <|
.seg [.chk [(q1_34, false), (q1_33, true)] (.aidx 12 1 0 1 false) [.agg (ipx 66 12), q1_35]] <|
 ckg (q1_33) true .pick [q1_34, bT, q1_36] <|
 ck .pick [q1_33, q1_37, bF] <|
 ckg (q1_38) true (.eidx 3) [pt 3 (.inp 63), .inp 95] <|
 ckg (q1_38) true (.eoff 0) [q1_39] <|
 ckg (q1_38) true (.eload 1 false) [q1_40] <|
.cond (q1_38)
 (.seg [.call 96 [] 45 [.agg (ipx 0 11), .agg (ipx 11 29), q1_41] false] <|
 ck (.un .not) [.inp 96] <|
.seg [.bind 97 (q1_32),
.bind 98 (q1_33),
.bind 99 (q1_36),
.bind 100 (q1_37)] <|
.cond (.inp 96)
 (ck (.inr 12) [q1_11] <|
 ck (.aidx 12 1 0 1 false) [.agg (ipx 66 12), q1_11] <|
.seg [.bind 101 (q1_23)] <|
.cond (.inp 101)
 (.seg [.call 102 [] 68 [pt 21 (.inp 63)] false] <|
 ck .isOne [.inp 102] <|
 ckg (pt 20 (.inp 63)) false (.bin .geq) [.inp 102, .inp 8] <|
 ck .pick [pt 20 (.inp 63), bT, q1_42] <|
 ck .isOne [q1_43] <|
 ckg (q1_43) false (.bin .gtr) [.inp 95, q1_11] <|
 ck .pick [q1_43, bT, q1_44] <|
 ck .isOne [q1_45] <|
.seg [.bind 103 (q1_45)] <|
 ck (.isAgg 23) [q1_46] <|
.ret (q1_46))
 (ckg (pt 20 (.inp 63)) false (.bin .gtr) [.inp 95, q1_11] <|
 ck .pick [pt 20 (.inp 63), bT, q1_44] <|
 ck .isOne [q1_47] <|
.seg [.bind 102 (q1_47)] <|
 ck (.isAgg 23) [q1_48] <|
.ret (q1_48)))
 (ck (.bin .add) [.inp 95, zi 1] <|
 ck .isOne [q1_35] <|
.again 0 [.inp 95, q1_31, q1_31, .inp 98, .inp 98, .inp 95, q1_39, q1_40, q1_41, .inp 95, q1_35, q1_35]))
 (.seg [.bind 96 (q1_32),
.bind 97 (q1_33),
.bind 98 (q1_36),
.bind 99 (q1_37)] <|
 ck (.inr 12) [q1_11] <|
 ck (.aidx 12 1 0 1 false) [.agg (ipx 66 12), q1_11] <|
.seg [.bind 100 (q1_23)] <|
.cond (.inp 100)
 (.seg [.call 101 [] 68 [pt 21 (.inp 63)] false] <|
 ck .isOne [.inp 101] <|
 ckg (pt 20 (.inp 63)) false (.bin .geq) [.inp 101, .inp 8] <|
 ck .pick [pt 20 (.inp 63), bT, q1_49] <|
 ck .isOne [q1_50] <|
 ckg (q1_50) false (.bin .gtr) [.inp 95, q1_11] <|
 ck .pick [q1_50, bT, q1_44] <|
 ck .isOne [q1_51] <|
.seg [.bind 102 (q1_51)] <|
 ck (.isAgg 23) [q1_52] <|
.ret (q1_52))
 (ckg (pt 20 (.inp 63)) false (.bin .gtr) [.inp 95, q1_11] <|
 ck .pick [pt 20 (.inp 63), bT, q1_44] <|
 ck .isOne [q1_47] <|
.seg [.bind 101 (q1_47)] <|
 ck (.isAgg 23) [q1_53] <|
.ret (q1_53)))))
 (.seg [.bind 79 (q1_13),
.bind 80 (q1_14),
.bind 81 (q1_17),
.bind 82 (q1_18)] <|
 ck (.inr 12) [q1_11] <|
 ck (.aidx 12 1 0 1 false) [.agg (ipx 66 12), q1_11] <|
.seg [.bind 83 (q1_23)] <|
.cond (.inp 83)
 (.seg [.call 84 [] 68 [pt 21 (.inp 63)] false] <|
 ck .isOne [.inp 84] <|
 ckg (pt 20 (.inp 63)) false (.bin .geq) [.inp 84, .inp 8] <|
 ck .pick [pt 20 (.inp 63), bT, q1_54] <|
 ck .isOne [q1_55] <|
 ckg (q1_55) false (.bin .gtr) [pt 7 (.inp 63), q1_11] <|
 ck .pick [q1_55, bT, q1_26] <|
 ck .isOne [q1_56] <|
.seg [.bind 85 (q1_56)] <|
 ck (.isAgg 23) [q1_57] <|
.ret (q1_57))
 (ckg (pt 20 (.inp 63)) false (.bin .gtr) [pt 7 (.inp 63), q1_11] <|
 ck .pick [pt 20 (.inp 63), bT, q1_26] <|
 ck .isOne [q1_29] <|
.seg [.bind 84 (q1_29)] <|
 ck (.isAgg 23) [q1_58] <|
.ret (q1_58))))
 (ck (.bin .leq) [pt 7 (.inp 63), q1_11] <|
 ckg (q1_12) true (.inr 12) [pt 7 (.inp 63)] <|
 ckg (q1_12) true (.aidx 12 1 0 1 false) [.agg (ipx 66 12), pt 7 (.inp 63)] <|
 ck .pick [q1_12, q1_13, bF] <|
 ckg (q1_14) true (.bin .eql) [pt 7 (.inp 63), q1_11] <|
.seg [.chk [(q1_15, false), (q1_14, true)] (.bin .add) [pt 7 (.inp 63), zi 1]] <|
.seg [.chk [(q1_15, false), (q1_14, true)] (.inr 12) [q1_16]] <|
.seg [.chk [(q1_15, false), (q1_14, true)] (.aidx 12 1 0 1 false) [.agg (ipx 66 12), q1_16]] <|
 ckg (q1_14) true .pick [q1_15, bT, q1_17] <|
 ck .pick [q1_14, q1_18, bF] <|
 ckg (q1_19) true (.eidx 3) [pt 3 (.inp 63), pt 7 (.inp 63)] <|
 ckg (q1_19) true (.eoff 0) [q1_20] <|
 ckg (q1_19) true (.eload 1 false) [q1_21] <|
.cond (q1_19)
 (.seg [.call 79 [] 45 [.agg (ipx 0 11), .agg (ipx 11 29), q1_22] false] <|
 ck (.un .not) [.inp 79] <|
.seg [.bind 80 (q1_13),
.bind 81 (q1_14),
.bind 82 (q1_17),
.bind 83 (q1_18)] <|
.cond (.inp 79)
 (ck (.inr 12) [q1_11] <|
 ck (.aidx 12 1 0 1 false) [.agg (ipx 66 12), q1_11] <|
.seg [.bind 84 (q1_23)] <|
.cond (.inp 84)
 (.seg [.call 85 [] 68 [pt 21 (.inp 63)] false] <|
 ck .isOne [.inp 85] <|
 ckg (pt 20 (.inp 63)) false (.bin .geq) [.inp 85, .inp 8] <|
 ck .pick [pt 20 (.inp 63), bT, q1_24] <|
 ck .isOne [q1_25] <|
 ckg (q1_25) false (.bin .gtr) [pt 7 (.inp 63), q1_11] <|
 ck .pick [q1_25, bT, q1_26] <|
 ck .isOne [q1_27] <|
.seg [.bind 86 (q1_27)] <|
 ck (.isAgg 23) [q1_59] <|
.ret (q1_59))
 (ckg (pt 20 (.inp 63)) false (.bin .gtr) [pt 7 (.inp 63), q1_11] <|
 ck .pick [pt 20 (.inp 63), bT, q1_26] <|
 ck .isOne [q1_29] <|
.seg [.bind 85 (q1_29)] <|
 ck (.isAgg 23) [q1_60] <|
.ret (q1_60)))
 (ck (.bin .add) [pt 7 (.inp 63), zi 1] <|
 ck .isOne [q1_16] <|
.loop 0 84 [pt 7 (.inp 63), q1_12, q1_12, .inp 81, .inp 81, pt 7 (.inp 63), q1_20, q1_21, q1_22, pt 7 (.inp 63), q1_16, q1_16] <|
 ck (.bin .leq) [.inp 95, q1_11] <|
 ckg (q1_31) true (.inr 12) [.inp 95] <|
 ckg (q1_31) true (.aidx 12 1 0 1 false) [.agg (ipx 66 12), .inp 95] <|
 ck .pick [q1_31, q1_32, bF] <|
 ckg (q1_33) true (.bin .eql) [.inp 95, q1_11] <|
.seg [.chk [(q1_34, false), (q1_33, true)] (.bin .add) [.inp 95, zi 1]] <|
.seg [.chk [(q1_34, false), (q1_33, true)] (.inr 12) [q1_35]] <|
.seg [.chk [(q1_34, false), (q1_33, true)] (.aidx 12 1 0 1 false) [.agg (ipx 66 12), q1_35]] <|
 ckg (q1_33) true .pick [q1_34, bT, q1_36] <|
 ck .pick [q1_33, q1_37, bF] <|
 ckg (q1_38) true (.eidx 3) [pt 3 (.inp 63), .inp 95] <|
 ckg (q1_38) true (.eoff 0) [q1_39] <|
 ckg (q1_38) true (.eload 1 false) [q1_40] <|
.cond (q1_38)
 (.seg [.call 96 [] 45 [.agg (ipx 0 11), .agg (ipx 11 29), q1_41] false] <|
 ck (.un .not) [.inp 96] <|
.seg [.bind 97 (q1_32),
.bind 98 (q1_33),
.bind 99 (q1_36),
.bind 100 (q1_37)] <|
.cond (.inp 96)
 (ck (.inr 12) [q1_11] <|
 ck (.aidx 12 1 0 1 false) [.agg (ipx 66 12), q1_11] <|
.seg [.bind 101 (q1_23)] <|
.cond (.inp 101)
 (.seg [.call 102 [] 68 [pt 21 (.inp 63)] false] <|
 ck .isOne [.inp 102] <|
 ckg (pt 20 (.inp 63)) false (.bin .geq) [.inp 102, .inp 8] <|
 ck .pick [pt 20 (.inp 63), bT, q1_42] <|
 ck .isOne [q1_43] <|
 ckg (q1_43) false (.bin .gtr) [.inp 95, q1_11] <|
 ck .pick [q1_43, bT, q1_44] <|
 ck .isOne [q1_45] <|
.seg [.bind 103 (q1_45)] <|
 ck (.isAgg 23) [q1_61] <|
.ret (q1_61))
 (ckg (pt 20 (.inp 63)) false (.bin .gtr) [.inp 95, q1_11] <|
 ck .pick [pt 20 (.inp 63), bT, q1_44] <|
 ck .isOne [q1_47] <|
.seg [.bind 102 (q1_47)] <|
 ck (.isAgg 23) [q1_62] <|
.ret (q1_62)))
 (ck (.bin .add) [.inp 95, zi 1] <|
 ck .isOne [q1_35] <|
.again 0 [.inp 95, q1_31, q1_31, .inp 98, .inp 98, .inp 95, q1_39, q1_40, q1_41, .inp 95, q1_35, q1_35]))
 (.seg [.bind 96 (q1_32),
.bind 97 (q1_33),
.bind 98 (q1_36),
.bind 99 (q1_37)] <|
 ck (.inr 12) [q1_11] <|
 ck (.aidx 12 1 0 1 false) [.agg (ipx 66 12), q1_11] <|
.seg [.bind 100 (q1_23)] <|
.cond (.inp 100)
 (.seg [.call 101 [] 68 [pt 21 (.inp 63)] false] <|
 ck .isOne [.inp 101] <|
 ckg (pt 20 (.inp 63)) false (.bin .geq) [.inp 101, .inp 8] <|
 ck .pick [pt 20 (.inp 63), bT, q1_49] <|
 ck .isOne [q1_50] <|
 ckg (q1_50) false (.bin .gtr) [.inp 95, q1_11] <|
 ck .pick [q1_50, bT, q1_44] <|
 ck .isOne [q1_51] <|
.seg [.bind 102 (q1_51)] <|
 ck (.isAgg 23) [q1_63] <|
.ret (q1_63))
 (ckg (pt 20 (.inp 63)) false (.bin .gtr) [.inp 95, q1_11] <|
 ck .pick [pt 20 (.inp 63), bT, q1_44] <|
 ck .isOne [q1_47] <|
.seg [.bind 101 (q1_47)] <|
 ck (.isAgg 23) [q1_64] <|
.ret (q1_64)))))
 (.seg [.bind 79 (q1_13),
.bind 80 (q1_14),
.bind 81 (q1_17),
.bind 82 (q1_18)] <|
 ck (.inr 12) [q1_11] <|
 ck (.aidx 12 1 0 1 false) [.agg (ipx 66 12), q1_11] <|
.seg [.bind 83 (q1_23)] <|
.cond (.inp 83)
 (.seg [.call 84 [] 68 [pt 21 (.inp 63)] false] <|
 ck .isOne [.inp 84] <|
 ckg (pt 20 (.inp 63)) false (.bin .geq) [.inp 84, .inp 8] <|
 ck .pick [pt 20 (.inp 63), bT, q1_54] <|
 ck .isOne [q1_55] <|
 ckg (q1_55) false (.bin .gtr) [pt 7 (.inp 63), q1_11] <|
 ck .pick [q1_55, bT, q1_26] <|
 ck .isOne [q1_56] <|
.seg [.bind 85 (q1_56)] <|
 ck (.isAgg 23) [q1_65] <|
.ret (q1_65))
 (ckg (pt 20 (.inp 63)) false (.bin .gtr) [pt 7 (.inp 63), q1_11] <|
 ck .pick [pt 20 (.inp 63), bT, q1_26] <|
 ck .isOne [q1_29] <|
.seg [.bind 84 (q1_29)] <|
 ck (.isAgg 23) [q1_66] <|
.ret (q1_66))))))
theorem run_pass_Run : runF E 37 [.agg (ips 0 11), .agg (ips 11 29), .agg (ips 40 23)] 63 = rt_pass_Run := by kernel_rfl
def rt_lockbarref03_Late : RT :=
 ck (.bin .gtr) [.inp 0, .inp 1] <|
.ret (bi .gtr (.inp 0) (.inp 1))
theorem run_lockbarref03_Late : runF E 53 [.inp 0, .inp 1] 2 = rt_lockbarref03_Late := by kernel_rfl
def rt_lockbarref03_within : RT :=
 ck (.mm true) [.inp 0, zi 0] <|
 ck (.mm false) [q1_67, .inp 1] <|
.ret (.app (.mm false) [q1_67, .inp 1])
theorem run_lockbarref03_within : runF E 92 [.inp 0, .inp 1] 2 = rt_lockbarref03_within := by kernel_rfl
def rt_lockbarref03_Clock : RT :=
.seg [.call 1 [] 92 [.inp 0, zi 1073741824] false] <|
.ret (.inp 1)
theorem run_lockbarref03_Clock : runF E 81 [.inp 0] 1 = rt_lockbarref03_Clock := by kernel_rfl
def rt_lockbarref03_Next : RT :=
.seg [.call 1 [] 81 [.inp 0] false] <|
 ck (.bin .add) [.inp 1, zi 1] <|
 ck (.mm false) [bi .add (.inp 1) (zi 1), zi 1073741824] <|
.ret (.app (.mm false) [bi .add (.inp 1) (zi 1), zi 1073741824])
theorem run_lockbarref03_Next : runF E 54 [.inp 0] 1 = rt_lockbarref03_Next := by kernel_rfl
def rt_lockbarref03_Count : RT :=
.seg [.call 1 [] 92 [.inp 0, zi 65535] false] <|
.ret (.inp 1)
theorem run_lockbarref03_Count : runF E 102 [.inp 0] 1 = rt_lockbarref03_Count := by kernel_rfl
def rt_lockbarref03_More : RT :=
.seg [.call 2 [] 102 [.inp 0] false] <|
.seg [.call 3 [] 102 [.inp 1] false] <|
 ck (.bin .add) [.inp 2, .inp 3] <|
 ck (.mm false) [q1_68, zi 65535] <|
.ret (.app (.mm false) [q1_68, zi 65535])
theorem run_lockbarref03_More : runF E 91 [.inp 0, .inp 1] 2 = rt_lockbarref03_More := by kernel_rfl
def rt_lockbarref03_Row : RT :=
 ck (.un .not) [.inp 0] <|
.cond (.inp 0)
 (.seg [.call 2 [] 91 [.inp 1, zi 1] false] <|
.ret (.inp 2))
 (.ret (zi 0))
theorem run_lockbarref03_Row : runF E 80 [.inp 0, .inp 1] 2 = rt_lockbarref03_Row := by kernel_rfl
def rt_lockbarref11_Own : RT :=
 ck (.isAgg 3) [q1_69] <|
.seg [.chk [] (.szs 3) [.inp 2],
.chk [] .app [.app .lst [], .inp 2]] <|
 ck (.isAgg 3) [.agg [.inp 0, .inp 1, .row 10]] <|
.ret (.agg [.inp 0, .inp 1, .app .app [.app .lst [], .inp 2]])
theorem run_lockbarref11_Own : runF E 69 [.agg [.inp 0, .inp 1, .inp 2]] 3 = rt_lockbarref11_Own := by kernel_rfl
def rt_lockbarref11_Steps : RT :=
 ck .len [.inp 0] <|
 ck .len [.inp 1] <|
 ck (.bin .neq) [ln (.inp 0), ln (.inp 1)] <|
.cond (bi .neq (ln (.inp 0)) (ln (.inp 1)))
 (.ret (bF))
 (.loop 0 2 [zi 0] <|
 ck .len [.inp 0] <|
 ck (.bin .lss) [.inp 2, ln (.inp 0)] <|
.cond (q1_70)
 (.seg [.chk [] (.eidx 3) [.inp 0, .inp 2],
.chk [] (.eload 3 true) [ei 3 (.inp 0) (.inp 2)],
.chk [] (.eidx 3) [.inp 1, .inp 2],
.chk [] (.eload 3 true) [ei 3 (.inp 1) (.inp 2)],
.chk [] (.eqa [ some .i64, some .i64, some .i64] true) [q1_71, q1_72]] <|
.cond (.app (.eqa [ some .i64, some .i64, some .i64] true) [q1_71, q1_72])
 (.ret (bF))
 (ck (.bin .add) [.inp 2, zi 1] <|
.again 0 [bi .add (.inp 2) (zi 1)]))
 (.ret (bT)))
theorem run_lockbarref11_Steps : runF E 42 [.inp 0, .inp 1] 2 = rt_lockbarref11_Steps := by kernel_rfl
def rt_lockbarref11_Same : RT :=
 ck (.isAgg 3) [q1_69] <|
 ck (.isAgg 3) [.agg [.inp 3, .inp 4, .inp 5]] <|
 ck (.bin .eql) [.inp 0, .inp 3] <|
 ckg (q1_73) true (.bin .eql) [.inp 1, .inp 4] <|
 ck .pick [q1_73, q1_74, bF] <|
.seg [.call 6 [(q1_75, true)] 42 [.inp 2, .inp 5] false] <|
 ck .pick [q1_75, .inp 6, bF] <|
.seg [.bind 7 (pk q1_75 (.inp 6) bF)] <|
.ret (.inp 7)
theorem run_lockbarref11_Same : runF E 41 [.agg [.inp 0, .inp 1, .inp 2], .agg [.inp 3, .inp 4, .inp 5]] 6 = rt_lockbarref11_Same := by kernel_rfl
def rt_lockbarref15_New : RT :=
.ret (.agg [zi 65535, zi 0, zi 0, zi 0, zi 0, zi 0, zi 0, zi 0, zi 0, zi 0, zi 0, zi 0, zi 0, zi 0, zi 0, zi 0, zi 0, zi 0, zi 0, zi 0, zi 0, zi 0, zi 0, zi 0, zi 0, .int .u32 0, .int .u32 0, .int .u32 0, .int .u32 0])
theorem run_lockbarref15_New : runF E 22 [] 0 = rt_lockbarref15_New := by kernel_rfl
def rt_lockbarref15_bit : RT :=
 ck (.bin .geq) [.inp 1, zi 0] <|
 ckg (bi .geq (.inp 1) (zi 0)) true (.bin .lss) [.inp 1, zi 32] <|
 ck .pick [bi .geq (.inp 1) (zi 0), q1_76, bF] <|
 ckg (q1_77) true (.conv .u64) [.inp 1] <|
 ckg (q1_77) true (.bin .shr) [.inp 0, q1_78] <|
 ckg (q1_77) true (.bin .and) [q1_79, .int .u32 1] <|
 ckg (q1_77) true (.bin .eql) [q1_80, .int .u32 1] <|
 ck .pick [q1_77, q1_81, bF] <|
.seg [.bind 2 (pk q1_77 q1_81 bF)] <|
.ret (.inp 2)
theorem run_lockbarref15_bit : runF E 52 [.inp 0, .inp 1] 2 = rt_lockbarref15_bit := by kernel_rfl
def rt_lockbarref15_Stale : RT :=
 ck (.isAgg 11) [.agg (ipx 0 11)] <|
 ck (.isAgg 29) [.agg (ipx 11 29)] <|
.seg [.call 40 [] 53 [.inp 11, .inp 6] false] <|
.ret (.inp 40)
theorem run_lockbarref15_Stale : runF E 25 [.agg (ips 0 11), .agg (ips 11 29)] 40 = rt_lockbarref15_Stale := by kernel_rfl
def rt_lockbarref15_rows : RT :=
 ck (.isAgg 11) [.agg (ipx 0 11)] <|
 ck (.isAgg 29) [.agg (ipx 11 29)] <|
.loop 0 40 (ap [zi 0] (ipx 12 24)) <|
 ck (.bin .lss) [.inp 40, zi 24] <|
.cond (q1_82)
 (.seg [.call 65 [] 25 [.agg (ipx 0 11), q1_83] false,
.chk [] (.un .not) [.inp 65],
.call 66 [(nt (.inp 65), true)] 52 [.inp 36, .inp 40] false,
.chk [(nt (.inp 65), true)] (.un .not) [.inp 66],
.chk [] .pick [nt (.inp 65), nt (.inp 66), bF],
.chk [] (.inr 24) [.inp 40],
.chk [] (.aidx 24 1 1 1 false) [q1_83, .inp 40],
.call 67 [] 80 [pk (nt (.inp 65)) (nt (.inp 66)) bF, q1_84] false,
.chk [] (.inr 24) [.inp 40],
.chk [] (.inr 24) [.inp 40],
.chk [] .isOne [.inp 67]] <|
.seg [.bind 68 (q1_84)] <|
 ck (.bin .add) [.inp 40, zi 1] <|
.again 0 [bi .add (.inp 40) (zi 1), .app (.cellset 1 24 1 0 1 1) [.inp 40, .inp 41, .agg [.inp 67]], .app (.cellset 1 24 1 0 1 2) [.inp 40, .inp 42, .agg [.inp 67]], .app (.cellset 1 24 1 0 1 3) [.inp 40, .inp 43, .agg [.inp 67]], .app (.cellset 1 24 1 0 1 4) [.inp 40, .inp 44, .agg [.inp 67]], .app (.cellset 1 24 1 0 1 5) [.inp 40, .inp 45, .agg [.inp 67]], .app (.cellset 1 24 1 0 1 6) [.inp 40, .inp 46, .agg [.inp 67]], .app (.cellset 1 24 1 0 1 7) [.inp 40, .inp 47, .agg [.inp 67]], .app (.cellset 1 24 1 0 1 8) [.inp 40, .inp 48, .agg [.inp 67]], .app (.cellset 1 24 1 0 1 9) [.inp 40, .inp 49, .agg [.inp 67]], .app (.cellset 1 24 1 0 1 10) [.inp 40, .inp 50, .agg [.inp 67]], .app (.cellset 1 24 1 0 1 11) [.inp 40, .inp 51, .agg [.inp 67]], .app (.cellset 1 24 1 0 1 12) [.inp 40, .inp 52, .agg [.inp 67]], .app (.cellset 1 24 1 0 1 13) [.inp 40, .inp 53, .agg [.inp 67]], .app (.cellset 1 24 1 0 1 14) [.inp 40, .inp 54, .agg [.inp 67]], .app (.cellset 1 24 1 0 1 15) [.inp 40, .inp 55, .agg [.inp 67]], .app (.cellset 1 24 1 0 1 16) [.inp 40, .inp 56, .agg [.inp 67]], .app (.cellset 1 24 1 0 1 17) [.inp 40, .inp 57, .agg [.inp 67]], .app (.cellset 1 24 1 0 1 18) [.inp 40, .inp 58, .agg [.inp 67]], .app (.cellset 1 24 1 0 1 19) [.inp 40, .inp 59, .agg [.inp 67]], .app (.cellset 1 24 1 0 1 20) [.inp 40, .inp 60, .agg [.inp 67]], .app (.cellset 1 24 1 0 1 21) [.inp 40, .inp 61, .agg [.inp 67]], .app (.cellset 1 24 1 0 1 22) [.inp 40, .inp 62, .agg [.inp 67]], .app (.cellset 1 24 1 0 1 23) [.inp 40, .inp 63, .agg [.inp 67]], .app (.cellset 1 24 1 0 1 24) [.inp 40, .inp 64, .agg [.inp 67]]])
 (ck (.isAgg 29) [q1_83] <|
.ret (q1_83))
theorem run_lockbarref15_rows : runF E 51 [.agg (ips 0 11), .agg (ips 11 29)] 40 = rt_lockbarref15_rows := by kernel_rfl
def rt_lockbarref15_Take : RT :=
 ck (.isAgg 11) [.agg (ipx 0 11)] <|
 ck (.isAgg 29) [.agg (ipx 11 29)] <|
 ck (.isAgg 4) [.agg (ipx 40 4)] <|
 ck (.isAgg 4) [.agg (ipx 40 4)] <|
.seg [.call 44 [] 51 [.agg (ipx 0 11), .agg (ap [zi 0] (ap (ipx 12 24) (ipx 40 4)))] false] <|
 ck (.isAgg 29) [.inp 44] <|
.ret (.agg (ptx (.inp 44) 0 29))
theorem run_lockbarref15_Take : runF E 21 [.agg (ips 0 11), .agg (ips 11 29), .agg (ips 40 4)] 44 = rt_lockbarref15_Take := by kernel_rfl
def rt_lockbarref15_Occupied : RT :=
 ck (.isAgg 11) [.agg (ipx 0 11)] <|
 ck (.isAgg 29) [.agg (ipx 11 29)] <|
 ck (.bin .lss) [.inp 40, zi 0] <|
 ckg (q1_85) false .len [.inp 0] <|
 ckg (q1_85) false (.bin .geq) [.inp 40, ln (.inp 0)] <|
 ck .pick [q1_85, bT, q1_86] <|
 ckg (q1_87) false (.bin .geq) [.inp 40, zi 24] <|
 ck .pick [q1_87, bT, q1_88] <|
.seg [.bind 41 (pk q1_87 bT q1_88)] <|
.cond (.inp 41)
 (.ret (bT))
 (.seg [.call 42 [] 25 [.agg (ipx 0 11), .agg (ipx 11 29)] false,
.call 43 [(.inp 42, false)] 52 [.inp 36, .inp 40] false,
.chk [] .pick [.inp 42, bT, .inp 43],
.chk [(q1_89, false)] (.inr 24) [.inp 40],
.chk [(q1_89, false)] (.aidx 24 1 1 1 false) [.agg (ipx 11 29), .inp 40],
.chk [(q1_89, false)] (.bin .lss) [q1_90, .inp 4],
.chk [] .pick [q1_89, bT, q1_91]] <|
.seg [.bind 44 (pk q1_89 bT q1_91),
.bind 45 (q1_90),
.bind 46 (q1_91)] <|
.ret (.inp 44))
theorem run_lockbarref15_Occupied : runF E 23 [.agg (ips 0 11), .agg (ips 11 29), .inp 40] 41 = rt_lockbarref15_Occupied := by kernel_rfl
def rt_lockbarref15_Told : RT :=
 ck (.isAgg 11) [.agg (ipx 0 11)] <|
 ck (.isAgg 29) [.agg (ipx 11 29)] <|
 ck (.bin .geq) [.inp 40, zi 0] <|
 ckg (q1_92) true .len [.inp 0] <|
 ckg (q1_92) true (.bin .lss) [.inp 40, ln (.inp 0)] <|
 ck .pick [q1_92, q1_93, bF] <|
 ckg (q1_94) true (.bin .lss) [.inp 40, zi 24] <|
 ck .pick [q1_94, q1_82, bF] <|
.seg [.call 41 [(q1_95, true)] 25 [.agg (ipx 0 11), .agg (ipx 11 29)] false] <|
 ckg (q1_95) true (.un .not) [.inp 41] <|
 ck .pick [q1_95, nt (.inp 41), bF] <|
.seg [.call 42 [(q1_96, true)] 52 [.inp 36, .inp 40] false] <|
 ck .pick [q1_96, .inp 42, bF] <|
.seg [.bind 43 (pk q1_96 (.inp 42) bF),
.bind 44 (q1_95),
.bind 45 (q1_96)] <|
.ret (.inp 43)
theorem run_lockbarref15_Told : runF E 24 [.agg (ips 0 11), .agg (ips 11 29), .inp 40] 41 = rt_lockbarref15_Told := by kernel_rfl
def rt_lockbarref17_clash : RT :=
.loop 0 2 [zi 0] <|
 ck .len [.inp 0] <|
 ck (.bin .lss) [.inp 2, ln (.inp 0)] <|
.cond (q1_70)
 (.loop 1 3 [zi 0] <|
 ck .len [.inp 1] <|
 ck (.bin .lss) [.inp 3, ln (.inp 1)] <|
.cond (bi .lss (.inp 3) (ln (.inp 1)))
 (.seg [.chk [] (.eidx 3) [.inp 0, .inp 2],
.chk [] (.eoff 0) [ei 3 (.inp 0) (.inp 2)],
.chk [] (.eload 1 false) [q1_97],
.chk [] (.eidx 3) [.inp 1, .inp 3],
.chk [] (.eoff 0) [ei 3 (.inp 1) (.inp 3)],
.chk [] (.eload 1 false) [q1_98],
.chk [] (.bin .eql) [q1_99, q1_100],
.chk [(q1_101, true)] (.eidx 3) [.inp 0, .inp 2],
.chk [(q1_101, true)] (.eoff 1) [ei 3 (.inp 0) (.inp 2)],
.chk [(q1_101, true)] (.eload 1 false) [q1_102],
.chk [(q1_101, true)] (.eidx 3) [.inp 1, .inp 3],
.chk [(q1_101, true)] (.eoff 1) [ei 3 (.inp 1) (.inp 3)],
.chk [(q1_101, true)] (.eload 1 false) [q1_103],
.chk [(q1_101, true)] (.bin .neq) [q1_104, q1_105],
.chk [] .pick [q1_101, q1_106, bF]] <|
.seg [.bind 4 (q1_101),
.bind 5 (q1_106),
.bind 6 (pk q1_101 q1_106 bF)] <|
.cond (.inp 6)
 (.ret (bT))
 (ck (.bin .add) [.inp 3, zi 1] <|
.again 1 [bi .add (.inp 3) (zi 1)]))
 (ck (.bin .add) [.inp 2, zi 1] <|
.again 0 [bi .add (.inp 2) (zi 1)]))
 (.ret (bF))
theorem run_lockbarref17_clash : runF E 75 [.inp 0, .inp 1] 2 = rt_lockbarref17_clash := by kernel_rfl
end
end Go.Lb.LK
