/- The forms of what functions hand back that hand back functions. -/
import Derived.Test.YtmaldhbaihlmbaaGreatDoorFw6
import Derived.Test.YtmaldhbaihlmbaaGreatDoorFw11
import Derived.Test.YtmaldhbaihlmbaaGreatDoorProg
import Derived.KernelRfl
set_option linter.unusedSimpArgs false
set_option linter.unusedVariables false
namespace Go.Lb
def prt (e : SE) (k : Nat) : SE := match e with
 | .agg cs => cs.getD k .undef
 | e => .app (.part k 1 false) [e]
def zkU (bit bit1 clear clear1 : Nat) (f : Nat) (args : List SE) : Option SE :=
 if Nat.beq f bit = true then match args with
  | [x] => some (.clo bit1 [] [.ref [x] 0])
  | _ => none
 else if Nat.beq f clear = true then match args with
  | [l, im] => some (.clo clear1 [] [.ref [.app (.bin .lss) [prt l 6, prt im 0]] 0, .ref [.clo bit1 [] [.ref [prt im 25] 0]] 0])
  | _ => none
 else none
end Go.Lb
namespace Go.Lb.LK
open Go Go.Lb Go.Proofs
noncomputable abbrev PR : Program := Tryz.prog
abbrev f_lockbarlaw18_FreeApart : Nat := 4
abbrev f_lockbarlaw18_FreeOne : Nat := 5
abbrev f_lockbarlaw18_FreeMeets : Nat := 7
abbrev f_lockbarref06_Great : Nat := 8
abbrev f_lockbarlaw18_wakes : Nat := 11
abbrev f_free_Holder : Nat := 12
abbrev f_free_Wanted : Nat := 14
abbrev f_free_Locked : Nat := 16
abbrev f_free_Free : Nat := 18
abbrev f_free_Meets : Nat := 20
abbrev f_free_Can : Nat := 22
abbrev f_free_Right : Nat := 24
abbrev f_lockbarref18_Right : Nat := 25
abbrev f_free_Same : Nat := 26
abbrev f_free_Own : Nat := 28
abbrev f_lockbarref11_Is : Nat := 29
abbrev f_lockbarref13_Fine : Nat := 30
abbrev f_lockbarref10_Over : Nat := 31
abbrev f_lockbarref13_Of : Nat := 32
abbrev f_lockbarref17_Apart : Nat := 33
abbrev f_lockbarref15_Occupied : Nat := 34
abbrev f_lockbarref15_Stale : Nat := 35
abbrev f_lockbarref17_Has : Nat := 36
abbrev f_lockbarref17_Wants : Nat := 37
abbrev f_lockbarref15_At : Nat := 38
abbrev f_lockbarlaw18_two : Nat := 39
abbrev f_lockbarlaw18_rest : Nat := 40
abbrev f_lockbarref15_New : Nat := 41
abbrev f_held_Wants : Nat := 43
abbrev f_image_Occupied : Nat := 46
abbrev f_image_At : Nat := 47
abbrev f_beyond_Over : Nat := 52
abbrev f_need_Of : Nat := 54
abbrev f_held_Apart : Nat := 56
abbrev f_held_Right : Nat := 57
abbrev f_point_Right : Nat := 60
abbrev f_lockbarref17_Right : Nat := 61
abbrev f_lockbarref16_Right : Nat := 62
abbrev f_held_Same : Nat := 64
abbrev f_held_Own : Nat := 67
abbrev f_lockbarref11_Check : Nat := 68
abbrev f_lockbarref13_Clash : Nat := 69
abbrev f_lockbarref10_Wants : Nat := 70
abbrev f_lockbarref17_Sections : Nat := 71
abbrev f_lockbarref17_clash : Nat := 72
abbrev f_lockbarref17_Needs : Nat := 73
abbrev f_lockbarref15_bit : Nat := 74
abbrev f_lockbarref03_Late : Nat := 75
abbrev f_lockbarref15_Take : Nat := 76
abbrev f_held_Has : Nat := 78
abbrev f_held_Needs : Nat := 79
abbrev f_image_clear : Nat := 80
abbrev f_image_Stale : Nat := 81
abbrev f_image_bit : Nat := 82
abbrev f_slices_Clone_Step : Nat := 84
abbrev f_beyond_Wants : Nat := 87
abbrev f_held_clash : Nat := 89
abbrev f_slices_Concat_Step : Nat := 90
abbrev f_slices_Sort_int : Nat := 91
abbrev f_slices_Compact_int : Nat := 92
abbrev f_point_position : Nat := 93
abbrev f_point_Rest : Nat := 94
abbrev f_lockbarref16_Rest : Nat := 95
abbrev f_route_Same : Nat := 96
abbrev f_slices_Equal_Step : Nat := 97
abbrev f_slices_Equal_Need : Nat := 98
abbrev f_route_Own : Nat := 102
abbrev f_slices_Clone_Need : Nat := 103
abbrev f_lockbarref09_Right : Nat := 104
abbrev f_lockbarref11_Goes : Nat := 105
abbrev f_lockbarref11_simple : Nat := 106
abbrev f_lockbarref11_Through : Nat := 107
abbrev f_lockbarref06_Signal : Nat := 108
abbrev f_lockbarref10_Point : Nat := 109
abbrev f_lockbarref06_Step : Nat := 110
abbrev f_lockbarref15_rows : Nat := 111
abbrev f_held_Sections : Nat := 113
abbrev f_image_clear_1 : Nat := 115
abbrev f_tick_Late : Nat := 116
abbrev f_image_bit_1 : Nat := 117
abbrev f_beyond_Point : Nat := 119
abbrev f_mathbits_Len : Nat := 127
abbrev f_lockbarref09_Check : Nat := 128
abbrev f_lockbarref07_Beyond : Nat := 129
abbrev f_lockbarref10_there : Nat := 130
abbrev f_lockbarref05_Pos : Nat := 131
abbrev f_lockbarref05_Way : Nat := 132
abbrev f_lockbarref03_Row : Nat := 133
abbrev f_layout_Step : Nat := 136
abbrev f_port_Pos : Nat := 137
abbrev f_lockbarref06_Right : Nat := 150
abbrev f_lockbarref07_Joined : Nat := 151
abbrev f_lockbarref09_signals : Nat := 152
abbrev f_lockbarref09_exits : Nat := 153
abbrev f_lockbarref09_overs : Nat := 154
abbrev f_lockbarref09_flanks : Nat := 155
abbrev f_lockbarref07_Has : Nat := 156
abbrev f_lockbarref07_none : Nat := 157
abbrev f_lockbarref05_Ways : Nat := 158
abbrev f_lockbarref05_Ends : Nat := 159
abbrev f_lockbarref03_More : Nat := 160
abbrev f_port_Way : Nat := 162
abbrev f_port_of : Nat := 163
abbrev f_lockbarref06_section : Nat := 170
abbrev f_lockbarref06_there : Nat := 171
abbrev f_lockbarref06_exit : Nat := 172
abbrev f_lockbarref06_flank : Nat := 173
abbrev f_lockbarref06_times : Nat := 174
abbrev f_lockbarref05_Right : Nat := 175
abbrev f_lockbarref05_Ports : Nat := 176
abbrev f_lockbarref09_Over : Nat := 177
abbrev f_lockbarref03_Count : Nat := 178
abbrev f_lockbarref06_At : Nat := 181
abbrev f_lockbarref05_May : Nat := 182
abbrev f_lockbarref03_within : Nat := 183
noncomputable def zpD : List Hint :=
 [⟨126, 2, ⟨134, [sL 0 .nils, sL 1 (zi 0), sL 2 (zi 0), sL 3 (.inp 0), sL 8 bT, sL 9 bT], [], 1, 22, []⟩, 0⟩, ⟨139, 1, ⟨49, [sL 0 .nils, sL 1 (zi 0), sL 2 (zi 0), sL 6 (zi 1)], [], 1, 48, []⟩, 0⟩]
def inlS : List Nat := [126, 139, 140, 141, 142, 143, 144, 146, 147, 164, 167, 168, 180, 165, 166, 145, 169]
def scal : List Nat := [0, 1, 2, 3, 4, 5, 6, 7, 8, 9, 10, 11, 12, 13, 14, 15, 16, 17, 18, 19, 20, 21, 22, 23, 24, 25, 26, 27, 29, 30, 33, 34, 35, 36, 37, 38, 41, 43, 44, 45, 46, 47, 48, 49, 50, 51, 53, 55, 56, 57, 58, 59, 60, 61, 62, 63, 64, 65, 68, 69, 72, 74, 75, 76, 77, 78, 81, 83, 85, 89, 91, 93, 94, 95, 96, 97, 98, 99, 100, 101, 104, 105, 106, 107, 108, 109, 110, 111, 112, 115, 116, 117, 118, 119, 121, 122, 123, 124, 126, 127, 128, 129, 130, 131, 132, 133, 134, 135, 136, 137, 138, 139, 140, 141, 142, 143, 144, 145, 146, 147, 148, 149, 150, 151, 152, 153, 154, 155, 156, 157, 158, 159, 160, 161, 162, 163, 164, 165, 166, 167, 168, 169, 170, 171, 172, 173, 174, 175, 176, 177, 178, 180, 181, 182, 183, 184, 186, 188, 190, 192, 194, 196, 197, 199, 201, 202, 203, 204]
def GL : Glob := [[.int .i64 0, .int .i64 0, .int .i64 0, .int .i64 0, .int .i64 0, .int .i64 0, .bool false, .int .i64 2, .int .i64 0, .int .i64 1, .int .i64 0, .int .i64 0, .int .i64 1, .bool false, .int .i64 3, .int .i64 0, .int .i64 1, .int .i64 0, .int .i64 2, .int .i64 2, .bool true, .int .i64 4, .int .i64 0, .int .i64 1, .int .i64 2, .int .i64 3, .int .i64 2, .bool false]]
def frzL : List (Nat × Nat) := []
def srtF : List Nat := [91]
def cptF : List Nat := [92]
noncomputable def ES : Env := { P := PR, G := [], inl := fun f => inlS.contains f, scal := fun f => scal.contains f, shape := zkU 82 117 80 115, hints := zpD }
theorem EmixS : ES.P.follows .mixedOrders = true := by kernel_rfl
def qh0 : SE := .app .len [.inp 3]
def qh1 : SE := .app .app [.app .app [.app .lst [], .inp 3], .inp 4]
def qh2 : SE := .app (.eload 3 true) [.app (.eidx 3) [.inp 0, .inp 2]]
def qh3 : SE := .app .len [.inp 0]
def qh4 : SE := .app .lst [.agg [.app (.tproj 0) [.inp 15], .app (.tproj 1) [.inp 15], .inp 14]]
def qh5 : SE := .app .len [.inp 1]
noncomputable def hints : List Hint :=
 [⟨85, 2, ⟨19, [sL 0 (.inp 0), sL 1 (.clo 122 [] [.ptr 0 0]), sL 4 (zi 0), sL 7 qh3, sL 8 (.inp 2)], [(0, .box [.inp 1])], 3, 24, []⟩, 1⟩, ⟨85, 2, ⟨19, [sL 0 (.inp 1), sL 1 (.clo 123 [] [.ptr 40 0]), sL 4 (zi 0), sL 7 qh5, sL 8 (.inp 3)], [(0, .box [.inp 1]), (40, .box [.app (.part 0 1 false) [qh2], .app (.part 1 1 false) [qh2], .app (.part 2 1 false) [qh2]])], 4, 64, []⟩, 1⟩, ⟨79, 3, ⟨24, [sL 0 (.agg (ips 0 23)), sL 2 (.row 46), sL 3 (.clo 135 [] [.ptr 24 0, .ptr 26 0, .ptr 6 0]), sL 9 (.inp 5), sL 10 (.app .len [.inp 5]), sL 11 (.inp 24)], [(0, .gone), (6, .box (ips 0 23)), (24, .box [.app (.mm true) [.inp 7, zi 0]]), (26, .box [qh0]), (46, .row 3 (.inp 23))], 25, 49, []⟩, 2⟩, ⟨57, 9, ⟨141, [sL 0 (.agg (ips 0 23)), sL 1 (.ref (ips 0 23) 0), sL 2 bF, sL 3 qh0, sL 5 (.row 148), sL 85 (.inp 47), sL 86 (.app .len [.inp 47]), sL 87 (.inp 52)], [(0, .gone), (14, .gone), (140, .gone), (148, .row 1 (.inp 51))], 53, 151, []⟩, 2⟩, ⟨57, 16, ⟨141, [sL 0 (.agg (ips 0 23)), sL 1 (.ref (ips 0 23) 0), sL 2 bF, sL 3 qh0, sL 85 (.inp 47), sL 86 (.app .len [.inp 47]), sL 87 (.inp 52), sL 109 (.inp 59), sL 110 (.inp 60), sL 111 (.inp 61)], [(0, .gone), (14, .gone), (140, .gone), (148, .gone), (157, .row 1 (.inp 54))], 62, 183, []⟩, 1⟩, ⟨90, 3, ⟨36, [sL 0 (.inp 0), sL 2 .enil, sL 3 (.inp 1), sL 9 (.inp 0), sL 10 qh3, sL 11 (.inp 2)], [], 3, 12, []⟩, 2⟩, ⟨90, 11, ⟨36, [sL 0 (.inp 0), sL 2 .enil, sL 3 (.inp 1), sL 6 (.row 74), sL 9 (.inp 0), sL 10 qh3, sL 11 (.inp 2), sL 25 (.inp 0), sL 26 qh3, sL 27 (.inp 5)], [(52, .gone), (58, .gone), (74, .row 3 (.inp 4))], 6, 77, []⟩, 2⟩, ⟨90, 11, ⟨36, [sL 0 (.inp 0), sL 2 .enil, sL 3 (.inp 1), sL 6 (.row 54), sL 9 (.inp 0), sL 10 qh3, sL 11 (.inp 2), sL 25 (.inp 0), sL 26 qh3, sL 27 (.inp 4)], [(54, .row 3 (.inp 3))], 5, 57, []⟩, 2⟩, ⟨121, 1, ⟨46, [sL 0 (.yield 15), sL 1 (.ptr 6 0), sL 9 (.inp 3), sL 10 qh0, sL 11 (.inp 23)], [(0, .gone), (2, .box [.row 26]), (6, .box (ips 0 23)), (14, .dfr), (15, .loop .ready), (26, .row 1 (.inp 24))], 25, 29, []⟩, 2⟩, ⟨121, 6, ⟨46, [sL 0 (.yield 15), sL 1 (.ptr 6 0), sL 9 (.inp 3), sL 10 qh0, sL 11 (.inp 23), sL 29 (.inp 4), sL 30 (.app .len [.inp 4]), sL 31 (.inp 25)], [(0, .gone), (2, .box [.row 39]), (6, .box (ips 0 23)), (14, .dfr), (15, .loop .ready), (26, .gone), (39, .row 1 (.inp 26))], 27, 42, []⟩, 2⟩, ⟨134, 2, ⟨19, [sL 0 (.inp 24), sL 1 (.inp 23), sL 4 (zi 0), sL 7 (.app .len [.inp 24]), sL 8 (.inp 25)], [(0, .gone)], 26, 26, []⟩, 1⟩, ⟨43, 2, ⟨22, [sL 0 (.agg (ips 0 23)), sL 1 (.inp 23), sL 4 (zi 0), sL 5 bF, sL 9 (.inp 24), sL 10 (.app .len [.inp 24]), sL 11 (.inp 25)], [(0, .gone)], 26, 16, []⟩, 1⟩, ⟨121, 1, ⟨46, [sL 0 (.yield 17), sL 1 (.ptr 8 0), sL 9 (.inp 3), sL 10 qh0, sL 11 (.inp 46)], [(0, .box (ips 0 23)), (2, .box (ips 23 23)), (4, .box [bF]), (8, .box (ips 0 23)), (16, .dfr), (17, .loop .ready)], 47, 30, []⟩, 1⟩, ⟨121, 6, ⟨46, [sL 0 (.yield 17), sL 1 (.ptr 8 0), sL 9 (.inp 3), sL 10 qh0, sL 11 (.inp 46), sL 29 (.inp 4), sL 30 (.app .len [.inp 4]), sL 31 (.inp 47)], [(0, .box (ips 0 23)), (2, .box (ips 23 23)), (4, .box [bF]), (8, .box (ips 0 23)), (16, .dfr), (17, .loop .ready)], 48, 42, []⟩, 1⟩, ⟨97, 4, ⟨26, [sL 0 (.inp 0), sL 1 (.inp 1), sL 4 bF, sL 12 qh3, sL 13 (.inp 2)], [], 3, 20, []⟩, 1⟩, ⟨98, 4, ⟨26, [sL 0 (.inp 0), sL 1 (.inp 1), sL 4 bF, sL 12 qh3, sL 13 (.inp 2)], [], 3, 20, []⟩, 1⟩, ⟨77, 1, ⟨23, [sL 0 (.yield 21), sL 1 (.ptr 10 0), sL 2 (.ptr 12 0), sL 7 (.inp 1), sL 8 qh5, sL 9 (.inp 75)], [(0, .gone), (2, .box [zi 0]), (4, .box [bF]), (10, .gone), (12, .box [.inp 74]), (20, .dfr), (21, .loop .ready)], 76, 32, []⟩, 1⟩, ⟨14, 2, ⟨26, [sL 0 (.agg (ips 0 74)), sL 1 (.inp 74), sL 4 (zi 0), sL 5 bF, sL 11 (.inp 1), sL 12 qh5, sL 13 (.inp 75)], [(0, .gone)], 76, 16, []⟩, 1⟩, ⟨58, 2, ⟨19, [sL 0 (.inp 1), sL 1 (.clo 45 [] [.ptr 2 0]), sL 4 (zi 0), sL 7 qh5, sL 8 (.inp 75)], [(0, .gone), (2, .box [.inp 74])], 76, 28, []⟩, 1⟩, ⟨58, 2, ⟨19, [sL 0 (.inp 41), sL 1 (.clo 48 [] [.ptr 6 0]), sL 4 (zi 0), sL 7 (.app .len [.inp 41]), sL 8 (.inp 117)], [(0, .box (ips 0 11)), (2, .box (ips 11 29)), (4, .box (ips 40 74)), (6, .box [.inp 114, .inp 115, .inp 116])], 118, 44, []⟩, 1⟩, ⟨83, 2, ⟨19, [sL 0 (.inp 116), sL 1 (.clo 49 [] [.ptr 0 0, .ptr 2 0, .ptr 4 0]), sL 4 (zi 0), sL 7 (.app .len [.inp 116]), sL 8 (.inp 119)], [(0, .box (ips 0 11)), (2, .box (ips 11 29)), (4, .box (ips 40 74)), (6, .box [.inp 114, .inp 115, .inp 116]), (60, .gone)], 120, 118, []⟩, 1⟩, ⟨83, 2, ⟨19, [sL 0 (.inp 121), sL 1 (.clo 49 [] [.ptr 0 0, .ptr 2 0, .ptr 4 0]), sL 4 (zi 0), sL 7 (.app .len [.inp 121]), sL 8 (.inp 122)], [(0, .box (ips 0 11)), (2, .box (ips 11 29)), (4, .box (ips 40 74)), (6, .box [.inp 114, .inp 115, .inp 116]), (60, .gone), (134, .gone)], 123, 190, []⟩, 1⟩, ⟨85, 2, ⟨19, [sL 0 (.inp 124), sL 1 (.clo 50 [] [.ptr 0 0, .ptr 2 0, .ptr 4 0]), sL 4 (zi 0), sL 7 (.app .len [.inp 124]), sL 8 (.inp 125)], [(0, .box (ips 0 11)), (2, .box (ips 11 29)), (4, .box (ips 40 74)), (6, .box [.inp 114, .inp 115, .inp 116]), (60, .gone), (134, .gone), (206, .gone)], 126, 258, []⟩, 1⟩, ⟨85, 2, ⟨19, [sL 0 (.inp 123), sL 1 (.clo 50 [] [.ptr 0 0, .ptr 2 0, .ptr 4 0]), sL 4 (zi 0), sL 7 (.app .len [.inp 123]), sL 8 (.inp 124)], [(0, .box (ips 0 11)), (2, .box (ips 11 29)), (4, .box (ips 40 74)), (6, .box [.inp 114, .inp 115, .inp 116]), (60, .gone), (134, .gone)], 125, 222, []⟩, 1⟩, ⟨83, 2, ⟨19, [sL 0 (.inp 120), sL 1 (.clo 49 [] [.ptr 0 0, .ptr 2 0, .ptr 4 0]), sL 4 (zi 0), sL 7 (.app .len [.inp 120]), sL 8 (.inp 121)], [(0, .box (ips 0 11)), (2, .box (ips 11 29)), (4, .box (ips 40 74)), (6, .box [.inp 114, .inp 115, .inp 116]), (60, .gone)], 122, 154, []⟩, 1⟩, ⟨85, 2, ⟨19, [sL 0 (.inp 123), sL 1 (.clo 50 [] [.ptr 0 0, .ptr 2 0, .ptr 4 0]), sL 4 (zi 0), sL 7 (.app .len [.inp 123]), sL 8 (.inp 124)], [(0, .box (ips 0 11)), (2, .box (ips 11 29)), (4, .box (ips 40 74)), (6, .box [.inp 114, .inp 115, .inp 116]), (60, .gone), (170, .gone)], 125, 222, []⟩, 1⟩, ⟨85, 2, ⟨19, [sL 0 (.inp 122), sL 1 (.clo 50 [] [.ptr 0 0, .ptr 2 0, .ptr 4 0]), sL 4 (zi 0), sL 7 (.app .len [.inp 122]), sL 8 (.inp 123)], [(0, .box (ips 0 11)), (2, .box (ips 11 29)), (4, .box (ips 40 74)), (6, .box [.inp 114, .inp 115, .inp 116]), (60, .gone)], 124, 186, []⟩, 1⟩, ⟨83, 2, ⟨19, [sL 0 (.inp 116), sL 1 (.clo 49 [] [.ptr 0 0, .ptr 2 0, .ptr 4 0]), sL 4 (zi 0), sL 7 (.app .len [.inp 116]), sL 8 (.inp 118)], [(0, .box (ips 0 11)), (2, .box (ips 11 29)), (4, .box (ips 40 74)), (6, .box [.inp 114, .inp 115, .inp 116])], 119, 76, []⟩, 1⟩, ⟨83, 2, ⟨19, [sL 0 (.inp 120), sL 1 (.clo 49 [] [.ptr 0 0, .ptr 2 0, .ptr 4 0]), sL 4 (zi 0), sL 7 (.app .len [.inp 120]), sL 8 (.inp 121)], [(0, .box (ips 0 11)), (2, .box (ips 11 29)), (4, .box (ips 40 74)), (6, .box [.inp 114, .inp 115, .inp 116]), (92, .gone)], 122, 148, []⟩, 1⟩, ⟨85, 2, ⟨19, [sL 0 (.inp 123), sL 1 (.clo 50 [] [.ptr 0 0, .ptr 2 0, .ptr 4 0]), sL 4 (zi 0), sL 7 (.app .len [.inp 123]), sL 8 (.inp 124)], [(0, .box (ips 0 11)), (2, .box (ips 11 29)), (4, .box (ips 40 74)), (6, .box [.inp 114, .inp 115, .inp 116]), (92, .gone), (164, .gone)], 125, 216, []⟩, 1⟩, ⟨85, 2, ⟨19, [sL 0 (.inp 122), sL 1 (.clo 50 [] [.ptr 0 0, .ptr 2 0, .ptr 4 0]), sL 4 (zi 0), sL 7 (.app .len [.inp 122]), sL 8 (.inp 123)], [(0, .box (ips 0 11)), (2, .box (ips 11 29)), (4, .box (ips 40 74)), (6, .box [.inp 114, .inp 115, .inp 116]), (92, .gone)], 124, 180, []⟩, 1⟩, ⟨83, 2, ⟨19, [sL 0 (.inp 119), sL 1 (.clo 49 [] [.ptr 0 0, .ptr 2 0, .ptr 4 0]), sL 4 (zi 0), sL 7 (.app .len [.inp 119]), sL 8 (.inp 120)], [(0, .box (ips 0 11)), (2, .box (ips 11 29)), (4, .box (ips 40 74)), (6, .box [.inp 114, .inp 115, .inp 116])], 121, 112, []⟩, 1⟩, ⟨85, 2, ⟨19, [sL 0 (.inp 122), sL 1 (.clo 50 [] [.ptr 0 0, .ptr 2 0, .ptr 4 0]), sL 4 (zi 0), sL 7 (.app .len [.inp 122]), sL 8 (.inp 123)], [(0, .box (ips 0 11)), (2, .box (ips 11 29)), (4, .box (ips 40 74)), (6, .box [.inp 114, .inp 115, .inp 116]), (128, .gone)], 124, 180, []⟩, 1⟩, ⟨85, 2, ⟨19, [sL 0 (.inp 121), sL 1 (.clo 50 [] [.ptr 0 0, .ptr 2 0, .ptr 4 0]), sL 4 (zi 0), sL 7 (.app .len [.inp 121]), sL 8 (.inp 122)], [(0, .box (ips 0 11)), (2, .box (ips 11 29)), (4, .box (ips 40 74)), (6, .box [.inp 114, .inp 115, .inp 116])], 123, 144, []⟩, 1⟩, ⟨24, 4, ⟨69, [sL 0 (.agg (ips 0 74)), sL 1 (.ptr 0 0), sL 2 bF, sL 3 (.inp 75), sL 24 (.inp 1), sL 25 qh5, sL 26 (.inp 76)], [(0, .box (ips 0 74))], 77, 40, []⟩, 2⟩, ⟨58, 2, ⟨19, [sL 0 (.app (.slice false true) [.inp 1, .inp 76]), sL 1 (.clo 59 [] [.ptr 56 0]), sL 4 (zi 0), sL 7 (.app .len [.app (.slice false true) [.inp 1, .inp 76]]), sL 8 (.inp 78)], [(0, .box (ips 0 74)), (48, .box (pts (.app (.eload 23 true) [.app (.eidx 23) [.inp 1, .inp 76]]) 0 23)), (56, .box [.clo 55 [] [.ptr 48 0]])], 79, 110, []⟩, 1⟩, ⟨24, 11, ⟨69, [sL 0 (.agg (ips 0 74)), sL 1 (.ptr 0 0), sL 2 bF, sL 3 (.inp 75), sL 24 (.inp 1), sL 25 qh5, sL 26 (.inp 76), sL 61 (.agg (ips 2 72)), sL 62 (.inp 77)], [(0, .box (ips 0 74))], 78, 50, []⟩, 1⟩, ⟨63, 4, ⟨32, [sL 0 (.inp 1), sL 1 (.inp 75), sL 2 (.clo 64 [] []), sL 6 bF, sL 15 (.inp 1), sL 16 qh5, sL 17 (.inp 148)], [(0, .gone), (2, .gone)], 149, 58, []⟩, 1⟩, ⟨28, 3, ⟨25, [sL 0 (.agg (ips 0 74)), sL 1 (.ptr 0 0), sL 2 (.ptr 2 0), sL 10 .enil, sL 11 (zi 0), sL 12 (zi 0)], [(0, .box (ap [.inp 0, .enil] (ips 2 72))), (2, .box (ap [zi 0, .enil] (zms 24)))], 75, 30, []⟩, 0⟩, ⟨28, 3, ⟨25, [sL 0 (.agg (ips 0 74)), sL 1 (.ptr 0 0), sL 2 (.ptr 2 0), sL 10 (.row 18), sL 11 (.app .len [.app .app [.app .lst [], .inp 1]]), sL 12 (.inp 75)], [(0, .box (ap [.inp 0, .row 18] (ips 2 72))), (2, .box (ap [zi 0, .enil] (zms 24))), (14, .gone), (18, .row 23 (.inp 76))], 77, 36, []⟩, 2⟩, ⟨184, 2, ⟨44, [sL 0 (.yield 21), sL 1 (.ptr 10 0), sL 2 (.ptr 12 0), sL 12 (.inp 4), sL 13 (.inp 5), sL 14 (.inp 6)], [(0, .box [.inp 2]), (2, .box [zi 0]), (4, .box [bF]), (10, .gone), (12, .box [.inp 1]), (20, .dfr), (21, .loop .ready), (26, .gone)], 7, 44, []⟩, 1⟩, ⟨138, 2, ⟨42, [sL 0 (.yield 61), sL 1 (.ptr 50 0), sL 2 (.ptr 52 0), sL 4 (.app (.tproj 0) [.inp 16]), sL 5 (.app (.tproj 1) [.inp 16]), sL 15 (.inp 3), sL 16 qh0, sL 17 (.inp 17)], [(0, .gone), (2, .gone), (4, .box [.inp 14]), (6, .box [.row 86]), (40, .row 3 (qh4)), (42, .gone), (43, .gone), (50, .gone), (52, .box [.inp 11, .inp 12, .inp 13]), (60, .dfr), (61, .loop .ready), (86, .row 3 (.inp 18))], 19, 89, []⟩, 2⟩, ⟨138, 2, ⟨42, [sL 0 (.yield 45), sL 1 (.ptr 34 0), sL 2 (.ptr 36 0), sL 4 (.app (.tproj 0) [.inp 16]), sL 5 (.app (.tproj 1) [.inp 16]), sL 15 (.inp 3), sL 16 qh0, sL 17 (.inp 17)], [(0, .gone), (2, .gone), (4, .box [.inp 14]), (6, .box [.row 70]), (34, .gone), (36, .box [.inp 11, .inp 12, .inp 13]), (44, .dfr), (45, .loop .ready), (70, .row 3 (.inp 18))], 19, 73, []⟩, 2⟩, ⟨118, 1, ⟨39, [sL 0 (.yield 21), sL 1 (.ptr 12 0), sL 2 (.ptr 10 0), sL 9 (.inp 13), sL 10 (.app .len [.inp 13]), sL 11 (.inp 14)], [(0, .box (ips 0 11)), (2, .gone), (4, .box [.row 30]), (10, .box (ips 0 11)), (12, .box [.inp 11, .inp 12, .inp 13]), (20, .dfr), (21, .loop .ready), (30, .row 3 (.inp 15))], 16, 33, []⟩, 2⟩, ⟨118, 6, ⟨39, [sL 0 (.yield 21), sL 1 (.ptr 12 0), sL 2 (.ptr 10 0), sL 9 (.inp 13), sL 10 (.app .len [.inp 13]), sL 11 (.inp 14), sL 25 (.inp 16), sL 26 (.app .len [.inp 16]), sL 27 (.inp 17)], [(0, .box (ips 0 11)), (2, .gone), (4, .box [.row 47]), (10, .box (ips 0 11)), (12, .box [.inp 11, .inp 12, .inp 13]), (20, .dfr), (21, .loop .ready), (30, .gone), (47, .row 3 (.inp 18))], 19, 50, []⟩, 2⟩, ⟨132, 2, ⟨44, [sL 0 (.inp 0), sL 1 (.inp 1), sL 2 (.inp 2), sL 6 (zi 0), sL 7 bF, sL 8 (.inp 3)], [], 4, 8, []⟩, 1⟩, ⟨8, 2, ⟨45, [sL 0 (.agg (ips 0 11)), sL 1 (.ptr 0 0), sL 2 bF, sL 3 (.inp 11)], [(0, .box (ips 0 11))], 12, 8, []⟩, 1⟩, ⟨70, 7, ⟨72, [sL 0 (.agg (ips 0 11)), sL 1 (.agg [.inp 11, .inp 12, .inp 13]), sL 2 (.inp 14), sL 3 (.ptr 0 0), sL 4 (.ptr 2 0), sL 6 .enil, sL 7 (.row 64), sL 11 (.app (.tproj 0) [.inp 16]), sL 12 (.app (.tproj 1) [.inp 16]), sL 13 (.inp 18)], [(0, .box (ips 0 11)), (2, .box [.inp 11, .inp 12, .inp 13]), (40, .row 3 (qh4)), (42, .gone), (43, .gone), (64, .row 3 (.inp 17))], 19, 67, []⟩, 2⟩, ⟨70, 7, ⟨72, [sL 0 (.agg (ips 0 11)), sL 1 (.agg [.inp 11, .inp 12, .inp 13]), sL 2 (.inp 14), sL 3 (.ptr 0 0), sL 4 (.ptr 2 0), sL 6 .enil, sL 7 (.row 48), sL 11 (.app (.tproj 0) [.inp 16]), sL 12 (.app (.tproj 1) [.inp 16]), sL 13 (.inp 18)], [(0, .box (ips 0 11)), (2, .box [.inp 11, .inp 12, .inp 13]), (48, .row 3 (.inp 17))], 19, 51, []⟩, 2⟩, ⟨100, 4, ⟨26, [sL 0 (.inp 0), sL 1 (.inp 1), sL 4 bF, sL 5 (.inp 2)], [], 3, 16, []⟩, 1⟩, ⟨10, 2, ⟨24, [sL 0 (.inp 0), sL 2 bF, sL 3 (.inp 1)], [], 2, 6, []⟩, 1⟩, ⟨32, 4, ⟨48, [sL 0 (.agg (ips 0 11)), sL 1 (.agg [.inp 11, .inp 12, .inp 13]), sL 2 (.ptr 0 0), sL 3 (.ptr 2 0), sL 4 .enil, sL 5 (.row 18), sL 6 (.app .len [.inp 13]), sL 7 (.inp 15)], [(0, .box (ips 0 11)), (2, .box [.inp 11, .inp 12, .inp 13]), (18, .row 3 (.inp 14))], 16, 21, []⟩, 2⟩, ⟨32, 9, ⟨48, [sL 0 (.agg (ips 0 11)), sL 1 (.agg [.inp 11, .inp 12, .inp 13]), sL 2 (.ptr 0 0), sL 3 (.ptr 2 0), sL 4 .enil, sL 5 (.row 39), sL 6 (.app .len [.inp 13]), sL 7 (.inp 15), sL 8 (.inp 16), sL 9 (.inp 18)], [(0, .box (ips 0 11)), (2, .box [.inp 11, .inp 12, .inp 13]), (18, .gone), (39, .row 3 (.inp 17))], 19, 42, []⟩, 2⟩, ⟨111, 2, ⟨31, [sL 0 (.agg (ips 0 11)), sL 1 (.agg (ips 11 29)), sL 2 (.ptr 0 0), sL 3 (.ptr 2 0), sL 4 (.ptr 4 0), sL 5 (.inp 40)], [(0, .box (ips 0 11)), (2, .box (ap [.inp 11] (ap (ips 41 24) (ips 36 4)))), (4, .box [zi 0, zi 0, zi 0, zi 0, zi 0, zi 0, zi 0, zi 0, zi 0, zi 0, zi 0, zi 0, zi 0, zi 0, zi 0, zi 0, zi 0, zi 0, zi 0, zi 0, zi 0, zi 0, zi 0, zi 0, zi 0, .int .u32 0, .int .u32 0, .int .u32 0, .int .u32 0])], 65, 10, []⟩, 25⟩, ⟨72, 2, ⟨43, [sL 0 (.inp 0), sL 1 (.inp 1), sL 4 bF, sL 5 (.inp 2)], [], 3, 6, []⟩, 1⟩, ⟨72, 5, ⟨43, [sL 0 (.inp 0), sL 1 (.inp 1), sL 4 bF, sL 5 (.inp 2), sL 6 (.inp 3)], [], 4, 18, []⟩, 1⟩, ⟨61, 6, ⟨154, [sL 0 (.agg (ips 0 23)), sL 1 (.ptr 0 0), sL 2 bF, sL 3 qh0, sL 4 (.row 126), sL 5 (.inp 34)], [(0, .box (ips 0 23)), (112, .gone), (120, .gone), (126, .row 3 (qh1))], 35, 134, []⟩, 1⟩, ⟨61, 9, ⟨154, [sL 0 (.agg (ips 0 23)), sL 1 (.ptr 0 0), sL 2 bF, sL 3 qh0, sL 4 (.row 126), sL 5 (.inp 34), sL 6 (.inp 35)], [(0, .box (ips 0 23)), (112, .gone), (120, .gone), (126, .row 3 (qh1))], 36, 146, []⟩, 1⟩, ⟨61, 14, ⟨154, [sL 0 (.agg (ips 0 23)), sL 1 (.ptr 0 0), sL 2 bF, sL 3 qh0, sL 4 (.row 126), sL 5 (.inp 34), sL 7 (.inp 35)], [(0, .box (ips 0 23)), (112, .gone), (120, .gone), (126, .row 3 (qh1))], 36, 148, []⟩, 1⟩, ⟨61, 19, ⟨154, [sL 0 (.agg (ips 0 23)), sL 1 (.ptr 0 0), sL 2 bF, sL 3 qh0, sL 4 (.row 126), sL 5 (.inp 34), sL 7 (.inp 35), sL 8 (.inp 36)], [(0, .box (ips 0 23)), (112, .gone), (120, .gone), (126, .row 3 (qh1))], 37, 156, []⟩, 1⟩, ⟨71, 3, ⟨49, [sL 0 (.agg (ips 0 23)), sL 1 (.ptr 0 0), sL 2 .enil, sL 3 (.row 14), sL 4 (.inp 24)], [(0, .box (ips 0 23)), (14, .row 1 (.inp 23))], 25, 17, []⟩, 2⟩, ⟨71, 7, ⟨49, [sL 0 (.agg (ips 0 23)), sL 1 (.ptr 0 0), sL 2 .enil, sL 3 (.row 31), sL 4 (.inp 24), sL 5 (.inp 26)], [(0, .box (ips 0 23)), (14, .gone), (31, .row 1 (.inp 25))], 27, 34, []⟩, 2⟩, ⟨36, 3, ⟨21, [sL 0 (.agg (ips 0 23)), sL 1 (.inp 23), sL 4 bF, sL 5 (.inp 24), sL 6 (.inp 25)], [(0, .gone)], 26, 14, []⟩, 1⟩, ⟨73, 3, ⟨43, [sL 0 (.agg (ips 0 23)), sL 1 (.ptr 0 0), sL 2 .enil, sL 3 (.row 8), sL 4 (.inp 24)], [(0, .box (ips 0 23)), (8, .row 3 (.inp 23))], 25, 11, []⟩, 2⟩, ⟨37, 3, ⟨28, [sL 0 (.agg (ips 0 23)), sL 1 (.inp 23), sL 4 (zi 0), sL 5 bF, sL 6 (.inp 24), sL 7 (.inp 25)], [(0, .gone)], 26, 16, []⟩, 1⟩, ⟨33, 3, ⟨27, [sL 0 (.agg (ips 0 23)), sL 1 (.agg (ips 23 23)), sL 2 (.ptr 0 0), sL 3 (.ptr 2 0), sL 4 bF, sL 5 (.inp 46), sL 6 (.inp 47)], [(0, .box (ips 0 23)), (2, .box (ips 23 23))], 48, 16, []⟩, 1⟩, ⟨101, 4, ⟨26, [sL 0 (.inp 0), sL 1 (.inp 1), sL 4 bF, sL 5 (.inp 2)], [], 3, 16, []⟩, 1⟩, ⟨27, 4, ⟨44, [sL 0 (.agg (ips 0 74)), sL 1 (.agg (ips 74 74)), sL 2 (.ptr 0 0), sL 3 (.ptr 2 0), sL 4 bF, sL 5 (.inp 148)], [(0, .box (ips 0 74)), (2, .box (ips 74 74))], 149, 24, []⟩, 1⟩, ⟨25, 4, ⟨82, [sL 0 (.agg (ips 0 74)), sL 1 (.ptr 0 0), sL 2 bF, sL 3 (.inp 75)], [(0, .box (ips 0 74))], 76, 32, []⟩, 1⟩, ⟨25, 10, ⟨82, [sL 0 (.agg (ips 0 74)), sL 1 (.ptr 0 0), sL 2 bF, sL 3 (.inp 75), sL 4 (.ptr 52 0), sL 5 (.inp 81)], [(0, .box (ips 0 74)), (52, .box (pts (.app (.eload 23 true) [.app (.eidx 23) [.inp 1, .inp 75]]) 0 23))], 82, 112, []⟩, 1⟩, ⟨25, 15, ⟨82, [sL 0 (.agg (ips 0 74)), sL 1 (.ptr 0 0), sL 2 bF, sL 3 (.inp 75), sL 6 (.inp 76)], [(0, .box (ips 0 74))], 77, 46, []⟩, 1⟩, ⟨13, 2, ⟨27, [sL 0 (.agg (ips 0 74)), sL 1 (.inp 74), sL 2 (.ptr 0 0), sL 4 (zi 0), sL 5 bF, sL 6 (.inp 75)], [(0, .box (ips 0 74))], 76, 10, []⟩, 1⟩, ⟨15, 2, ⟨28, [sL 0 (.agg (ips 0 74)), sL 1 (.inp 74), sL 2 (.ptr 0 0), sL 4 (zi 0), sL 5 bF, sL 6 (.inp 75)], [(0, .box (ips 0 74))], 76, 10, []⟩, 1⟩, ⟨17, 2, ⟨35, [sL 0 (.agg (ips 0 74)), sL 1 (.inp 74), sL 2 (.ptr 0 0), sL 4 bF, sL 5 (.inp 75)], [(0, .box (ips 0 74))], 76, 8, []⟩, 1⟩, ⟨23, 2, ⟨87, [sL 0 (.agg (ips 0 11)), sL 1 (.agg (ips 11 29)), sL 2 (.agg (ips 40 74)), sL 3 (.agg [.inp 114, .inp 115, .inp 116]), sL 4 (.ptr 0 0), sL 5 (.ptr 2 0), sL 6 (.ptr 4 0), sL 7 (.ptr 6 0), sL 8 (zi 0), sL 9 (.inp 117)], [(0, .box (ips 0 11)), (2, .box (ips 11 29)), (4, .box (ips 40 74)), (6, .box [.inp 114, .inp 115, .inp 116])], 118, 14, []⟩, 1⟩, ⟨23, 8, ⟨87, [sL 0 (.agg (ips 0 11)), sL 1 (.agg (ips 11 29)), sL 2 (.agg (ips 40 74)), sL 3 (.agg [.inp 114, .inp 115, .inp 116]), sL 4 (.ptr 0 0), sL 5 (.ptr 2 0), sL 6 (.ptr 4 0), sL 7 (.ptr 6 0), sL 8 (zi 0), sL 9 (.inp 117), sL 10 (.row 40), sL 11 (.inp 119)], [(0, .box (ips 0 11)), (2, .box (ips 11 29)), (4, .box (ips 40 74)), (6, .box [.inp 114, .inp 115, .inp 116]), (24, .gone), (30, .gone), (40, .row 3 (.app .app [.app .app [.app .lst [], .inp 116], .inp 118]))], 120, 48, []⟩, 1⟩, ⟨23, 14, ⟨87, [sL 0 (.agg (ips 0 11)), sL 1 (.agg (ips 11 29)), sL 2 (.agg (ips 40 74)), sL 3 (.agg [.inp 114, .inp 115, .inp 116]), sL 4 (.ptr 0 0), sL 5 (.ptr 2 0), sL 6 (.ptr 4 0), sL 7 (.ptr 6 0), sL 8 (zi 0), sL 9 (.inp 117), sL 10 (.row 40), sL 11 (.inp 119), sL 12 (.inp 120), sL 13 (.inp 121)], [(0, .box (ips 0 11)), (2, .box (ips 11 29)), (4, .box (ips 40 74)), (6, .box [.inp 114, .inp 115, .inp 116]), (24, .gone), (30, .gone), (40, .row 3 (.app .app [.app .app [.app .lst [], .inp 116], .inp 118]))], 122, 68, []⟩, 1⟩, ⟨9, 2, ⟨42, [sL 0 (.agg (ips 0 74)), sL 1 (.ptr 0 0), sL 2 bF, sL 3 (.inp 74)], [(0, .box (ips 0 74))], 75, 8, []⟩, 1⟩, ⟨175, 2, ⟨71, [sL 0 (.agg (ips 0 11)), sL 1 (.ptr 0 0), sL 2 bF, sL 3 (.inp 11)], [(0, .box (ips 0 11))], 12, 8, []⟩, 1⟩, ⟨175, 7, ⟨71, [sL 0 (.agg (ips 0 11)), sL 1 (.ptr 0 0), sL 2 bF, sL 3 (.inp 11), sL 4 (.inp 12)], [(0, .box (ips 0 11))], 13, 16, []⟩, 1⟩, ⟨170, 2, ⟨27, [sL 0 (.agg (ips 0 11)), sL 1 (.agg (ips 11 11)), sL 2 (.ptr 0 0), sL 3 (.ptr 2 0), sL 4 bF, sL 5 (.inp 22)], [(0, .box (ips 0 11)), (2, .box (ips 11 11))], 23, 10, []⟩, 1⟩, ⟨172, 2, ⟨37, [sL 0 (.agg (ips 0 11)), sL 1 (.agg [.inp 11, .inp 12, .inp 13]), sL 2 (.ptr 0 0), sL 3 (.ptr 2 0), sL 4 bF, sL 5 (.inp 14)], [(0, .box (ips 0 11)), (2, .box [.inp 11, .inp 12, .inp 13])], 15, 10, []⟩, 1⟩, ⟨174, 3, ⟨34, [sL 0 (.agg (ips 0 7)), sL 2 bF, sL 3 (.ptr 34 0), sL 4 (.inp 7)], [(0, .gone), (34, .box (ips 0 7))], 8, 42, []⟩, 1⟩, ⟨150, 2, ⟨95, [sL 0 (.agg (ips 0 11)), sL 1 (.ptr 0 0), sL 2 bF, sL 3 (.inp 11)], [(0, .box (ips 0 11))], 12, 8, []⟩, 1⟩, ⟨150, 7, ⟨95, [sL 0 (.agg (ips 0 11)), sL 1 (.ptr 0 0), sL 2 bF, sL 3 (.inp 11), sL 4 (.inp 12)], [(0, .box (ips 0 11))], 13, 22, []⟩, 1⟩, ⟨150, 12, ⟨95, [sL 0 (.agg (ips 0 11)), sL 1 (.ptr 0 0), sL 2 bF, sL 3 (.inp 11), sL 4 (.inp 12), sL 5 (.inp 13)], [(0, .box (ips 0 11))], 14, 36, []⟩, 1⟩, ⟨150, 17, ⟨95, [sL 0 (.agg (ips 0 11)), sL 1 (.ptr 0 0), sL 2 bF, sL 3 (.inp 11), sL 4 (.inp 12), sL 5 (.inp 13), sL 6 (.inp 14)], [(0, .box (ips 0 11))], 15, 50, []⟩, 1⟩, ⟨108, 2, ⟨22, [sL 0 (.agg (ips 0 11)), sL 1 (.agg [.inp 11, .inp 12]), sL 2 (.ptr 0 0), sL 3 (.ptr 2 0), sL 4 (zi 0), sL 5 (.inp 13)], [(0, .box (ips 0 11)), (2, .box [.inp 11, .inp 12])], 14, 10, []⟩, 1⟩, ⟨151, 2, ⟨65, [sL 0 (.agg (ips 0 11)), sL 1 (.ptr 0 0), sL 2 bF, sL 3 (.inp 11)], [(0, .box (ips 0 11))], 12, 8, []⟩, 1⟩, ⟨151, 8, ⟨65, [sL 0 (.agg (ips 0 11)), sL 1 (.ptr 0 0), sL 2 bF, sL 3 (.inp 11), sL 4 (.ptr 34 0), sL 5 (.inp 13)], [(0, .box (ips 0 11)), (34, .box (pts (.app (.eload 11 true) [.app (.eidx 11) [.inp 0, .inp 11]]) 0 11))], 14, 48, []⟩, 1⟩, ⟨152, 2, ⟨31, [sL 0 (.agg (ips 0 11)), sL 1 (.ptr 0 0), sL 2 (zi 0), sL 3 (.inp 11)], [(0, .box (ips 0 11))], 12, 8, []⟩, 1⟩, ⟨152, 5, ⟨31, [sL 0 (.agg (ips 0 11)), sL 1 (.ptr 0 0), sL 2 (zi 0), sL 3 (.inp 11), sL 4 (.inp 12)], [(0, .box (ips 0 11))], 13, 22, []⟩, 1⟩, ⟨153, 2, ⟨31, [sL 0 (.agg (ips 0 11)), sL 1 (.ptr 0 0), sL 2 (zi 0), sL 3 (.inp 11)], [(0, .box (ips 0 11))], 12, 8, []⟩, 1⟩, ⟨153, 5, ⟨31, [sL 0 (.agg (ips 0 11)), sL 1 (.ptr 0 0), sL 2 (zi 0), sL 3 (.inp 11), sL 4 (.inp 12)], [(0, .box (ips 0 11))], 13, 22, []⟩, 1⟩, ⟨177, 6, ⟨98, [sL 0 (.agg (ips 0 11)), sL 1 (.inp 11), sL 2 (.ptr 0 0), sL 4 bF, sL 5 (.ptr 40 0), sL 6 (.app (.eload 1 false) [.app (.eoff 2) [.app (.eidx 3) [.inp 2, .inp 11]]]), sL 7 (.inp 14)], [(0, .box (ips 0 11)), (40, .box [.inp 15, .inp 16])], 17, 62, []⟩, 3⟩, ⟨177, 11, ⟨98, [sL 0 (.agg (ips 0 11)), sL 1 (.inp 11), sL 2 (.ptr 0 0), sL 4 bF, sL 5 (.ptr 40 0), sL 6 (.app (.eload 1 false) [.app (.eoff 2) [.app (.eidx 3) [.inp 2, .inp 11]]]), sL 7 (.inp 14), sL 8 (.inp 21)], [(0, .box (ips 0 11)), (40, .box [.inp 15, .inp 16])], 22, 134, []⟩, 1⟩, ⟨154, 2, ⟨16, [sL 0 (.agg (ips 0 11)), sL 1 (.ptr 0 0), sL 2 (zi 0), sL 3 (.inp 11)], [(0, .box (ips 0 11))], 12, 8, []⟩, 1⟩, ⟨155, 2, ⟨49, [sL 0 (.agg (ips 0 11)), sL 1 (.ptr 0 0), sL 2 (zi 0), sL 3 (.inp 11)], [(0, .box (ips 0 11))], 12, 8, []⟩, 1⟩, ⟨155, 5, ⟨49, [sL 0 (.agg (ips 0 11)), sL 1 (.ptr 0 0), sL 2 (zi 0), sL 3 (.inp 11), sL 4 (.inp 12)], [(0, .box (ips 0 11))], 13, 22, []⟩, 1⟩, ⟨128, 7, ⟨35, [sL 0 (.agg (ips 0 11)), sL 2 (zi 0), sL 3 (zi 0), sL 4 (zi 0), sL 5 (.ptr 38 0), sL 6 (.inp 17)], [(0, .gone), (38, .box (ips 13 4))], 18, 46, []⟩, 1⟩, ⟨105, 2, ⟨58, [sL 0 (.agg (ips 0 11)), sL 1 (.inp 11), sL 2 (.ptr 0 0), sL 4 bF, sL 5 (.inp 12)], [(0, .box (ips 0 11))], 13, 8, []⟩, 1⟩, ⟨106, 2, ⟨47, [sL 0 (.inp 0), sL 1 (.inp 1), sL 4 bF, sL 5 (.inp 2)], [], 3, 6, []⟩, 1⟩, ⟨106, 5, ⟨47, [sL 0 (.inp 0), sL 1 (.inp 1), sL 4 bF, sL 5 (.inp 2), sL 6 (.inp 3)], [], 4, 18, []⟩, 1⟩, ⟨106, 10, ⟨47, [sL 0 (.inp 0), sL 1 (.inp 1), sL 4 bF, sL 5 (.inp 2), sL 6 (.inp 3), sL 7 (.inp 4)], [], 5, 28, []⟩, 1⟩, ⟨107, 3, ⟨40, [sL 0 (.agg [.inp 0, .inp 1, .inp 2]), sL 1 (.inp 3), sL 2 (.ptr 0 0), sL 4 bF, sL 5 (.inp 4), sL 6 (.inp 5)], [(0, .box [.inp 0, .inp 1, .inp 2])], 6, 10, []⟩, 2⟩, ⟨107, 5, ⟨40, [sL 0 (.agg [.inp 0, .inp 1, .inp 2]), sL 1 (.inp 3), sL 2 (.ptr 0 0), sL 4 bF, sL 5 (.inp 6), sL 6 (.inp 5)], [(0, .box [.inp 0, .inp 1, .inp 2])], 7, 20, []⟩, 1⟩, ⟨68, 4, ⟨165, [sL 0 (.agg (ips 0 11)), sL 1 (.agg [.inp 11, .inp 12, .inp 13]), sL 2 (.inp 14), sL 3 (.ptr 0 0), sL 4 (.ptr 2 0), sL 6 (zi 0), sL 7 (.inp 20)], [(0, .box (ips 0 11)), (2, .box [.inp 11, .inp 12, .inp 13])], 21, 68, []⟩, 1⟩, ⟨68, 14, ⟨165, [sL 0 (.agg (ips 0 11)), sL 1 (.agg [.inp 11, .inp 12, .inp 13]), sL 2 (.inp 14), sL 3 (.ptr 0 0), sL 4 (.ptr 2 0), sL 6 (zi 0), sL 7 (.inp 20), sL 8 (.app .len [.inp 13]), sL 9 (.inp 31)], [(0, .box (ips 0 11)), (2, .box [.inp 11, .inp 12, .inp 13])], 32, 240, []⟩, 1⟩, ⟨69, 3, ⟨48, [sL 0 (.inp 0), sL 1 (.inp 1), sL 4 bF, sL 5 (.row 10), sL 6 (.inp 2)], [(2, .gone), (6, .gone), (10, .row 3 (.app .app [.app .app [.app .lst [], .inp 0], .inp 1]))], 3, 18, []⟩, 1⟩, ⟨69, 6, ⟨48, [sL 0 (.inp 0), sL 1 (.inp 1), sL 4 bF, sL 5 (.row 10), sL 6 (.inp 2), sL 7 (.inp 3)], [(2, .gone), (6, .gone), (10, .row 3 (.app .app [.app .app [.app .lst [], .inp 0], .inp 1]))], 4, 30, []⟩, 1⟩, ⟨40, 3, ⟨13, [sL 0 (.ptr 0 0), sL 1 (.ptr 4 0), sL 2 (.inp 0)], [(0, .box (ap [zi 0, .enil] (zms 24))), (4, .box (ap [zi 1, .enil] (ips 1 72)))], 73, 12, []⟩, 73⟩, ⟨5, 7, ⟨120, [sL 0 (.agg (ips 0 74)), sL 1 (.inp 74), sL 2 (.ptr 0 0), sL 4 bF, sL 5 (.app (.tproj 0) [.inp 76]), sL 6 (.app (.tproj 1) [.inp 76]), sL 7 (.app (.tproj 0) [.inp 77]), sL 8 (.app (.tproj 1) [.inp 77]), sL 9 (.inp 78), sL 10 (.inp 79), sL 11 (.inp 80), sL 12 (.inp 81)], [(0, .box (ips 0 74))], 82, 52, []⟩, 4⟩, ⟨4, 8, ⟨131, [sL 0 (.agg (ips 0 11)), sL 1 (.agg (ips 11 29)), sL 2 (.agg (ips 40 74)), sL 3 (.agg [.inp 114, .inp 115, .inp 116]), sL 4 (.ptr 0 0), sL 5 (.ptr 2 0), sL 6 (.ptr 4 0), sL 7 (.ptr 6 0), sL 8 bF, sL 10 (.ptr 80 0), sL 11 (.inp 125)], [(0, .box (ips 0 11)), (2, .box (ips 11 29)), (4, .box (ips 40 74)), (6, .box [.inp 114, .inp 115, .inp 116]), (80, .box [.inp 40, .inp 114, .inp 115, .inp 116, .inp 123, .inp 124, .int .u8 1, zi 0, bF, bF, bF, bF, bF, bF, bF, bF, bF, bF, bF, bF, bF, zi 0, bF])], 126, 88, []⟩, 1⟩, ⟨4, 13, ⟨131, [sL 0 (.agg (ips 0 11)), sL 1 (.agg (ips 11 29)), sL 2 (.agg (ips 40 74)), sL 3 (.agg [.inp 114, .inp 115, .inp 116]), sL 4 (.ptr 0 0), sL 5 (.ptr 2 0), sL 6 (.ptr 4 0), sL 7 (.ptr 6 0), sL 8 bF, sL 10 (.ptr 80 0), sL 11 (.inp 125), sL 12 (.inp 126)], [(0, .box (ips 0 11)), (2, .box (ips 11 29)), (4, .box (ips 40 74)), (6, .box [.inp 114, .inp 115, .inp 116]), (80, .box [.inp 40, .inp 114, .inp 115, .inp 116, .inp 123, .inp 124, .int .u8 1, zi 0, bF, bF, bF, bF, bF, bF, bF, bF, bF, bF, bF, bF, bF, zi 0, bF])], 127, 102, []⟩, 1⟩]
def inl : List Nat := [66, 86, 118, 120, 138, 179, 184, 53, 85, 161, 125, 122, 123, 124, 114, 135, 88, 121, 42, 77, 45, 48, 49, 50, 55, 59, 44, 51, 58, 83, 63, 134, 112]
noncomputable def E : Env := { P := PR, G := GL, inl := fun f => inl.contains f, scal := fun f => scal.contains f, shape := zkU 82 117 80 115, hints := hints, frzAt := fun f k => frzL.contains (f, k), big := 9, srt := fun f => srtF.contains f, cpt := fun f => cptF.contains f }
theorem Emix : E.P.follows .mixedOrders = true := by kernel_rfl
end Go.Lb.LK
namespace Go.Lb.LK
open Go Go.Lb Go.Proofs
noncomputable section
@[simp] def q0_0 : SE := bi .lss (.inp 0) (zi 32)
@[simp] def q0_1 : SE := pk (bi .geq (.inp 0) (zi 0)) q0_0 bF
@[simp] def q0_2 : SE := bi .shl (.int .u32 1) (.inp 0)
@[simp] def q0_3 : SE := bi .and (e1 (.ref [.inp 1] 0)) q0_2
@[simp] def q0_4 : SE := bi .neq q0_3 (.int .u32 0)
@[simp] def q0_5 : SE := .clo 117 [] [.ref [.inp 36] 0]
@[simp] def q0_6 : SE := .ref [q0_5] 0
@[simp] def q0_7 : SE := nt (e1 (.ref [.inp 1] 0))
@[simp] def q0_8 : SE := bi .lss (.inp 40) (zi 0)
@[simp] def q0_9 : SE := .app (.mm false) [ln (.inp 0), zi 24]
@[simp] def q0_10 : SE := bi .geq (.inp 40) q0_9
@[simp] def q0_11 : SE := .ref [bi .lss (.inp 6) (.inp 11)] 0
@[simp] def q0_12 : SE := .app (.aidx 24 1 1 1 false) [.agg (ipx 11 29), .inp 40]
@[simp] def q0_13 : SE := bi .lss q0_12 (.inp 4)
@[simp] def q0_14 : SE := bi .geq (.inp 40) (ln (.inp 0))
@[simp] def q0_15 : SE := pk q0_8 bT q0_14
@[simp] def q0_16 : SE := ei 11 (.inp 0) (.inp 40)
@[simp] def q0_17 : SE := .app (.eoff 0) [q0_16]
@[simp] def q0_18 : SE := e1 q0_17
@[simp] def q0_19 : SE := bi .neq q0_18 (.int .u8 2)
@[simp] def q0_20 : SE := pk q0_15 bT q0_19
@[simp] def q0_21 : SE := .agg [.inp 0, .inp 1, .inp 2]
@[simp] def q0_22 : SE := .agg [.inp 0, .inp 1, .inp 3]
@[simp] def q0_23 : SE := .app .app [.app .lst [], .inp 0]
@[simp] def q0_24 : SE := bi .lss (.inp 2) (ln (.inp 0))
@[simp] def q0_25 : SE := el 3 (ei 3 (.inp 0) (.inp 2))
@[simp] def q0_26 : SE := el 3 (ei 3 (.inp 1) (.inp 3))
@[simp] def q0_27 : SE := pt 0 q0_25
@[simp] def q0_28 : SE := pt 1 q0_25
@[simp] def q0_29 : SE := pt 0 q0_26
@[simp] def q0_30 : SE := pt 1 q0_26
@[simp] def q0_31 : SE := bi .eql q0_27 q0_29
@[simp] def q0_32 : SE := bi .neq q0_28 q0_30
@[simp] def q0_33 : SE := .app (.mm true) [.inp 7, zi 0]
@[simp] def q0_34 : SE := el 3 (ei 3 (.inp 5) (.inp 24))
@[simp] def q0_35 : SE := pt 2 q0_34
@[simp] def q0_36 : SE := .agg [pt 0 q0_34, pt 1 q0_34, q0_35]
@[simp] def q0_37 : SE := bi .geq q0_35 q0_33
@[simp] def q0_38 : SE := bi .neq q0_35 (ln (.inp 3))
@[simp] def q0_39 : SE := pk q0_38 bT (nt (.inp 20))
@[simp] def q0_40 : SE := .app .lst [q0_36]
@[simp] def q0_41 : SE := bi .add (.inp 24) (zi 1)
@[simp] def q0_42 : SE := .agg [.inp 1, .inp 2, .inp 3]
@[simp] def q0_43 : SE := .agg (ap [.inp 0, pt 0 (.inp 23), pt 1 (.inp 23), pt 2 (.inp 23), .inp 24, .inp 25] (ipx 6 17))
@[simp] def q0_44 : SE := .app (.mm true) [.inp 0, .inp 21]
@[simp] def q0_45 : SE := bi .gtr q0_44 (zi 1073741824)
@[simp] def q0_46 : SE := pk (bi .lss (.inp 0) (zi 1)) bT q0_45
@[simp] def q0_47 : SE := bi .lss (.inp 21) (zi 0)
@[simp] def q0_48 : SE := pk q0_46 bT q0_47
@[simp] def q0_49 : SE := bi .lss (ln (.inp 3)) (zi 1)
@[simp] def q0_50 : SE := pk q0_48 bT q0_49
@[simp] def q0_51 : SE := bi .gtr (ln (.inp 3)) (zi 12)
@[simp] def q0_52 : SE := pk q0_50 bT q0_51
@[simp] def q0_53 : SE := bi .gtr (ln (.inp 4)) (zi 2)
@[simp] def q0_54 : SE := bi .eql (.inp 6) (.int .u8 0)
@[simp] def q0_55 : SE := bi .geq (.inp 6) (.int .u8 5)
@[simp] def q0_56 : SE := pk q0_54 bT q0_55
@[simp] def q0_57 : SE := pk q0_56 bT (bi .lss (.inp 7) (zi 0))
@[simp] def q0_58 : SE := bi .gtr (.inp 7) (ln (.inp 3))
@[simp] def q0_59 : SE := pk q0_57 bT q0_58
@[simp] def q0_60 : SE := .app (.slice false true) [.app .lst (ipx 8 12), ln (.inp 3)]
@[simp] def q0_61 : SE := ln q0_60
@[simp] def q0_62 : SE := el 12 (.ref (ipx 0 23) 8)
@[simp] def q0_63 : SE := .app .lst [e1 (.ref (ipx 0 23) 3), e1 (.ref (ipx 0 23) 4)]
@[simp] def q0_64 : SE := ei 3 (.inp 47) (.inp 52)
@[simp] def q0_65 : SE := el 3 q0_64
@[simp] def q0_66 : SE := pt 0 q0_65
@[simp] def q0_67 : SE := .app .lst [q0_66]
@[simp] def q0_68 : SE := ln (e1 (.ref (ipx 0 23) 4))
@[simp] def q0_69 : SE := bi .add (ln (.inp 3)) q0_68
@[simp] def q0_70 : SE := ei 3 (.inp 59) (.inp 61)
@[simp] def q0_71 : SE := el 3 q0_70
@[simp] def q0_72 : SE := pt 2 q0_71
@[simp] def q0_73 : SE := bi .lss q0_72 (zi 0)
@[simp] def q0_74 : SE := bi .gtr q0_72 (ln (.inp 3))
@[simp] def q0_75 : SE := pk q0_73 bT q0_74
@[simp] def q0_76 : SE := pt 0 q0_71
@[simp] def q0_77 : SE := bi .lss q0_76 (zi 0)
@[simp] def q0_78 : SE := pk q0_75 bT q0_77
@[simp] def q0_79 : SE := bi .geq q0_76 (zi 24)
@[simp] def q0_80 : SE := pk q0_78 bT q0_79
@[simp] def q0_81 : SE := pt 1 q0_71
@[simp] def q0_82 : SE := bi .shr q0_81 (.int .u64 1)
@[simp] def q0_83 : SE := bi .neq q0_82 (zi 0)
@[simp] def q0_84 : SE := e1 (ei 1 (.inp 0) (.inp 2))
@[simp] def q0_85 : SE := ln q0_84
@[simp] def q0_86 : SE := bi .add (.inp 1) q0_85
@[simp] def q0_87 : SE := .app .rep [bi .sub (.inp 1) (zi 0), .agg [zi 0, zi 0, zi 0]]
@[simp] def q0_88 : SE := e1 (ei 1 (.inp 0) (.inp 5))
@[simp] def q0_89 : SE := e1 (ei 1 (.inp 0) (.inp 4))
@[simp] def q0_90 : SE := el 3 (ei 3 (.inp 3) (.inp 23))
@[simp] def q0_91 : SE := pt 0 q0_90
@[simp] def q0_92 : SE := .app .lst [q0_91]
@[simp] def q0_93 : SE := bi .add (.inp 23) (zi 1)
@[simp] def q0_94 : SE := el 3 (ei 3 (.inp 4) (.inp 25))
@[simp] def q0_95 : SE := bi .add (.inp 25) (zi 1)
@[simp] def q0_96 : SE := pt 0 q0_94
@[simp] def q0_97 : SE := .app .lst [q0_96]
@[simp] def q0_98 : SE := bi .lss (.inp 25) (ln (.inp 24))
@[simp] def q0_99 : SE := ei 1 (.inp 24) (.inp 25)
@[simp] def q0_100 : SE := e1 q0_99
@[simp] def q0_101 : SE := ei 3 (.inp 24) (.inp 25)
@[simp] def q0_102 : SE := el 3 q0_101
@[simp] def q0_103 : SE := pt 0 q0_102
@[simp] def q0_104 : SE := el 3 (ei 3 (.inp 3) (.inp 46))
@[simp] def q0_105 : SE := bi .add (.inp 46) (zi 1)
@[simp] def q0_106 : SE := el 3 (ei 3 (.inp 4) (.inp 47))
@[simp] def q0_107 : SE := bi .add (.inp 47) (zi 1)
@[simp] def q0_108 : SE := bi .eql (.inp 0) (.inp 23)
@[simp] def q0_109 : SE := bi .eql (.inp 6) (.inp 29)
@[simp] def q0_110 : SE := pk q0_108 q0_109 bF
@[simp] def q0_111 : SE := bi .eql (.inp 7) (.inp 30)
@[simp] def q0_112 : SE := pk q0_110 q0_111 bF
@[simp] def q0_113 : SE := .app (.eqa [ none, none, none, none, none, none, none, none, none, none, none, none] false) [.agg (ipx 8 12), .agg (ipx 31 12)]
@[simp] def q0_114 : SE := pk q0_112 q0_113 bF
@[simp] def q0_115 : SE := .app (.eqb false) [.inp 20, .inp 43]
@[simp] def q0_116 : SE := pk q0_114 q0_115 bF
@[simp] def q0_117 : SE := bi .eql (.inp 21) (.inp 44)
@[simp] def q0_118 : SE := pk q0_116 q0_117 bF
@[simp] def q0_119 : SE := .app (.eqb false) [.inp 22, .inp 45]
@[simp] def q0_120 : SE := pk (.inp 46) (.inp 52) bF
@[simp] def q0_121 : SE := pk q0_120 (.inp 53) bF
@[simp] def q0_122 : SE := bi .eql (.inp 0) (.inp 3)
@[simp] def q0_123 : SE := bi .eql (.inp 1) (.inp 4)
@[simp] def q0_124 : SE := pk q0_122 q0_123 bF
@[simp] def q0_125 : SE := bi .neq (ln (.inp 0)) (ln (.inp 1))
@[simp] def q0_126 : SE := el 3 (ei 3 (.inp 1) (.inp 2))
@[simp] def q0_127 : SE := .app (.eqa [ some .i64, some .i64, some .i64] true) [q0_25, q0_126]
@[simp] def q0_128 : SE := pk (.inp 3) (bi .geq (.inp 1) (zi 0)) bF
@[simp] def q0_129 : SE := bi .leq (.inp 1) (zi 1000)
@[simp] def q0_130 : SE := pk q0_128 q0_129 bF
@[simp] def q0_131 : SE := .app (.eqa [ some .i64, some .i64, none] false) [q0_21, .inp 4]
@[simp] def q0_132 : SE := bi .lss (.inp 75) (ln (.inp 1))
@[simp] def q0_133 : SE := ei 23 (.inp 1) (.inp 75)
@[simp] def q0_134 : SE := el 23 q0_133
@[simp] def q0_135 : SE := .agg (ptx (q0_134) 0 23)
@[simp] def q0_136 : SE := pt 0 q0_134
@[simp] def q0_137 : SE := bi .add (.inp 75) (zi 1)
@[simp] def q0_138 : SE := pt 6 q0_134
@[simp] def q0_139 : SE := bi .neq q0_138 (.int .u8 1)
@[simp] def q0_140 : SE := bi .lss (.inp 114) (zi 0)
@[simp] def q0_141 : SE := bi .geq (.inp 114) (zi 24)
@[simp] def q0_142 : SE := bi .neq (tp 0 (.inp 118)) (.inp 115)
@[simp] def q0_143 : SE := bi .eql (.inp 117) (.inp 115)
@[simp] def q0_144 : SE := .app (.aidx 24 3 4 1 false) [.agg (ipx 40 74), .inp 114]
@[simp] def q0_145 : SE := nt q0_144
@[simp] def q0_146 : SE := pk q0_145 (.inp 119) bF
def rt_slices_Sort_int : RT :=
 ck .len [.nils] <|
 ck (.conv .u64) [zi 0] <|
.seg [.call 0 [] 127 [.int .u64 0] false] <|
.loop 0 1 [] <|
 ck (.bin .sub) [zi 0, zi 0] <|
 ck (.bin .leq) [zi 0, zi 12] <|
 ck (.bin .add) [zi 0, zi 1] <|
.loop 1 1 [] <|
 ck (.bin .lss) [zi 1, zi 0] <|
.ret (.tup [])
theorem run_slices_Sort_int : runF ES 91 [.nils] 0 = rt_slices_Sort_int := by kernel_rfl
def rt_image_bit : RT :=
 ck .isOne [.inp 0] <|
.ret (.clo 117 [] [.ref [.inp 0] 0])
theorem run_image_bit : runF E 82 [.inp 0] 1 = rt_image_bit := by kernel_rfl
def rt_image_bit_1 : RT :=
.seg [.chk [] (.bin .geq) [.inp 0, zi 0],
.chk [(bi .geq (.inp 0) (zi 0), true)] (.bin .lss) [.inp 0, zi 32],
.chk [] .pick [bi .geq (.inp 0) (zi 0), q0_0, bF],
.chk [(q0_1, true)] (.eload 1 false) [.ref [.inp 1] 0],
.chk [(q0_1, true)] (.bin .shl) [.int .u32 1, .inp 0],
.chk [(q0_1, true)] (.bin .and) [e1 (.ref [.inp 1] 0), q0_2],
.chk [(q0_1, true)] (.bin .neq) [q0_3, .int .u32 0],
.chk [] .pick [q0_1, q0_4, bF]] <|
.seg [.bind 2 (pk q0_1 q0_4 bF)] <|
.ret (.inp 2)
theorem run_image_bit_1 : runF E 117 [.inp 0, .ref [.inp 1] 0] 2 = rt_image_bit_1 := by kernel_rfl
def rt_image_clear : RT :=
 ck (.isAgg 11) [.agg (ipx 0 11)] <|
 ck (.isAgg 29) [.agg (ipx 11 29)] <|
.seg [.call 40 [] 81 [.agg (ipx 0 11), .agg (ipx 11 29)] false,
.call 41 [] 82 [.inp 36] false,
.same 41 [] (q0_5),
.chk [] .isOne [.inp 40]] <|
.ret (.clo 115 [] [.ref [.inp 40] 0, q0_6])
theorem run_image_clear : runF E 80 [.agg (ips 0 11), .agg (ips 11 29)] 40 = rt_image_clear := by kernel_rfl
def rt_image_clear_1 : RT :=
 ck (.eload 1 false) [.ref [.inp 1] 0] <|
 ck (.un .not) [e1 (.ref [.inp 1] 0)] <|
 ckg (q0_7) true (.eload 1 false) [.ref [.clo 117 [] [.ref [.inp 2] 0]] 0] <|
.seg [.call 3 [(q0_7, true)] 117 [.inp 0, .ref [.inp 2] 0] false] <|
 ckg (q0_7) true (.un .not) [.inp 3] <|
 ck .pick [q0_7, nt (.inp 3), bF] <|
.ret (pk q0_7 (nt (.inp 3)) bF)
theorem run_image_clear_1 : runF E 115 [.inp 0, .ref [.inp 1] 0, .ref [.clo 117 [] [.ref [.inp 2] 0]] 0] 3 = rt_image_clear_1 := by kernel_rfl
def rt_image_Stale : RT :=
 ck (.isAgg 11) [.agg (ipx 0 11)] <|
 ck (.isAgg 29) [.agg (ipx 11 29)] <|
.seg [.call 40 [] 116 [.inp 11, .inp 6] false] <|
.ret (.inp 40)
theorem run_image_Stale : runF E 81 [.agg (ips 0 11), .agg (ips 11 29)] 40 = rt_image_Stale := by kernel_rfl
def rt_image_Occupied : RT :=
 ck (.isAgg 11) [.agg (ipx 0 11)] <|
 ck (.isAgg 29) [.agg (ipx 11 29)] <|
 ck (.bin .lss) [.inp 40, zi 0] <|
 ckg (q0_8) false .len [.inp 0] <|
 ckg (q0_8) false (.mm false) [ln (.inp 0), zi 24] <|
 ckg (q0_8) false (.bin .geq) [.inp 40, q0_9] <|
 ck .pick [q0_8, bT, q0_10] <|
.seg [.bind 41 (pk q0_8 bT q0_10)] <|
.cond (.inp 41)
 (.ret (bT))
 (.seg [.call 42 [] 80 [.agg (ipx 0 11), .agg (ipx 11 29)] false,
.same 42 [] (.clo 115 [] [q0_11, q0_6]),
.call 43 [] 115 [.inp 40, q0_11, q0_6] false,
.chk [] (.un .not) [.inp 43],
.chk [(nt (.inp 43), false)] (.inr 24) [.inp 40],
.chk [(nt (.inp 43), false)] (.aidx 24 1 1 1 false) [.agg (ipx 11 29), .inp 40],
.chk [(nt (.inp 43), false)] (.bin .lss) [q0_12, .inp 4],
.chk [] .pick [nt (.inp 43), bT, q0_13]] <|
.seg [.bind 44 (pk (nt (.inp 43)) bT q0_13),
.bind 45 (q0_12),
.bind 46 (q0_13)] <|
.ret (.inp 44))
theorem run_image_Occupied : runF E 46 [.agg (ips 0 11), .agg (ips 11 29), .inp 40] 41 = rt_image_Occupied := by kernel_rfl
def rt_image_At : RT :=
 ck (.isAgg 11) [.agg (ipx 0 11)] <|
 ck (.isAgg 29) [.agg (ipx 11 29)] <|
 ck (.bin .lss) [.inp 40, zi 0] <|
 ckg (q0_8) false .len [.inp 0] <|
 ckg (q0_8) false (.bin .geq) [.inp 40, ln (.inp 0)] <|
 ck .pick [q0_8, bT, q0_14] <|
 ckg (q0_15) false (.eidx 11) [.inp 0, .inp 40] <|
 ckg (q0_15) false (.eoff 0) [q0_16] <|
 ckg (q0_15) false (.eload 1 false) [q0_17] <|
 ckg (q0_15) false (.bin .neq) [q0_18, .int .u8 2] <|
 ck .pick [q0_15, bT, q0_19] <|
.seg [.call 41 [(q0_20, false)] 81 [.agg (ipx 0 11), .agg (ipx 11 29)] false] <|
 ck .pick [q0_20, bT, .inp 41] <|
.seg [.bind 42 (q0_20),
.bind 43 (pk q0_20 bT (.inp 41))] <|
.cond (.inp 43)
 (.ret (zi (-1)))
 (.seg [.call 44 [] 82 [.inp 37] false,
.same 44 [] (.clo 117 [] [.ref [.inp 37] 0]),
.call 45 [] 117 [.inp 40, .ref [.inp 37] 0] false,
.call 46 [] 82 [.inp 38] false,
.same 46 [] (.clo 117 [] [.ref [.inp 38] 0]),
.call 47 [] 117 [.inp 40, .ref [.inp 38] 0] false] <|
 ckg (.inp 45) true (.un .not) [.inp 47] <|
 ck .pick [.inp 45, nt (.inp 47), bF] <|
.cond (pk (.inp 45) (nt (.inp 47)) bF)
 (.ret (zi 0))
 (ckg (.inp 47) true (.un .not) [.inp 45] <|
 ck .pick [.inp 47, nt (.inp 45), bF] <|
.cond (pk (.inp 47) (nt (.inp 45)) bF)
 (.ret (zi 1))
 (.ret (zi (-1)))))
theorem run_image_At : runF E 47 [.agg (ips 0 11), .agg (ips 11 29), .inp 40] 41 = rt_image_At := by kernel_rfl
def rt_tick_Late : RT :=
 ck (.bin .lss) [.inp 1, .inp 0] <|
.ret (bi .lss (.inp 1) (.inp 0))
theorem run_tick_Late : runF E 116 [.inp 0, .inp 1] 2 = rt_tick_Late := by kernel_rfl
def rt_route_Own : RT :=
 ck (.isAgg 3) [q0_21] <|
.seg [.call 3 [] 84 [.inp 2] false] <|
 ck .isOne [.inp 3] <|
 ck (.isAgg 3) [q0_22] <|
.ret (q0_22)
theorem run_route_Own : runF E 102 [.agg [.inp 0, .inp 1, .inp 2]] 3 = rt_route_Own := by kernel_rfl
def rt_slices_Clone_Step : RT :=
.seg [.chk [] .len [.inp 0],
.isNil 1 [] (.inp 0)] <|
.cond (.inp 1)
 (.ret (.nils))
 (.seg [.chk [] (.szs 3) [.inp 0],
.chk [] .app [.app .lst [], .inp 0]] <|
.ret (q0_23))
theorem run_slices_Clone_Step : runF E 84 [.inp 0] 1 = rt_slices_Clone_Step := by kernel_rfl
def rt_slices_Clone_Need : RT :=
.seg [.chk [] .len [.inp 0],
.isNil 1 [] (.inp 0)] <|
.cond (.inp 1)
 (.ret (.nils))
 (.seg [.chk [] (.szs 3) [.inp 0],
.chk [] .app [.app .lst [], .inp 0]] <|
.ret (q0_23))
theorem run_slices_Clone_Need : runF E 103 [.inp 0] 1 = rt_slices_Clone_Need := by kernel_rfl
def rt_held_clash : RT :=
 ck .isOne [.inp 1] <|
 ck .len [.inp 0] <|
.loop 0 2 [zi 0] <|
 ck (.bin .lss) [.inp 2, ln (.inp 0)] <|
.cond (q0_24)
 (ck (.eidx 3) [.inp 0, .inp 2] <|
 ck (.eload 3 true) [ei 3 (.inp 0) (.inp 2)] <|
 ck (.isAgg 3) [q0_25] <|
 ck .len [.inp 1] <|
.loop 1 3 [zi 0] <|
 ck (.bin .lss) [.inp 3, ln (.inp 1)] <|
.cond (bi .lss (.inp 3) (ln (.inp 1)))
 (ck (.eidx 3) [.inp 1, .inp 3] <|
 ck (.eload 3 true) [ei 3 (.inp 1) (.inp 3)] <|
 ck (.isAgg 3) [q0_26] <|
 ck (.isAgg 3) [.agg [q0_27, q0_28, pt 2 q0_25]] <|
 ck (.isAgg 3) [.agg [q0_29, q0_30, pt 2 q0_26]] <|
 ck (.bin .eql) [q0_27, q0_29] <|
 ckg (q0_31) true (.bin .neq) [q0_28, q0_30] <|
 ck .pick [q0_31, q0_32, bF] <|
.seg [.bind 4 (pk q0_31 q0_32 bF),
.bind 5 (q0_31),
.bind 6 (q0_32)] <|
.cond (.inp 4)
 (ck (.bin .geq) [.inp 3, zi 0] <|
.cond (bi .geq (.inp 3) (zi 0))
 (ck (.bin .geq) [.inp 2, zi 0] <|
.ret (bi .geq (.inp 2) (zi 0)))
 (ck (.bin .add) [.inp 2, zi 1] <|
.again 0 [bi .add (.inp 2) (zi 1)]))
 (ck (.bin .add) [.inp 3, zi 1] <|
.again 1 [bi .add (.inp 3) (zi 1)]))
 (ck (.bin .geq) [zi (-1), zi 0] <|
 ck (.bin .add) [.inp 2, zi 1] <|
.again 0 [bi .add (.inp 2) (zi 1)]))
 (ck (.bin .geq) [zi (-1), zi 0] <|
.ret (bF))
theorem run_held_clash : runF E 89 [.inp 0, .inp 1] 2 = rt_held_clash := by kernel_rfl
def rt_held_Needs : RT :=
 ck (.isAgg 23) [.agg (ipx 0 23)] <|
 ck (.isAgg 23) [.agg (ipx 0 23)] <|
.seg [.chk [] (.mm true) [.inp 7, zi 0],
.chk [] .len [.inp 3],
.chk [] .isOne [q0_33],
.chk [] .isOne [ln (.inp 3)]] <|
 ck .len [.inp 5] <|
.loop 0 23 [.nils, zi 0] <|
 ck (.bin .lss) [.inp 24, ln (.inp 5)] <|
.cond (bi .lss (.inp 24) (ln (.inp 5)))
 (ck (.eidx 3) [.inp 5, .inp 24] <|
 ck (.eload 3 true) [ei 3 (.inp 5) (.inp 24)] <|
 ck (.isAgg 3) [q0_34] <|
 ck (.isAgg 3) [q0_36] <|
 ck (.bin .geq) [q0_35, q0_33] <|
 ckg (q0_37) true (.bin .neq) [q0_35, ln (.inp 3)] <|
.seg [.chk [(q0_38, false), (q0_37, true)] (.un .not) [.inp 20]] <|
 ckg (q0_37) true .pick [q0_38, bT, nt (.inp 20)] <|
 ck .pick [q0_37, q0_39, bF] <|
.seg [.bind 25 (pk q0_37 q0_39 bF),
.bind 26 (q0_39)] <|
.cond (.inp 25)
 (ck (.isAgg 3) [q0_36] <|
.seg [.chk [] (.szs 3) [q0_40],
.chk [] .app [.inp 23, q0_40]] <|
.seg [.bind 27 (q0_40),
.bind 28 (.app .app [.inp 23, q0_40])] <|
 ck (.bin .add) [.inp 24, zi 1] <|
.again 0 [.inp 28, q0_41])
 (ck (.bin .add) [.inp 24, zi 1] <|
.again 0 [.inp 23, q0_41]))
 (.ret (.inp 23))
theorem run_held_Needs : runF E 79 [.agg (ips 0 23)] 23 = rt_held_Needs := by kernel_rfl
def rt_held_Own : RT :=
 ck (.isAgg 23) [.agg (ipx 0 23)] <|
.seg [.call 23 [] 102 [q0_42] false,
.call 24 [] 84 [.inp 4] false,
.call 25 [] 103 [.inp 5] false,
.chk [] (.isAgg 3) [.inp 23],
.chk [] .isOne [.inp 24],
.chk [] .isOne [.inp 25]] <|
 ck (.isAgg 23) [q0_43] <|
.ret (q0_43)
theorem run_held_Own : runF E 67 [.agg (ips 0 23)] 23 = rt_held_Own := by kernel_rfl
def rt_held_Right : RT :=
 ck (.isAgg 23) [.agg (ipx 0 23)] <|
 ck .len [.inp 3] <|
 ck (.bin .lss) [.inp 0, zi 1] <|
 ckg (bi .lss (.inp 0) (zi 1)) false (.mm true) [.inp 0, .inp 21] <|
 ckg (bi .lss (.inp 0) (zi 1)) false (.bin .gtr) [q0_44, zi 1073741824] <|
 ck .pick [bi .lss (.inp 0) (zi 1), bT, q0_45] <|
 ckg (q0_46) false (.bin .lss) [.inp 21, zi 0] <|
 ck .pick [q0_46, bT, q0_47] <|
 ckg (q0_48) false (.bin .lss) [ln (.inp 3), zi 1] <|
 ck .pick [q0_48, bT, q0_49] <|
 ckg (q0_50) false (.bin .gtr) [ln (.inp 3), zi 12] <|
 ck .pick [q0_50, bT, q0_51] <|
 ckg (q0_52) false .len [.inp 4] <|
 ckg (q0_52) false (.bin .gtr) [ln (.inp 4), zi 2] <|
 ck .pick [q0_52, bT, q0_53] <|
.seg [.bind 23 (q0_46),
.bind 24 (q0_48),
.bind 25 (q0_50),
.bind 26 (q0_52),
.bind 27 (pk q0_52 bT q0_53)] <|
.cond (.inp 27)
 (.ret (bF))
 (ck (.bin .eql) [.inp 6, .int .u8 0] <|
 ckg (q0_54) false (.bin .geq) [.inp 6, .int .u8 5] <|
 ck .pick [q0_54, bT, q0_55] <|
 ckg (q0_56) false (.bin .lss) [.inp 7, zi 0] <|
 ck .pick [q0_56, bT, bi .lss (.inp 7) (zi 0)] <|
 ckg (q0_57) false (.bin .gtr) [.inp 7, ln (.inp 3)] <|
 ck .pick [q0_57, bT, q0_58] <|
.seg [.call 28 [(q0_59, false)] 89 [.inp 5, .inp 5] false] <|
 ck .pick [q0_59, bT, .inp 28] <|
.seg [.bind 29 (q0_57),
.bind 30 (q0_59),
.bind 31 (pk q0_59 bT (.inp 28))] <|
.cond (.inp 31)
 (.ret (bF))
 (.seg [.chk [] (.eoff 8) [.ref (ipx 0 23) 0],
.chk [] (.slice false true) [.app .lst (ipx 8 12), ln (.inp 3)],
.chk [] .isOne [.inp 8],
.chk [] .isOne [.inp 9],
.chk [] .isOne [.inp 10],
.chk [] .isOne [.inp 11],
.chk [] .isOne [.inp 12],
.chk [] .isOne [.inp 13],
.chk [] .isOne [.inp 14],
.chk [] .isOne [.inp 15],
.chk [] .isOne [.inp 16],
.chk [] .isOne [.inp 17],
.chk [] .isOne [.inp 18],
.chk [] .isOne [.inp 19],
.chk [] (.szs 1) [q0_60]] <|
.seg [.bind 32 (q0_60),
.bind 33 (pk (bi .lss (zi 0) q0_61) (.app (.rowget 1 0 1 false) [q0_60, zi 0]) bF),
.bind 34 (pk (bi .lss (zi 1) q0_61) (.app (.rowget 1 0 1 false) [q0_60, zi 1]) bF),
.bind 35 (pk (bi .lss (zi 2) q0_61) (.app (.rowget 1 0 1 false) [q0_60, zi 2]) bF),
.bind 36 (pk (bi .lss (zi 3) q0_61) (.app (.rowget 1 0 1 false) [q0_60, zi 3]) bF),
.bind 37 (pk (bi .lss (zi 4) q0_61) (.app (.rowget 1 0 1 false) [q0_60, zi 4]) bF),
.bind 38 (pk (bi .lss (zi 5) q0_61) (.app (.rowget 1 0 1 false) [q0_60, zi 5]) bF),
.bind 39 (pk (bi .lss (zi 6) q0_61) (.app (.rowget 1 0 1 false) [q0_60, zi 6]) bF),
.bind 40 (pk (bi .lss (zi 7) q0_61) (.app (.rowget 1 0 1 false) [q0_60, zi 7]) bF),
.bind 41 (pk (bi .lss (zi 8) q0_61) (.app (.rowget 1 0 1 false) [q0_60, zi 8]) bF),
.bind 42 (pk (bi .lss (zi 9) q0_61) (.app (.rowget 1 0 1 false) [q0_60, zi 9]) bF),
.bind 43 (pk (bi .lss (zi 10) q0_61) (.app (.rowget 1 0 1 false) [q0_60, zi 10]) bF),
.bind 44 (pk (bi .lss (zi 11) q0_61) (.app (.rowget 1 0 1 false) [q0_60, zi 11]) bF)] <|
 ck (.eoff 8) [.ref (ipx 0 23) 0] <|
 ck (.eload 12 true) [.ref (ipx 0 23) 8] <|
 ck (.eqa [ none, none, none, none, none, none, none, none, none, none, none, none] true) [.agg (ipx 33 12), q0_62] <|
.seg [.bind 45 (q0_62),
.bind 46 (.app (.eqa [ none, none, none, none, none, none, none, none, none, none, none, none] true) [.agg (ipx 33 12), q0_62])] <|
.cond (.inp 46)
 (.ret (bF))
 (ck (.eoff 1) [.ref (ipx 0 23) 0] <|
 ck (.eoff 2) [.ref (ipx 0 23) 1] <|
 ck (.eload 1 false) [.ref (ipx 0 23) 3] <|
 ck (.eoff 4) [.ref (ipx 0 23) 0] <|
 ck (.eload 1 false) [.ref (ipx 0 23) 4] <|
.seg [.chk [] .isOne [e1 (.ref (ipx 0 23) 3)],
.chk [] .isOne [e1 (.ref (ipx 0 23) 4)],
.chk [] .isOne [e1 (.ref (ipx 0 23) 3)],
.chk [] .isOne [e1 (.ref (ipx 0 23) 4)]] <|
.seg [.call 47 [] 90 [q0_63] false] <|
 ck .len [.inp 47] <|
.seg [.bind 48 (e1 (.ref (ipx 0 23) 3)),
.bind 49 (e1 (.ref (ipx 0 23) 4)),
.bind 50 (q0_63)] <|
.loop 0 51 [.nils, zi 0] <|
 ck (.bin .lss) [.inp 52, ln (.inp 47)] <|
.cond (bi .lss (.inp 52) (ln (.inp 47)))
 (ck (.eidx 3) [.inp 47, .inp 52] <|
 ck (.eload 3 true) [q0_64] <|
 ck (.isAgg 3) [q0_65] <|
.seg [.chk [] .isOne [q0_66],
.chk [] .isOne [q0_66]] <|
.seg [.chk [] (.szs 1) [q0_67],
.chk [] .app [.inp 51, q0_67]] <|
 ck (.bin .add) [.inp 52, zi 1] <|
.again 0 [.app .app [.inp 51, q0_67], bi .add (.inp 52) (zi 1)])
 (.seg [.srt 53 (.inp 51)] <|
.seg [.cmp 54 (.inp 53),
.chk [] .len [.inp 54],
.chk [] (.eoff 4) [.ref (ipx 0 23) 0],
.chk [] (.eload 1 false) [.ref (ipx 0 23) 4],
.chk [] .len [e1 (.ref (ipx 0 23) 4)],
.chk [] (.bin .add) [ln (.inp 3), q0_68],
.chk [] (.bin .lss) [ln (.inp 54), q0_69]] <|
.seg [.bind 55 (e1 (.ref (ipx 0 23) 4)),
.bind 56 (q0_68),
.bind 57 (q0_69),
.bind 58 (bi .lss (ln (.inp 54)) q0_69)] <|
.cond (.inp 58)
 (.ret (bF))
 (ck (.eoff 5) [.ref (ipx 0 23) 0] <|
 ck (.eload 1 false) [.ref (ipx 0 23) 5] <|
 ck .len [e1 (.ref (ipx 0 23) 5)] <|
.seg [.bind 59 (e1 (.ref (ipx 0 23) 5)),
.bind 60 (ln (e1 (.ref (ipx 0 23) 5)))] <|
.loop 0 61 [zi 0] <|
 ck (.bin .lss) [.inp 61, .inp 60] <|
.cond (bi .lss (.inp 61) (.inp 60))
 (ck (.eidx 3) [.inp 59, .inp 61] <|
 ck (.eload 3 true) [q0_70] <|
 ck (.isAgg 3) [q0_71] <|
 ck (.bin .lss) [q0_72, zi 0] <|
 ckg (q0_73) false (.bin .gtr) [q0_72, ln (.inp 3)] <|
 ck .pick [q0_73, bT, q0_74] <|
 ckg (q0_75) false (.bin .lss) [q0_76, zi 0] <|
 ck .pick [q0_75, bT, q0_77] <|
 ckg (q0_78) false (.bin .geq) [q0_76, zi 24] <|
 ck .pick [q0_78, bT, q0_79] <|
 ckg (q0_80) false (.bin .shr) [q0_81, .int .u64 1] <|
 ckg (q0_80) false (.bin .neq) [q0_82, zi 0] <|
 ck .pick [q0_80, bT, q0_83] <|
.seg [.bind 62 (q0_75),
.bind 63 (q0_78),
.bind 64 (q0_80),
.bind 65 (pk q0_80 bT q0_83)] <|
.cond (.inp 65)
 (.ret (bF))
 (ck (.bin .add) [.inp 61, zi 1] <|
.again 0 [bi .add (.inp 61) (zi 1)]))
 (.ret (bT)))))))
theorem run_held_Right : runF E 57 [.agg (ips 0 23)] 23 = rt_held_Right := by kernel_rfl
def rt_slices_Concat_Step : RT :=
 ck .len [.inp 0] <|
.loop 0 1 [zi 0, zi 0] <|
 ck (.bin .lss) [.inp 2, ln (.inp 0)] <|
.cond (q0_24)
 (ck (.eidx 1) [.inp 0, .inp 2] <|
 ck (.eload 1 false) [ei 1 (.inp 0) (.inp 2)] <|
 ck .len [q0_84] <|
 ck (.bin .add) [.inp 1, q0_85] <|
 ck (.bin .lss) [q0_86, zi 0] <|
.cond (bi .lss q0_86 (zi 0))
 (.dead 6 [zi 9])
 (ck (.bin .add) [.inp 2, zi 1] <|
.again 0 [q0_86, bi .add (.inp 2) (zi 1)]))
 (ck (.bin .lss) [.inp 1, zi 0] <|
.cond (bi .lss (.inp 1) (zi 0))
 (.dead 6 [zi 9])
 (ck .len [.nils] <|
 ck (.bin .sub) [zi 0, zi 0] <|
 ck (.bin .sub) [.inp 1, zi 0] <|
 ck (.bin .gtr) [bi .sub (.inp 1) (zi 0), zi 0] <|
.cond (bi .gtr (bi .sub (.inp 1) (zi 0)) (zi 0))
 (ck .rep [bi .sub (.inp 1) (zi 0), .agg [zi 0, zi 0, zi 0]] <|
 ck .len [.nils] <|
 ck (.slice false true) [q0_87, zi 0] <|
.seg [.bind 3 (.app (.slice false true) [q0_87, zi 0])] <|
 ck .len [.inp 0] <|
.loop 0 4 [.inp 3, zi 0] <|
 ck (.bin .lss) [.inp 5, ln (.inp 0)] <|
.cond (bi .lss (.inp 5) (ln (.inp 0)))
 (ck (.eidx 1) [.inp 0, .inp 5] <|
 ck (.eload 1 false) [ei 1 (.inp 0) (.inp 5)] <|
.seg [.chk [] (.szs 3) [q0_88],
.chk [] .app [.inp 4, q0_88]] <|
 ck (.bin .add) [.inp 5, zi 1] <|
.again 0 [.app .app [.inp 4, q0_88], bi .add (.inp 5) (zi 1)])
 (.ret (.inp 4)))
 (ck .len [.inp 0] <|
.loop 0 3 [.nils, zi 0] <|
 ck (.bin .lss) [.inp 4, ln (.inp 0)] <|
.cond (bi .lss (.inp 4) (ln (.inp 0)))
 (ck (.eidx 1) [.inp 0, .inp 4] <|
 ck (.eload 1 false) [ei 1 (.inp 0) (.inp 4)] <|
.seg [.chk [] (.szs 3) [q0_89],
.chk [] .app [.inp 3, q0_89]] <|
 ck (.bin .add) [.inp 4, zi 1] <|
.again 0 [.app .app [.inp 3, q0_89], bi .add (.inp 4) (zi 1)])
 (.ret (.inp 3)))))
theorem run_slices_Concat_Step : runF E 90 [.inp 0] 1 = rt_slices_Concat_Step := by kernel_rfl
def rt_held_Sections : RT :=
 ck (.isAgg 23) [.agg (ipx 0 23)] <|
 ck (.isAgg 23) [.agg (ipx 0 23)] <|
 ck .len [.inp 3] <|
.loop 0 23 [zi 0, .nils] <|
 ck (.bin .lss) [.inp 23, ln (.inp 3)] <|
.cond (bi .lss (.inp 23) (ln (.inp 3)))
 (ck (.eidx 3) [.inp 3, .inp 23] <|
 ck (.eload 3 true) [ei 3 (.inp 3) (.inp 23)] <|
 ck (.isAgg 3) [q0_90] <|
 ck (.bin .geq) [.inp 23, .inp 7] <|
.cond (bi .geq (.inp 23) (.inp 7))
 (.seg [.chk [] .isOne [q0_91],
.chk [] .isOne [q0_91]] <|
.seg [.chk [] (.szs 1) [q0_92],
.chk [] .app [.inp 24, q0_92]] <|
 ck (.un .not) [bT] <|
 ck (.bin .add) [.inp 23, zi 1] <|
.again 0 [q0_93, .app .app [.inp 24, q0_92]])
 (ck (.bin .add) [.inp 23, zi 1] <|
.again 0 [q0_93, .inp 24]))
 (ck .len [.inp 4] <|
.loop 0 25 [zi 0, .inp 24] <|
 ck (.bin .lss) [.inp 25, ln (.inp 4)] <|
.cond (bi .lss (.inp 25) (ln (.inp 4)))
 (ck (.eidx 3) [.inp 4, .inp 25] <|
 ck (.eload 3 true) [ei 3 (.inp 4) (.inp 25)] <|
 ck (.isAgg 3) [q0_94] <|
 ck (.un .not) [.inp 20] <|
.cond (.inp 20)
 (ck (.bin .add) [.inp 25, zi 1] <|
.again 0 [q0_95, .inp 26])
 (.seg [.chk [] .isOne [q0_96],
.chk [] .isOne [q0_96]] <|
.seg [.chk [] (.szs 1) [q0_97],
.chk [] .app [.inp 26, q0_97]] <|
 ck (.un .not) [bT] <|
 ck (.bin .add) [.inp 25, zi 1] <|
.again 0 [q0_95, .app .app [.inp 26, q0_97]]))
 (.ret (.inp 26)))
theorem run_held_Sections : runF E 113 [.agg (ips 0 23)] 23 = rt_held_Sections := by kernel_rfl
def rt_held_Has : RT :=
 ck (.isAgg 23) [.agg (ipx 0 23)] <|
.seg [.call 24 [] 113 [.agg (ipx 0 23)] false] <|
 ck .len [.inp 24] <|
.loop 0 25 [zi 0] <|
 ck (.bin .lss) [.inp 25, ln (.inp 24)] <|
.cond (q0_98)
 (ck (.eidx 1) [.inp 24, .inp 25] <|
 ck (.eload 1 false) [q0_99] <|
 ck (.bin .eql) [.inp 23, q0_100] <|
.cond (bi .eql (.inp 23) q0_100)
 (ck (.bin .geq) [.inp 25, zi 0] <|
.ret (bi .geq (.inp 25) (zi 0)))
 (ck (.bin .add) [.inp 25, zi 1] <|
.again 0 [q0_95]))
 (ck (.bin .geq) [zi (-1), zi 0] <|
.ret (bF))
theorem run_held_Has : runF E 78 [.agg (ips 0 23), .inp 23] 24 = rt_held_Has := by kernel_rfl
def rt_held_Wants : RT :=
 ck (.isAgg 23) [.agg (ipx 0 23)] <|
.seg [.call 24 [] 79 [.agg (ipx 0 23)] false] <|
 ck .len [.inp 24] <|
.loop 0 25 [zi 0] <|
 ck (.bin .lss) [.inp 25, ln (.inp 24)] <|
.cond (q0_98)
 (ck (.eidx 3) [.inp 24, .inp 25] <|
 ck (.eload 3 true) [q0_101] <|
 ck (.isAgg 3) [q0_102] <|
 ck (.bin .eql) [q0_103, .inp 23] <|
.cond (bi .eql q0_103 (.inp 23))
 (.ret (.tup [pt 1 q0_102, bT]))
 (ck (.bin .add) [.inp 25, zi 1] <|
.again 0 [q0_95]))
 (.ret (.tup [zi 0, bF]))
theorem run_held_Wants : runF E 43 [.agg (ips 0 23), .inp 23] 24 = rt_held_Wants := by kernel_rfl
def rt_held_Apart : RT :=
 ck (.isAgg 23) [.agg (ipx 0 23)] <|
 ck (.isAgg 23) [.agg (ipx 23 23)] <|
 ck (.isAgg 23) [.agg (ipx 0 23)] <|
 ck .len [.inp 3] <|
.loop 0 46 [zi 0] <|
 ck (.bin .lss) [.inp 46, ln (.inp 3)] <|
.cond (bi .lss (.inp 46) (ln (.inp 3)))
 (ck (.eidx 3) [.inp 3, .inp 46] <|
 ck (.eload 3 true) [ei 3 (.inp 3) (.inp 46)] <|
 ck (.isAgg 3) [q0_104] <|
 ck (.bin .geq) [.inp 46, .inp 7] <|
.cond (bi .geq (.inp 46) (.inp 7))
 (.seg [.call 47 [] 78 [.agg (ipx 23 23), pt 0 q0_104] false] <|
.cond (.inp 47)
 (ck (.un .not) [bF] <|
.ret (bF))
 (ck (.un .not) [bT] <|
 ck (.bin .add) [.inp 46, zi 1] <|
.again 0 [q0_105]))
 (ck (.bin .add) [.inp 46, zi 1] <|
.again 0 [q0_105]))
 (ck .len [.inp 4] <|
.loop 0 47 [zi 0] <|
 ck (.bin .lss) [.inp 47, ln (.inp 4)] <|
.cond (bi .lss (.inp 47) (ln (.inp 4)))
 (ck (.eidx 3) [.inp 4, .inp 47] <|
 ck (.eload 3 true) [ei 3 (.inp 4) (.inp 47)] <|
 ck (.isAgg 3) [q0_106] <|
 ck (.un .not) [.inp 20] <|
.cond (.inp 20)
 (ck (.bin .add) [.inp 47, zi 1] <|
.again 0 [q0_107])
 (.seg [.call 48 [] 78 [.agg (ipx 23 23), pt 0 q0_106] false] <|
.cond (.inp 48)
 (ck (.un .not) [bF] <|
.ret (bF))
 (ck (.un .not) [bT] <|
 ck (.bin .add) [.inp 47, zi 1] <|
.again 0 [q0_107])))
 (.seg [.call 48 [] 79 [.agg (ipx 0 23)] false,
.call 49 [] 79 [.agg (ipx 23 23)] false,
.call 50 [] 89 [.inp 48, .inp 49] false,
.chk [] (.un .not) [.inp 50],
.chk [] .isOne [nt (.inp 50)]] <|
.ret (nt (.inp 50))))
theorem run_held_Apart : runF E 56 [.agg (ips 0 23), .agg (ips 23 23)] 46 = rt_held_Apart := by kernel_rfl
def rt_held_Same : RT :=
 ck (.isAgg 23) [.agg (ipx 0 23)] <|
 ck (.isAgg 23) [.agg (ipx 23 23)] <|
 ck (.bin .eql) [.inp 0, .inp 23] <|
 ckg (q0_108) true (.bin .eql) [.inp 6, .inp 29] <|
 ck .pick [q0_108, q0_109, bF] <|
 ckg (q0_110) true (.bin .eql) [.inp 7, .inp 30] <|
 ck .pick [q0_110, q0_111, bF] <|
 ckg (q0_112) true (.eqa [ none, none, none, none, none, none, none, none, none, none, none, none] false) [.agg (ipx 8 12), .agg (ipx 31 12)] <|
 ck .pick [q0_112, q0_113, bF] <|
 ckg (q0_114) true (.eqb false) [.inp 20, .inp 43] <|
 ck .pick [q0_114, q0_115, bF] <|
 ckg (q0_116) true (.bin .eql) [.inp 21, .inp 44] <|
 ck .pick [q0_116, q0_117, bF] <|
 ckg (q0_118) true (.eqb false) [.inp 22, .inp 45] <|
 ck .pick [q0_118, q0_119, bF] <|
.seg [.bind 46 (pk q0_118 q0_119 bF),
.bind 47 (q0_112),
.bind 48 (q0_113),
.bind 49 (q0_114),
.bind 50 (q0_116),
.bind 51 (q0_118)] <|
.seg [.call 52 [(.inp 46, true)] 96 [q0_42, .agg [.inp 24, .inp 25, .inp 26]] false] <|
 ck .pick [.inp 46, .inp 52, bF] <|
.seg [.call 53 [(q0_120, true)] 97 [.inp 4, .inp 27] false] <|
 ck .pick [q0_120, .inp 53, bF] <|
.seg [.call 54 [(q0_121, true)] 98 [.inp 5, .inp 28] false] <|
 ck .pick [q0_121, .inp 54, bF] <|
.seg [.bind 55 (pk q0_121 (.inp 54) bF)] <|
.ret (.inp 55)
theorem run_held_Same : runF E 64 [.agg (ips 0 23), .agg (ips 23 23)] 46 = rt_held_Same := by kernel_rfl
def rt_route_Same : RT :=
 ck (.isAgg 3) [q0_21] <|
 ck (.isAgg 3) [.agg [.inp 3, .inp 4, .inp 5]] <|
 ck (.bin .eql) [.inp 0, .inp 3] <|
 ckg (q0_122) true (.bin .eql) [.inp 1, .inp 4] <|
 ck .pick [q0_122, q0_123, bF] <|
.seg [.call 6 [(q0_124, true)] 97 [.inp 2, .inp 5] false] <|
 ck .pick [q0_124, .inp 6, bF] <|
.seg [.bind 7 (pk q0_124 (.inp 6) bF)] <|
.ret (.inp 7)
theorem run_route_Same : runF E 96 [.agg [.inp 0, .inp 1, .inp 2], .agg [.inp 3, .inp 4, .inp 5]] 6 = rt_route_Same := by kernel_rfl
def rt_slices_Equal_Step : RT :=
 ck .len [.inp 0] <|
 ck .len [.inp 1] <|
 ck (.bin .neq) [ln (.inp 0), ln (.inp 1)] <|
.cond (q0_125)
 (.ret (bF))
 (ck .len [.inp 0] <|
.loop 0 2 [zi 0] <|
 ck (.bin .lss) [.inp 2, ln (.inp 0)] <|
.cond (q0_24)
 (.seg [.chk [] (.eidx 3) [.inp 0, .inp 2],
.chk [] (.eload 3 true) [ei 3 (.inp 0) (.inp 2)],
.chk [] (.eidx 3) [.inp 1, .inp 2],
.chk [] (.eload 3 true) [ei 3 (.inp 1) (.inp 2)],
.chk [] (.eqa [ some .i64, some .i64, some .i64] true) [q0_25, q0_126]] <|
.cond (q0_127)
 (.ret (bF))
 (ck (.bin .add) [.inp 2, zi 1] <|
.again 0 [bi .add (.inp 2) (zi 1)]))
 (.ret (bT)))
theorem run_slices_Equal_Step : runF E 97 [.inp 0, .inp 1] 2 = rt_slices_Equal_Step := by kernel_rfl
def rt_slices_Equal_Need : RT :=
 ck .len [.inp 0] <|
 ck .len [.inp 1] <|
 ck (.bin .neq) [ln (.inp 0), ln (.inp 1)] <|
.cond (q0_125)
 (.ret (bF))
 (ck .len [.inp 0] <|
.loop 0 2 [zi 0] <|
 ck (.bin .lss) [.inp 2, ln (.inp 0)] <|
.cond (q0_24)
 (.seg [.chk [] (.eidx 3) [.inp 0, .inp 2],
.chk [] (.eload 3 true) [ei 3 (.inp 0) (.inp 2)],
.chk [] (.eidx 3) [.inp 1, .inp 2],
.chk [] (.eload 3 true) [ei 3 (.inp 1) (.inp 2)],
.chk [] (.eqa [ some .i64, some .i64, some .i64] true) [q0_25, q0_126]] <|
.cond (q0_127)
 (.ret (bF))
 (ck (.bin .add) [.inp 2, zi 1] <|
.again 0 [bi .add (.inp 2) (zi 1)]))
 (.ret (bT)))
theorem run_slices_Equal_Need : runF E 98 [.inp 0, .inp 1] 2 = rt_slices_Equal_Need := by kernel_rfl
def rt_point_position : RT :=
 ck (.bin .eql) [.inp 0, zi 0] <|
 ckg (bi .eql (.inp 0) (zi 0)) false (.bin .eql) [.inp 0, zi 1] <|
 ck .pick [bi .eql (.inp 0) (zi 0), bT, bi .eql (.inp 0) (zi 1)] <|
.ret (pk (bi .eql (.inp 0) (zi 0)) bT (bi .eql (.inp 0) (zi 1)))
theorem run_point_position : runF E 93 [.inp 0] 1 = rt_point_position := by kernel_rfl
def rt_point_Rest : RT :=
.ret (.agg [zi (-1), zi 0, bF])
theorem run_point_Rest : runF E 94 [] 0 = rt_point_Rest := by kernel_rfl
def rt_point_Right : RT :=
 ck (.isAgg 3) [q0_21] <|
.seg [.call 3 [] 93 [.inp 0] false,
.chk [(.inp 3, true)] (.bin .geq) [.inp 1, zi 0],
.chk [] .pick [.inp 3, bi .geq (.inp 1) (zi 0), bF],
.chk [(q0_128, true)] (.bin .leq) [.inp 1, zi 1000],
.chk [] .pick [q0_128, q0_129, bF],
.call 4 [(q0_130, false)] 94 [] false,
.chk [(q0_130, false)] (.eqa [ some .i64, some .i64, none] false) [q0_21, .inp 4],
.chk [] .pick [q0_130, bT, q0_131]] <|
.seg [.bind 5 (pk q0_130 bT q0_131),
.bind 6 (q0_130)] <|
.ret (.inp 5)
theorem run_point_Right : runF E 60 [.agg [.inp 0, .inp 1, .inp 2]] 3 = rt_point_Right := by kernel_rfl
def rt_free_Holder : RT :=
 ck (.isAgg 74) [.agg (ipx 0 74)] <|
 ck (.isAgg 74) [.agg (ipx 0 74)] <|
 ck .isOne [.inp 74] <|
 ck .len [.inp 1] <|
.loop 0 75 [zi 0] <|
 ck (.bin .lss) [.inp 75, ln (.inp 1)] <|
.cond (q0_132)
 (ck (.eidx 23) [.inp 1, .inp 75] <|
 ck (.eload 23 true) [q0_133] <|
 ck (.isAgg 23) [q0_134] <|
.seg [.call 76 [] 78 [q0_135, .inp 74] false] <|
.cond (.inp 76)
 (ck (.isAgg 23) [q0_135] <|
 ck .isOne [q0_136] <|
 ck (.un .not) [bF] <|
.ret (.tup [q0_136, bT]))
 (ck (.bin .add) [.inp 75, zi 1] <|
.again 0 [q0_137]))
 (.ret (.tup [zi 0, bF]))
theorem run_free_Holder : runF E 12 [.agg (ips 0 74), .inp 74] 75 = rt_free_Holder := by kernel_rfl
def rt_free_Wanted : RT :=
 ck (.isAgg 74) [.agg (ipx 0 74)] <|
 ck .len [.inp 1] <|
.loop 0 75 [zi 0] <|
 ck (.bin .lss) [.inp 75, ln (.inp 1)] <|
.cond (q0_132)
 (ck (.eidx 23) [.inp 1, .inp 75] <|
 ck (.eload 23 true) [q0_133] <|
 ck (.isAgg 23) [q0_134] <|
.seg [.call 76 [] 43 [q0_135, .inp 74] false] <|
 ck (.tproj 0) [.inp 76] <|
 ck (.tproj 1) [.inp 76] <|
.cond (tp 1 (.inp 76))
 (.ret (.tup [tp 0 (.inp 76), bT]))
 (ck (.bin .add) [.inp 75, zi 1] <|
.again 0 [q0_137]))
 (.ret (.tup [zi 0, bF]))
theorem run_free_Wanted : runF E 14 [.agg (ips 0 74), .inp 74] 75 = rt_free_Wanted := by kernel_rfl
def rt_free_Locked : RT :=
 ck (.isAgg 74) [.agg (ipx 0 74)] <|
 ck .isOne [.inp 74] <|
 ck .len [.inp 1] <|
.loop 0 75 [zi 0] <|
 ck (.bin .lss) [.inp 75, ln (.inp 1)] <|
.cond (q0_132)
 (ck (.eidx 23) [.inp 1, .inp 75] <|
 ck (.eload 23 true) [q0_133] <|
 ck (.isAgg 23) [q0_134] <|
.seg [.call 76 [] 43 [q0_135, .inp 74] false] <|
 ck (.tproj 0) [.inp 76] <|
 ck (.tproj 1) [.inp 76] <|
 ckg (tp 1 (.inp 76)) true (.bin .neq) [q0_138, .int .u8 1] <|
 ck .pick [tp 1 (.inp 76), q0_139, bF] <|
.seg [.bind 77 (pk (tp 1 (.inp 76)) q0_139 bF)] <|
.cond (.inp 77)
 (ck (.bin .geq) [.inp 75, zi 0] <|
.ret (bi .geq (.inp 75) (zi 0)))
 (ck (.bin .add) [.inp 75, zi 1] <|
.again 0 [q0_137]))
 (ck (.bin .geq) [zi (-1), zi 0] <|
.ret (bF))
theorem run_free_Locked : runF E 16 [.agg (ips 0 74), .inp 74] 75 = rt_free_Locked := by kernel_rfl
def rt_free_Free : RT :=
 ck (.isAgg 11) [.agg (ipx 0 11)] <|
 ck (.isAgg 29) [.agg (ipx 11 29)] <|
 ck (.isAgg 74) [.agg (ipx 40 74)] <|
.seg [.call 115 [] 12 [.agg (ipx 40 74), .inp 114] false] <|
 ck (.tproj 0) [.inp 115] <|
 ck (.tproj 1) [.inp 115] <|
 ck (.un .not) [tp 1 (.inp 115)] <|
.seg [.call 116 [(nt (tp 1 (.inp 115)), true)] 46 [.agg (ipx 0 11), .agg (ipx 11 29), .inp 114] false] <|
 ckg (nt (tp 1 (.inp 115))) true (.un .not) [.inp 116] <|
 ck .pick [nt (tp 1 (.inp 115)), nt (.inp 116), bF] <|
.ret (pk (nt (tp 1 (.inp 115))) (nt (.inp 116)) bF)
theorem run_free_Free : runF E 18 [.agg (ips 0 11), .agg (ips 11 29), .agg (ips 40 74), .inp 114] 115 = rt_free_Free := by kernel_rfl
def rt_free_Meets : RT :=
 ck (.isAgg 11) [.agg (ipx 0 11)] <|
 ck (.isAgg 29) [.agg (ipx 11 29)] <|
 ck (.isAgg 74) [.agg (ipx 40 74)] <|
 ck (.isAgg 3) [.agg [.inp 114, .inp 115, .inp 116]] <|
 ck (.bin .lss) [.inp 114, zi 0] <|
 ckg (q0_140) false (.bin .geq) [.inp 114, zi 24] <|
 ck .pick [q0_140, bT, q0_141] <|
.cond (pk q0_140 bT q0_141)
 (.ret (bF))
 (.seg [.call 117 [] 47 [.agg (ipx 0 11), .agg (ipx 11 29), .inp 114] false,
.chk [] (.bin .eql) [.inp 117, .inp 115]] <|
.seg [.call 118 [] 14 [.agg (ipx 40 74), .inp 114] false] <|
 ck (.tproj 0) [.inp 118] <|
 ck (.tproj 1) [.inp 118] <|
 ckg (tp 1 (.inp 118)) true (.bin .neq) [tp 0 (.inp 118), .inp 115] <|
 ck .pick [tp 1 (.inp 118), q0_142, bF] <|
.cond (pk (tp 1 (.inp 118)) q0_142 bF)
 (.ret (bF))
 (.cond (tp 1 (.inp 118))
 (.seg [.call 119 [(q0_143, false)] 16 [.agg (ipx 40 74), .inp 114] false] <|
 ckg (q0_143) false (.un .not) [.inp 119] <|
 ck .pick [q0_143, bT, nt (.inp 119)] <|
.ret (pk q0_143 bT (nt (.inp 119))))
 (ckg (q0_143) false (.inr 24) [.inp 114] <|
 ckg (q0_143) false (.inr 24) [.inp 114] <|
 ckg (q0_143) false (.aidx 24 3 4 1 false) [.agg (ipx 40 74), .inp 114] <|
 ckg (q0_143) false (.un .not) [q0_144] <|
.seg [.call 119 [(q0_145, true), (q0_143, false)] 18 [.agg (ipx 0 11), .agg (ipx 11 29), .agg (ipx 40 74), .inp 114] false] <|
 ckg (q0_143) false .pick [q0_145, .inp 119, bF] <|
 ck .pick [q0_143, bT, q0_146] <|
.seg [.bind 120 (pk q0_143 bT q0_146),
.bind 121 (q0_144),
.bind 122 (q0_145),
.bind 123 (q0_146)] <|
.ret (.inp 120))))
theorem run_free_Meets : runF E 20 [.agg (ips 0 11), .agg (ips 11 29), .agg (ips 40 74), .agg [.inp 114, .inp 115, .inp 116]] 117 = rt_free_Meets := by kernel_rfl
end
end Go.Lb.LK
