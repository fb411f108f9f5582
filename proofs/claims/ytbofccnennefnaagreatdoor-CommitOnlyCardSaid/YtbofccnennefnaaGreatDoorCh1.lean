/- The forms of what functions hand back that hand back functions. -/
import Derived.Test.YtbofccnennefnaaGreatDoorFw6
import Derived.Test.YtbofccnennefnaaGreatDoorFw11
import Derived.Test.YtbofccnennefnaaGreatDoorProg
import Derived.KernelRfl
set_option linter.unusedSimpArgs false
set_option linter.unusedVariables false
namespace Go.Lb
def prt (e : SE) (k : Nat) : SE := match e with
 | .agg cs => cs.getD k .undef
 | e => .app (.part k 1 false) [e]
def zmm (bit bit1 clear clear1 : Nat) (f : Nat) (args : List SE) : Option SE :=
 if Nat.beq f bit = true then match args with
  | [x] => some (.clo bit1 [] [.ref [x] 0])
  | _ => none
 else if Nat.beq f clear = true then match args with
  | [l, im] => some (.clo clear1 [] [.ref [.app (.bin .lss) [prt l 6, prt im 0]] 0, .ref [.clo bit1 [] [.ref [prt im 25] 0]] 0])
  | _ => none
 else none
end Go.Lb
namespace Go.Lb.LK
open Go Go.Lb Go.Proofs
noncomputable abbrev PR : Program := Tryz.prog
abbrev f_lockbarlaw19_CommitTells : Nat := 3
abbrev f_lockbarlaw19_CommitApart : Nat := 4
abbrev f_lockbarlaw19_CommitIs : Nat := 5
abbrev f_lockbarlaw19_CommitOnly : Nat := 6
abbrev f_lockbarlaw19_CommitFinds : Nat := 7
abbrev f_lockbarlaw19_great : Nat := 8
abbrev f_lockbarlaw19_wakes : Nat := 9
abbrev f_commit_Commit : Nat := 10
abbrev f_lockbarref19_Commit : Nat := 11
abbrev f_commit_Find : Nat := 12
abbrev f_lockbarref19_Find : Nat := 13
abbrev f_lockbarref18_Same : Nat := 14
abbrev f_lockbarref17_Same : Nat := 15
abbrev f_commit_Of : Nat := 16
abbrev f_lockbarref19_Of : Nat := 17
abbrev f_commit_Look : Nat := 18
abbrev f_lockbarref19_Look : Nat := 19
abbrev f_commit_New : Nat := 20
abbrev f_lockbarref19_New : Nat := 21
abbrev f_lockbarref18_Right : Nat := 22
abbrev f_lockbarref17_Apart : Nat := 23
abbrev f_lockbarref17_Sections : Nat := 24
abbrev f_lockbarref18_Holder : Nat := 25
abbrev f_lockbarref15_Occupied : Nat := 26
abbrev f_lockbarref18_Wanted : Nat := 27
abbrev f_lockbarref15_At : Nat := 28
abbrev f_lockbarref11_Check : Nat := 29
abbrev f_lockbarref13_Fine : Nat := 30
abbrev f_lockbarref10_Over : Nat := 31
abbrev f_lockbarref13_Of : Nat := 32
abbrev f_lockbarref13_At : Nat := 33
abbrev f_lockbarref17_Great : Nat := 34
abbrev f_lockbarref07_Great : Nat := 35
abbrev f_lockbarlaw19_one : Nat := 36
abbrev f_lockbarref15_Take : Nat := 37
abbrev f_lockbarref15_New : Nat := 38
abbrev f_route_Own : Nat := 40
abbrev f_beyond_Over : Nat := 41
abbrev f_need_Of : Nat := 42
abbrev f_lockbarref11_Own : Nat := 45
abbrev f_lockbarref16_Rest : Nat := 46
abbrev f_lockbarref16_Call : Nat := 47
abbrev f_commit_told : Nat := 48
abbrev f_slices_IndexFunc_Held : Nat := 49
abbrev f_commit_Find_1 : Nat := 50
abbrev f_lockbarref17_Own : Nat := 51
abbrev f_lockbarref11_Same : Nat := 52
abbrev f_lockbarref11_Steps : Nat := 53
abbrev f_lockbarref17_All : Nat := 54
abbrev f_route_Check : Nat := 55
abbrev f_need_Fine : Nat := 56
abbrev f_free_Right : Nat := 57
abbrev f_free_Can : Nat := 58
abbrev f_lockbarref18_Can : Nat := 59
abbrev f_point_Rest : Nat := 60
abbrev f_lockbarref17_Right : Nat := 61
abbrev f_lockbarref16_Right : Nat := 62
abbrev f_lockbarref17_Has : Nat := 63
abbrev f_lockbarref17_clash : Nat := 64
abbrev f_lockbarref17_Needs : Nat := 65
abbrev f_lockbarref15_Stale : Nat := 66
abbrev f_lockbarref15_bit : Nat := 67
abbrev f_lockbarref17_Wants : Nat := 68
abbrev f_lockbarref09_Right : Nat := 69
abbrev f_lockbarref11_Goes : Nat := 70
abbrev f_lockbarref11_simple : Nat := 71
abbrev f_lockbarref11_Through : Nat := 72
abbrev f_lockbarref06_Signal : Nat := 73
abbrev f_lockbarref13_Clash : Nat := 74
abbrev f_lockbarref10_Wants : Nat := 75
abbrev f_lockbarref15_rows : Nat := 76
abbrev f_held_Own : Nat := 78
abbrev f_slices_Clone_Step : Nat := 79
abbrev f_beyond_Wants : Nat := 81
abbrev f_image_At : Nat := 83
abbrev f_point_Call : Nat := 84
abbrev f_topo_Right : Nat := 85
abbrev f_slices_ContainsFunc_int : Nat := 86
abbrev f_route_Check_1 : Nat := 87
abbrev f_route_in : Nat := 88
abbrev f_route_out : Nat := 89
abbrev f_route_Goes : Nat := 90
abbrev f_route_Through : Nat := 91
abbrev f_slices_Concat_Step : Nat := 93
abbrev f_layout_Signal : Nat := 95
abbrev f_need_Clash : Nat := 96
abbrev f_held_Apart : Nat := 98
abbrev f_held_Right : Nat := 99
abbrev f_point_Right : Nat := 101
abbrev f_free_Free : Nat := 104
abbrev f_free_Meets : Nat := 106
abbrev f_lockbarref18_Free : Nat := 110
abbrev f_lockbarref18_Meets : Nat := 111
abbrev f_lockbarref03_Late : Nat := 112
abbrev f_lockbarref09_Check : Nat := 113
abbrev f_lockbarref06_Step : Nat := 114
abbrev f_lockbarref07_Beyond : Nat := 115
abbrev f_lockbarref10_Point : Nat := 116
abbrev f_lockbarref03_Row : Nat := 117
abbrev f_slices_Clone_Need : Nat := 118
abbrev f_beyond_Point : Nat := 120
abbrev f_image_Stale : Nat := 122
abbrev f_image_bit : Nat := 123
abbrev f_point_position : Nat := 126
abbrev f_topo_Check : Nat := 127
abbrev f_layout_Step : Nat := 130
abbrev f_join_Beyond : Nat := 131
abbrev f_slices_Concat_Need : Nat := 137
abbrev f_need_At : Nat := 139
abbrev f_held_Has : Nat := 141
abbrev f_held_clash : Nat := 142
abbrev f_held_Needs : Nat := 143
abbrev f_slices_Sort_int : Nat := 144
abbrev f_slices_Compact_int : Nat := 145
abbrev f_free_Holder : Nat := 146
abbrev f_image_Occupied : Nat := 147
abbrev f_free_Wanted : Nat := 148
abbrev f_free_Locked : Nat := 149
abbrev f_lockbarref18_Locked : Nat := 152
abbrev f_lockbarref06_Right : Nat := 153
abbrev f_lockbarref07_Joined : Nat := 154
abbrev f_lockbarref09_signals : Nat := 155
abbrev f_lockbarref09_exits : Nat := 156
abbrev f_lockbarref09_overs : Nat := 157
abbrev f_lockbarref09_flanks : Nat := 158
abbrev f_lockbarref05_Way : Nat := 159
abbrev f_lockbarref07_Has : Nat := 160
abbrev f_lockbarref07_none : Nat := 161
abbrev f_lockbarref10_there : Nat := 162
abbrev f_lockbarref05_Pos : Nat := 163
abbrev f_lockbarref03_More : Nat := 164
abbrev f_port_Pos : Nat := 165
abbrev f_tick_Late : Nat := 167
abbrev f_image_bit_1 : Nat := 168
abbrev f_layout_Right : Nat := 169
abbrev f_layout_section : Nat := 171
abbrev f_port_Way : Nat := 172
abbrev f_join_Has : Nat := 173
abbrev f_held_Sections : Nat := 177
abbrev f_mathbits_Len : Nat := 183
abbrev f_image_clear : Nat := 185
abbrev f_held_Wants : Nat := 186
abbrev f_lockbarref06_section : Nat := 188
abbrev f_lockbarref06_there : Nat := 189
abbrev f_lockbarref06_exit : Nat := 190
abbrev f_lockbarref06_flank : Nat := 191
abbrev f_lockbarref06_times : Nat := 192
abbrev f_lockbarref05_Right : Nat := 193
abbrev f_lockbarref05_Ports : Nat := 194
abbrev f_lockbarref09_Over : Nat := 195
abbrev f_lockbarref05_Ways : Nat := 196
abbrev f_lockbarref05_Ends : Nat := 197
abbrev f_lockbarref03_Count : Nat := 198
abbrev f_port_of : Nat := 199
abbrev f_layout_Right_1 : Nat := 200
abbrev f_port_Right : Nat := 201
abbrev f_layout_Right_3 : Nat := 203
abbrev f_port_Ways : Nat := 204
abbrev f_slices_Min_int : Nat := 205
abbrev f_slices_Max_int : Nat := 206
abbrev f_slices_ContainsFunc_Section : Nat := 207
abbrev f_slices_ContainsFunc_Flank : Nat := 208
abbrev f_layout_At : Nat := 210
abbrev f_topo_rules_1 : Nat := 211
abbrev f_join_Joined : Nat := 212
abbrev f_topo_rules_2 : Nat := 213
abbrev f_topo_rules_3 : Nat := 217
abbrev f_topo_rules_4 : Nat := 219
abbrev f_topo_over : Nat := 220
abbrev f_topo_rules_5 : Nat := 221
abbrev f_topo_rules_5_1 : Nat := 222
abbrev f_port_Ports : Nat := 225
abbrev f_image_clear_1 : Nat := 240
abbrev f_lockbarref06_At : Nat := 241
abbrev f_lockbarref05_May : Nat := 242
abbrev f_lockbarref03_within : Nat := 243
abbrev f_port_May : Nat := 244
noncomputable def zrh : List Hint :=
 [⟨182, 2, ⟨134, [sL 0 .nils, sL 1 (zi 0), sL 2 (zi 0), sL 3 (.inp 0), sL 8 bT, sL 9 bT], [], 1, 22, []⟩, 0⟩, ⟨228, 1, ⟨49, [sL 0 .nils, sL 1 (zi 0), sL 2 (zi 0), sL 6 (zi 1)], [], 1, 48, []⟩, 0⟩]
def inlS : List Nat := [182, 228, 229, 230, 231, 232, 233, 235, 236, 251, 254, 255, 258, 252, 253, 234, 256]
def scal : List Nat := [0, 1, 2, 3, 4, 5, 6, 7, 8, 9, 14, 15, 18, 19, 22, 23, 25, 26, 27, 28, 29, 30, 33, 34, 35, 37, 38, 46, 47, 49, 50, 52, 53, 54, 55, 56, 57, 58, 59, 60, 61, 62, 63, 64, 66, 67, 68, 69, 70, 71, 72, 73, 74, 76, 82, 83, 84, 85, 86, 87, 88, 89, 90, 91, 92, 95, 96, 97, 98, 99, 100, 101, 102, 103, 104, 105, 106, 107, 108, 109, 110, 111, 112, 113, 114, 115, 116, 117, 119, 120, 122, 124, 125, 126, 127, 128, 129, 130, 131, 132, 134, 135, 136, 138, 139, 141, 142, 144, 146, 147, 148, 149, 150, 151, 152, 153, 154, 155, 156, 157, 158, 159, 160, 161, 162, 163, 164, 165, 166, 167, 168, 169, 171, 172, 173, 175, 176, 178, 179, 180, 182, 183, 186, 187, 188, 189, 190, 191, 192, 193, 194, 195, 196, 197, 198, 199, 200, 201, 202, 203, 204, 205, 206, 207, 208, 210, 211, 212, 213, 214, 216, 217, 218, 219, 220, 221, 222, 223, 225, 226, 227, 228, 229, 230, 231, 232, 233, 234, 235, 236, 237, 238, 239, 240, 241, 242, 243, 244, 245, 246, 247, 249, 250, 251, 252, 253, 254, 255, 256, 257, 258, 260, 262, 264, 266, 268, 270, 271, 273, 275, 276, 277, 278, 279, 280]
def GL : Glob := [[.int .i64 (-1), .int .i64 0], [.int .i64 0, .int .i64 0, .int .i64 0, .int .i64 0, .int .i64 0, .int .i64 0, .bool false, .int .i64 2, .int .i64 0, .int .i64 1, .int .i64 0, .int .i64 0, .int .i64 1, .bool false, .int .i64 3, .int .i64 0, .int .i64 1, .int .i64 0, .int .i64 2, .int .i64 2, .bool true, .int .i64 4, .int .i64 0, .int .i64 1, .int .i64 2, .int .i64 3, .int .i64 2, .bool false], [.int .i64 (-1), .int .i64 0]]
def frzL : List (Nat × Nat) := []
def srtF : List Nat := [144]
def cptF : List Nat := [145]
noncomputable def ES : Env := { P := PR, G := [], inl := fun f => inlS.contains f, scal := fun f => scal.contains f, shape := zmm 123 168 185 240, hints := zrh }
theorem EmixS : ES.P.follows .mixedOrders = true := by kernel_rfl
def qh0 : SE := .app .len [.inp 0]
def qh1 : SE := .app (.eload 23 true) [.app (.eidx 23) [.app (.part 1 1 false) [.app (.tproj 0) [.inp 118]], .app .len [.inp 41]]]
def qh2 : SE := .app .len [.inp 3]
def qh3 : SE := .app .app [.app .app [.app .lst [], .inp 3], .inp 4]
def qh4 : SE := .app .len [.inp 1]
def qh5 : SE := .app (.eload 3 true) [.app (.eidx 3) [.inp 29, .inp 30]]
def qh6 : SE := .app (.eload 3 true) [.app (.eidx 3) [.inp 0, .inp 2]]
def qh7 : SE := .app .lst [.agg [.app (.tproj 0) [.inp 15], .app (.tproj 1) [.inp 15], .inp 14]]
def qh8 : SE := .app (.part 2 1 false) [.app (.eload 3 true) [.app (.eidx 3) [.inp 2, .inp 23]]]
noncomputable def hints : List Hint :=
 [⟨151, 2, ⟨19, [sL 0 (.inp 0), sL 1 (.clo 178 [] [.ptr 0 0]), sL 4 (zi 0), sL 7 qh0, sL 8 (.inp 2)], [(0, .box [.inp 1])], 3, 24, []⟩, 1⟩, ⟨151, 2, ⟨19, [sL 0 (.inp 1), sL 1 (.clo 179 [] [.ptr 40 0]), sL 4 (zi 0), sL 7 qh4, sL 8 (.inp 3)], [(0, .box [.inp 1]), (40, .box [.app (.part 0 1 false) [qh6], .app (.part 1 1 false) [qh6], .app (.part 2 1 false) [qh6]])], 4, 64, []⟩, 1⟩, ⟨143, 3, ⟨24, [sL 0 (.agg (ips 0 23)), sL 2 (.row 46), sL 3 (.clo 227 [] [.ptr 24 0, .ptr 26 0, .ptr 6 0]), sL 9 (.inp 5), sL 10 (.app .len [.inp 5]), sL 11 (.inp 24)], [(0, .gone), (6, .box (ips 0 23)), (24, .box [.app (.mm true) [.inp 7, zi 0]]), (26, .box [qh2]), (46, .row 3 (.inp 23))], 25, 49, []⟩, 2⟩, ⟨99, 9, ⟨141, [sL 0 (.agg (ips 0 23)), sL 1 (.ref (ips 0 23) 0), sL 2 bF, sL 3 qh2, sL 5 (.row 148), sL 85 (.inp 47), sL 86 (.app .len [.inp 47]), sL 87 (.inp 52)], [(0, .gone), (14, .gone), (140, .gone), (148, .row 1 (.inp 51))], 53, 151, []⟩, 2⟩, ⟨99, 16, ⟨141, [sL 0 (.agg (ips 0 23)), sL 1 (.ref (ips 0 23) 0), sL 2 bF, sL 3 qh2, sL 85 (.inp 47), sL 86 (.app .len [.inp 47]), sL 87 (.inp 52), sL 109 (.inp 59), sL 110 (.inp 60), sL 111 (.inp 61)], [(0, .gone), (14, .gone), (140, .gone), (148, .gone), (157, .row 1 (.inp 54))], 62, 183, []⟩, 1⟩, ⟨93, 3, ⟨36, [sL 0 (.inp 0), sL 2 .enil, sL 3 (.inp 1), sL 9 (.inp 0), sL 10 qh0, sL 11 (.inp 2)], [], 3, 12, []⟩, 2⟩, ⟨93, 11, ⟨36, [sL 0 (.inp 0), sL 2 .enil, sL 3 (.inp 1), sL 6 (.row 74), sL 9 (.inp 0), sL 10 qh0, sL 11 (.inp 2), sL 25 (.inp 0), sL 26 qh0, sL 27 (.inp 5)], [(52, .gone), (58, .gone), (74, .row 3 (.inp 4))], 6, 77, []⟩, 2⟩, ⟨93, 11, ⟨36, [sL 0 (.inp 0), sL 2 .enil, sL 3 (.inp 1), sL 6 (.row 54), sL 9 (.inp 0), sL 10 qh0, sL 11 (.inp 2), sL 25 (.inp 0), sL 26 qh0, sL 27 (.inp 4)], [(54, .row 3 (.inp 3))], 5, 57, []⟩, 2⟩, ⟨175, 1, ⟨46, [sL 0 (.yield 15), sL 1 (.ptr 6 0), sL 9 (.inp 3), sL 10 qh2, sL 11 (.inp 23)], [(0, .gone), (2, .box [.row 26]), (6, .box (ips 0 23)), (14, .dfr), (15, .loop .ready), (26, .row 1 (.inp 24))], 25, 29, []⟩, 2⟩, ⟨175, 6, ⟨46, [sL 0 (.yield 15), sL 1 (.ptr 6 0), sL 9 (.inp 3), sL 10 qh2, sL 11 (.inp 23), sL 29 (.inp 4), sL 30 (.app .len [.inp 4]), sL 31 (.inp 25)], [(0, .gone), (2, .box [.row 39]), (6, .box (ips 0 23)), (14, .dfr), (15, .loop .ready), (26, .gone), (39, .row 1 (.inp 26))], 27, 42, []⟩, 2⟩, ⟨226, 2, ⟨19, [sL 0 (.inp 24), sL 1 (.inp 23), sL 4 (zi 0), sL 7 (.app .len [.inp 24]), sL 8 (.inp 25)], [(0, .gone)], 26, 26, []⟩, 1⟩, ⟨186, 2, ⟨22, [sL 0 (.agg (ips 0 23)), sL 1 (.inp 23), sL 4 (zi 0), sL 5 bF, sL 9 (.inp 24), sL 10 (.app .len [.inp 24]), sL 11 (.inp 25)], [(0, .gone)], 26, 16, []⟩, 1⟩, ⟨175, 1, ⟨46, [sL 0 (.yield 17), sL 1 (.ptr 8 0), sL 9 (.inp 3), sL 10 qh2, sL 11 (.inp 46)], [(0, .box (ips 0 23)), (2, .box (ips 23 23)), (4, .box [bF]), (8, .box (ips 0 23)), (16, .dfr), (17, .loop .ready)], 47, 30, []⟩, 1⟩, ⟨175, 6, ⟨46, [sL 0 (.yield 17), sL 1 (.ptr 8 0), sL 9 (.inp 3), sL 10 qh2, sL 11 (.inp 46), sL 29 (.inp 4), sL 30 (.app .len [.inp 4]), sL 31 (.inp 47)], [(0, .box (ips 0 23)), (2, .box (ips 23 23)), (4, .box [bF]), (8, .box (ips 0 23)), (16, .dfr), (17, .loop .ready)], 48, 42, []⟩, 1⟩, ⟨239, 1, ⟨23, [sL 0 (.yield 21), sL 1 (.ptr 10 0), sL 2 (.ptr 12 0), sL 7 (.inp 1), sL 8 qh4, sL 9 (.inp 75)], [(0, .gone), (2, .box [zi 0]), (4, .box [bF]), (10, .gone), (12, .box [.inp 74]), (20, .dfr), (21, .loop .ready)], 76, 32, []⟩, 1⟩, ⟨148, 2, ⟨26, [sL 0 (.agg (ips 0 74)), sL 1 (.inp 74), sL 4 (zi 0), sL 5 bF, sL 11 (.inp 1), sL 12 qh4, sL 13 (.inp 75)], [(0, .gone)], 76, 16, []⟩, 1⟩, ⟨49, 2, ⟨19, [sL 0 (.inp 1), sL 1 (.clo 187 [] [.ptr 2 0]), sL 4 (zi 0), sL 7 qh4, sL 8 (.inp 75)], [(0, .gone), (2, .box [.inp 74])], 76, 28, []⟩, 1⟩, ⟨49, 2, ⟨19, [sL 0 (.inp 41), sL 1 (.clo 102 [] [.ptr 6 0]), sL 4 (zi 0), sL 7 (.app .len [.inp 41]), sL 8 (.inp 117)], [(0, .box (ips 0 11)), (2, .box (ips 11 29)), (4, .box (ips 40 74)), (6, .box [.inp 114, .inp 115, .inp 116])], 118, 44, []⟩, 1⟩, ⟨150, 2, ⟨19, [sL 0 (.inp 116), sL 1 (.clo 103 [] [.ptr 0 0, .ptr 2 0, .ptr 4 0]), sL 4 (zi 0), sL 7 (.app .len [.inp 116]), sL 8 (.inp 119)], [(0, .box (ips 0 11)), (2, .box (ips 11 29)), (4, .box (ips 40 74)), (6, .box [.inp 114, .inp 115, .inp 116]), (60, .gone)], 120, 118, []⟩, 1⟩, ⟨150, 2, ⟨19, [sL 0 (.inp 121), sL 1 (.clo 103 [] [.ptr 0 0, .ptr 2 0, .ptr 4 0]), sL 4 (zi 0), sL 7 (.app .len [.inp 121]), sL 8 (.inp 122)], [(0, .box (ips 0 11)), (2, .box (ips 11 29)), (4, .box (ips 40 74)), (6, .box [.inp 114, .inp 115, .inp 116]), (60, .gone), (134, .gone)], 123, 190, []⟩, 1⟩, ⟨151, 2, ⟨19, [sL 0 (.inp 124), sL 1 (.clo 105 [] [.ptr 0 0, .ptr 2 0, .ptr 4 0]), sL 4 (zi 0), sL 7 (.app .len [.inp 124]), sL 8 (.inp 125)], [(0, .box (ips 0 11)), (2, .box (ips 11 29)), (4, .box (ips 40 74)), (6, .box [.inp 114, .inp 115, .inp 116]), (60, .gone), (134, .gone), (206, .gone)], 126, 258, []⟩, 1⟩, ⟨151, 2, ⟨19, [sL 0 (.inp 123), sL 1 (.clo 105 [] [.ptr 0 0, .ptr 2 0, .ptr 4 0]), sL 4 (zi 0), sL 7 (.app .len [.inp 123]), sL 8 (.inp 124)], [(0, .box (ips 0 11)), (2, .box (ips 11 29)), (4, .box (ips 40 74)), (6, .box [.inp 114, .inp 115, .inp 116]), (60, .gone), (134, .gone)], 125, 222, []⟩, 1⟩, ⟨150, 2, ⟨19, [sL 0 (.inp 120), sL 1 (.clo 103 [] [.ptr 0 0, .ptr 2 0, .ptr 4 0]), sL 4 (zi 0), sL 7 (.app .len [.inp 120]), sL 8 (.inp 121)], [(0, .box (ips 0 11)), (2, .box (ips 11 29)), (4, .box (ips 40 74)), (6, .box [.inp 114, .inp 115, .inp 116]), (60, .gone)], 122, 154, []⟩, 1⟩, ⟨151, 2, ⟨19, [sL 0 (.inp 123), sL 1 (.clo 105 [] [.ptr 0 0, .ptr 2 0, .ptr 4 0]), sL 4 (zi 0), sL 7 (.app .len [.inp 123]), sL 8 (.inp 124)], [(0, .box (ips 0 11)), (2, .box (ips 11 29)), (4, .box (ips 40 74)), (6, .box [.inp 114, .inp 115, .inp 116]), (60, .gone), (170, .gone)], 125, 222, []⟩, 1⟩, ⟨151, 2, ⟨19, [sL 0 (.inp 122), sL 1 (.clo 105 [] [.ptr 0 0, .ptr 2 0, .ptr 4 0]), sL 4 (zi 0), sL 7 (.app .len [.inp 122]), sL 8 (.inp 123)], [(0, .box (ips 0 11)), (2, .box (ips 11 29)), (4, .box (ips 40 74)), (6, .box [.inp 114, .inp 115, .inp 116]), (60, .gone)], 124, 186, []⟩, 1⟩, ⟨150, 2, ⟨19, [sL 0 (.inp 116), sL 1 (.clo 103 [] [.ptr 0 0, .ptr 2 0, .ptr 4 0]), sL 4 (zi 0), sL 7 (.app .len [.inp 116]), sL 8 (.inp 118)], [(0, .box (ips 0 11)), (2, .box (ips 11 29)), (4, .box (ips 40 74)), (6, .box [.inp 114, .inp 115, .inp 116])], 119, 76, []⟩, 1⟩, ⟨150, 2, ⟨19, [sL 0 (.inp 120), sL 1 (.clo 103 [] [.ptr 0 0, .ptr 2 0, .ptr 4 0]), sL 4 (zi 0), sL 7 (.app .len [.inp 120]), sL 8 (.inp 121)], [(0, .box (ips 0 11)), (2, .box (ips 11 29)), (4, .box (ips 40 74)), (6, .box [.inp 114, .inp 115, .inp 116]), (92, .gone)], 122, 148, []⟩, 1⟩, ⟨151, 2, ⟨19, [sL 0 (.inp 123), sL 1 (.clo 105 [] [.ptr 0 0, .ptr 2 0, .ptr 4 0]), sL 4 (zi 0), sL 7 (.app .len [.inp 123]), sL 8 (.inp 124)], [(0, .box (ips 0 11)), (2, .box (ips 11 29)), (4, .box (ips 40 74)), (6, .box [.inp 114, .inp 115, .inp 116]), (92, .gone), (164, .gone)], 125, 216, []⟩, 1⟩, ⟨151, 2, ⟨19, [sL 0 (.inp 122), sL 1 (.clo 105 [] [.ptr 0 0, .ptr 2 0, .ptr 4 0]), sL 4 (zi 0), sL 7 (.app .len [.inp 122]), sL 8 (.inp 123)], [(0, .box (ips 0 11)), (2, .box (ips 11 29)), (4, .box (ips 40 74)), (6, .box [.inp 114, .inp 115, .inp 116]), (92, .gone)], 124, 180, []⟩, 1⟩, ⟨150, 2, ⟨19, [sL 0 (.inp 119), sL 1 (.clo 103 [] [.ptr 0 0, .ptr 2 0, .ptr 4 0]), sL 4 (zi 0), sL 7 (.app .len [.inp 119]), sL 8 (.inp 120)], [(0, .box (ips 0 11)), (2, .box (ips 11 29)), (4, .box (ips 40 74)), (6, .box [.inp 114, .inp 115, .inp 116])], 121, 112, []⟩, 1⟩, ⟨151, 2, ⟨19, [sL 0 (.inp 122), sL 1 (.clo 105 [] [.ptr 0 0, .ptr 2 0, .ptr 4 0]), sL 4 (zi 0), sL 7 (.app .len [.inp 122]), sL 8 (.inp 123)], [(0, .box (ips 0 11)), (2, .box (ips 11 29)), (4, .box (ips 40 74)), (6, .box [.inp 114, .inp 115, .inp 116]), (128, .gone)], 124, 180, []⟩, 1⟩, ⟨151, 2, ⟨19, [sL 0 (.inp 121), sL 1 (.clo 105 [] [.ptr 0 0, .ptr 2 0, .ptr 4 0]), sL 4 (zi 0), sL 7 (.app .len [.inp 121]), sL 8 (.inp 122)], [(0, .box (ips 0 11)), (2, .box (ips 11 29)), (4, .box (ips 40 74)), (6, .box [.inp 114, .inp 115, .inp 116])], 123, 144, []⟩, 1⟩, ⟨57, 4, ⟨69, [sL 0 (.agg (ips 0 74)), sL 1 (.ptr 0 0), sL 2 bF, sL 3 (.inp 75), sL 24 (.inp 1), sL 25 qh4, sL 26 (.inp 76)], [(0, .box (ips 0 74))], 77, 40, []⟩, 2⟩, ⟨49, 2, ⟨19, [sL 0 (.app (.slice false true) [.inp 1, .inp 76]), sL 1 (.clo 100 [] [.ptr 56 0]), sL 4 (zi 0), sL 7 (.app .len [.app (.slice false true) [.inp 1, .inp 76]]), sL 8 (.inp 78)], [(0, .box (ips 0 74)), (48, .box (pts (.app (.eload 23 true) [.app (.eidx 23) [.inp 1, .inp 76]]) 0 23)), (56, .box [.clo 97 [] [.ptr 48 0]])], 79, 110, []⟩, 1⟩, ⟨57, 11, ⟨69, [sL 0 (.agg (ips 0 74)), sL 1 (.ptr 0 0), sL 2 bF, sL 3 (.inp 75), sL 24 (.inp 1), sL 25 qh4, sL 26 (.inp 76), sL 61 (.agg (ips 2 72)), sL 62 (.inp 77)], [(0, .box (ips 0 74))], 78, 50, []⟩, 1⟩, ⟨250, 2, ⟨44, [sL 0 (.yield 21), sL 1 (.ptr 10 0), sL 2 (.ptr 12 0), sL 12 (.inp 4), sL 13 (.inp 5), sL 14 (.inp 6)], [(0, .box [.inp 2]), (2, .box [zi 0]), (4, .box [bF]), (10, .gone), (12, .box [.inp 1]), (20, .dfr), (21, .loop .ready), (26, .gone)], 7, 44, []⟩, 1⟩, ⟨166, 2, ⟨42, [sL 0 (.yield 61), sL 1 (.ptr 50 0), sL 2 (.ptr 52 0), sL 4 (.app (.tproj 0) [.inp 16]), sL 5 (.app (.tproj 1) [.inp 16]), sL 15 (.inp 3), sL 16 qh2, sL 17 (.inp 17)], [(0, .gone), (2, .gone), (4, .box [.inp 14]), (6, .box [.row 86]), (40, .row 3 (qh7)), (42, .gone), (43, .gone), (50, .gone), (52, .box [.inp 11, .inp 12, .inp 13]), (60, .dfr), (61, .loop .ready), (86, .row 3 (.inp 18))], 19, 89, []⟩, 2⟩, ⟨166, 2, ⟨42, [sL 0 (.yield 45), sL 1 (.ptr 34 0), sL 2 (.ptr 36 0), sL 4 (.app (.tproj 0) [.inp 16]), sL 5 (.app (.tproj 1) [.inp 16]), sL 15 (.inp 3), sL 16 qh2, sL 17 (.inp 17)], [(0, .gone), (2, .gone), (4, .box [.inp 14]), (6, .box [.row 70]), (34, .gone), (36, .box [.inp 11, .inp 12, .inp 13]), (44, .dfr), (45, .loop .ready), (70, .row 3 (.inp 18))], 19, 73, []⟩, 2⟩, ⟨119, 1, ⟨39, [sL 0 (.yield 21), sL 1 (.ptr 12 0), sL 2 (.ptr 10 0), sL 9 (.inp 13), sL 10 (.app .len [.inp 13]), sL 11 (.inp 14)], [(0, .box (ips 0 11)), (2, .gone), (4, .box [.row 30]), (10, .box (ips 0 11)), (12, .box [.inp 11, .inp 12, .inp 13]), (20, .dfr), (21, .loop .ready), (30, .row 3 (.inp 15))], 16, 33, []⟩, 2⟩, ⟨119, 6, ⟨39, [sL 0 (.yield 21), sL 1 (.ptr 12 0), sL 2 (.ptr 10 0), sL 9 (.inp 13), sL 10 (.app .len [.inp 13]), sL 11 (.inp 14), sL 25 (.inp 16), sL 26 (.app .len [.inp 16]), sL 27 (.inp 17)], [(0, .box (ips 0 11)), (2, .gone), (4, .box [.row 47]), (10, .box (ips 0 11)), (12, .box [.inp 11, .inp 12, .inp 13]), (20, .dfr), (21, .loop .ready), (30, .gone), (47, .row 3 (.inp 18))], 19, 50, []⟩, 2⟩, ⟨137, 3, ⟨36, [sL 0 (.inp 0), sL 2 .enil, sL 3 (.inp 1), sL 9 (.inp 0), sL 10 qh0, sL 11 (.inp 2)], [], 3, 12, []⟩, 2⟩, ⟨137, 11, ⟨36, [sL 0 (.inp 0), sL 2 .enil, sL 3 (.inp 1), sL 6 (.row 74), sL 9 (.inp 0), sL 10 qh0, sL 11 (.inp 2), sL 25 (.inp 0), sL 26 qh0, sL 27 (.inp 5)], [(52, .gone), (58, .gone), (74, .row 3 (.inp 4))], 6, 77, []⟩, 2⟩, ⟨137, 11, ⟨36, [sL 0 (.inp 0), sL 2 .enil, sL 3 (.inp 1), sL 6 (.row 54), sL 9 (.inp 0), sL 10 qh0, sL 11 (.inp 2), sL 25 (.inp 0), sL 26 qh0, sL 27 (.inp 4)], [(54, .row 3 (.inp 3))], 5, 57, []⟩, 2⟩, ⟨139, 2, ⟨23, [sL 0 (.inp 0), sL 1 (.inp 1), sL 4 (zi 0), sL 5 bF, sL 8 (.inp 0), sL 9 qh0, sL 10 (.inp 2)], [], 3, 12, []⟩, 1⟩, ⟨151, 2, ⟨19, [sL 0 (.inp 2), sL 1 (.clo 138 [] [.ptr 10 0]), sL 4 (zi 0), sL 7 (.app .len [.inp 2]), sL 8 (.inp 3)], [(6, .gone), (10, .box [.inp 2])], 4, 34, []⟩, 1⟩, ⟨159, 2, ⟨44, [sL 0 (.inp 0), sL 1 (.inp 1), sL 2 (.inp 2), sL 6 (zi 0), sL 7 bF, sL 8 (.inp 3)], [], 4, 8, []⟩, 1⟩, ⟨75, 7, ⟨72, [sL 0 (.agg (ips 0 11)), sL 1 (.agg [.inp 11, .inp 12, .inp 13]), sL 2 (.inp 14), sL 3 (.ptr 0 0), sL 4 (.ptr 2 0), sL 6 .enil, sL 7 (.row 64), sL 11 (.app (.tproj 0) [.inp 16]), sL 12 (.app (.tproj 1) [.inp 16]), sL 13 (.inp 18)], [(0, .box (ips 0 11)), (2, .box [.inp 11, .inp 12, .inp 13]), (40, .row 3 (qh7)), (42, .gone), (43, .gone), (64, .row 3 (.inp 17))], 19, 67, []⟩, 2⟩, ⟨75, 7, ⟨72, [sL 0 (.agg (ips 0 11)), sL 1 (.agg [.inp 11, .inp 12, .inp 13]), sL 2 (.inp 14), sL 3 (.ptr 0 0), sL 4 (.ptr 2 0), sL 6 .enil, sL 7 (.row 48), sL 11 (.app (.tproj 0) [.inp 16]), sL 12 (.app (.tproj 1) [.inp 16]), sL 13 (.inp 18)], [(0, .box (ips 0 11)), (2, .box [.inp 11, .inp 12, .inp 13]), (48, .row 3 (.inp 17))], 19, 51, []⟩, 2⟩, ⟨53, 4, ⟨26, [sL 0 (.inp 0), sL 1 (.inp 1), sL 4 bF, sL 5 (.inp 2)], [], 3, 16, []⟩, 1⟩, ⟨32, 4, ⟨48, [sL 0 (.agg (ips 0 11)), sL 1 (.agg [.inp 11, .inp 12, .inp 13]), sL 2 (.ptr 0 0), sL 3 (.ptr 2 0), sL 4 .enil, sL 5 (.row 18), sL 6 (.app .len [.inp 13]), sL 7 (.inp 15)], [(0, .box (ips 0 11)), (2, .box [.inp 11, .inp 12, .inp 13]), (18, .row 3 (.inp 14))], 16, 21, []⟩, 2⟩, ⟨32, 9, ⟨48, [sL 0 (.agg (ips 0 11)), sL 1 (.agg [.inp 11, .inp 12, .inp 13]), sL 2 (.ptr 0 0), sL 3 (.ptr 2 0), sL 4 .enil, sL 5 (.row 39), sL 6 (.app .len [.inp 13]), sL 7 (.inp 15), sL 8 (.inp 16), sL 9 (.inp 18)], [(0, .box (ips 0 11)), (2, .box [.inp 11, .inp 12, .inp 13]), (18, .gone), (39, .row 3 (.inp 17))], 19, 42, []⟩, 2⟩, ⟨76, 2, ⟨31, [sL 0 (.agg (ips 0 11)), sL 1 (.agg (ips 11 29)), sL 2 (.ptr 0 0), sL 3 (.ptr 2 0), sL 4 (.ptr 4 0), sL 5 (.inp 40)], [(0, .box (ips 0 11)), (2, .box (ap [.inp 11] (ap (ips 41 24) (ips 36 4)))), (4, .box [zi 0, zi 0, zi 0, zi 0, zi 0, zi 0, zi 0, zi 0, zi 0, zi 0, zi 0, zi 0, zi 0, zi 0, zi 0, zi 0, zi 0, zi 0, zi 0, zi 0, zi 0, zi 0, zi 0, zi 0, zi 0, .int .u32 0, .int .u32 0, .int .u32 0, .int .u32 0])], 65, 10, []⟩, 25⟩, ⟨64, 2, ⟨43, [sL 0 (.inp 0), sL 1 (.inp 1), sL 4 bF, sL 5 (.inp 2)], [], 3, 6, []⟩, 1⟩, ⟨64, 5, ⟨43, [sL 0 (.inp 0), sL 1 (.inp 1), sL 4 bF, sL 5 (.inp 2), sL 6 (.inp 3)], [], 4, 18, []⟩, 1⟩, ⟨61, 6, ⟨154, [sL 0 (.agg (ips 0 23)), sL 1 (.ptr 0 0), sL 2 bF, sL 3 qh2, sL 4 (.row 126), sL 5 (.inp 34)], [(0, .box (ips 0 23)), (112, .gone), (120, .gone), (126, .row 3 (qh3))], 35, 134, []⟩, 1⟩, ⟨61, 9, ⟨154, [sL 0 (.agg (ips 0 23)), sL 1 (.ptr 0 0), sL 2 bF, sL 3 qh2, sL 4 (.row 126), sL 5 (.inp 34), sL 6 (.inp 35)], [(0, .box (ips 0 23)), (112, .gone), (120, .gone), (126, .row 3 (qh3))], 36, 146, []⟩, 1⟩, ⟨61, 14, ⟨154, [sL 0 (.agg (ips 0 23)), sL 1 (.ptr 0 0), sL 2 bF, sL 3 qh2, sL 4 (.row 126), sL 5 (.inp 34), sL 7 (.inp 35)], [(0, .box (ips 0 23)), (112, .gone), (120, .gone), (126, .row 3 (qh3))], 36, 148, []⟩, 1⟩, ⟨61, 19, ⟨154, [sL 0 (.agg (ips 0 23)), sL 1 (.ptr 0 0), sL 2 bF, sL 3 qh2, sL 4 (.row 126), sL 5 (.inp 34), sL 7 (.inp 35), sL 8 (.inp 36)], [(0, .box (ips 0 23)), (112, .gone), (120, .gone), (126, .row 3 (qh3))], 37, 156, []⟩, 1⟩, ⟨24, 3, ⟨49, [sL 0 (.agg (ips 0 23)), sL 1 (.ptr 0 0), sL 2 .enil, sL 3 (.row 14), sL 4 (.inp 24)], [(0, .box (ips 0 23)), (14, .row 1 (.inp 23))], 25, 17, []⟩, 2⟩, ⟨24, 7, ⟨49, [sL 0 (.agg (ips 0 23)), sL 1 (.ptr 0 0), sL 2 .enil, sL 3 (.row 31), sL 4 (.inp 24), sL 5 (.inp 26)], [(0, .box (ips 0 23)), (14, .gone), (31, .row 1 (.inp 25))], 27, 34, []⟩, 2⟩, ⟨63, 3, ⟨21, [sL 0 (.agg (ips 0 23)), sL 1 (.inp 23), sL 4 bF, sL 5 (.inp 24), sL 6 (.inp 25)], [(0, .gone)], 26, 14, []⟩, 1⟩, ⟨65, 3, ⟨43, [sL 0 (.agg (ips 0 23)), sL 1 (.ptr 0 0), sL 2 .enil, sL 3 (.row 8), sL 4 (.inp 24)], [(0, .box (ips 0 23)), (8, .row 3 (.inp 23))], 25, 11, []⟩, 2⟩, ⟨68, 3, ⟨28, [sL 0 (.agg (ips 0 23)), sL 1 (.inp 23), sL 4 (zi 0), sL 5 bF, sL 6 (.inp 24), sL 7 (.inp 25)], [(0, .gone)], 26, 16, []⟩, 1⟩, ⟨23, 3, ⟨27, [sL 0 (.agg (ips 0 23)), sL 1 (.agg (ips 23 23)), sL 2 (.ptr 0 0), sL 3 (.ptr 2 0), sL 4 bF, sL 5 (.inp 46), sL 6 (.inp 47)], [(0, .box (ips 0 23)), (2, .box (ips 23 23))], 48, 16, []⟩, 1⟩, ⟨54, 4, ⟨26, [sL 0 (.inp 0), sL 1 (.inp 1), sL 4 bF, sL 5 (.inp 2)], [], 3, 16, []⟩, 1⟩, ⟨14, 4, ⟨44, [sL 0 (.agg (ips 0 74)), sL 1 (.agg (ips 74 74)), sL 2 (.ptr 0 0), sL 3 (.ptr 2 0), sL 4 bF, sL 5 (.inp 148)], [(0, .box (ips 0 74)), (2, .box (ips 74 74))], 149, 24, []⟩, 1⟩, ⟨22, 4, ⟨82, [sL 0 (.agg (ips 0 74)), sL 1 (.ptr 0 0), sL 2 bF, sL 3 (.inp 75)], [(0, .box (ips 0 74))], 76, 32, []⟩, 1⟩, ⟨22, 10, ⟨82, [sL 0 (.agg (ips 0 74)), sL 1 (.ptr 0 0), sL 2 bF, sL 3 (.inp 75), sL 4 (.ptr 52 0), sL 5 (.inp 81)], [(0, .box (ips 0 74)), (52, .box (pts (.app (.eload 23 true) [.app (.eidx 23) [.inp 1, .inp 75]]) 0 23))], 82, 112, []⟩, 1⟩, ⟨22, 15, ⟨82, [sL 0 (.agg (ips 0 74)), sL 1 (.ptr 0 0), sL 2 bF, sL 3 (.inp 75), sL 6 (.inp 76)], [(0, .box (ips 0 74))], 77, 46, []⟩, 1⟩, ⟨25, 2, ⟨27, [sL 0 (.agg (ips 0 74)), sL 1 (.inp 74), sL 2 (.ptr 0 0), sL 4 (zi 0), sL 5 bF, sL 6 (.inp 75)], [(0, .box (ips 0 74))], 76, 10, []⟩, 1⟩, ⟨27, 2, ⟨28, [sL 0 (.agg (ips 0 74)), sL 1 (.inp 74), sL 2 (.ptr 0 0), sL 4 (zi 0), sL 5 bF, sL 6 (.inp 75)], [(0, .box (ips 0 74))], 76, 10, []⟩, 1⟩, ⟨152, 2, ⟨35, [sL 0 (.agg (ips 0 74)), sL 1 (.inp 74), sL 2 (.ptr 0 0), sL 4 bF, sL 5 (.inp 75)], [(0, .box (ips 0 74))], 76, 8, []⟩, 1⟩, ⟨59, 2, ⟨87, [sL 0 (.agg (ips 0 11)), sL 1 (.agg (ips 11 29)), sL 2 (.agg (ips 40 74)), sL 3 (.agg [.inp 114, .inp 115, .inp 116]), sL 4 (.ptr 0 0), sL 5 (.ptr 2 0), sL 6 (.ptr 4 0), sL 7 (.ptr 6 0), sL 8 (zi 0), sL 9 (.inp 117)], [(0, .box (ips 0 11)), (2, .box (ips 11 29)), (4, .box (ips 40 74)), (6, .box [.inp 114, .inp 115, .inp 116])], 118, 14, []⟩, 1⟩, ⟨59, 8, ⟨87, [sL 0 (.agg (ips 0 11)), sL 1 (.agg (ips 11 29)), sL 2 (.agg (ips 40 74)), sL 3 (.agg [.inp 114, .inp 115, .inp 116]), sL 4 (.ptr 0 0), sL 5 (.ptr 2 0), sL 6 (.ptr 4 0), sL 7 (.ptr 6 0), sL 8 (zi 0), sL 9 (.inp 117), sL 10 (.row 40), sL 11 (.inp 119)], [(0, .box (ips 0 11)), (2, .box (ips 11 29)), (4, .box (ips 40 74)), (6, .box [.inp 114, .inp 115, .inp 116]), (24, .gone), (30, .gone), (40, .row 3 (.app .app [.app .app [.app .lst [], .inp 116], .inp 118]))], 120, 48, []⟩, 1⟩, ⟨59, 14, ⟨87, [sL 0 (.agg (ips 0 11)), sL 1 (.agg (ips 11 29)), sL 2 (.agg (ips 40 74)), sL 3 (.agg [.inp 114, .inp 115, .inp 116]), sL 4 (.ptr 0 0), sL 5 (.ptr 2 0), sL 6 (.ptr 4 0), sL 7 (.ptr 6 0), sL 8 (zi 0), sL 9 (.inp 117), sL 10 (.row 40), sL 11 (.inp 119), sL 12 (.inp 120), sL 13 (.inp 121)], [(0, .box (ips 0 11)), (2, .box (ips 11 29)), (4, .box (ips 40 74)), (6, .box [.inp 114, .inp 115, .inp 116]), (24, .gone), (30, .gone), (40, .row 3 (.app .app [.app .app [.app .lst [], .inp 116], .inp 118]))], 122, 68, []⟩, 1⟩, ⟨193, 2, ⟨71, [sL 0 (.agg (ips 0 11)), sL 1 (.ptr 0 0), sL 2 bF, sL 3 (.inp 11)], [(0, .box (ips 0 11))], 12, 8, []⟩, 1⟩, ⟨193, 7, ⟨71, [sL 0 (.agg (ips 0 11)), sL 1 (.ptr 0 0), sL 2 bF, sL 3 (.inp 11), sL 4 (.inp 12)], [(0, .box (ips 0 11))], 13, 16, []⟩, 1⟩, ⟨188, 2, ⟨27, [sL 0 (.agg (ips 0 11)), sL 1 (.agg (ips 11 11)), sL 2 (.ptr 0 0), sL 3 (.ptr 2 0), sL 4 bF, sL 5 (.inp 22)], [(0, .box (ips 0 11)), (2, .box (ips 11 11))], 23, 10, []⟩, 1⟩, ⟨190, 2, ⟨37, [sL 0 (.agg (ips 0 11)), sL 1 (.agg [.inp 11, .inp 12, .inp 13]), sL 2 (.ptr 0 0), sL 3 (.ptr 2 0), sL 4 bF, sL 5 (.inp 14)], [(0, .box (ips 0 11)), (2, .box [.inp 11, .inp 12, .inp 13])], 15, 10, []⟩, 1⟩, ⟨192, 3, ⟨34, [sL 0 (.agg (ips 0 7)), sL 2 bF, sL 3 (.ptr 34 0), sL 4 (.inp 7)], [(0, .gone), (34, .box (ips 0 7))], 8, 42, []⟩, 1⟩, ⟨153, 2, ⟨95, [sL 0 (.agg (ips 0 11)), sL 1 (.ptr 0 0), sL 2 bF, sL 3 (.inp 11)], [(0, .box (ips 0 11))], 12, 8, []⟩, 1⟩, ⟨153, 7, ⟨95, [sL 0 (.agg (ips 0 11)), sL 1 (.ptr 0 0), sL 2 bF, sL 3 (.inp 11), sL 4 (.inp 12)], [(0, .box (ips 0 11))], 13, 22, []⟩, 1⟩, ⟨153, 12, ⟨95, [sL 0 (.agg (ips 0 11)), sL 1 (.ptr 0 0), sL 2 bF, sL 3 (.inp 11), sL 4 (.inp 12), sL 5 (.inp 13)], [(0, .box (ips 0 11))], 14, 36, []⟩, 1⟩, ⟨153, 17, ⟨95, [sL 0 (.agg (ips 0 11)), sL 1 (.ptr 0 0), sL 2 bF, sL 3 (.inp 11), sL 4 (.inp 12), sL 5 (.inp 13), sL 6 (.inp 14)], [(0, .box (ips 0 11))], 15, 50, []⟩, 1⟩, ⟨73, 2, ⟨22, [sL 0 (.agg (ips 0 11)), sL 1 (.agg [.inp 11, .inp 12]), sL 2 (.ptr 0 0), sL 3 (.ptr 2 0), sL 4 (zi 0), sL 5 (.inp 13)], [(0, .box (ips 0 11)), (2, .box [.inp 11, .inp 12])], 14, 10, []⟩, 1⟩, ⟨154, 2, ⟨65, [sL 0 (.agg (ips 0 11)), sL 1 (.ptr 0 0), sL 2 bF, sL 3 (.inp 11)], [(0, .box (ips 0 11))], 12, 8, []⟩, 1⟩, ⟨154, 8, ⟨65, [sL 0 (.agg (ips 0 11)), sL 1 (.ptr 0 0), sL 2 bF, sL 3 (.inp 11), sL 4 (.ptr 34 0), sL 5 (.inp 13)], [(0, .box (ips 0 11)), (34, .box (pts (.app (.eload 11 true) [.app (.eidx 11) [.inp 0, .inp 11]]) 0 11))], 14, 48, []⟩, 1⟩, ⟨155, 2, ⟨31, [sL 0 (.agg (ips 0 11)), sL 1 (.ptr 0 0), sL 2 (zi 0), sL 3 (.inp 11)], [(0, .box (ips 0 11))], 12, 8, []⟩, 1⟩, ⟨155, 5, ⟨31, [sL 0 (.agg (ips 0 11)), sL 1 (.ptr 0 0), sL 2 (zi 0), sL 3 (.inp 11), sL 4 (.inp 12)], [(0, .box (ips 0 11))], 13, 22, []⟩, 1⟩, ⟨156, 2, ⟨31, [sL 0 (.agg (ips 0 11)), sL 1 (.ptr 0 0), sL 2 (zi 0), sL 3 (.inp 11)], [(0, .box (ips 0 11))], 12, 8, []⟩, 1⟩, ⟨156, 5, ⟨31, [sL 0 (.agg (ips 0 11)), sL 1 (.ptr 0 0), sL 2 (zi 0), sL 3 (.inp 11), sL 4 (.inp 12)], [(0, .box (ips 0 11))], 13, 22, []⟩, 1⟩, ⟨195, 6, ⟨98, [sL 0 (.agg (ips 0 11)), sL 1 (.inp 11), sL 2 (.ptr 0 0), sL 4 bF, sL 5 (.ptr 40 0), sL 6 (.app (.eload 1 false) [.app (.eoff 2) [.app (.eidx 3) [.inp 2, .inp 11]]]), sL 7 (.inp 14)], [(0, .box (ips 0 11)), (40, .box [.inp 15, .inp 16])], 17, 62, []⟩, 3⟩, ⟨195, 11, ⟨98, [sL 0 (.agg (ips 0 11)), sL 1 (.inp 11), sL 2 (.ptr 0 0), sL 4 bF, sL 5 (.ptr 40 0), sL 6 (.app (.eload 1 false) [.app (.eoff 2) [.app (.eidx 3) [.inp 2, .inp 11]]]), sL 7 (.inp 14), sL 8 (.inp 21)], [(0, .box (ips 0 11)), (40, .box [.inp 15, .inp 16])], 22, 134, []⟩, 1⟩, ⟨157, 2, ⟨16, [sL 0 (.agg (ips 0 11)), sL 1 (.ptr 0 0), sL 2 (zi 0), sL 3 (.inp 11)], [(0, .box (ips 0 11))], 12, 8, []⟩, 1⟩, ⟨158, 2, ⟨49, [sL 0 (.agg (ips 0 11)), sL 1 (.ptr 0 0), sL 2 (zi 0), sL 3 (.inp 11)], [(0, .box (ips 0 11))], 12, 8, []⟩, 1⟩, ⟨158, 5, ⟨49, [sL 0 (.agg (ips 0 11)), sL 1 (.ptr 0 0), sL 2 (zi 0), sL 3 (.inp 11), sL 4 (.inp 12)], [(0, .box (ips 0 11))], 13, 22, []⟩, 1⟩, ⟨113, 7, ⟨35, [sL 0 (.agg (ips 0 11)), sL 2 (zi 0), sL 3 (zi 0), sL 4 (zi 0), sL 5 (.ptr 38 0), sL 6 (.inp 17)], [(0, .gone), (38, .box (ips 13 4))], 18, 46, []⟩, 1⟩, ⟨70, 2, ⟨58, [sL 0 (.agg (ips 0 11)), sL 1 (.inp 11), sL 2 (.ptr 0 0), sL 4 bF, sL 5 (.inp 12)], [(0, .box (ips 0 11))], 13, 8, []⟩, 1⟩, ⟨71, 2, ⟨47, [sL 0 (.inp 0), sL 1 (.inp 1), sL 4 bF, sL 5 (.inp 2)], [], 3, 6, []⟩, 1⟩, ⟨71, 5, ⟨47, [sL 0 (.inp 0), sL 1 (.inp 1), sL 4 bF, sL 5 (.inp 2), sL 6 (.inp 3)], [], 4, 18, []⟩, 1⟩, ⟨71, 10, ⟨47, [sL 0 (.inp 0), sL 1 (.inp 1), sL 4 bF, sL 5 (.inp 2), sL 6 (.inp 3), sL 7 (.inp 4)], [], 5, 28, []⟩, 1⟩, ⟨72, 3, ⟨40, [sL 0 (.agg [.inp 0, .inp 1, .inp 2]), sL 1 (.inp 3), sL 2 (.ptr 0 0), sL 4 bF, sL 5 (.inp 4), sL 6 (.inp 5)], [(0, .box [.inp 0, .inp 1, .inp 2])], 6, 10, []⟩, 2⟩, ⟨72, 5, ⟨40, [sL 0 (.agg [.inp 0, .inp 1, .inp 2]), sL 1 (.inp 3), sL 2 (.ptr 0 0), sL 4 bF, sL 5 (.inp 6), sL 6 (.inp 5)], [(0, .box [.inp 0, .inp 1, .inp 2])], 7, 20, []⟩, 1⟩, ⟨29, 4, ⟨165, [sL 0 (.agg (ips 0 11)), sL 1 (.agg [.inp 11, .inp 12, .inp 13]), sL 2 (.inp 14), sL 3 (.ptr 0 0), sL 4 (.ptr 2 0), sL 6 (zi 0), sL 7 (.inp 20)], [(0, .box (ips 0 11)), (2, .box [.inp 11, .inp 12, .inp 13])], 21, 68, []⟩, 1⟩, ⟨29, 14, ⟨165, [sL 0 (.agg (ips 0 11)), sL 1 (.agg [.inp 11, .inp 12, .inp 13]), sL 2 (.inp 14), sL 3 (.ptr 0 0), sL 4 (.ptr 2 0), sL 6 (zi 0), sL 7 (.inp 20), sL 8 (.app .len [.inp 13]), sL 9 (.inp 31)], [(0, .box (ips 0 11)), (2, .box [.inp 11, .inp 12, .inp 13])], 32, 240, []⟩, 1⟩, ⟨74, 3, ⟨48, [sL 0 (.inp 0), sL 1 (.inp 1), sL 4 bF, sL 5 (.row 10), sL 6 (.inp 2)], [(2, .gone), (6, .gone), (10, .row 3 (.app .app [.app .app [.app .lst [], .inp 0], .inp 1]))], 3, 18, []⟩, 1⟩, ⟨74, 6, ⟨48, [sL 0 (.inp 0), sL 1 (.inp 1), sL 4 bF, sL 5 (.row 10), sL 6 (.inp 2), sL 7 (.inp 3)], [(2, .gone), (6, .gone), (10, .row 3 (.app .app [.app .app [.app .lst [], .inp 0], .inp 1]))], 4, 30, []⟩, 1⟩, ⟨35, 2, ⟨45, [sL 0 (.agg (ips 0 11)), sL 1 (.ptr 0 0), sL 2 bF, sL 3 (.inp 11)], [(0, .box (ips 0 11))], 12, 8, []⟩, 1⟩, ⟨21, 3, ⟨13, [sL 0 (.ptr 0 0), sL 1 (.ptr 4 0), sL 2 (.inp 0)], [(0, .box (ap [zi 0, .enil] (zms 24))), (4, .box (ap [zi 1, .enil] (ips 1 72)))], 73, 12, []⟩, 73⟩, ⟨13, 2, ⟨29, [sL 0 (.agg (ips 0 74)), sL 1 (.inp 74), sL 2 (.ptr 0 0), sL 4 (.ptr 2 0), sL 5 bF, sL 6 (.inp 75)], [(0, .box (ips 0 74)), (2, .box [zi 0, zi 0, zi 0, .enil, .enil, .enil, .int .u8 0, zi 0, bF, bF, bF, bF, bF, bF, bF, bF, bF, bF, bF, bF, bF, zi 0, bF])], 76, 10, []⟩, 1⟩, ⟨44, 4, ⟨25, [sL 0 (.agg (ips 40 74)), sL 1 (.ptr 16 0), sL 2 (.ptr 18 0), sL 3 (.inp 41), sL 4 (.inp 117)], [(0, .box (ips 0 11)), (2, .box (ips 11 29)), (4, .box (ips 40 74)), (6, .box [.inp 114, .inp 115, .inp 116]), (8, .box (ap [zi 0, .enil] (zms 24))), (16, .box (ap [.inp 40, .row 32] (ips 42 72))), (18, .box (ap [zi 0, .enil] (zms 24))), (32, .row 23 (.inp 118))], 119, 35, []⟩, 2⟩, ⟨11, 9, ⟨88, [sL 0 (.agg (ips 0 11)), sL 1 (.agg (ips 11 29)), sL 2 (.agg (ips 40 74)), sL 3 (.agg [.inp 114, .inp 115, .inp 116]), sL 4 (.ptr 0 0), sL 5 (.ptr 2 0), sL 6 (.ptr 4 0), sL 8 (.ptr 8 0), sL 9 (zi 0), sL 10 (zi 0), sL 12 (.ptr 89 0), sL 13 (.inp 125)], [(0, .box (ips 0 11)), (2, .box (ips 11 29)), (4, .box (ap [.app (.bin .add) [.inp 40, zi 1], .row 101] (ips 126 72))), (6, .box [.inp 114, .inp 115, .inp 116]), (8, .box (ap [zi 0, .enil] (zms 24))), (16, .gone), (18, .gone), (32, .gone), (89, .box [.inp 40, .app (.part 0 1 false) [.inp 120], .app (.part 1 1 false) [.inp 120], .app (.part 2 1 false) [.inp 120], .inp 121, .inp 122, .int .u8 1, zi 0, bF, bF, bF, bF, bF, bF, bF, bF, bF, bF, bF, bF, bF, zi 0, bF]), (99, .row 23 (.inp 123)), (101, .row 23 (.inp 124))], 198, 121, []⟩, 73⟩, ⟨201, 5, ⟨64, [sL 0 (.agg (ips 0 11)), sL 1 (.ptr 0 0), sL 2 bF, sL 3 (.ptr 10 0), sL 15 (.agg (ips 1 8)), sL 16 (.inp 12)], [(0, .box (ips 0 11)), (10, .box (pts (.inp 11) 0 7))], 13, 28, []⟩, 1⟩, ⟨201, 11, ⟨64, [sL 0 (.agg (ips 0 11)), sL 1 (.ptr 0 0), sL 2 bF, sL 3 (.ptr 10 0), sL 15 (.agg (ips 1 8)), sL 16 (.inp 12), sL 42 (.agg [.inp 9, .inp 10]), sL 43 (.inp 13)], [(0, .box (ips 0 11)), (10, .box (pts (.inp 11) 0 7))], 14, 38, []⟩, 1⟩, ⟨135, 2, ⟨19, [sL 0 (.inp 1), sL 1 (.clo 136 [] [.ptr 2 0]), sL 4 (zi 0), sL 7 qh4, sL 8 (.inp 13)], [(0, .gone), (2, .box [.inp 11, .inp 12])], 14, 22, []⟩, 1⟩, ⟨205, 5, ⟨25, [sL 0 (.inp 0), sL 2 (zi 0), sL 3 (.inp 1), sL 4 (.inp 2)], [], 3, 20, []⟩, 2⟩, ⟨206, 5, ⟨25, [sL 0 (.inp 0), sL 2 (zi 0), sL 3 (.inp 1), sL 4 (.inp 2)], [], 3, 20, []⟩, 2⟩, ⟨245, 2, ⟨19, [sL 0 (.inp 0), sL 1 (.clo 200 [] []), sL 4 (zi 0), sL 7 qh0, sL 8 (.inp 1)], [], 2, 16, []⟩, 1⟩, ⟨246, 2, ⟨19, [sL 0 (.inp 0), sL 1 (.clo 203 [] [.ref (ips 1 11) 0]), sL 4 (zi 0), sL 7 qh0, sL 8 (.inp 12)], [], 13, 16, []⟩, 1⟩, ⟨247, 1, ⟨60, [sL 0 (.yield 137), sL 1 (.ptr 128 0), sL 12 (.inp 0), sL 13 qh0, sL 14 (.inp 20)], [(0, .box (ips 0 11)), (8, .gone), (40, .row 1 (.app .lst (ips 4 7))), (128, .box (ips 0 11)), (136, .dfr), (137, .loop .ready)], 21, 148, []⟩, 1⟩, ⟨247, 4, ⟨60, [sL 0 (.yield 137), sL 1 (.ptr 128 0), sL 12 (.inp 0), sL 13 qh0, sL 14 (.inp 20), sL 19 (.agg (pts (.app (.eload 11 true) [.app (.eidx 11) [.inp 0, .inp 20]]) 1 8)), sL 20 (.inp 21)], [(0, .box (ips 0 11)), (8, .gone), (40, .row 1 (.app .lst (ips 4 7))), (128, .box (ips 0 11)), (136, .dfr), (137, .loop .ready), (154, .gone)], 22, 166, []⟩, 1⟩, ⟨247, 10, ⟨60, [sL 0 (.yield 137), sL 1 (.ptr 128 0), sL 12 (.inp 0), sL 13 qh0, sL 14 (.inp 20), sL 35 (.inp 1), sL 36 qh4, sL 37 (.inp 21)], [(0, .box (ips 0 11)), (8, .gone), (40, .row 1 (.app .lst (ips 4 7))), (128, .box (ips 0 11)), (136, .dfr), (137, .loop .ready)], 22, 160, []⟩, 1⟩, ⟨247, 15, ⟨60, [sL 0 (.yield 137), sL 1 (.ptr 128 0), sL 12 (.inp 0), sL 13 qh0, sL 14 (.inp 20), sL 35 (.inp 1), sL 36 qh4, sL 37 (.inp 21), sL 48 (.inp 2), sL 49 (.app .len [.inp 2]), sL 50 (.inp 22)], [(0, .box (ips 0 11)), (8, .gone), (40, .row 1 (.app .lst (ips 4 7))), (128, .box (ips 0 11)), (136, .dfr), (137, .loop .ready)], 23, 172, []⟩, 1⟩, ⟨169, 13, ⟨103, [sL 0 (.agg (ips 0 11)), sL 1 (.ptr 0 0), sL 2 bF, sL 6 (.clo 202 [] [.ptr 0 0]), sL 86 (.inp 2), sL 87 (.app .len [.inp 2]), sL 88 (.inp 23)], [(0, .box (ips 0 11)), (8, .gone), (40, .row 1 (.app .lst (ips 4 7))), (128, .box (ips 0 11)), (136, .dfr), (137, .gone)], 24, 184, [136]⟩, 1⟩, ⟨150, 2, ⟨19, [sL 0 qh8, sL 1 (.clo 202 [] [.ptr 0 0]), sL 4 (zi 0), sL 7 (.app .len [qh8]), sL 8 (.inp 24)], [(0, .box (ips 0 11)), (8, .gone), (40, .row 1 (.app .lst (ips 4 7))), (128, .box (ips 0 11)), (136, .dfr), (137, .gone), (190, .gone)], 25, 226, []⟩, 1⟩, ⟨212, 4, ⟨50, [sL 0 (.agg (ips 0 11)), sL 1 (.ptr 0 0), sL 2 (.ptr 2 0), sL 12 (.inp 0), sL 13 qh0, sL 14 (.inp 11)], [(0, .box (ips 0 11)), (2, .box [bF])], 12, 22, [1000000007]⟩, 1⟩, ⟨257, 1, ⟨25, [sL 0 (.yield 59), sL 1 (.ptr 50 0), sL 2 (.ptr 48 0), sL 6 (.inp 13)], [(0, .box (ips 0 11)), (2, .box [bF]), (30, .box [.inp 11]), (32, .gone), (48, .box (ips 0 11)), (50, .box [.inp 11]), (58, .dfr), (59, .loop .ready)], 14, 64, []⟩, 1⟩, ⟨220, 5, ⟨50, [sL 0 (.agg (ips 0 11)), sL 1 (.agg [.inp 11, .inp 12, .inp 13]), sL 2 (.ptr 0 0), sL 4 bF, sL 5 (.ptr 6 0), sL 6 (.ptr 12 0), sL 18 (.inp 13), sL 19 (.app .len [.inp 13]), sL 20 (.inp 40)], [(0, .box (ips 0 11)), (2, .gone), (6, .box (ips 41 24)), (12, .box [.inp 65, .inp 66])], 67, 40, []⟩, 27⟩, ⟨249, 1, ⟨24, [sL 0 (.yield 25), sL 1 (.ptr 10 0), sL 2 (.ptr 12 0), sL 6 (.inp 11), sL 7 (.inp 12)], [(10, .gone), (12, .box [.clo 216 [] [.ref (ips 0 11) 0]]), (20, .box [zi 0]), (24, .dfr), (25, .loop .ready)], 13, 32, []⟩, 1⟩, ⟨249, 4, ⟨24, [sL 0 (.yield 25), sL 1 (.ptr 10 0), sL 2 (.ptr 12 0), sL 4 (.inp 12), sL 6 (.inp 11), sL 7 (.inp 12), sL 10 (.inp 12), sL 11 (.inp 13)], [(10, .gone), (12, .box [.clo 216 [] [.ref (ips 0 11) 0]]), (20, .box [zi 0]), (24, .dfr), (25, .loop .ready)], 14, 44, []⟩, 1⟩, ⟨249, 1, ⟨24, [sL 0 (.yield 25), sL 1 (.ptr 10 0), sL 2 (.ptr 12 0), sL 6 (.inp 11), sL 7 (.inp 12)], [(10, .gone), (12, .box [.clo 218 [] [.ref (ips 0 11) 0]]), (20, .box [zi 0]), (24, .dfr), (25, .loop .ready)], 13, 32, []⟩, 1⟩, ⟨249, 4, ⟨24, [sL 0 (.yield 25), sL 1 (.ptr 10 0), sL 2 (.ptr 12 0), sL 4 (.inp 12), sL 6 (.inp 11), sL 7 (.inp 12), sL 10 (.inp 12), sL 11 (.inp 13)], [(10, .gone), (12, .box [.clo 218 [] [.ref (ips 0 11) 0]]), (20, .box [zi 0]), (24, .dfr), (25, .loop .ready)], 14, 44, []⟩, 1⟩, ⟨219, 2, ⟨18, [sL 0 (.ref (ips 0 11) 0), sL 1 (zi 0), sL 5 (.inp 11), sL 6 (.inp 12), sL 7 (.inp 13)], [], 14, 12, []⟩, 1⟩, ⟨249, 1, ⟨24, [sL 0 (.yield 29), sL 1 (.ptr 14 0), sL 2 (.ptr 16 0), sL 6 (.inp 11), sL 7 (.inp 12)], [(2, .box [.clo 222 [] []]), (14, .gone), (16, .box [.clo 223 [] [.ptr 2 0, .ref (ips 0 11) 0]]), (24, .box [zi 0]), (28, .dfr), (29, .loop .ready)], 13, 36, []⟩, 1⟩, ⟨249, 4, ⟨24, [sL 0 (.yield 29), sL 1 (.ptr 14 0), sL 2 (.ptr 16 0), sL 4 (.inp 12), sL 6 (.inp 11), sL 7 (.inp 12), sL 10 (.inp 12), sL 11 (.inp 13)], [(2, .box [.clo 222 [] []]), (14, .gone), (16, .box [.clo 223 [] [.ptr 2 0, .ref (ips 0 11) 0]]), (24, .box [zi 0]), (28, .dfr), (29, .loop .ready)], 14, 48, []⟩, 1⟩, ⟨150, 2, ⟨19, [sL 0 (.inp 11), sL 1 (.clo 129 [] [.ptr 0 0]), sL 4 (zi 0), sL 7 (.app .len [.inp 11]), sL 8 (.inp 12)], [(0, .box (ips 0 11)), (2, .box [bF])], 13, 24, []⟩, 1⟩, ⟨134, 1, ⟨23, [sL 0 (.yield 85), sL 1 (.ptr 76 0), sL 3 (.inp 14)], [(0, .box (ips 0 11)), (2, .box [bF]), (40, .gone), (76, .box [.inp 11]), (84, .dfr), (85, .loop .ready)], 15, 90, []⟩, 1⟩, ⟨134, 1, ⟨23, [sL 0 (.yield 43), sL 1 (.ptr 34 0), sL 3 (.inp 13)], [(0, .box (ips 0 11)), (2, .box [bF]), (34, .box [.inp 11]), (42, .dfr), (43, .loop .ready)], 14, 48, []⟩, 1⟩, ⟨91, 2, ⟨31, [sL 0 (.agg [.inp 0, .inp 1, .inp 2]), sL 1 (.inp 4), sL 4 bF, sL 8 (.inp 2), sL 9 (.app .len [.inp 2]), sL 10 (.inp 5)], [(0, .gone)], 6, 14, []⟩, 2⟩, ⟨128, 2, ⟨19, [sL 0 (.inp 0), sL 1 (.clo 87 [] [.ref (ips 1 11) 0]), sL 4 (zi 0), sL 7 qh0, sL 8 (.inp 12)], [], 13, 16, []⟩, 1⟩, ⟨92, 2, ⟨18, [sL 0 (.inp 29), sL 2 bF, sL 5 (.inp 29), sL 6 (.app .len [.inp 29]), sL 7 (.inp 30)], [(0, .box (ips 0 11)), (2, .box [.inp 11, .inp 12, .inp 13]), (6, .gone), (194, .gone)], 31, 208, []⟩, 1⟩, ⟨150, 2, ⟨19, [sL 0 (.app (.slice false true) [.inp 29, .inp 30]), sL 1 (.clo 132 [] [.ptr 216 0]), sL 4 (zi 0), sL 7 (.app .len [.app (.slice false true) [.inp 29, .inp 30]]), sL 8 (.inp 31)], [(0, .box (ips 0 11)), (2, .box [.inp 11, .inp 12, .inp 13]), (6, .gone), (194, .gone), (216, .box [.app (.part 0 1 false) [qh5], .app (.part 1 1 false) [qh5], .app (.part 2 1 false) [qh5]])], 32, 246, []⟩, 1⟩, ⟨134, 1, ⟨23, [sL 0 (.yield 225), sL 1 (.ptr 216 0), sL 3 (.inp 31)], [(0, .box (ips 0 11)), (2, .box [.inp 11, .inp 12, .inp 13]), (6, .gone), (194, .gone), (216, .box [.inp 13]), (224, .dfr), (225, .loop .ready)], 32, 230, []⟩, 1⟩, ⟨49, 2, ⟨19, [sL 0 (.inp 0), sL 1 (.clo 50 [] [.ref [.inp 1] 0]), sL 4 (zi 0), sL 7 qh0, sL 8 (.inp 2)], [], 3, 10, []⟩, 1⟩, ⟨20, 3, ⟨12, [sL 0 (.ptr 0 0), sL 3 (.inp 0)], [(0, .box (ap [zi 1, .enil] (ips 1 72)))], 73, 10, []⟩, 73⟩, ⟨16, 3, ⟨29, [sL 0 (.agg (ips 0 74)), sL 1 (.inp 74), sL 2 (.ptr 0 0), sL 4 (.ptr 2 0), sL 5 bF, sL 6 (.inp 75), sL 10 (.inp 1), sL 11 qh4, sL 12 (.inp 76)], [(0, .box (ips 0 74)), (2, .box [zi 0, zi 0, zi 0, .enil, .enil, .enil, .int .u8 0, zi 0, bF, bF, bF, bF, bF, bF, bF, bF, bF, bF, bF, bF, bF, zi 0, bF])], 77, 18, []⟩, 2⟩, ⟨39, 3, ⟨25, [sL 0 (.agg (ips 40 74)), sL 1 (.ptr 16 0), sL 2 (.ptr 18 0), sL 10 .enil, sL 11 (zi 0), sL 12 (zi 0)], [(0, .box (ips 0 11)), (2, .box (ips 11 29)), (4, .box (ips 40 74)), (6, .box [.inp 114, .inp 115, .inp 116]), (8, .box (ap [zi 0, .enil] (zms 24))), (16, .box (ap [.inp 40, .enil] (ips 42 72))), (18, .box (ap [zi 0, .enil] (zms 24)))], 118, 46, []⟩, 0⟩, ⟨82, 1, ⟨41, [sL 0 (.yield 121), sL 1 (.ptr 112 0), sL 2 (.ptr 106 0), sL 3 (.ptr 108 0), sL 4 (.ptr 110 0), sL 9 (.inp 121), sL 10 (.app .len [.inp 121]), sL 11 (.inp 122)], [(0, .box (ips 0 11)), (2, .box (ips 11 29)), (4, .box (ips 40 74)), (6, .box [.inp 114, .inp 115, .inp 116]), (8, .box (ap [.inp 40, .enil] (ips 123 72))), (16, .box (ap [.inp 40, .enil] (ips 42 72))), (18, .box (ap [.inp 40, .enil] (ips 42 72))), (94, .box [.inp 40, .app (.part 0 1 false) [.inp 119], .app (.part 1 1 false) [.inp 119], .app (.part 2 1 false) [.inp 119], .inp 120, .inp 121, .int .u8 1, zi 0, bF, bF, bF, bF, bF, bF, bF, bF, bF, bF, bF, bF, bF, zi 0, bF]), (106, .box (ips 0 11)), (108, .box (ips 11 29)), (110, .box [.ptr 8 0]), (112, .box [.inp 121]), (120, .dfr), (121, .loop .ready)], 195, 130, []⟩, 73⟩, ⟨39, 3, ⟨25, [sL 0 (.agg (ips 40 74)), sL 1 (.ptr 16 0), sL 2 (.ptr 18 0), sL 10 (.row 34), sL 11 (.app .len [.app .app [.app .lst [], .inp 41]]), sL 12 (.inp 118)], [(0, .box (ips 0 11)), (2, .box (ips 11 29)), (4, .box (ips 40 74)), (6, .box [.inp 114, .inp 115, .inp 116]), (8, .box (ap [zi 0, .enil] (zms 24))), (16, .box (ap [.inp 40, .row 34] (ips 42 72))), (18, .box (ap [zi 0, .enil] (zms 24))), (30, .gone), (34, .row 23 (.inp 119))], 120, 52, []⟩, 2⟩, ⟨82, 1, ⟨41, [sL 0 (.yield 127), sL 1 (.ptr 118 0), sL 2 (.ptr 112 0), sL 3 (.ptr 114 0), sL 4 (.ptr 116 0), sL 9 (.inp 123), sL 10 (.app .len [.inp 123]), sL 11 (.inp 124)], [(0, .box (ips 0 11)), (2, .box (ips 11 29)), (4, .box (ips 40 74)), (6, .box [.inp 114, .inp 115, .inp 116]), (8, .box (ap [.inp 40, .row 34] (ips 125 72))), (16, .box (ap [.inp 40, .row 34] (ips 42 72))), (18, .box (ap [.inp 40, .row 34] (ips 42 72))), (30, .gone), (34, .row 23 (.inp 119)), (100, .box [.inp 40, .app (.part 0 1 false) [.inp 121], .app (.part 1 1 false) [.inp 121], .app (.part 2 1 false) [.inp 121], .inp 122, .inp 123, .int .u8 1, zi 0, bF, bF, bF, bF, bF, bF, bF, bF, bF, bF, bF, bF, bF, zi 0, bF]), (112, .box (ips 0 11)), (114, .box (ips 11 29)), (116, .box [.ptr 8 0]), (118, .gone), (126, .dfr), (127, .loop .ready)], 197, 136, []⟩, 73⟩, ⟨33, 2, ⟨25, [sL 0 (.inp 0), sL 1 (.inp 1), sL 4 (zi 0), sL 5 bF, sL 6 (.inp 2)], [], 3, 8, []⟩, 1⟩, ⟨17, 2, ⟨31, [sL 0 (.agg (ips 0 74)), sL 1 (.inp 74), sL 2 (.ptr 0 0), sL 4 (.ptr 2 0), sL 5 bF, sL 6 (.inp 75)], [(0, .box (ips 0 74)), (2, .box [zi 0, zi 0, zi 0, .enil, .enil, .enil, .int .u8 0, zi 0, bF, bF, bF, bF, bF, bF, bF, bF, bF, bF, bF, bF, bF, zi 0, bF])], 76, 18, []⟩, 1⟩, ⟨8, 2, ⟨39, [sL 0 (.agg (ips 0 11)), sL 1 (.agg (ips 11 74)), sL 2 (.agg [.inp 85, .inp 86, .inp 87]), sL 3 (.ptr 0 0), sL 4 (.ptr 2 0), sL 5 (.ptr 4 0), sL 6 bF, sL 7 (.inp 88)], [(0, .box (ips 0 11)), (2, .box (ips 11 74)), (4, .box [.inp 85, .inp 86, .inp 87])], 89, 12, []⟩, 1⟩, ⟨4, 11, ⟨242, [sL 0 (.agg (ips 0 11)), sL 1 (.agg (ips 11 29)), sL 2 (.agg (ips 40 74)), sL 3 (.agg [.inp 114, .inp 115, .inp 116]), sL 4 (.ptr 0 0), sL 5 (.ptr 2 0), sL 6 (.ptr 4 0), sL 7 (.ptr 6 0), sL 8 bF, sL 9 (.ptr 36 0), sL 12 (.app .len [.inp 41]), sL 13 (.ptr 108 0), sL 14 (.inp 123)], [(0, .box (ips 0 11)), (2, .box (ips 11 29)), (4, .box (ips 40 74)), (6, .box [.inp 114, .inp 115, .inp 116]), (36, .box (pts (.app (.tproj 0) [.inp 118]) 0 74)), (108, .box (pts (qh1) 0 23))], 124, 116, []⟩, 1⟩, ⟨4, 17, ⟨242, [sL 0 (.agg (ips 0 11)), sL 1 (.agg (ips 11 29)), sL 2 (.agg (ips 40 74)), sL 3 (.agg [.inp 114, .inp 115, .inp 116]), sL 4 (.ptr 0 0), sL 5 (.ptr 2 0), sL 6 (.ptr 4 0), sL 7 (.ptr 6 0), sL 8 bF, sL 9 (.ptr 36 0), sL 12 (.app .len [.inp 41]), sL 13 (.ptr 108 0), sL 14 (.inp 123), sL 15 (.inp 124), sL 16 (.inp 125)], [(0, .box (ips 0 11)), (2, .box (ips 11 29)), (4, .box (ips 40 74)), (6, .box [.inp 114, .inp 115, .inp 116]), (36, .box (pts (.app (.tproj 0) [.inp 118]) 0 74)), (108, .box (pts (qh1) 0 23))], 126, 132, []⟩, 1⟩, ⟨4, 23, ⟨242, [sL 0 (.agg (ips 0 11)), sL 1 (.agg (ips 11 29)), sL 2 (.agg (ips 40 74)), sL 3 (.agg [.inp 114, .inp 115, .inp 116]), sL 4 (.ptr 0 0), sL 5 (.ptr 2 0), sL 6 (.ptr 4 0), sL 7 (.ptr 6 0), sL 8 bF, sL 9 (.ptr 36 0), sL 12 (.app .len [.inp 41]), sL 13 (.ptr 108 0), sL 14 (.inp 123), sL 15 (.inp 124), sL 16 (.inp 125), sL 19 (.inp 126)], [(0, .box (ips 0 11)), (2, .box (ips 11 29)), (4, .box (ips 40 74)), (6, .box [.inp 114, .inp 115, .inp 116]), (36, .box (pts (.app (.tproj 0) [.inp 118]) 0 74)), (108, .box (pts (qh1) 0 23))], 127, 144, []⟩, 1⟩, ⟨6, 6, ⟨93, [sL 0 (.agg (ips 0 11)), sL 1 (.agg (ips 11 29)), sL 2 (.agg (ips 40 74)), sL 3 (.agg [.inp 114, .inp 115, .inp 116]), sL 4 (.ptr 0 0), sL 5 (.ptr 2 0), sL 6 (.ptr 4 0), sL 7 (.ptr 6 0), sL 8 bF, sL 9 (.ptr 36 0), sL 11 (.app (.tproj 2) [.inp 118]), sL 12 (.inp 119), sL 13 (.inp 120)], [(0, .box (ips 0 11)), (2, .box (ips 11 29)), (4, .box (ips 40 74)), (6, .box [.inp 114, .inp 115, .inp 116]), (36, .box (pts (.app (.tproj 0) [.inp 118]) 0 74))], 121, 56, []⟩, 1⟩, ⟨7, 5, ⟨112, [sL 0 (.agg (ips 0 74)), sL 1 (.inp 74), sL 2 (.ptr 0 0), sL 4 bF, sL 5 (.inp 76), sL 6 (.inp 77), sL 7 (.inp 78)], [(0, .box (ips 0 74))], 79, 20, []⟩, 3⟩]
def inl : List Nat := [77, 80, 119, 121, 166, 224, 250, 109, 151, 138, 174, 171, 133, 178, 179, 180, 181, 227, 140, 175, 184, 239, 187, 102, 103, 105, 97, 100, 107, 108, 49, 150, 226, 176, 124, 125, 44, 43, 82, 50, 48, 39, 87, 88, 89, 129, 92, 132, 94, 134, 128, 136, 135, 200, 202, 203, 245, 246, 209, 247, 170, 216, 218, 222, 223, 214, 215, 249, 248, 257]
noncomputable def E : Env := { P := PR, G := GL, inl := fun f => inl.contains f, scal := fun f => scal.contains f, shape := zmm 123 168 185 240, hints := hints, frzAt := fun f k => frzL.contains (f, k), big := 9, srt := fun f => srtF.contains f, cpt := fun f => cptF.contains f, unr := fun f k => if f = 127 ∧ k = 4 then 6 else 0 }
theorem Emix : E.P.follows .mixedOrders = true := by kernel_rfl
end Go.Lb.LK
namespace Go.Lb.LK
open Go Go.Lb Go.Proofs
noncomputable section
@[simp] def q0_0 : SE := bi .lss (.inp 0) (zi 32)
@[simp] def q0_1 : SE := pk (bi .geq (.inp 0) (zi 0)) q0_0 bF
@[simp] def q0_2 : SE := bi .shl (.int .u32 1) (.inp 0)
@[simp] def q0_3 : SE := bi .and (e1 (.ref [.inp 1] 0)) q0_2
@[simp] def q0_4 : SE := bi .neq q0_3 (.int .u32 0)
@[simp] def q0_5 : SE := .clo 168 [] [.ref [.inp 36] 0]
@[simp] def q0_6 : SE := .ref [q0_5] 0
@[simp] def q0_7 : SE := nt (e1 (.ref [.inp 1] 0))
@[simp] def q0_8 : SE := bi .lss (.inp 40) (zi 0)
@[simp] def q0_9 : SE := .app (.mm false) [ln (.inp 0), zi 24]
@[simp] def q0_10 : SE := bi .geq (.inp 40) q0_9
@[simp] def q0_11 : SE := .ref [bi .lss (.inp 6) (.inp 11)] 0
@[simp] def q0_12 : SE := .app (.aidx 24 1 1 1 false) [.agg (ipx 11 29), .inp 40]
@[simp] def q0_13 : SE := bi .lss q0_12 (.inp 4)
@[simp] def q0_14 : SE := bi .geq (.inp 40) (ln (.inp 0))
@[simp] def q0_15 : SE := pk q0_8 bT q0_14
@[simp] def q0_16 : SE := ei 11 (.inp 0) (.inp 40)
@[simp] def q0_17 : SE := .app (.eoff 0) [q0_16]
@[simp] def q0_18 : SE := e1 q0_17
@[simp] def q0_19 : SE := bi .neq q0_18 (.int .u8 2)
@[simp] def q0_20 : SE := pk q0_15 bT q0_19
@[simp] def q0_21 : SE := .app .app [.app .lst [], .inp 0]
@[simp] def q0_22 : SE := .agg [.inp 0, .inp 1, .inp 2]
@[simp] def q0_23 : SE := .agg [.inp 0, .inp 1, .inp 3]
@[simp] def q0_24 : SE := .agg (ap [.inp 0, pt 0 (.inp 23), pt 1 (.inp 23), pt 2 (.inp 23), .inp 24, .inp 25] (ipx 6 17))
@[simp] def q0_25 : SE := bi .lss (.inp 2) (ln (.inp 0))
@[simp] def q0_26 : SE := el 3 (ei 3 (.inp 0) (.inp 2))
@[simp] def q0_27 : SE := el 3 (ei 3 (.inp 1) (.inp 3))
@[simp] def q0_28 : SE := pt 0 q0_26
@[simp] def q0_29 : SE := pt 1 q0_26
@[simp] def q0_30 : SE := pt 0 q0_27
@[simp] def q0_31 : SE := pt 1 q0_27
@[simp] def q0_32 : SE := bi .eql q0_28 q0_30
@[simp] def q0_33 : SE := bi .neq q0_29 q0_31
@[simp] def q0_34 : SE := .app (.mm true) [.inp 7, zi 0]
@[simp] def q0_35 : SE := el 3 (ei 3 (.inp 5) (.inp 24))
@[simp] def q0_36 : SE := pt 2 q0_35
@[simp] def q0_37 : SE := .agg [pt 0 q0_35, pt 1 q0_35, q0_36]
@[simp] def q0_38 : SE := bi .geq q0_36 q0_34
@[simp] def q0_39 : SE := bi .neq q0_36 (ln (.inp 3))
@[simp] def q0_40 : SE := pk q0_39 bT (nt (.inp 20))
@[simp] def q0_41 : SE := .app .lst [q0_37]
@[simp] def q0_42 : SE := bi .add (.inp 24) (zi 1)
@[simp] def q0_43 : SE := .app (.mm true) [.inp 0, .inp 21]
@[simp] def q0_44 : SE := bi .gtr q0_43 (zi 1073741824)
@[simp] def q0_45 : SE := pk (bi .lss (.inp 0) (zi 1)) bT q0_44
@[simp] def q0_46 : SE := bi .lss (.inp 21) (zi 0)
@[simp] def q0_47 : SE := pk q0_45 bT q0_46
@[simp] def q0_48 : SE := bi .lss (ln (.inp 3)) (zi 1)
@[simp] def q0_49 : SE := pk q0_47 bT q0_48
@[simp] def q0_50 : SE := bi .gtr (ln (.inp 3)) (zi 12)
@[simp] def q0_51 : SE := pk q0_49 bT q0_50
@[simp] def q0_52 : SE := bi .gtr (ln (.inp 4)) (zi 2)
@[simp] def q0_53 : SE := bi .eql (.inp 6) (.int .u8 0)
@[simp] def q0_54 : SE := bi .geq (.inp 6) (.int .u8 5)
@[simp] def q0_55 : SE := pk q0_53 bT q0_54
@[simp] def q0_56 : SE := pk q0_55 bT (bi .lss (.inp 7) (zi 0))
@[simp] def q0_57 : SE := bi .gtr (.inp 7) (ln (.inp 3))
@[simp] def q0_58 : SE := pk q0_56 bT q0_57
@[simp] def q0_59 : SE := .app (.slice false true) [.app .lst (ipx 8 12), ln (.inp 3)]
@[simp] def q0_60 : SE := ln q0_59
@[simp] def q0_61 : SE := el 12 (.ref (ipx 0 23) 8)
@[simp] def q0_62 : SE := .app .lst [e1 (.ref (ipx 0 23) 3), e1 (.ref (ipx 0 23) 4)]
@[simp] def q0_63 : SE := ei 3 (.inp 47) (.inp 52)
@[simp] def q0_64 : SE := el 3 q0_63
@[simp] def q0_65 : SE := pt 0 q0_64
@[simp] def q0_66 : SE := .app .lst [q0_65]
@[simp] def q0_67 : SE := ln (e1 (.ref (ipx 0 23) 4))
@[simp] def q0_68 : SE := bi .add (ln (.inp 3)) q0_67
@[simp] def q0_69 : SE := ei 3 (.inp 59) (.inp 61)
@[simp] def q0_70 : SE := el 3 q0_69
@[simp] def q0_71 : SE := pt 2 q0_70
@[simp] def q0_72 : SE := bi .lss q0_71 (zi 0)
@[simp] def q0_73 : SE := bi .gtr q0_71 (ln (.inp 3))
@[simp] def q0_74 : SE := pk q0_72 bT q0_73
@[simp] def q0_75 : SE := pt 0 q0_70
@[simp] def q0_76 : SE := bi .lss q0_75 (zi 0)
@[simp] def q0_77 : SE := pk q0_74 bT q0_76
@[simp] def q0_78 : SE := bi .geq q0_75 (zi 24)
@[simp] def q0_79 : SE := pk q0_77 bT q0_78
@[simp] def q0_80 : SE := pt 1 q0_70
@[simp] def q0_81 : SE := bi .shr q0_80 (.int .u64 1)
@[simp] def q0_82 : SE := bi .neq q0_81 (zi 0)
@[simp] def q0_83 : SE := e1 (ei 1 (.inp 0) (.inp 2))
@[simp] def q0_84 : SE := ln q0_83
@[simp] def q0_85 : SE := bi .add (.inp 1) q0_84
@[simp] def q0_86 : SE := .app .rep [bi .sub (.inp 1) (zi 0), .agg [zi 0, zi 0, zi 0]]
@[simp] def q0_87 : SE := e1 (ei 1 (.inp 0) (.inp 5))
@[simp] def q0_88 : SE := e1 (ei 1 (.inp 0) (.inp 4))
@[simp] def q0_89 : SE := el 3 (ei 3 (.inp 3) (.inp 23))
@[simp] def q0_90 : SE := pt 0 q0_89
@[simp] def q0_91 : SE := .app .lst [q0_90]
@[simp] def q0_92 : SE := bi .add (.inp 23) (zi 1)
@[simp] def q0_93 : SE := el 3 (ei 3 (.inp 4) (.inp 25))
@[simp] def q0_94 : SE := bi .add (.inp 25) (zi 1)
@[simp] def q0_95 : SE := pt 0 q0_93
@[simp] def q0_96 : SE := .app .lst [q0_95]
@[simp] def q0_97 : SE := bi .lss (.inp 25) (ln (.inp 24))
@[simp] def q0_98 : SE := ei 1 (.inp 24) (.inp 25)
@[simp] def q0_99 : SE := e1 q0_98
@[simp] def q0_100 : SE := ei 3 (.inp 24) (.inp 25)
@[simp] def q0_101 : SE := el 3 q0_100
@[simp] def q0_102 : SE := pt 0 q0_101
@[simp] def q0_103 : SE := el 3 (ei 3 (.inp 3) (.inp 46))
@[simp] def q0_104 : SE := bi .add (.inp 46) (zi 1)
@[simp] def q0_105 : SE := el 3 (ei 3 (.inp 4) (.inp 47))
@[simp] def q0_106 : SE := bi .add (.inp 47) (zi 1)
@[simp] def q0_107 : SE := pk (.inp 3) (bi .geq (.inp 1) (zi 0)) bF
@[simp] def q0_108 : SE := bi .leq (.inp 1) (zi 1000)
@[simp] def q0_109 : SE := pk q0_107 q0_108 bF
@[simp] def q0_110 : SE := .app (.eqa [ some .i64, some .i64, none] false) [q0_22, .inp 4]
@[simp] def q0_111 : SE := bi .neq (.inp 0) (.inp 3)
@[simp] def q0_112 : SE := .agg [pt 0 (.inp 6), pt 1 (.inp 6), pt 2 (.inp 6)]
@[simp] def q0_113 : SE := .agg [pt 0 (.inp 5), pt 1 (.inp 5), pt 2 (.inp 5)]
@[simp] def q0_114 : SE := bi .lss (.inp 75) (ln (.inp 1))
@[simp] def q0_115 : SE := ei 23 (.inp 1) (.inp 75)
@[simp] def q0_116 : SE := el 23 q0_115
@[simp] def q0_117 : SE := .agg (ptx (q0_116) 0 23)
@[simp] def q0_118 : SE := pt 0 q0_116
@[simp] def q0_119 : SE := bi .add (.inp 75) (zi 1)
@[simp] def q0_120 : SE := pt 6 q0_116
@[simp] def q0_121 : SE := bi .neq q0_120 (.int .u8 1)
@[simp] def q0_122 : SE := bi .lss (.inp 114) (zi 0)
@[simp] def q0_123 : SE := bi .geq (.inp 114) (zi 24)
@[simp] def q0_124 : SE := bi .neq (tp 0 (.inp 118)) (.inp 115)
@[simp] def q0_125 : SE := bi .eql (.inp 117) (.inp 115)
@[simp] def q0_126 : SE := .app (.aidx 24 3 4 1 false) [.agg (ipx 40 74), .inp 114]
@[simp] def q0_127 : SE := nt q0_126
@[simp] def q0_128 : SE := pk q0_127 (.inp 119) bF
def rt_slices_Sort_int : RT :=
 ck .len [.nils] <|
 ck (.conv .u64) [zi 0] <|
.seg [.call 0 [] 183 [.int .u64 0] false] <|
.loop 0 1 [] <|
 ck (.bin .sub) [zi 0, zi 0] <|
 ck (.bin .leq) [zi 0, zi 12] <|
 ck (.bin .add) [zi 0, zi 1] <|
.loop 1 1 [] <|
 ck (.bin .lss) [zi 1, zi 0] <|
.ret (.tup [])
theorem run_slices_Sort_int : runF ES 144 [.nils] 0 = rt_slices_Sort_int := by kernel_rfl
def rt_image_bit : RT :=
 ck .isOne [.inp 0] <|
.ret (.clo 168 [] [.ref [.inp 0] 0])
theorem run_image_bit : runF E 123 [.inp 0] 1 = rt_image_bit := by kernel_rfl
def rt_image_bit_1 : RT :=
.seg [.chk [] (.bin .geq) [.inp 0, zi 0],
.chk [(bi .geq (.inp 0) (zi 0), true)] (.bin .lss) [.inp 0, zi 32],
.chk [] .pick [bi .geq (.inp 0) (zi 0), q0_0, bF],
.chk [(q0_1, true)] (.eload 1 false) [.ref [.inp 1] 0],
.chk [(q0_1, true)] (.bin .shl) [.int .u32 1, .inp 0],
.chk [(q0_1, true)] (.bin .and) [e1 (.ref [.inp 1] 0), q0_2],
.chk [(q0_1, true)] (.bin .neq) [q0_3, .int .u32 0],
.chk [] .pick [q0_1, q0_4, bF]] <|
.seg [.bind 2 (pk q0_1 q0_4 bF)] <|
.ret (.inp 2)
theorem run_image_bit_1 : runF E 168 [.inp 0, .ref [.inp 1] 0] 2 = rt_image_bit_1 := by kernel_rfl
def rt_image_clear : RT :=
 ck (.isAgg 11) [.agg (ipx 0 11)] <|
 ck (.isAgg 29) [.agg (ipx 11 29)] <|
.seg [.call 40 [] 122 [.agg (ipx 0 11), .agg (ipx 11 29)] false,
.call 41 [] 123 [.inp 36] false,
.same 41 [] (q0_5),
.chk [] .isOne [.inp 40]] <|
.ret (.clo 240 [] [.ref [.inp 40] 0, q0_6])
theorem run_image_clear : runF E 185 [.agg (ips 0 11), .agg (ips 11 29)] 40 = rt_image_clear := by kernel_rfl
def rt_image_clear_1 : RT :=
 ck (.eload 1 false) [.ref [.inp 1] 0] <|
 ck (.un .not) [e1 (.ref [.inp 1] 0)] <|
 ckg (q0_7) true (.eload 1 false) [.ref [.clo 168 [] [.ref [.inp 2] 0]] 0] <|
.seg [.call 3 [(q0_7, true)] 168 [.inp 0, .ref [.inp 2] 0] false] <|
 ckg (q0_7) true (.un .not) [.inp 3] <|
 ck .pick [q0_7, nt (.inp 3), bF] <|
.ret (pk q0_7 (nt (.inp 3)) bF)
theorem run_image_clear_1 : runF E 240 [.inp 0, .ref [.inp 1] 0, .ref [.clo 168 [] [.ref [.inp 2] 0]] 0] 3 = rt_image_clear_1 := by kernel_rfl
def rt_image_Stale : RT :=
 ck (.isAgg 11) [.agg (ipx 0 11)] <|
 ck (.isAgg 29) [.agg (ipx 11 29)] <|
.seg [.call 40 [] 167 [.inp 11, .inp 6] false] <|
.ret (.inp 40)
theorem run_image_Stale : runF E 122 [.agg (ips 0 11), .agg (ips 11 29)] 40 = rt_image_Stale := by kernel_rfl
def rt_image_Occupied : RT :=
 ck (.isAgg 11) [.agg (ipx 0 11)] <|
 ck (.isAgg 29) [.agg (ipx 11 29)] <|
 ck (.bin .lss) [.inp 40, zi 0] <|
 ckg (q0_8) false .len [.inp 0] <|
 ckg (q0_8) false (.mm false) [ln (.inp 0), zi 24] <|
 ckg (q0_8) false (.bin .geq) [.inp 40, q0_9] <|
 ck .pick [q0_8, bT, q0_10] <|
.seg [.bind 41 (pk q0_8 bT q0_10)] <|
.cond (.inp 41)
 (.ret (bT))
 (.seg [.call 42 [] 185 [.agg (ipx 0 11), .agg (ipx 11 29)] false,
.same 42 [] (.clo 240 [] [q0_11, q0_6]),
.call 43 [] 240 [.inp 40, q0_11, q0_6] false,
.chk [] (.un .not) [.inp 43],
.chk [(nt (.inp 43), false)] (.inr 24) [.inp 40],
.chk [(nt (.inp 43), false)] (.aidx 24 1 1 1 false) [.agg (ipx 11 29), .inp 40],
.chk [(nt (.inp 43), false)] (.bin .lss) [q0_12, .inp 4],
.chk [] .pick [nt (.inp 43), bT, q0_13]] <|
.seg [.bind 44 (pk (nt (.inp 43)) bT q0_13),
.bind 45 (q0_12),
.bind 46 (q0_13)] <|
.ret (.inp 44))
theorem run_image_Occupied : runF E 147 [.agg (ips 0 11), .agg (ips 11 29), .inp 40] 41 = rt_image_Occupied := by kernel_rfl
def rt_image_At : RT :=
 ck (.isAgg 11) [.agg (ipx 0 11)] <|
 ck (.isAgg 29) [.agg (ipx 11 29)] <|
 ck (.bin .lss) [.inp 40, zi 0] <|
 ckg (q0_8) false .len [.inp 0] <|
 ckg (q0_8) false (.bin .geq) [.inp 40, ln (.inp 0)] <|
 ck .pick [q0_8, bT, q0_14] <|
 ckg (q0_15) false (.eidx 11) [.inp 0, .inp 40] <|
 ckg (q0_15) false (.eoff 0) [q0_16] <|
 ckg (q0_15) false (.eload 1 false) [q0_17] <|
 ckg (q0_15) false (.bin .neq) [q0_18, .int .u8 2] <|
 ck .pick [q0_15, bT, q0_19] <|
.seg [.call 41 [(q0_20, false)] 122 [.agg (ipx 0 11), .agg (ipx 11 29)] false] <|
 ck .pick [q0_20, bT, .inp 41] <|
.seg [.bind 42 (q0_20),
.bind 43 (pk q0_20 bT (.inp 41))] <|
.cond (.inp 43)
 (.ret (zi (-1)))
 (.seg [.call 44 [] 123 [.inp 37] false,
.same 44 [] (.clo 168 [] [.ref [.inp 37] 0]),
.call 45 [] 168 [.inp 40, .ref [.inp 37] 0] false,
.call 46 [] 123 [.inp 38] false,
.same 46 [] (.clo 168 [] [.ref [.inp 38] 0]),
.call 47 [] 168 [.inp 40, .ref [.inp 38] 0] false] <|
 ckg (.inp 45) true (.un .not) [.inp 47] <|
 ck .pick [.inp 45, nt (.inp 47), bF] <|
.cond (pk (.inp 45) (nt (.inp 47)) bF)
 (.ret (zi 0))
 (ckg (.inp 47) true (.un .not) [.inp 45] <|
 ck .pick [.inp 47, nt (.inp 45), bF] <|
.cond (pk (.inp 47) (nt (.inp 45)) bF)
 (.ret (zi 1))
 (.ret (zi (-1)))))
theorem run_image_At : runF E 83 [.agg (ips 0 11), .agg (ips 11 29), .inp 40] 41 = rt_image_At := by kernel_rfl
def rt_tick_Late : RT :=
 ck (.bin .lss) [.inp 1, .inp 0] <|
.ret (bi .lss (.inp 1) (.inp 0))
theorem run_tick_Late : runF E 167 [.inp 0, .inp 1] 2 = rt_tick_Late := by kernel_rfl
def rt_slices_Clone_Step : RT :=
.seg [.chk [] .len [.inp 0],
.isNil 1 [] (.inp 0)] <|
.cond (.inp 1)
 (.ret (.nils))
 (.seg [.chk [] (.szs 3) [.inp 0],
.chk [] .app [.app .lst [], .inp 0]] <|
.ret (q0_21))
theorem run_slices_Clone_Step : runF E 79 [.inp 0] 1 = rt_slices_Clone_Step := by kernel_rfl
def rt_slices_Clone_Need : RT :=
.seg [.chk [] .len [.inp 0],
.isNil 1 [] (.inp 0)] <|
.cond (.inp 1)
 (.ret (.nils))
 (.seg [.chk [] (.szs 3) [.inp 0],
.chk [] .app [.app .lst [], .inp 0]] <|
.ret (q0_21))
theorem run_slices_Clone_Need : runF E 118 [.inp 0] 1 = rt_slices_Clone_Need := by kernel_rfl
def rt_route_Own : RT :=
 ck (.isAgg 3) [q0_22] <|
.seg [.call 3 [] 79 [.inp 2] false] <|
 ck .isOne [.inp 3] <|
 ck (.isAgg 3) [q0_23] <|
.ret (q0_23)
theorem run_route_Own : runF E 40 [.agg [.inp 0, .inp 1, .inp 2]] 3 = rt_route_Own := by kernel_rfl
def rt_held_Own : RT :=
 ck (.isAgg 23) [.agg (ipx 0 23)] <|
.seg [.call 23 [] 40 [.agg [.inp 1, .inp 2, .inp 3]] false,
.call 24 [] 79 [.inp 4] false,
.call 25 [] 118 [.inp 5] false,
.chk [] (.isAgg 3) [.inp 23],
.chk [] .isOne [.inp 24],
.chk [] .isOne [.inp 25]] <|
 ck (.isAgg 23) [q0_24] <|
.ret (q0_24)
theorem run_held_Own : runF E 78 [.agg (ips 0 23)] 23 = rt_held_Own := by kernel_rfl
def rt_held_clash : RT :=
 ck .isOne [.inp 1] <|
 ck .len [.inp 0] <|
.loop 0 2 [zi 0] <|
 ck (.bin .lss) [.inp 2, ln (.inp 0)] <|
.cond (q0_25)
 (ck (.eidx 3) [.inp 0, .inp 2] <|
 ck (.eload 3 true) [ei 3 (.inp 0) (.inp 2)] <|
 ck (.isAgg 3) [q0_26] <|
 ck .len [.inp 1] <|
.loop 1 3 [zi 0] <|
 ck (.bin .lss) [.inp 3, ln (.inp 1)] <|
.cond (bi .lss (.inp 3) (ln (.inp 1)))
 (ck (.eidx 3) [.inp 1, .inp 3] <|
 ck (.eload 3 true) [ei 3 (.inp 1) (.inp 3)] <|
 ck (.isAgg 3) [q0_27] <|
 ck (.isAgg 3) [.agg [q0_28, q0_29, pt 2 q0_26]] <|
 ck (.isAgg 3) [.agg [q0_30, q0_31, pt 2 q0_27]] <|
 ck (.bin .eql) [q0_28, q0_30] <|
 ckg (q0_32) true (.bin .neq) [q0_29, q0_31] <|
 ck .pick [q0_32, q0_33, bF] <|
.seg [.bind 4 (pk q0_32 q0_33 bF),
.bind 5 (q0_32),
.bind 6 (q0_33)] <|
.cond (.inp 4)
 (ck (.bin .geq) [.inp 3, zi 0] <|
.cond (bi .geq (.inp 3) (zi 0))
 (ck (.bin .geq) [.inp 2, zi 0] <|
.ret (bi .geq (.inp 2) (zi 0)))
 (ck (.bin .add) [.inp 2, zi 1] <|
.again 0 [bi .add (.inp 2) (zi 1)]))
 (ck (.bin .add) [.inp 3, zi 1] <|
.again 1 [bi .add (.inp 3) (zi 1)]))
 (ck (.bin .geq) [zi (-1), zi 0] <|
 ck (.bin .add) [.inp 2, zi 1] <|
.again 0 [bi .add (.inp 2) (zi 1)]))
 (ck (.bin .geq) [zi (-1), zi 0] <|
.ret (bF))
theorem run_held_clash : runF E 142 [.inp 0, .inp 1] 2 = rt_held_clash := by kernel_rfl
def rt_held_Needs : RT :=
 ck (.isAgg 23) [.agg (ipx 0 23)] <|
 ck (.isAgg 23) [.agg (ipx 0 23)] <|
.seg [.chk [] (.mm true) [.inp 7, zi 0],
.chk [] .len [.inp 3],
.chk [] .isOne [q0_34],
.chk [] .isOne [ln (.inp 3)]] <|
 ck .len [.inp 5] <|
.loop 0 23 [.nils, zi 0] <|
 ck (.bin .lss) [.inp 24, ln (.inp 5)] <|
.cond (bi .lss (.inp 24) (ln (.inp 5)))
 (ck (.eidx 3) [.inp 5, .inp 24] <|
 ck (.eload 3 true) [ei 3 (.inp 5) (.inp 24)] <|
 ck (.isAgg 3) [q0_35] <|
 ck (.isAgg 3) [q0_37] <|
 ck (.bin .geq) [q0_36, q0_34] <|
 ckg (q0_38) true (.bin .neq) [q0_36, ln (.inp 3)] <|
.seg [.chk [(q0_39, false), (q0_38, true)] (.un .not) [.inp 20]] <|
 ckg (q0_38) true .pick [q0_39, bT, nt (.inp 20)] <|
 ck .pick [q0_38, q0_40, bF] <|
.seg [.bind 25 (pk q0_38 q0_40 bF),
.bind 26 (q0_40)] <|
.cond (.inp 25)
 (ck (.isAgg 3) [q0_37] <|
.seg [.chk [] (.szs 3) [q0_41],
.chk [] .app [.inp 23, q0_41]] <|
.seg [.bind 27 (q0_41),
.bind 28 (.app .app [.inp 23, q0_41])] <|
 ck (.bin .add) [.inp 24, zi 1] <|
.again 0 [.inp 28, q0_42])
 (ck (.bin .add) [.inp 24, zi 1] <|
.again 0 [.inp 23, q0_42]))
 (.ret (.inp 23))
theorem run_held_Needs : runF E 143 [.agg (ips 0 23)] 23 = rt_held_Needs := by kernel_rfl
def rt_held_Right : RT :=
 ck (.isAgg 23) [.agg (ipx 0 23)] <|
 ck .len [.inp 3] <|
 ck (.bin .lss) [.inp 0, zi 1] <|
 ckg (bi .lss (.inp 0) (zi 1)) false (.mm true) [.inp 0, .inp 21] <|
 ckg (bi .lss (.inp 0) (zi 1)) false (.bin .gtr) [q0_43, zi 1073741824] <|
 ck .pick [bi .lss (.inp 0) (zi 1), bT, q0_44] <|
 ckg (q0_45) false (.bin .lss) [.inp 21, zi 0] <|
 ck .pick [q0_45, bT, q0_46] <|
 ckg (q0_47) false (.bin .lss) [ln (.inp 3), zi 1] <|
 ck .pick [q0_47, bT, q0_48] <|
 ckg (q0_49) false (.bin .gtr) [ln (.inp 3), zi 12] <|
 ck .pick [q0_49, bT, q0_50] <|
 ckg (q0_51) false .len [.inp 4] <|
 ckg (q0_51) false (.bin .gtr) [ln (.inp 4), zi 2] <|
 ck .pick [q0_51, bT, q0_52] <|
.seg [.bind 23 (q0_45),
.bind 24 (q0_47),
.bind 25 (q0_49),
.bind 26 (q0_51),
.bind 27 (pk q0_51 bT q0_52)] <|
.cond (.inp 27)
 (.ret (bF))
 (ck (.bin .eql) [.inp 6, .int .u8 0] <|
 ckg (q0_53) false (.bin .geq) [.inp 6, .int .u8 5] <|
 ck .pick [q0_53, bT, q0_54] <|
 ckg (q0_55) false (.bin .lss) [.inp 7, zi 0] <|
 ck .pick [q0_55, bT, bi .lss (.inp 7) (zi 0)] <|
 ckg (q0_56) false (.bin .gtr) [.inp 7, ln (.inp 3)] <|
 ck .pick [q0_56, bT, q0_57] <|
.seg [.call 28 [(q0_58, false)] 142 [.inp 5, .inp 5] false] <|
 ck .pick [q0_58, bT, .inp 28] <|
.seg [.bind 29 (q0_56),
.bind 30 (q0_58),
.bind 31 (pk q0_58 bT (.inp 28))] <|
.cond (.inp 31)
 (.ret (bF))
 (.seg [.chk [] (.eoff 8) [.ref (ipx 0 23) 0],
.chk [] (.slice false true) [.app .lst (ipx 8 12), ln (.inp 3)],
.chk [] .isOne [.inp 8],
.chk [] .isOne [.inp 9],
.chk [] .isOne [.inp 10],
.chk [] .isOne [.inp 11],
.chk [] .isOne [.inp 12],
.chk [] .isOne [.inp 13],
.chk [] .isOne [.inp 14],
.chk [] .isOne [.inp 15],
.chk [] .isOne [.inp 16],
.chk [] .isOne [.inp 17],
.chk [] .isOne [.inp 18],
.chk [] .isOne [.inp 19],
.chk [] (.szs 1) [q0_59]] <|
.seg [.bind 32 (q0_59),
.bind 33 (pk (bi .lss (zi 0) q0_60) (.app (.rowget 1 0 1 false) [q0_59, zi 0]) bF),
.bind 34 (pk (bi .lss (zi 1) q0_60) (.app (.rowget 1 0 1 false) [q0_59, zi 1]) bF),
.bind 35 (pk (bi .lss (zi 2) q0_60) (.app (.rowget 1 0 1 false) [q0_59, zi 2]) bF),
.bind 36 (pk (bi .lss (zi 3) q0_60) (.app (.rowget 1 0 1 false) [q0_59, zi 3]) bF),
.bind 37 (pk (bi .lss (zi 4) q0_60) (.app (.rowget 1 0 1 false) [q0_59, zi 4]) bF),
.bind 38 (pk (bi .lss (zi 5) q0_60) (.app (.rowget 1 0 1 false) [q0_59, zi 5]) bF),
.bind 39 (pk (bi .lss (zi 6) q0_60) (.app (.rowget 1 0 1 false) [q0_59, zi 6]) bF),
.bind 40 (pk (bi .lss (zi 7) q0_60) (.app (.rowget 1 0 1 false) [q0_59, zi 7]) bF),
.bind 41 (pk (bi .lss (zi 8) q0_60) (.app (.rowget 1 0 1 false) [q0_59, zi 8]) bF),
.bind 42 (pk (bi .lss (zi 9) q0_60) (.app (.rowget 1 0 1 false) [q0_59, zi 9]) bF),
.bind 43 (pk (bi .lss (zi 10) q0_60) (.app (.rowget 1 0 1 false) [q0_59, zi 10]) bF),
.bind 44 (pk (bi .lss (zi 11) q0_60) (.app (.rowget 1 0 1 false) [q0_59, zi 11]) bF)] <|
 ck (.eoff 8) [.ref (ipx 0 23) 0] <|
 ck (.eload 12 true) [.ref (ipx 0 23) 8] <|
 ck (.eqa [ none, none, none, none, none, none, none, none, none, none, none, none] true) [.agg (ipx 33 12), q0_61] <|
.seg [.bind 45 (q0_61),
.bind 46 (.app (.eqa [ none, none, none, none, none, none, none, none, none, none, none, none] true) [.agg (ipx 33 12), q0_61])] <|
.cond (.inp 46)
 (.ret (bF))
 (ck (.eoff 1) [.ref (ipx 0 23) 0] <|
 ck (.eoff 2) [.ref (ipx 0 23) 1] <|
 ck (.eload 1 false) [.ref (ipx 0 23) 3] <|
 ck (.eoff 4) [.ref (ipx 0 23) 0] <|
 ck (.eload 1 false) [.ref (ipx 0 23) 4] <|
.seg [.chk [] .isOne [e1 (.ref (ipx 0 23) 3)],
.chk [] .isOne [e1 (.ref (ipx 0 23) 4)],
.chk [] .isOne [e1 (.ref (ipx 0 23) 3)],
.chk [] .isOne [e1 (.ref (ipx 0 23) 4)]] <|
.seg [.call 47 [] 93 [q0_62] false] <|
 ck .len [.inp 47] <|
.seg [.bind 48 (e1 (.ref (ipx 0 23) 3)),
.bind 49 (e1 (.ref (ipx 0 23) 4)),
.bind 50 (q0_62)] <|
.loop 0 51 [.nils, zi 0] <|
 ck (.bin .lss) [.inp 52, ln (.inp 47)] <|
.cond (bi .lss (.inp 52) (ln (.inp 47)))
 (ck (.eidx 3) [.inp 47, .inp 52] <|
 ck (.eload 3 true) [q0_63] <|
 ck (.isAgg 3) [q0_64] <|
.seg [.chk [] .isOne [q0_65],
.chk [] .isOne [q0_65]] <|
.seg [.chk [] (.szs 1) [q0_66],
.chk [] .app [.inp 51, q0_66]] <|
 ck (.bin .add) [.inp 52, zi 1] <|
.again 0 [.app .app [.inp 51, q0_66], bi .add (.inp 52) (zi 1)])
 (.seg [.srt 53 (.inp 51)] <|
.seg [.cmp 54 (.inp 53),
.chk [] .len [.inp 54],
.chk [] (.eoff 4) [.ref (ipx 0 23) 0],
.chk [] (.eload 1 false) [.ref (ipx 0 23) 4],
.chk [] .len [e1 (.ref (ipx 0 23) 4)],
.chk [] (.bin .add) [ln (.inp 3), q0_67],
.chk [] (.bin .lss) [ln (.inp 54), q0_68]] <|
.seg [.bind 55 (e1 (.ref (ipx 0 23) 4)),
.bind 56 (q0_67),
.bind 57 (q0_68),
.bind 58 (bi .lss (ln (.inp 54)) q0_68)] <|
.cond (.inp 58)
 (.ret (bF))
 (ck (.eoff 5) [.ref (ipx 0 23) 0] <|
 ck (.eload 1 false) [.ref (ipx 0 23) 5] <|
 ck .len [e1 (.ref (ipx 0 23) 5)] <|
.seg [.bind 59 (e1 (.ref (ipx 0 23) 5)),
.bind 60 (ln (e1 (.ref (ipx 0 23) 5)))] <|
.loop 0 61 [zi 0] <|
 ck (.bin .lss) [.inp 61, .inp 60] <|
.cond (bi .lss (.inp 61) (.inp 60))
 (ck (.eidx 3) [.inp 59, .inp 61] <|
 ck (.eload 3 true) [q0_69] <|
 ck (.isAgg 3) [q0_70] <|
 ck (.bin .lss) [q0_71, zi 0] <|
 ckg (q0_72) false (.bin .gtr) [q0_71, ln (.inp 3)] <|
 ck .pick [q0_72, bT, q0_73] <|
 ckg (q0_74) false (.bin .lss) [q0_75, zi 0] <|
 ck .pick [q0_74, bT, q0_76] <|
 ckg (q0_77) false (.bin .geq) [q0_75, zi 24] <|
 ck .pick [q0_77, bT, q0_78] <|
 ckg (q0_79) false (.bin .shr) [q0_80, .int .u64 1] <|
 ckg (q0_79) false (.bin .neq) [q0_81, zi 0] <|
 ck .pick [q0_79, bT, q0_82] <|
.seg [.bind 62 (q0_74),
.bind 63 (q0_77),
.bind 64 (q0_79),
.bind 65 (pk q0_79 bT q0_82)] <|
.cond (.inp 65)
 (.ret (bF))
 (ck (.bin .add) [.inp 61, zi 1] <|
.again 0 [bi .add (.inp 61) (zi 1)]))
 (.ret (bT)))))))
theorem run_held_Right : runF E 99 [.agg (ips 0 23)] 23 = rt_held_Right := by kernel_rfl
def rt_slices_Concat_Step : RT :=
 ck .len [.inp 0] <|
.loop 0 1 [zi 0, zi 0] <|
 ck (.bin .lss) [.inp 2, ln (.inp 0)] <|
.cond (q0_25)
 (ck (.eidx 1) [.inp 0, .inp 2] <|
 ck (.eload 1 false) [ei 1 (.inp 0) (.inp 2)] <|
 ck .len [q0_83] <|
 ck (.bin .add) [.inp 1, q0_84] <|
 ck (.bin .lss) [q0_85, zi 0] <|
.cond (bi .lss q0_85 (zi 0))
 (.dead 6 [zi 9])
 (ck (.bin .add) [.inp 2, zi 1] <|
.again 0 [q0_85, bi .add (.inp 2) (zi 1)]))
 (ck (.bin .lss) [.inp 1, zi 0] <|
.cond (bi .lss (.inp 1) (zi 0))
 (.dead 6 [zi 9])
 (ck .len [.nils] <|
 ck (.bin .sub) [zi 0, zi 0] <|
 ck (.bin .sub) [.inp 1, zi 0] <|
 ck (.bin .gtr) [bi .sub (.inp 1) (zi 0), zi 0] <|
.cond (bi .gtr (bi .sub (.inp 1) (zi 0)) (zi 0))
 (ck .rep [bi .sub (.inp 1) (zi 0), .agg [zi 0, zi 0, zi 0]] <|
 ck .len [.nils] <|
 ck (.slice false true) [q0_86, zi 0] <|
.seg [.bind 3 (.app (.slice false true) [q0_86, zi 0])] <|
 ck .len [.inp 0] <|
.loop 0 4 [.inp 3, zi 0] <|
 ck (.bin .lss) [.inp 5, ln (.inp 0)] <|
.cond (bi .lss (.inp 5) (ln (.inp 0)))
 (ck (.eidx 1) [.inp 0, .inp 5] <|
 ck (.eload 1 false) [ei 1 (.inp 0) (.inp 5)] <|
.seg [.chk [] (.szs 3) [q0_87],
.chk [] .app [.inp 4, q0_87]] <|
 ck (.bin .add) [.inp 5, zi 1] <|
.again 0 [.app .app [.inp 4, q0_87], bi .add (.inp 5) (zi 1)])
 (.ret (.inp 4)))
 (ck .len [.inp 0] <|
.loop 0 3 [.nils, zi 0] <|
 ck (.bin .lss) [.inp 4, ln (.inp 0)] <|
.cond (bi .lss (.inp 4) (ln (.inp 0)))
 (ck (.eidx 1) [.inp 0, .inp 4] <|
 ck (.eload 1 false) [ei 1 (.inp 0) (.inp 4)] <|
.seg [.chk [] (.szs 3) [q0_88],
.chk [] .app [.inp 3, q0_88]] <|
 ck (.bin .add) [.inp 4, zi 1] <|
.again 0 [.app .app [.inp 3, q0_88], bi .add (.inp 4) (zi 1)])
 (.ret (.inp 3)))))
theorem run_slices_Concat_Step : runF E 93 [.inp 0] 1 = rt_slices_Concat_Step := by kernel_rfl
def rt_held_Sections : RT :=
 ck (.isAgg 23) [.agg (ipx 0 23)] <|
 ck (.isAgg 23) [.agg (ipx 0 23)] <|
 ck .len [.inp 3] <|
.loop 0 23 [zi 0, .nils] <|
 ck (.bin .lss) [.inp 23, ln (.inp 3)] <|
.cond (bi .lss (.inp 23) (ln (.inp 3)))
 (ck (.eidx 3) [.inp 3, .inp 23] <|
 ck (.eload 3 true) [ei 3 (.inp 3) (.inp 23)] <|
 ck (.isAgg 3) [q0_89] <|
 ck (.bin .geq) [.inp 23, .inp 7] <|
.cond (bi .geq (.inp 23) (.inp 7))
 (.seg [.chk [] .isOne [q0_90],
.chk [] .isOne [q0_90]] <|
.seg [.chk [] (.szs 1) [q0_91],
.chk [] .app [.inp 24, q0_91]] <|
 ck (.un .not) [bT] <|
 ck (.bin .add) [.inp 23, zi 1] <|
.again 0 [q0_92, .app .app [.inp 24, q0_91]])
 (ck (.bin .add) [.inp 23, zi 1] <|
.again 0 [q0_92, .inp 24]))
 (ck .len [.inp 4] <|
.loop 0 25 [zi 0, .inp 24] <|
 ck (.bin .lss) [.inp 25, ln (.inp 4)] <|
.cond (bi .lss (.inp 25) (ln (.inp 4)))
 (ck (.eidx 3) [.inp 4, .inp 25] <|
 ck (.eload 3 true) [ei 3 (.inp 4) (.inp 25)] <|
 ck (.isAgg 3) [q0_93] <|
 ck (.un .not) [.inp 20] <|
.cond (.inp 20)
 (ck (.bin .add) [.inp 25, zi 1] <|
.again 0 [q0_94, .inp 26])
 (.seg [.chk [] .isOne [q0_95],
.chk [] .isOne [q0_95]] <|
.seg [.chk [] (.szs 1) [q0_96],
.chk [] .app [.inp 26, q0_96]] <|
 ck (.un .not) [bT] <|
 ck (.bin .add) [.inp 25, zi 1] <|
.again 0 [q0_94, .app .app [.inp 26, q0_96]]))
 (.ret (.inp 26)))
theorem run_held_Sections : runF E 177 [.agg (ips 0 23)] 23 = rt_held_Sections := by kernel_rfl
def rt_held_Has : RT :=
 ck (.isAgg 23) [.agg (ipx 0 23)] <|
.seg [.call 24 [] 177 [.agg (ipx 0 23)] false] <|
 ck .len [.inp 24] <|
.loop 0 25 [zi 0] <|
 ck (.bin .lss) [.inp 25, ln (.inp 24)] <|
.cond (q0_97)
 (ck (.eidx 1) [.inp 24, .inp 25] <|
 ck (.eload 1 false) [q0_98] <|
 ck (.bin .eql) [.inp 23, q0_99] <|
.cond (bi .eql (.inp 23) q0_99)
 (ck (.bin .geq) [.inp 25, zi 0] <|
.ret (bi .geq (.inp 25) (zi 0)))
 (ck (.bin .add) [.inp 25, zi 1] <|
.again 0 [q0_94]))
 (ck (.bin .geq) [zi (-1), zi 0] <|
.ret (bF))
theorem run_held_Has : runF E 141 [.agg (ips 0 23), .inp 23] 24 = rt_held_Has := by kernel_rfl
def rt_held_Wants : RT :=
 ck (.isAgg 23) [.agg (ipx 0 23)] <|
.seg [.call 24 [] 143 [.agg (ipx 0 23)] false] <|
 ck .len [.inp 24] <|
.loop 0 25 [zi 0] <|
 ck (.bin .lss) [.inp 25, ln (.inp 24)] <|
.cond (q0_97)
 (ck (.eidx 3) [.inp 24, .inp 25] <|
 ck (.eload 3 true) [q0_100] <|
 ck (.isAgg 3) [q0_101] <|
 ck (.bin .eql) [q0_102, .inp 23] <|
.cond (bi .eql q0_102 (.inp 23))
 (.ret (.tup [pt 1 q0_101, bT]))
 (ck (.bin .add) [.inp 25, zi 1] <|
.again 0 [q0_94]))
 (.ret (.tup [zi 0, bF]))
theorem run_held_Wants : runF E 186 [.agg (ips 0 23), .inp 23] 24 = rt_held_Wants := by kernel_rfl
def rt_held_Apart : RT :=
 ck (.isAgg 23) [.agg (ipx 0 23)] <|
 ck (.isAgg 23) [.agg (ipx 23 23)] <|
 ck (.isAgg 23) [.agg (ipx 0 23)] <|
 ck .len [.inp 3] <|
.loop 0 46 [zi 0] <|
 ck (.bin .lss) [.inp 46, ln (.inp 3)] <|
.cond (bi .lss (.inp 46) (ln (.inp 3)))
 (ck (.eidx 3) [.inp 3, .inp 46] <|
 ck (.eload 3 true) [ei 3 (.inp 3) (.inp 46)] <|
 ck (.isAgg 3) [q0_103] <|
 ck (.bin .geq) [.inp 46, .inp 7] <|
.cond (bi .geq (.inp 46) (.inp 7))
 (.seg [.call 47 [] 141 [.agg (ipx 23 23), pt 0 q0_103] false] <|
.cond (.inp 47)
 (ck (.un .not) [bF] <|
.ret (bF))
 (ck (.un .not) [bT] <|
 ck (.bin .add) [.inp 46, zi 1] <|
.again 0 [q0_104]))
 (ck (.bin .add) [.inp 46, zi 1] <|
.again 0 [q0_104]))
 (ck .len [.inp 4] <|
.loop 0 47 [zi 0] <|
 ck (.bin .lss) [.inp 47, ln (.inp 4)] <|
.cond (bi .lss (.inp 47) (ln (.inp 4)))
 (ck (.eidx 3) [.inp 4, .inp 47] <|
 ck (.eload 3 true) [ei 3 (.inp 4) (.inp 47)] <|
 ck (.isAgg 3) [q0_105] <|
 ck (.un .not) [.inp 20] <|
.cond (.inp 20)
 (ck (.bin .add) [.inp 47, zi 1] <|
.again 0 [q0_106])
 (.seg [.call 48 [] 141 [.agg (ipx 23 23), pt 0 q0_105] false] <|
.cond (.inp 48)
 (ck (.un .not) [bF] <|
.ret (bF))
 (ck (.un .not) [bT] <|
 ck (.bin .add) [.inp 47, zi 1] <|
.again 0 [q0_106])))
 (.seg [.call 48 [] 143 [.agg (ipx 0 23)] false,
.call 49 [] 143 [.agg (ipx 23 23)] false,
.call 50 [] 142 [.inp 48, .inp 49] false,
.chk [] (.un .not) [.inp 50],
.chk [] .isOne [nt (.inp 50)]] <|
.ret (nt (.inp 50))))
theorem run_held_Apart : runF E 98 [.agg (ips 0 23), .agg (ips 23 23)] 46 = rt_held_Apart := by kernel_rfl
def rt_point_position : RT :=
 ck (.bin .eql) [.inp 0, zi 0] <|
 ckg (bi .eql (.inp 0) (zi 0)) false (.bin .eql) [.inp 0, zi 1] <|
 ck .pick [bi .eql (.inp 0) (zi 0), bT, bi .eql (.inp 0) (zi 1)] <|
.ret (pk (bi .eql (.inp 0) (zi 0)) bT (bi .eql (.inp 0) (zi 1)))
theorem run_point_position : runF E 126 [.inp 0] 1 = rt_point_position := by kernel_rfl
def rt_point_Rest : RT :=
.ret (.agg [zi (-1), zi 0, bF])
theorem run_point_Rest : runF E 60 [] 0 = rt_point_Rest := by kernel_rfl
def rt_point_Right : RT :=
 ck (.isAgg 3) [q0_22] <|
.seg [.call 3 [] 126 [.inp 0] false,
.chk [(.inp 3, true)] (.bin .geq) [.inp 1, zi 0],
.chk [] .pick [.inp 3, bi .geq (.inp 1) (zi 0), bF],
.chk [(q0_107, true)] (.bin .leq) [.inp 1, zi 1000],
.chk [] .pick [q0_107, q0_108, bF],
.call 4 [(q0_109, false)] 60 [] false,
.chk [(q0_109, false)] (.eqa [ some .i64, some .i64, none] false) [q0_22, .inp 4],
.chk [] .pick [q0_109, bT, q0_110]] <|
.seg [.bind 5 (pk q0_109 bT q0_110),
.bind 6 (q0_109)] <|
.ret (.inp 5)
theorem run_point_Right : runF E 101 [.agg [.inp 0, .inp 1, .inp 2]] 3 = rt_point_Right := by kernel_rfl
def rt_point_Call : RT :=
 ck (.isAgg 3) [q0_22] <|
 ck .isOne [.inp 3] <|
 ck (.isAgg 3) [q0_22] <|
.seg [.call 4 [] 101 [q0_22] false] <|
 ck (.un .not) [.inp 4] <|
.cond (.inp 4)
 (ck (.isAgg 3) [q0_22] <|
.seg [.call 5 [] 126 [.inp 3] false] <|
 ck (.un .not) [.inp 5] <|
.cond (.inp 5)
 (ck (.bin .neq) [.inp 0, .inp 3] <|
 ck .pick [q0_111, bT, .inp 2] <|
.cond (pk q0_111 bT (.inp 2))
 (ck .isOne [.inp 3] <|
 ck (.isAgg 3) [.agg [.inp 3, zi 0, bF]] <|
 ck (.isAgg 3) [.agg [.inp 3, zi 0, bF]] <|
 ck (.isAgg 3) [.agg [.inp 3, zi 0, bF]] <|
.ret (.agg [.inp 3, zi 0, bF]))
 (ck (.isAgg 3) [q0_22] <|
 ck (.isAgg 3) [q0_22] <|
 ck (.isAgg 3) [q0_22] <|
.ret (q0_22)))
 (.seg [.call 6 [] 60 [] false] <|
 ck (.isAgg 3) [.inp 6] <|
 ck (.isAgg 3) [q0_112] <|
 ck (.isAgg 3) [q0_112] <|
.ret (q0_112)))
 (.seg [.call 5 [] 60 [] false] <|
 ck (.isAgg 3) [.inp 5] <|
 ck (.isAgg 3) [q0_113] <|
.ret (q0_113))
theorem run_point_Call : runF E 84 [.agg [.inp 0, .inp 1, .inp 2], .inp 3] 4 = rt_point_Call := by kernel_rfl
def rt_free_Holder : RT :=
 ck (.isAgg 74) [.agg (ipx 0 74)] <|
 ck (.isAgg 74) [.agg (ipx 0 74)] <|
 ck .isOne [.inp 74] <|
 ck .len [.inp 1] <|
.loop 0 75 [zi 0] <|
 ck (.bin .lss) [.inp 75, ln (.inp 1)] <|
.cond (q0_114)
 (ck (.eidx 23) [.inp 1, .inp 75] <|
 ck (.eload 23 true) [q0_115] <|
 ck (.isAgg 23) [q0_116] <|
.seg [.call 76 [] 141 [q0_117, .inp 74] false] <|
.cond (.inp 76)
 (ck (.isAgg 23) [q0_117] <|
 ck .isOne [q0_118] <|
 ck (.un .not) [bF] <|
.ret (.tup [q0_118, bT]))
 (ck (.bin .add) [.inp 75, zi 1] <|
.again 0 [q0_119]))
 (.ret (.tup [zi 0, bF]))
theorem run_free_Holder : runF E 146 [.agg (ips 0 74), .inp 74] 75 = rt_free_Holder := by kernel_rfl
def rt_free_Wanted : RT :=
 ck (.isAgg 74) [.agg (ipx 0 74)] <|
 ck .len [.inp 1] <|
.loop 0 75 [zi 0] <|
 ck (.bin .lss) [.inp 75, ln (.inp 1)] <|
.cond (q0_114)
 (ck (.eidx 23) [.inp 1, .inp 75] <|
 ck (.eload 23 true) [q0_115] <|
 ck (.isAgg 23) [q0_116] <|
.seg [.call 76 [] 186 [q0_117, .inp 74] false] <|
 ck (.tproj 0) [.inp 76] <|
 ck (.tproj 1) [.inp 76] <|
.cond (tp 1 (.inp 76))
 (.ret (.tup [tp 0 (.inp 76), bT]))
 (ck (.bin .add) [.inp 75, zi 1] <|
.again 0 [q0_119]))
 (.ret (.tup [zi 0, bF]))
theorem run_free_Wanted : runF E 148 [.agg (ips 0 74), .inp 74] 75 = rt_free_Wanted := by kernel_rfl
def rt_free_Locked : RT :=
 ck (.isAgg 74) [.agg (ipx 0 74)] <|
 ck .isOne [.inp 74] <|
 ck .len [.inp 1] <|
.loop 0 75 [zi 0] <|
 ck (.bin .lss) [.inp 75, ln (.inp 1)] <|
.cond (q0_114)
 (ck (.eidx 23) [.inp 1, .inp 75] <|
 ck (.eload 23 true) [q0_115] <|
 ck (.isAgg 23) [q0_116] <|
.seg [.call 76 [] 186 [q0_117, .inp 74] false] <|
 ck (.tproj 0) [.inp 76] <|
 ck (.tproj 1) [.inp 76] <|
 ckg (tp 1 (.inp 76)) true (.bin .neq) [q0_120, .int .u8 1] <|
 ck .pick [tp 1 (.inp 76), q0_121, bF] <|
.seg [.bind 77 (pk (tp 1 (.inp 76)) q0_121 bF)] <|
.cond (.inp 77)
 (ck (.bin .geq) [.inp 75, zi 0] <|
.ret (bi .geq (.inp 75) (zi 0)))
 (ck (.bin .add) [.inp 75, zi 1] <|
.again 0 [q0_119]))
 (ck (.bin .geq) [zi (-1), zi 0] <|
.ret (bF))
theorem run_free_Locked : runF E 149 [.agg (ips 0 74), .inp 74] 75 = rt_free_Locked := by kernel_rfl
def rt_free_Free : RT :=
 ck (.isAgg 11) [.agg (ipx 0 11)] <|
 ck (.isAgg 29) [.agg (ipx 11 29)] <|
 ck (.isAgg 74) [.agg (ipx 40 74)] <|
.seg [.call 115 [] 146 [.agg (ipx 40 74), .inp 114] false] <|
 ck (.tproj 0) [.inp 115] <|
 ck (.tproj 1) [.inp 115] <|
 ck (.un .not) [tp 1 (.inp 115)] <|
.seg [.call 116 [(nt (tp 1 (.inp 115)), true)] 147 [.agg (ipx 0 11), .agg (ipx 11 29), .inp 114] false] <|
 ckg (nt (tp 1 (.inp 115))) true (.un .not) [.inp 116] <|
 ck .pick [nt (tp 1 (.inp 115)), nt (.inp 116), bF] <|
.ret (pk (nt (tp 1 (.inp 115))) (nt (.inp 116)) bF)
theorem run_free_Free : runF E 104 [.agg (ips 0 11), .agg (ips 11 29), .agg (ips 40 74), .inp 114] 115 = rt_free_Free := by kernel_rfl
def rt_free_Meets : RT :=
 ck (.isAgg 11) [.agg (ipx 0 11)] <|
 ck (.isAgg 29) [.agg (ipx 11 29)] <|
 ck (.isAgg 74) [.agg (ipx 40 74)] <|
 ck (.isAgg 3) [.agg [.inp 114, .inp 115, .inp 116]] <|
 ck (.bin .lss) [.inp 114, zi 0] <|
 ckg (q0_122) false (.bin .geq) [.inp 114, zi 24] <|
 ck .pick [q0_122, bT, q0_123] <|
.cond (pk q0_122 bT q0_123)
 (.ret (bF))
 (.seg [.call 117 [] 83 [.agg (ipx 0 11), .agg (ipx 11 29), .inp 114] false,
.chk [] (.bin .eql) [.inp 117, .inp 115]] <|
.seg [.call 118 [] 148 [.agg (ipx 40 74), .inp 114] false] <|
 ck (.tproj 0) [.inp 118] <|
 ck (.tproj 1) [.inp 118] <|
 ckg (tp 1 (.inp 118)) true (.bin .neq) [tp 0 (.inp 118), .inp 115] <|
 ck .pick [tp 1 (.inp 118), q0_124, bF] <|
.cond (pk (tp 1 (.inp 118)) q0_124 bF)
 (.ret (bF))
 (.cond (tp 1 (.inp 118))
 (.seg [.call 119 [(q0_125, false)] 149 [.agg (ipx 40 74), .inp 114] false] <|
 ckg (q0_125) false (.un .not) [.inp 119] <|
 ck .pick [q0_125, bT, nt (.inp 119)] <|
.ret (pk q0_125 bT (nt (.inp 119))))
 (ckg (q0_125) false (.inr 24) [.inp 114] <|
 ckg (q0_125) false (.inr 24) [.inp 114] <|
 ckg (q0_125) false (.aidx 24 3 4 1 false) [.agg (ipx 40 74), .inp 114] <|
 ckg (q0_125) false (.un .not) [q0_126] <|
.seg [.call 119 [(q0_127, true), (q0_125, false)] 104 [.agg (ipx 0 11), .agg (ipx 11 29), .agg (ipx 40 74), .inp 114] false] <|
 ckg (q0_125) false .pick [q0_127, .inp 119, bF] <|
 ck .pick [q0_125, bT, q0_128] <|
.seg [.bind 120 (pk q0_125 bT q0_128),
.bind 121 (q0_126),
.bind 122 (q0_127),
.bind 123 (q0_128)] <|
.ret (.inp 120))))
theorem run_free_Meets : runF E 106 [.agg (ips 0 11), .agg (ips 11 29), .agg (ips 40 74), .agg [.inp 114, .inp 115, .inp 116]] 117 = rt_free_Meets := by kernel_rfl
end
end Go.Lb.LK
