/- What functions come to, printed by a program, checked by the kernel. -/
import Derived.Test.YtahohjgfkabacaaGreatDoorCh1
set_option linter.unusedSimpArgs false
set_option linter.unusedVariables false
namespace Go.Lb.LK
open Go Go.Lb Go.Proofs
noncomputable section
@[simp] def q0_0 : SE := bi .lss (.inp 0) (zi 32)
@[simp] def q0_1 : SE := pk (bi .geq (.inp 0) (zi 0)) q0_0 bF
@[simp] def q0_2 : SE := bi .shl (.int .u32 1) (.inp 0)
@[simp] def q0_3 : SE := bi .and (e1 (.ref [.inp 1] 0)) q0_2
@[simp] def q0_4 : SE := bi .neq q0_3 (.int .u32 0)
@[simp] def q0_5 : SE := .clo 166 [] [.ref [.inp 36] 0]
@[simp] def q0_6 : SE := .ref [q0_5] 0
@[simp] def q0_7 : SE := nt (e1 (.ref [.inp 1] 0))
@[simp] def q0_8 : SE := .app (.mm false) [ln (.inp 0), zi 24]
@[simp] def q0_9 : SE := bi .lss (.inp 40) q0_8
@[simp] def q0_10 : SE := pk q0_9 (.inp 42) bF
@[simp] def q0_11 : SE := bi .lss (.inp 40) (zi 0)
@[simp] def q0_12 : SE := bi .geq (.inp 40) q0_8
@[simp] def q0_13 : SE := .ref [bi .lss (.inp 6) (.inp 11)] 0
@[simp] def q0_14 : SE := .app (.aidx 24 1 1 1 false) [.agg (ipx 11 29), .inp 40]
@[simp] def q0_15 : SE := bi .lss q0_14 (.inp 4)
@[simp] def q0_16 : SE := bi .geq (.inp 40) (ln (.inp 0))
@[simp] def q0_17 : SE := pk q0_11 bT q0_16
@[simp] def q0_18 : SE := ei 11 (.inp 0) (.inp 40)
@[simp] def q0_19 : SE := .app (.eoff 0) [q0_18]
@[simp] def q0_20 : SE := e1 q0_19
@[simp] def q0_21 : SE := bi .neq q0_20 (.int .u8 2)
@[simp] def q0_22 : SE := pk q0_17 bT q0_21
@[simp] def q0_23 : SE := .agg [.inp 0, .inp 1, .inp 2]
@[simp] def q0_24 : SE := .agg [.inp 0, .inp 1, .inp 3]
@[simp] def q0_25 : SE := .app .app [.app .lst [], .inp 0]
@[simp] def q0_26 : SE := bi .lss (.inp 2) (ln (.inp 0))
@[simp] def q0_27 : SE := el 3 (ei 3 (.inp 0) (.inp 2))
@[simp] def q0_28 : SE := el 3 (ei 3 (.inp 1) (.inp 3))
@[simp] def q0_29 : SE := pt 0 q0_27
@[simp] def q0_30 : SE := pt 1 q0_27
@[simp] def q0_31 : SE := pt 0 q0_28
@[simp] def q0_32 : SE := pt 1 q0_28
@[simp] def q0_33 : SE := bi .eql q0_29 q0_31
@[simp] def q0_34 : SE := bi .neq q0_30 q0_32
@[simp] def q0_35 : SE := .app (.mm true) [.inp 7, zi 0]
@[simp] def q0_36 : SE := el 3 (ei 3 (.inp 5) (.inp 24))
@[simp] def q0_37 : SE := pt 2 q0_36
@[simp] def q0_38 : SE := .agg [pt 0 q0_36, pt 1 q0_36, q0_37]
@[simp] def q0_39 : SE := bi .geq q0_37 q0_35
@[simp] def q0_40 : SE := bi .neq q0_37 (ln (.inp 3))
@[simp] def q0_41 : SE := pk q0_40 bT (nt (.inp 20))
@[simp] def q0_42 : SE := .app .lst [q0_38]
@[simp] def q0_43 : SE := bi .add (.inp 24) (zi 1)
@[simp] def q0_44 : SE := .agg (ap [.inp 0, pt 0 (.inp 23), pt 1 (.inp 23), pt 2 (.inp 23), .inp 24, .inp 25] (ipx 6 17))
@[simp] def q0_45 : SE := .app (.mm true) [.inp 0, .inp 21]
@[simp] def q0_46 : SE := bi .gtr q0_45 (zi 1073741824)
@[simp] def q0_47 : SE := pk (bi .lss (.inp 0) (zi 1)) bT q0_46
@[simp] def q0_48 : SE := bi .lss (.inp 21) (zi 0)
@[simp] def q0_49 : SE := pk q0_47 bT q0_48
@[simp] def q0_50 : SE := bi .lss (ln (.inp 3)) (zi 1)
@[simp] def q0_51 : SE := pk q0_49 bT q0_50
@[simp] def q0_52 : SE := bi .gtr (ln (.inp 3)) (zi 12)
@[simp] def q0_53 : SE := pk q0_51 bT q0_52
@[simp] def q0_54 : SE := bi .gtr (ln (.inp 4)) (zi 2)
@[simp] def q0_55 : SE := bi .eql (.inp 6) (.int .u8 0)
@[simp] def q0_56 : SE := bi .geq (.inp 6) (.int .u8 5)
@[simp] def q0_57 : SE := pk q0_55 bT q0_56
@[simp] def q0_58 : SE := pk q0_57 bT (bi .lss (.inp 7) (zi 0))
@[simp] def q0_59 : SE := bi .gtr (.inp 7) (ln (.inp 3))
@[simp] def q0_60 : SE := pk q0_58 bT q0_59
@[simp] def q0_61 : SE := .app (.slice false true) [.app .lst (ipx 8 12), ln (.inp 3)]
@[simp] def q0_62 : SE := ln q0_61
@[simp] def q0_63 : SE := el 12 (.ref (ipx 0 23) 8)
@[simp] def q0_64 : SE := .app .lst [e1 (.ref (ipx 0 23) 3), e1 (.ref (ipx 0 23) 4)]
@[simp] def q0_65 : SE := ei 3 (.inp 47) (.inp 52)
@[simp] def q0_66 : SE := el 3 q0_65
@[simp] def q0_67 : SE := pt 0 q0_66
@[simp] def q0_68 : SE := .app .lst [q0_67]
@[simp] def q0_69 : SE := ln (e1 (.ref (ipx 0 23) 4))
@[simp] def q0_70 : SE := bi .add (ln (.inp 3)) q0_69
@[simp] def q0_71 : SE := ei 3 (.inp 59) (.inp 61)
@[simp] def q0_72 : SE := el 3 q0_71
@[simp] def q0_73 : SE := pt 2 q0_72
@[simp] def q0_74 : SE := bi .lss q0_73 (zi 0)
@[simp] def q0_75 : SE := bi .gtr q0_73 (ln (.inp 3))
@[simp] def q0_76 : SE := pk q0_74 bT q0_75
@[simp] def q0_77 : SE := pt 0 q0_72
@[simp] def q0_78 : SE := bi .lss q0_77 (zi 0)
@[simp] def q0_79 : SE := pk q0_76 bT q0_78
@[simp] def q0_80 : SE := bi .geq q0_77 (zi 24)
@[simp] def q0_81 : SE := pk q0_79 bT q0_80
@[simp] def q0_82 : SE := pt 1 q0_72
@[simp] def q0_83 : SE := bi .shr q0_82 (.int .u64 1)
@[simp] def q0_84 : SE := bi .neq q0_83 (zi 0)
@[simp] def q0_85 : SE := e1 (ei 1 (.inp 0) (.inp 2))
@[simp] def q0_86 : SE := ln q0_85
@[simp] def q0_87 : SE := bi .add (.inp 1) q0_86
@[simp] def q0_88 : SE := .app .rep [bi .sub (.inp 1) (zi 0), .agg [zi 0, zi 0, zi 0]]
@[simp] def q0_89 : SE := e1 (ei 1 (.inp 0) (.inp 5))
@[simp] def q0_90 : SE := e1 (ei 1 (.inp 0) (.inp 4))
@[simp] def q0_91 : SE := el 3 (ei 3 (.inp 3) (.inp 23))
@[simp] def q0_92 : SE := pt 0 q0_91
@[simp] def q0_93 : SE := .app .lst [q0_92]
@[simp] def q0_94 : SE := bi .add (.inp 23) (zi 1)
@[simp] def q0_95 : SE := el 3 (ei 3 (.inp 4) (.inp 25))
@[simp] def q0_96 : SE := bi .add (.inp 25) (zi 1)
@[simp] def q0_97 : SE := pt 0 q0_95
@[simp] def q0_98 : SE := .app .lst [q0_97]
@[simp] def q0_99 : SE := bi .lss (.inp 25) (ln (.inp 24))
@[simp] def q0_100 : SE := ei 1 (.inp 24) (.inp 25)
@[simp] def q0_101 : SE := e1 q0_100
@[simp] def q0_102 : SE := ei 3 (.inp 24) (.inp 25)
@[simp] def q0_103 : SE := el 3 q0_102
@[simp] def q0_104 : SE := pt 0 q0_103
@[simp] def q0_105 : SE := el 3 (ei 3 (.inp 3) (.inp 46))
@[simp] def q0_106 : SE := bi .add (.inp 46) (zi 1)
@[simp] def q0_107 : SE := el 3 (ei 3 (.inp 4) (.inp 47))
@[simp] def q0_108 : SE := bi .add (.inp 47) (zi 1)
@[simp] def q0_109 : SE := pk (.inp 3) (bi .geq (.inp 1) (zi 0)) bF
@[simp] def q0_110 : SE := bi .leq (.inp 1) (zi 1000)
@[simp] def q0_111 : SE := pk q0_109 q0_110 bF
@[simp] def q0_112 : SE := .app (.eqa [ some .i64, some .i64, none] false) [q0_23, .inp 4]
@[simp] def q0_113 : SE := bi .lss (.inp 75) (ln (.inp 1))
@[simp] def q0_114 : SE := ei 23 (.inp 1) (.inp 75)
@[simp] def q0_115 : SE := el 23 q0_114
@[simp] def q0_116 : SE := .agg (ptx (q0_115) 0 23)
@[simp] def q0_117 : SE := pt 0 q0_115
@[simp] def q0_118 : SE := bi .add (.inp 75) (zi 1)
@[simp] def q0_119 : SE := pt 6 q0_115
@[simp] def q0_120 : SE := bi .neq q0_119 (.int .u8 1)
@[simp] def q0_121 : SE := bi .gtr (ln (.inp 1)) (zi 6)
@[simp] def q0_122 : SE := pk q0_121 bT (bi .lss (.inp 0) (zi 1))
@[simp] def q0_123 : SE := bi .gtr (.inp 0) (zi 1073741824)
@[simp] def q0_124 : SE := ei 23 (.inp 1) (.inp 76)
@[simp] def q0_125 : SE := el 23 q0_124
@[simp] def q0_126 : SE := .agg (ptx (q0_125) 0 23)
@[simp] def q0_127 : SE := pt 0 q0_125
@[simp] def q0_128 : SE := bi .leq q0_127 (.inp 75)
@[simp] def q0_129 : SE := pk (nt (.inp 77)) bT q0_128
@[simp] def q0_130 : SE := bi .geq q0_127 (.inp 0)
@[simp] def q0_131 : SE := pk q0_129 bT q0_130
@[simp] def q0_132 : SE := .app (.slice false true) [.inp 1, .inp 76]
@[simp] def q0_133 : SE := ln q0_132
@[simp] def q0_134 : SE := ei 23 q0_132 (.inp 78)
@[simp] def q0_135 : SE := el 23 q0_134
@[simp] def q0_136 : SE := .agg (ptx (q0_135) 0 23)
@[simp] def q0_137 : SE := bi .add (.inp 76) (zi 1)
@[simp] def q0_138 : SE := .app (.aidx 24 3 0 3 true) [.agg (ipx 2 72), .inp 77]
@[simp] def q0_139 : SE := .app .app [.app .lst [], .inp 1]
@[simp] def q0_140 : SE := ln q0_139
@[simp] def q0_141 : SE := .app (.rowget 23 0 23 true) [.inp 76, .inp 75]
@[simp] def q0_142 : SE := .agg (ptx (.inp 77) 0 23)
@[simp] def q0_143 : SE := .app (.mm true) [.inp 0, zi 0]
@[simp] def q0_144 : SE := bi .add (.inp 2) (.inp 3)
@[simp] def q0_145 : SE := bi .eql (.inp 0) (.int .u8 2)
@[simp] def q0_146 : SE := bi .geq (.inp 1) (.inp 2)
@[simp] def q0_147 : SE := bi .eql (.inp 1) (tp 0 (.inp 5))
@[simp] def q0_148 : SE := bi .eql (.inp 2) (tp 1 (.inp 5))
@[simp] def q0_149 : SE := pk q0_147 q0_148 bF
@[simp] def q0_150 : SE := bi .eql (.inp 1) (tp 1 (.inp 5))
@[simp] def q0_151 : SE := bi .eql (.inp 2) (tp 0 (.inp 5))
@[simp] def q0_152 : SE := pk q0_150 q0_151 bF
@[simp] def q0_153 : SE := bi .neq (.inp 0) (.int .u8 2)
@[simp] def q0_154 : SE := bi .lss (.inp 11) (zi 0)
@[simp] def q0_155 : SE := bi .geq (.inp 11) (ln (.inp 0))
@[simp] def q0_156 : SE := pk q0_154 bT q0_155
@[simp] def q0_157 : SE := bi .lss (.inp 12) (zi 0)
@[simp] def q0_158 : SE := pk q0_156 bT q0_157
@[simp] def q0_159 : SE := ei 11 (.inp 0) (.inp 11)
@[simp] def q0_160 : SE := .app (.eoff 0) [q0_159]
@[simp] def q0_161 : SE := e1 q0_160
@[simp] def q0_162 : SE := bi .geq (.inp 12) (.inp 13)
@[simp] def q0_163 : SE := el 11 q0_159
@[simp] def q0_164 : SE := .agg [.inp 11, .inp 12, .inp 13]
@[simp] def q0_165 : SE := bi .geq (.inp 11) (ln (.inp 2))
@[simp] def q0_166 : SE := .app (.eoff 2) [ei 3 (.inp 2) (.inp 11)]
@[simp] def q0_167 : SE := e1 q0_166
@[simp] def q0_168 : SE := bi .neq q0_161 (.int .u8 2)
def rt_slices_Sort_int : RT :=
 ck .len [.nils] <|
 ck (.conv .u64) [zi 0] <|
.seg [.call 0 [] 165 [.int .u64 0] false] <|
.loop 0 1 [] <|
 ck (.bin .sub) [zi 0, zi 0] <|
 ck (.bin .leq) [zi 0, zi 12] <|
 ck (.bin .add) [zi 0, zi 1] <|
.loop 1 1 [] <|
 ck (.bin .lss) [zi 1, zi 0] <|
.ret (.tup [])
theorem run_slices_Sort_int : runF ES 129 [.nils] 0 = rt_slices_Sort_int := by kernel_rfl
def rt_image_bit : RT :=
 ck .isOne [.inp 0] <|
.ret (.clo 166 [] [.ref [.inp 0] 0])
theorem run_image_bit : runF E 131 [.inp 0] 1 = rt_image_bit := by kernel_rfl
def rt_image_bit_1 : RT :=
.seg [.chk [] (.bin .geq) [.inp 0, zi 0],
.chk [(bi .geq (.inp 0) (zi 0), true)] (.bin .lss) [.inp 0, zi 32],
.chk [] .pick [bi .geq (.inp 0) (zi 0), q0_0, bF],
.chk [(q0_1, true)] (.eload 1 false) [.ref [.inp 1] 0],
.chk [(q0_1, true)] (.bin .shl) [.int .u32 1, .inp 0],
.chk [(q0_1, true)] (.bin .and) [e1 (.ref [.inp 1] 0), q0_2],
.chk [(q0_1, true)] (.bin .neq) [q0_3, .int .u32 0],
.chk [] .pick [q0_1, q0_4, bF]] <|
.seg [.bind 2 (pk q0_1 q0_4 bF)] <|
.ret (.inp 2)
theorem run_image_bit_1 : runF E 166 [.inp 0, .ref [.inp 1] 0] 2 = rt_image_bit_1 := by kernel_rfl
def rt_image_clear : RT :=
 ck (.isAgg 11) [.agg (ipx 0 11)] <|
 ck (.isAgg 29) [.agg (ipx 11 29)] <|
.seg [.call 40 [] 43 [.agg (ipx 0 11), .agg (ipx 11 29)] false,
.call 41 [] 131 [.inp 36] false,
.same 41 [] (q0_5),
.chk [] .isOne [.inp 40]] <|
.ret (.clo 167 [] [.ref [.inp 40] 0, q0_6])
theorem run_image_clear : runF E 132 [.agg (ips 0 11), .agg (ips 11 29)] 40 = rt_image_clear := by kernel_rfl
def rt_image_clear_1 : RT :=
 ck (.eload 1 false) [.ref [.inp 1] 0] <|
 ck (.un .not) [e1 (.ref [.inp 1] 0)] <|
 ckg (q0_7) true (.eload 1 false) [.ref [.clo 166 [] [.ref [.inp 2] 0]] 0] <|
.seg [.call 3 [(q0_7, true)] 166 [.inp 0, .ref [.inp 2] 0] false] <|
 ckg (q0_7) true (.un .not) [.inp 3] <|
 ck .pick [q0_7, nt (.inp 3), bF] <|
.ret (pk q0_7 (nt (.inp 3)) bF)
theorem run_image_clear_1 : runF E 167 [.inp 0, .ref [.inp 1] 0, .ref [.clo 166 [] [.ref [.inp 2] 0]] 0] 3 = rt_image_clear_1 := by kernel_rfl
def rt_image_Stale : RT :=
 ck (.isAgg 11) [.agg (ipx 0 11)] <|
 ck (.isAgg 29) [.agg (ipx 11 29)] <|
.seg [.call 40 [] 85 [.inp 11, .inp 6] false] <|
.ret (.inp 40)
theorem run_image_Stale : runF E 43 [.agg (ips 0 11), .agg (ips 11 29)] 40 = rt_image_Stale := by kernel_rfl
def rt_image_Told : RT :=
 ck (.isAgg 11) [.agg (ipx 0 11)] <|
 ck (.isAgg 29) [.agg (ipx 11 29)] <|
 ck .len [.inp 0] <|
 ck (.mm false) [ln (.inp 0), zi 24] <|
 ck (.bin .lss) [.inp 40, q0_8] <|
.seg [.call 41 [(q0_9, true)] 131 [.inp 36] false,
.same 41 [(q0_9, true)] (q0_5)] <|
.seg [.call 42 [(q0_9, true)] 166 [.inp 40, .ref [.inp 36] 0] false] <|
 ck .pick [q0_9, .inp 42, bF] <|
.seg [.call 43 [(q0_10, true)] 43 [.agg (ipx 0 11), .agg (ipx 11 29)] false] <|
 ckg (q0_10) true (.un .not) [.inp 43] <|
 ck .pick [q0_10, nt (.inp 43), bF] <|
.seg [.bind 44 (pk q0_10 (nt (.inp 43)) bF)] <|
.ret (.inp 44)
theorem run_image_Told : runF E 137 [.agg (ips 0 11), .agg (ips 11 29), .inp 40] 41 = rt_image_Told := by kernel_rfl
def rt_image_Occupied : RT :=
 ck (.isAgg 11) [.agg (ipx 0 11)] <|
 ck (.isAgg 29) [.agg (ipx 11 29)] <|
 ck (.bin .lss) [.inp 40, zi 0] <|
 ckg (q0_11) false .len [.inp 0] <|
 ckg (q0_11) false (.mm false) [ln (.inp 0), zi 24] <|
 ckg (q0_11) false (.bin .geq) [.inp 40, q0_8] <|
 ck .pick [q0_11, bT, q0_12] <|
.seg [.bind 41 (pk q0_11 bT q0_12)] <|
.cond (.inp 41)
 (.ret (bT))
 (.seg [.call 42 [] 132 [.agg (ipx 0 11), .agg (ipx 11 29)] false,
.same 42 [] (.clo 167 [] [q0_13, q0_6]),
.call 43 [] 167 [.inp 40, q0_13, q0_6] false,
.chk [] (.un .not) [.inp 43],
.chk [(nt (.inp 43), false)] (.inr 24) [.inp 40],
.chk [(nt (.inp 43), false)] (.aidx 24 1 1 1 false) [.agg (ipx 11 29), .inp 40],
.chk [(nt (.inp 43), false)] (.bin .lss) [q0_14, .inp 4],
.chk [] .pick [nt (.inp 43), bT, q0_15]] <|
.seg [.bind 44 (pk (nt (.inp 43)) bT q0_15),
.bind 45 (q0_14),
.bind 46 (q0_15)] <|
.ret (.inp 44))
theorem run_image_Occupied : runF E 88 [.agg (ips 0 11), .agg (ips 11 29), .inp 40] 41 = rt_image_Occupied := by kernel_rfl
def rt_image_At : RT :=
 ck (.isAgg 11) [.agg (ipx 0 11)] <|
 ck (.isAgg 29) [.agg (ipx 11 29)] <|
 ck (.bin .lss) [.inp 40, zi 0] <|
 ckg (q0_11) false .len [.inp 0] <|
 ckg (q0_11) false (.bin .geq) [.inp 40, ln (.inp 0)] <|
 ck .pick [q0_11, bT, q0_16] <|
 ckg (q0_17) false (.eidx 11) [.inp 0, .inp 40] <|
 ckg (q0_17) false (.eoff 0) [q0_18] <|
 ckg (q0_17) false (.eload 1 false) [q0_19] <|
 ckg (q0_17) false (.bin .neq) [q0_20, .int .u8 2] <|
 ck .pick [q0_17, bT, q0_21] <|
.seg [.call 41 [(q0_22, false)] 43 [.agg (ipx 0 11), .agg (ipx 11 29)] false] <|
 ck .pick [q0_22, bT, .inp 41] <|
.seg [.bind 42 (q0_22),
.bind 43 (pk q0_22 bT (.inp 41))] <|
.cond (.inp 43)
 (.ret (zi (-1)))
 (.seg [.call 44 [] 131 [.inp 37] false,
.same 44 [] (.clo 166 [] [.ref [.inp 37] 0]),
.call 45 [] 166 [.inp 40, .ref [.inp 37] 0] false,
.call 46 [] 131 [.inp 38] false,
.same 46 [] (.clo 166 [] [.ref [.inp 38] 0]),
.call 47 [] 166 [.inp 40, .ref [.inp 38] 0] false] <|
 ckg (.inp 45) true (.un .not) [.inp 47] <|
 ck .pick [.inp 45, nt (.inp 47), bF] <|
.cond (pk (.inp 45) (nt (.inp 47)) bF)
 (.ret (zi 0))
 (ckg (.inp 47) true (.un .not) [.inp 45] <|
 ck .pick [.inp 47, nt (.inp 45), bF] <|
.cond (pk (.inp 47) (nt (.inp 45)) bF)
 (.ret (zi 1))
 (.ret (zi (-1)))))
theorem run_image_At : runF E 87 [.agg (ips 0 11), .agg (ips 11 29), .inp 40] 41 = rt_image_At := by kernel_rfl
def rt_tick_Late : RT :=
 ck (.bin .lss) [.inp 1, .inp 0] <|
.ret (bi .lss (.inp 1) (.inp 0))
theorem run_tick_Late : runF E 85 [.inp 0, .inp 1] 2 = rt_tick_Late := by kernel_rfl
def rt_route_Own : RT :=
 ck (.isAgg 3) [q0_23] <|
.seg [.call 3 [] 123 [.inp 2] false] <|
 ck .isOne [.inp 3] <|
 ck (.isAgg 3) [q0_24] <|
.ret (q0_24)
theorem run_route_Own : runF E 122 [.agg [.inp 0, .inp 1, .inp 2]] 3 = rt_route_Own := by kernel_rfl
def rt_slices_Clone_Step : RT :=
.seg [.chk [] .len [.inp 0],
.isNil 1 [] (.inp 0)] <|
.cond (.inp 1)
 (.ret (.nils))
 (.seg [.chk [] (.szs 3) [.inp 0],
.chk [] .app [.app .lst [], .inp 0]] <|
.ret (q0_25))
theorem run_slices_Clone_Step : runF E 123 [.inp 0] 1 = rt_slices_Clone_Step := by kernel_rfl
def rt_slices_Clone_Need : RT :=
.seg [.chk [] .len [.inp 0],
.isNil 1 [] (.inp 0)] <|
.cond (.inp 1)
 (.ret (.nils))
 (.seg [.chk [] (.szs 3) [.inp 0],
.chk [] .app [.app .lst [], .inp 0]] <|
.ret (q0_25))
theorem run_slices_Clone_Need : runF E 124 [.inp 0] 1 = rt_slices_Clone_Need := by kernel_rfl
def rt_held_clash : RT :=
 ck .isOne [.inp 1] <|
 ck .len [.inp 0] <|
.loop 0 2 [zi 0] <|
 ck (.bin .lss) [.inp 2, ln (.inp 0)] <|
.cond (q0_26)
 (ck (.eidx 3) [.inp 0, .inp 2] <|
 ck (.eload 3 true) [ei 3 (.inp 0) (.inp 2)] <|
 ck (.isAgg 3) [q0_27] <|
 ck .len [.inp 1] <|
.loop 1 3 [zi 0] <|
 ck (.bin .lss) [.inp 3, ln (.inp 1)] <|
.cond (bi .lss (.inp 3) (ln (.inp 1)))
 (ck (.eidx 3) [.inp 1, .inp 3] <|
 ck (.eload 3 true) [ei 3 (.inp 1) (.inp 3)] <|
 ck (.isAgg 3) [q0_28] <|
 ck (.isAgg 3) [.agg [q0_29, q0_30, pt 2 q0_27]] <|
 ck (.isAgg 3) [.agg [q0_31, q0_32, pt 2 q0_28]] <|
 ck (.bin .eql) [q0_29, q0_31] <|
 ckg (q0_33) true (.bin .neq) [q0_30, q0_32] <|
 ck .pick [q0_33, q0_34, bF] <|
.seg [.bind 4 (pk q0_33 q0_34 bF),
.bind 5 (q0_33),
.bind 6 (q0_34)] <|
.cond (.inp 4)
 (ck (.bin .geq) [.inp 3, zi 0] <|
.cond (bi .geq (.inp 3) (zi 0))
 (ck (.bin .geq) [.inp 2, zi 0] <|
.ret (bi .geq (.inp 2) (zi 0)))
 (ck (.bin .add) [.inp 2, zi 1] <|
.again 0 [bi .add (.inp 2) (zi 1)]))
 (ck (.bin .add) [.inp 3, zi 1] <|
.again 1 [bi .add (.inp 3) (zi 1)]))
 (ck (.bin .geq) [zi (-1), zi 0] <|
 ck (.bin .add) [.inp 2, zi 1] <|
.again 0 [bi .add (.inp 2) (zi 1)]))
 (ck (.bin .geq) [zi (-1), zi 0] <|
.ret (bF))
theorem run_held_clash : runF E 127 [.inp 0, .inp 1] 2 = rt_held_clash := by kernel_rfl
def rt_held_Needs : RT :=
 ck (.isAgg 23) [.agg (ipx 0 23)] <|
 ck (.isAgg 23) [.agg (ipx 0 23)] <|
.seg [.chk [] (.mm true) [.inp 7, zi 0],
.chk [] .len [.inp 3],
.chk [] .isOne [q0_35],
.chk [] .isOne [ln (.inp 3)]] <|
 ck .len [.inp 5] <|
.loop 0 23 [.nils, zi 0] <|
 ck (.bin .lss) [.inp 24, ln (.inp 5)] <|
.cond (bi .lss (.inp 24) (ln (.inp 5)))
 (ck (.eidx 3) [.inp 5, .inp 24] <|
 ck (.eload 3 true) [ei 3 (.inp 5) (.inp 24)] <|
 ck (.isAgg 3) [q0_36] <|
 ck (.isAgg 3) [q0_38] <|
 ck (.bin .geq) [q0_37, q0_35] <|
 ckg (q0_39) true (.bin .neq) [q0_37, ln (.inp 3)] <|
.seg [.chk [(q0_40, false), (q0_39, true)] (.un .not) [.inp 20]] <|
 ckg (q0_39) true .pick [q0_40, bT, nt (.inp 20)] <|
 ck .pick [q0_39, q0_41, bF] <|
.seg [.bind 25 (pk q0_39 q0_41 bF),
.bind 26 (q0_41)] <|
.cond (.inp 25)
 (ck (.isAgg 3) [q0_38] <|
.seg [.chk [] (.szs 3) [q0_42],
.chk [] .app [.inp 23, q0_42]] <|
.seg [.bind 27 (q0_42),
.bind 28 (.app .app [.inp 23, q0_42])] <|
 ck (.bin .add) [.inp 24, zi 1] <|
.again 0 [.inp 28, q0_43])
 (ck (.bin .add) [.inp 24, zi 1] <|
.again 0 [.inp 23, q0_43]))
 (.ret (.inp 23))
theorem run_held_Needs : runF E 48 [.agg (ips 0 23)] 23 = rt_held_Needs := by kernel_rfl
def rt_held_Own : RT :=
 ck (.isAgg 23) [.agg (ipx 0 23)] <|
.seg [.call 23 [] 122 [.agg [.inp 1, .inp 2, .inp 3]] false,
.call 24 [] 123 [.inp 4] false,
.call 25 [] 124 [.inp 5] false,
.chk [] (.isAgg 3) [.inp 23],
.chk [] .isOne [.inp 24],
.chk [] .isOne [.inp 25]] <|
 ck (.isAgg 23) [q0_44] <|
.ret (q0_44)
theorem run_held_Own : runF E 78 [.agg (ips 0 23)] 23 = rt_held_Own := by kernel_rfl
def rt_held_Right : RT :=
 ck (.isAgg 23) [.agg (ipx 0 23)] <|
 ck .len [.inp 3] <|
 ck (.bin .lss) [.inp 0, zi 1] <|
 ckg (bi .lss (.inp 0) (zi 1)) false (.mm true) [.inp 0, .inp 21] <|
 ckg (bi .lss (.inp 0) (zi 1)) false (.bin .gtr) [q0_45, zi 1073741824] <|
 ck .pick [bi .lss (.inp 0) (zi 1), bT, q0_46] <|
 ckg (q0_47) false (.bin .lss) [.inp 21, zi 0] <|
 ck .pick [q0_47, bT, q0_48] <|
 ckg (q0_49) false (.bin .lss) [ln (.inp 3), zi 1] <|
 ck .pick [q0_49, bT, q0_50] <|
 ckg (q0_51) false (.bin .gtr) [ln (.inp 3), zi 12] <|
 ck .pick [q0_51, bT, q0_52] <|
 ckg (q0_53) false .len [.inp 4] <|
 ckg (q0_53) false (.bin .gtr) [ln (.inp 4), zi 2] <|
 ck .pick [q0_53, bT, q0_54] <|
.seg [.bind 23 (q0_47),
.bind 24 (q0_49),
.bind 25 (q0_51),
.bind 26 (q0_53),
.bind 27 (pk q0_53 bT q0_54)] <|
.cond (.inp 27)
 (.ret (bF))
 (ck (.bin .eql) [.inp 6, .int .u8 0] <|
 ckg (q0_55) false (.bin .geq) [.inp 6, .int .u8 5] <|
 ck .pick [q0_55, bT, q0_56] <|
 ckg (q0_57) false (.bin .lss) [.inp 7, zi 0] <|
 ck .pick [q0_57, bT, bi .lss (.inp 7) (zi 0)] <|
 ckg (q0_58) false (.bin .gtr) [.inp 7, ln (.inp 3)] <|
 ck .pick [q0_58, bT, q0_59] <|
.seg [.call 28 [(q0_60, false)] 127 [.inp 5, .inp 5] false] <|
 ck .pick [q0_60, bT, .inp 28] <|
.seg [.bind 29 (q0_58),
.bind 30 (q0_60),
.bind 31 (pk q0_60 bT (.inp 28))] <|
.cond (.inp 31)
 (.ret (bF))
 (.seg [.chk [] (.eoff 8) [.ref (ipx 0 23) 0],
.chk [] (.slice false true) [.app .lst (ipx 8 12), ln (.inp 3)],
.chk [] .isOne [.inp 8],
.chk [] .isOne [.inp 9],
.chk [] .isOne [.inp 10],
.chk [] .isOne [.inp 11],
.chk [] .isOne [.inp 12],
.chk [] .isOne [.inp 13],
.chk [] .isOne [.inp 14],
.chk [] .isOne [.inp 15],
.chk [] .isOne [.inp 16],
.chk [] .isOne [.inp 17],
.chk [] .isOne [.inp 18],
.chk [] .isOne [.inp 19],
.chk [] (.szs 1) [q0_61]] <|
.seg [.bind 32 (q0_61),
.bind 33 (pk (bi .lss (zi 0) q0_62) (.app (.rowget 1 0 1 false) [q0_61, zi 0]) bF),
.bind 34 (pk (bi .lss (zi 1) q0_62) (.app (.rowget 1 0 1 false) [q0_61, zi 1]) bF),
.bind 35 (pk (bi .lss (zi 2) q0_62) (.app (.rowget 1 0 1 false) [q0_61, zi 2]) bF),
.bind 36 (pk (bi .lss (zi 3) q0_62) (.app (.rowget 1 0 1 false) [q0_61, zi 3]) bF),
.bind 37 (pk (bi .lss (zi 4) q0_62) (.app (.rowget 1 0 1 false) [q0_61, zi 4]) bF),
.bind 38 (pk (bi .lss (zi 5) q0_62) (.app (.rowget 1 0 1 false) [q0_61, zi 5]) bF),
.bind 39 (pk (bi .lss (zi 6) q0_62) (.app (.rowget 1 0 1 false) [q0_61, zi 6]) bF),
.bind 40 (pk (bi .lss (zi 7) q0_62) (.app (.rowget 1 0 1 false) [q0_61, zi 7]) bF),
.bind 41 (pk (bi .lss (zi 8) q0_62) (.app (.rowget 1 0 1 false) [q0_61, zi 8]) bF),
.bind 42 (pk (bi .lss (zi 9) q0_62) (.app (.rowget 1 0 1 false) [q0_61, zi 9]) bF),
.bind 43 (pk (bi .lss (zi 10) q0_62) (.app (.rowget 1 0 1 false) [q0_61, zi 10]) bF),
.bind 44 (pk (bi .lss (zi 11) q0_62) (.app (.rowget 1 0 1 false) [q0_61, zi 11]) bF)] <|
 ck (.eoff 8) [.ref (ipx 0 23) 0] <|
 ck (.eload 12 true) [.ref (ipx 0 23) 8] <|
 ck (.eqa [ none, none, none, none, none, none, none, none, none, none, none, none] true) [.agg (ipx 33 12), q0_63] <|
.seg [.bind 45 (q0_63),
.bind 46 (.app (.eqa [ none, none, none, none, none, none, none, none, none, none, none, none] true) [.agg (ipx 33 12), q0_63])] <|
.cond (.inp 46)
 (.ret (bF))
 (ck (.eoff 1) [.ref (ipx 0 23) 0] <|
 ck (.eoff 2) [.ref (ipx 0 23) 1] <|
 ck (.eload 1 false) [.ref (ipx 0 23) 3] <|
 ck (.eoff 4) [.ref (ipx 0 23) 0] <|
 ck (.eload 1 false) [.ref (ipx 0 23) 4] <|
.seg [.chk [] .isOne [e1 (.ref (ipx 0 23) 3)],
.chk [] .isOne [e1 (.ref (ipx 0 23) 4)],
.chk [] .isOne [e1 (.ref (ipx 0 23) 3)],
.chk [] .isOne [e1 (.ref (ipx 0 23) 4)]] <|
.seg [.call 47 [] 128 [q0_64] false] <|
 ck .len [.inp 47] <|
.seg [.bind 48 (e1 (.ref (ipx 0 23) 3)),
.bind 49 (e1 (.ref (ipx 0 23) 4)),
.bind 50 (q0_64)] <|
.loop 0 51 [.nils, zi 0] <|
 ck (.bin .lss) [.inp 52, ln (.inp 47)] <|
.cond (bi .lss (.inp 52) (ln (.inp 47)))
 (ck (.eidx 3) [.inp 47, .inp 52] <|
 ck (.eload 3 true) [q0_65] <|
 ck (.isAgg 3) [q0_66] <|
.seg [.chk [] .isOne [q0_67],
.chk [] .isOne [q0_67]] <|
.seg [.chk [] (.szs 1) [q0_68],
.chk [] .app [.inp 51, q0_68]] <|
 ck (.bin .add) [.inp 52, zi 1] <|
.again 0 [.app .app [.inp 51, q0_68], bi .add (.inp 52) (zi 1)])
 (.seg [.srt 53 (.inp 51)] <|
.seg [.cmp 54 (.inp 53),
.chk [] .len [.inp 54],
.chk [] (.eoff 4) [.ref (ipx 0 23) 0],
.chk [] (.eload 1 false) [.ref (ipx 0 23) 4],
.chk [] .len [e1 (.ref (ipx 0 23) 4)],
.chk [] (.bin .add) [ln (.inp 3), q0_69],
.chk [] (.bin .lss) [ln (.inp 54), q0_70]] <|
.seg [.bind 55 (e1 (.ref (ipx 0 23) 4)),
.bind 56 (q0_69),
.bind 57 (q0_70),
.bind 58 (bi .lss (ln (.inp 54)) q0_70)] <|
.cond (.inp 58)
 (.ret (bF))
 (ck (.eoff 5) [.ref (ipx 0 23) 0] <|
 ck (.eload 1 false) [.ref (ipx 0 23) 5] <|
 ck .len [e1 (.ref (ipx 0 23) 5)] <|
.seg [.bind 59 (e1 (.ref (ipx 0 23) 5)),
.bind 60 (ln (e1 (.ref (ipx 0 23) 5)))] <|
.loop 0 61 [zi 0] <|
 ck (.bin .lss) [.inp 61, .inp 60] <|
.cond (bi .lss (.inp 61) (.inp 60))
 (ck (.eidx 3) [.inp 59, .inp 61] <|
 ck (.eload 3 true) [q0_71] <|
 ck (.isAgg 3) [q0_72] <|
 ck (.bin .lss) [q0_73, zi 0] <|
 ckg (q0_74) false (.bin .gtr) [q0_73, ln (.inp 3)] <|
 ck .pick [q0_74, bT, q0_75] <|
 ckg (q0_76) false (.bin .lss) [q0_77, zi 0] <|
 ck .pick [q0_76, bT, q0_78] <|
 ckg (q0_79) false (.bin .geq) [q0_77, zi 24] <|
 ck .pick [q0_79, bT, q0_80] <|
 ckg (q0_81) false (.bin .shr) [q0_82, .int .u64 1] <|
 ckg (q0_81) false (.bin .neq) [q0_83, zi 0] <|
 ck .pick [q0_81, bT, q0_84] <|
.seg [.bind 62 (q0_76),
.bind 63 (q0_79),
.bind 64 (q0_81),
.bind 65 (pk q0_81 bT q0_84)] <|
.cond (.inp 65)
 (.ret (bF))
 (ck (.bin .add) [.inp 61, zi 1] <|
.again 0 [bi .add (.inp 61) (zi 1)]))
 (.ret (bT)))))))
theorem run_held_Right : runF E 81 [.agg (ips 0 23)] 23 = rt_held_Right := by kernel_rfl
def rt_slices_Concat_Step : RT :=
 ck .len [.inp 0] <|
.loop 0 1 [zi 0, zi 0] <|
 ck (.bin .lss) [.inp 2, ln (.inp 0)] <|
.cond (q0_26)
 (ck (.eidx 1) [.inp 0, .inp 2] <|
 ck (.eload 1 false) [ei 1 (.inp 0) (.inp 2)] <|
 ck .len [q0_85] <|
 ck (.bin .add) [.inp 1, q0_86] <|
 ck (.bin .lss) [q0_87, zi 0] <|
.cond (bi .lss q0_87 (zi 0))
 (.dead 6 [zi 9])
 (ck (.bin .add) [.inp 2, zi 1] <|
.again 0 [q0_87, bi .add (.inp 2) (zi 1)]))
 (ck (.bin .lss) [.inp 1, zi 0] <|
.cond (bi .lss (.inp 1) (zi 0))
 (.dead 6 [zi 9])
 (ck .len [.nils] <|
 ck (.bin .sub) [zi 0, zi 0] <|
 ck (.bin .sub) [.inp 1, zi 0] <|
 ck (.bin .gtr) [bi .sub (.inp 1) (zi 0), zi 0] <|
.cond (bi .gtr (bi .sub (.inp 1) (zi 0)) (zi 0))
 (ck .rep [bi .sub (.inp 1) (zi 0), .agg [zi 0, zi 0, zi 0]] <|
 ck .len [.nils] <|
 ck (.slice false true) [q0_88, zi 0] <|
.seg [.bind 3 (.app (.slice false true) [q0_88, zi 0])] <|
 ck .len [.inp 0] <|
.loop 0 4 [.inp 3, zi 0] <|
 ck (.bin .lss) [.inp 5, ln (.inp 0)] <|
.cond (bi .lss (.inp 5) (ln (.inp 0)))
 (ck (.eidx 1) [.inp 0, .inp 5] <|
 ck (.eload 1 false) [ei 1 (.inp 0) (.inp 5)] <|
.seg [.chk [] (.szs 3) [q0_89],
.chk [] .app [.inp 4, q0_89]] <|
 ck (.bin .add) [.inp 5, zi 1] <|
.again 0 [.app .app [.inp 4, q0_89], bi .add (.inp 5) (zi 1)])
 (.ret (.inp 4)))
 (ck .len [.inp 0] <|
.loop 0 3 [.nils, zi 0] <|
 ck (.bin .lss) [.inp 4, ln (.inp 0)] <|
.cond (bi .lss (.inp 4) (ln (.inp 0)))
 (ck (.eidx 1) [.inp 0, .inp 4] <|
 ck (.eload 1 false) [ei 1 (.inp 0) (.inp 4)] <|
.seg [.chk [] (.szs 3) [q0_90],
.chk [] .app [.inp 3, q0_90]] <|
 ck (.bin .add) [.inp 4, zi 1] <|
.again 0 [.app .app [.inp 3, q0_90], bi .add (.inp 4) (zi 1)])
 (.ret (.inp 3)))))
theorem run_slices_Concat_Step : runF E 128 [.inp 0] 1 = rt_slices_Concat_Step := by kernel_rfl
def rt_held_Sections : RT :=
 ck (.isAgg 23) [.agg (ipx 0 23)] <|
 ck (.isAgg 23) [.agg (ipx 0 23)] <|
 ck .len [.inp 3] <|
.loop 0 23 [zi 0, .nils] <|
 ck (.bin .lss) [.inp 23, ln (.inp 3)] <|
.cond (bi .lss (.inp 23) (ln (.inp 3)))
 (ck (.eidx 3) [.inp 3, .inp 23] <|
 ck (.eload 3 true) [ei 3 (.inp 3) (.inp 23)] <|
 ck (.isAgg 3) [q0_91] <|
 ck (.bin .geq) [.inp 23, .inp 7] <|
.cond (bi .geq (.inp 23) (.inp 7))
 (.seg [.chk [] .isOne [q0_92],
.chk [] .isOne [q0_92]] <|
.seg [.chk [] (.szs 1) [q0_93],
.chk [] .app [.inp 24, q0_93]] <|
 ck (.un .not) [bT] <|
 ck (.bin .add) [.inp 23, zi 1] <|
.again 0 [q0_94, .app .app [.inp 24, q0_93]])
 (ck (.bin .add) [.inp 23, zi 1] <|
.again 0 [q0_94, .inp 24]))
 (ck .len [.inp 4] <|
.loop 0 25 [zi 0, .inp 24] <|
 ck (.bin .lss) [.inp 25, ln (.inp 4)] <|
.cond (bi .lss (.inp 25) (ln (.inp 4)))
 (ck (.eidx 3) [.inp 4, .inp 25] <|
 ck (.eload 3 true) [ei 3 (.inp 4) (.inp 25)] <|
 ck (.isAgg 3) [q0_95] <|
 ck (.un .not) [.inp 20] <|
.cond (.inp 20)
 (ck (.bin .add) [.inp 25, zi 1] <|
.again 0 [q0_96, .inp 26])
 (.seg [.chk [] .isOne [q0_97],
.chk [] .isOne [q0_97]] <|
.seg [.chk [] (.szs 1) [q0_98],
.chk [] .app [.inp 26, q0_98]] <|
 ck (.un .not) [bT] <|
 ck (.bin .add) [.inp 25, zi 1] <|
.again 0 [q0_96, .app .app [.inp 26, q0_98]]))
 (.ret (.inp 26)))
theorem run_held_Sections : runF E 158 [.agg (ips 0 23)] 23 = rt_held_Sections := by kernel_rfl
def rt_held_Has : RT :=
 ck (.isAgg 23) [.agg (ipx 0 23)] <|
.seg [.call 24 [] 158 [.agg (ipx 0 23)] false] <|
 ck .len [.inp 24] <|
.loop 0 25 [zi 0] <|
 ck (.bin .lss) [.inp 25, ln (.inp 24)] <|
.cond (q0_99)
 (ck (.eidx 1) [.inp 24, .inp 25] <|
 ck (.eload 1 false) [q0_100] <|
 ck (.bin .eql) [.inp 23, q0_101] <|
.cond (bi .eql (.inp 23) q0_101)
 (ck (.bin .geq) [.inp 25, zi 0] <|
.ret (bi .geq (.inp 25) (zi 0)))
 (ck (.bin .add) [.inp 25, zi 1] <|
.again 0 [q0_96]))
 (ck (.bin .geq) [zi (-1), zi 0] <|
.ret (bF))
theorem run_held_Has : runF E 126 [.agg (ips 0 23), .inp 23] 24 = rt_held_Has := by kernel_rfl
def rt_held_Wants : RT :=
 ck (.isAgg 23) [.agg (ipx 0 23)] <|
.seg [.call 24 [] 48 [.agg (ipx 0 23)] false] <|
 ck .len [.inp 24] <|
.loop 0 25 [zi 0] <|
 ck (.bin .lss) [.inp 25, ln (.inp 24)] <|
.cond (q0_99)
 (ck (.eidx 3) [.inp 24, .inp 25] <|
 ck (.eload 3 true) [q0_102] <|
 ck (.isAgg 3) [q0_103] <|
 ck (.bin .eql) [q0_104, .inp 23] <|
.cond (bi .eql q0_104 (.inp 23))
 (.ret (.tup [pt 1 q0_103, bT]))
 (ck (.bin .add) [.inp 25, zi 1] <|
.again 0 [q0_96]))
 (.ret (.tup [zi 0, bF]))
theorem run_held_Wants : runF E 114 [.agg (ips 0 23), .inp 23] 24 = rt_held_Wants := by kernel_rfl
def rt_held_Apart : RT :=
 ck (.isAgg 23) [.agg (ipx 0 23)] <|
 ck (.isAgg 23) [.agg (ipx 23 23)] <|
 ck (.isAgg 23) [.agg (ipx 0 23)] <|
 ck .len [.inp 3] <|
.loop 0 46 [zi 0] <|
 ck (.bin .lss) [.inp 46, ln (.inp 3)] <|
.cond (bi .lss (.inp 46) (ln (.inp 3)))
 (ck (.eidx 3) [.inp 3, .inp 46] <|
 ck (.eload 3 true) [ei 3 (.inp 3) (.inp 46)] <|
 ck (.isAgg 3) [q0_105] <|
 ck (.bin .geq) [.inp 46, .inp 7] <|
.cond (bi .geq (.inp 46) (.inp 7))
 (.seg [.call 47 [] 126 [.agg (ipx 23 23), pt 0 q0_105] false] <|
.cond (.inp 47)
 (ck (.un .not) [bF] <|
.ret (bF))
 (ck (.un .not) [bT] <|
 ck (.bin .add) [.inp 46, zi 1] <|
.again 0 [q0_106]))
 (ck (.bin .add) [.inp 46, zi 1] <|
.again 0 [q0_106]))
 (ck .len [.inp 4] <|
.loop 0 47 [zi 0] <|
 ck (.bin .lss) [.inp 47, ln (.inp 4)] <|
.cond (bi .lss (.inp 47) (ln (.inp 4)))
 (ck (.eidx 3) [.inp 4, .inp 47] <|
 ck (.eload 3 true) [ei 3 (.inp 4) (.inp 47)] <|
 ck (.isAgg 3) [q0_107] <|
 ck (.un .not) [.inp 20] <|
.cond (.inp 20)
 (ck (.bin .add) [.inp 47, zi 1] <|
.again 0 [q0_108])
 (.seg [.call 48 [] 126 [.agg (ipx 23 23), pt 0 q0_107] false] <|
.cond (.inp 48)
 (ck (.un .not) [bF] <|
.ret (bF))
 (ck (.un .not) [bT] <|
 ck (.bin .add) [.inp 47, zi 1] <|
.again 0 [q0_108])))
 (.seg [.call 48 [] 48 [.agg (ipx 0 23)] false,
.call 49 [] 48 [.agg (ipx 23 23)] false,
.call 50 [] 127 [.inp 48, .inp 49] false,
.chk [] (.un .not) [.inp 50],
.chk [] .isOne [nt (.inp 50)]] <|
.ret (nt (.inp 50))))
theorem run_held_Apart : runF E 80 [.agg (ips 0 23), .agg (ips 23 23)] 46 = rt_held_Apart := by kernel_rfl
def rt_point_position : RT :=
 ck (.bin .eql) [.inp 0, zi 0] <|
 ckg (bi .eql (.inp 0) (zi 0)) false (.bin .eql) [.inp 0, zi 1] <|
 ck .pick [bi .eql (.inp 0) (zi 0), bT, bi .eql (.inp 0) (zi 1)] <|
.ret (pk (bi .eql (.inp 0) (zi 0)) bT (bi .eql (.inp 0) (zi 1)))
theorem run_point_position : runF E 92 [.inp 0] 1 = rt_point_position := by kernel_rfl
def rt_point_Rest : RT :=
.ret (.agg [zi (-1), zi 0, bF])
theorem run_point_Rest : runF E 93 [] 0 = rt_point_Rest := by kernel_rfl
def rt_point_Right : RT :=
 ck (.isAgg 3) [q0_23] <|
.seg [.call 3 [] 92 [.inp 0] false,
.chk [(.inp 3, true)] (.bin .geq) [.inp 1, zi 0],
.chk [] .pick [.inp 3, bi .geq (.inp 1) (zi 0), bF],
.chk [(q0_109, true)] (.bin .leq) [.inp 1, zi 1000],
.chk [] .pick [q0_109, q0_110, bF],
.call 4 [(q0_111, false)] 93 [] false,
.chk [(q0_111, false)] (.eqa [ some .i64, some .i64, none] false) [q0_23, .inp 4],
.chk [] .pick [q0_111, bT, q0_112]] <|
.seg [.bind 5 (pk q0_111 bT q0_112),
.bind 6 (q0_111)] <|
.ret (.inp 5)
theorem run_point_Right : runF E 84 [.agg [.inp 0, .inp 1, .inp 2]] 3 = rt_point_Right := by kernel_rfl
def rt_free_Holder : RT :=
 ck (.isAgg 74) [.agg (ipx 0 74)] <|
 ck (.isAgg 74) [.agg (ipx 0 74)] <|
 ck .isOne [.inp 74] <|
 ck .len [.inp 1] <|
.loop 0 75 [zi 0] <|
 ck (.bin .lss) [.inp 75, ln (.inp 1)] <|
.cond (q0_113)
 (ck (.eidx 23) [.inp 1, .inp 75] <|
 ck (.eload 23 true) [q0_114] <|
 ck (.isAgg 23) [q0_115] <|
.seg [.call 76 [] 126 [q0_116, .inp 74] false] <|
.cond (.inp 76)
 (ck (.isAgg 23) [q0_116] <|
 ck .isOne [q0_117] <|
 ck (.un .not) [bF] <|
.ret (.tup [q0_117, bT]))
 (ck (.bin .add) [.inp 75, zi 1] <|
.again 0 [q0_118]))
 (.ret (.tup [zi 0, bF]))
theorem run_free_Holder : runF E 115 [.agg (ips 0 74), .inp 74] 75 = rt_free_Holder := by kernel_rfl
def rt_free_Wanted : RT :=
 ck (.isAgg 74) [.agg (ipx 0 74)] <|
 ck .len [.inp 1] <|
.loop 0 75 [zi 0] <|
 ck (.bin .lss) [.inp 75, ln (.inp 1)] <|
.cond (q0_113)
 (ck (.eidx 23) [.inp 1, .inp 75] <|
 ck (.eload 23 true) [q0_114] <|
 ck (.isAgg 23) [q0_115] <|
.seg [.call 76 [] 114 [q0_116, .inp 74] false] <|
 ck (.tproj 0) [.inp 76] <|
 ck (.tproj 1) [.inp 76] <|
.cond (tp 1 (.inp 76))
 (.ret (.tup [tp 0 (.inp 76), bT]))
 (ck (.bin .add) [.inp 75, zi 1] <|
.again 0 [q0_118]))
 (.ret (.tup [zi 0, bF]))
theorem run_free_Wanted : runF E 58 [.agg (ips 0 74), .inp 74] 75 = rt_free_Wanted := by kernel_rfl
def rt_free_Locked : RT :=
 ck (.isAgg 74) [.agg (ipx 0 74)] <|
 ck .isOne [.inp 74] <|
 ck .len [.inp 1] <|
.loop 0 75 [zi 0] <|
 ck (.bin .lss) [.inp 75, ln (.inp 1)] <|
.cond (q0_113)
 (ck (.eidx 23) [.inp 1, .inp 75] <|
 ck (.eload 23 true) [q0_114] <|
 ck (.isAgg 23) [q0_115] <|
.seg [.call 76 [] 114 [q0_116, .inp 74] false] <|
 ck (.tproj 0) [.inp 76] <|
 ck (.tproj 1) [.inp 76] <|
 ckg (tp 1 (.inp 76)) true (.bin .neq) [q0_119, .int .u8 1] <|
 ck .pick [tp 1 (.inp 76), q0_120, bF] <|
.seg [.bind 77 (pk (tp 1 (.inp 76)) q0_120 bF)] <|
.cond (.inp 77)
 (ck (.bin .geq) [.inp 75, zi 0] <|
.ret (bi .geq (.inp 75) (zi 0)))
 (ck (.bin .add) [.inp 75, zi 1] <|
.again 0 [q0_118]))
 (ck (.bin .geq) [zi (-1), zi 0] <|
.ret (bF))
theorem run_free_Locked : runF E 89 [.agg (ips 0 74), .inp 74] 75 = rt_free_Locked := by kernel_rfl
def rt_free_Free : RT :=
 ck (.isAgg 11) [.agg (ipx 0 11)] <|
 ck (.isAgg 29) [.agg (ipx 11 29)] <|
 ck (.isAgg 74) [.agg (ipx 40 74)] <|
.seg [.call 115 [] 115 [.agg (ipx 40 74), .inp 114] false] <|
 ck (.tproj 0) [.inp 115] <|
 ck (.tproj 1) [.inp 115] <|
 ck (.un .not) [tp 1 (.inp 115)] <|
.seg [.call 116 [(nt (tp 1 (.inp 115)), true)] 88 [.agg (ipx 0 11), .agg (ipx 11 29), .inp 114] false] <|
 ckg (nt (tp 1 (.inp 115))) true (.un .not) [.inp 116] <|
 ck .pick [nt (tp 1 (.inp 115)), nt (.inp 116), bF] <|
.ret (pk (nt (tp 1 (.inp 115))) (nt (.inp 116)) bF)
theorem run_free_Free : runF E 59 [.agg (ips 0 11), .agg (ips 11 29), .agg (ips 40 74), .inp 114] 115 = rt_free_Free := by kernel_rfl
def rt_free_Right : RT :=
 ck (.isAgg 74) [.agg (ipx 0 74)] <|
 ck .len [.inp 1] <|
 ck (.bin .gtr) [ln (.inp 1), zi 6] <|
 ckg (q0_121) false (.bin .lss) [.inp 0, zi 1] <|
 ck .pick [q0_121, bT, bi .lss (.inp 0) (zi 1)] <|
 ckg (q0_122) false (.bin .gtr) [.inp 0, zi 1073741824] <|
 ck .pick [q0_122, bT, q0_123] <|
.seg [.bind 74 (pk q0_122 bT q0_123)] <|
.cond (.inp 74)
 (.ret (bF))
 (ck .len [.inp 1] <|
.loop 0 75 [zi 0, zi 0] <|
 ck (.bin .lss) [.inp 76, ln (.inp 1)] <|
.cond (bi .lss (.inp 76) (ln (.inp 1)))
 (ck (.eidx 23) [.inp 1, .inp 76] <|
 ck (.eload 23 true) [q0_124] <|
 ck (.isAgg 23) [q0_125] <|
.seg [.call 77 [] 81 [q0_126] false] <|
 ck (.un .not) [.inp 77] <|
 ckg (nt (.inp 77)) false (.bin .leq) [q0_127, .inp 75] <|
 ck .pick [nt (.inp 77), bT, q0_128] <|
 ckg (q0_129) false (.bin .geq) [q0_127, .inp 0] <|
 ck .pick [q0_129, bT, q0_130] <|
.seg [.chk [(q0_131, false)] (.szs 23) [.inp 1],
.chk [(q0_131, false)] (.slice false true) [.inp 1, .inp 76]] <|
.cond (q0_131)
 (.seg [.bind 78 (q0_129)] <|
.ret (bF))
 (ck .len [q0_132] <|
.loop 1 78 [zi 0] <|
 ck (.bin .lss) [.inp 78, q0_133] <|
.cond (bi .lss (.inp 78) q0_133)
 (ck (.eidx 23) [q0_132, .inp 78] <|
 ck (.eload 23 true) [q0_134] <|
 ck (.isAgg 23) [q0_135] <|
 ck (.isAgg 23) [q0_136] <|
.seg [.call 79 [] 80 [q0_126, q0_136] false] <|
 ck (.un .not) [.inp 79] <|
.cond (.inp 79)
 (ck (.bin .add) [.inp 78, zi 1] <|
.again 1 [bi .add (.inp 78) (zi 1)])
 (ck (.bin .geq) [.inp 78, zi 0] <|
.seg [.bind 80 (q0_129)] <|
.cond (bi .geq (.inp 78) (zi 0))
 (.ret (bF))
 (ck (.bin .add) [.inp 76, zi 1] <|
.again 0 [q0_127, q0_137])))
 (ck (.bin .geq) [zi (-1), zi 0] <|
.seg [.bind 79 (q0_129)] <|
 ck (.bin .add) [.inp 76, zi 1] <|
.again 0 [q0_127, q0_137])))
 (.loop 0 77 [zi 0] <|
 ck (.bin .lss) [.inp 77, zi 24] <|
.cond (bi .lss (.inp 77) (zi 24))
 (ck (.aidx 24 3 0 3 true) [.agg (ipx 2 72), .inp 77] <|
 ck (.isAgg 3) [q0_138] <|
.seg [.bind 78 (q0_138),
.bind 79 (pt 0 q0_138),
.bind 80 (pt 1 q0_138),
.bind 81 (pt 2 q0_138)] <|
.seg [.call 82 [] 84 [.agg [.inp 79, .inp 80, .inp 81]] false] <|
 ck (.un .not) [.inp 82] <|
.cond (.inp 82)
 (ck (.bin .add) [.inp 77, zi 1] <|
.again 0 [bi .add (.inp 77) (zi 1)])
 (.ret (bF)))
 (.ret (bT))))
theorem run_free_Right : runF E 42 [.agg (ips 0 74)] 74 = rt_free_Right := by kernel_rfl
def rt_free_Own : RT :=
 ck (.isAgg 74) [.agg (ipx 0 74)] <|
.seg [.chk [] .len [.inp 1],
.isNil 74 [] (.inp 1)] <|
.cond (.inp 74)
 (ck .len [.nils] <|
.loop 0 75 [] <|
 ck (.bin .lss) [zi 0, zi 0] <|
 ck (.isAgg 74) [.agg (ap [.inp 0, .enil] (ipx 2 72))] <|
.ret (.agg (ap [.inp 0, .nils] (ipx 2 72))))
 (.seg [.chk [] (.szs 23) [.inp 1],
.chk [] .app [.app .lst [], .inp 1]] <|
 ck .len [q0_139] <|
.loop 0 75 [zi 0, q0_139] <|
 ck (.bin .lss) [.inp 75, q0_140] <|
.cond (bi .lss (.inp 75) q0_140)
 (ck (.eidx 23) [.inp 76, .inp 75] <|
 ck (.rowget 23 0 23 true) [.inp 76, .inp 75] <|
 ck (.isAgg 23) [q0_141] <|
.seg [.call 77 [] 78 [.agg (ptx (q0_141) 0 23)] false,
.chk [] (.eidx 23) [.inp 76, .inp 75],
.chk [] (.rowset 23 0 23) [.inp 76, .inp 75, q0_142],
.chk [] (.isAgg 23) [.inp 77]] <|
.seg [.bind 78 (.app (.rowset 23 0 23) [.inp 76, .inp 75, q0_142])] <|
 ck (.bin .add) [.inp 75, zi 1] <|
.again 0 [q0_118, .inp 78])
 (ck (.isAgg 74) [.agg (ap [.inp 0, .row 18] (ipx 2 72))] <|
.ret (.agg (ap [.inp 0, .inp 76] (ipx 2 72)))))
theorem run_free_Own : runF E 41 [.agg (ips 0 74)] 74 = rt_free_Own := by kernel_rfl
def rt_lockbarref03_Late : RT :=
 ck (.bin .gtr) [.inp 0, .inp 1] <|
.ret (bi .gtr (.inp 0) (.inp 1))
theorem run_lockbarref03_Late : runF E 67 [.inp 0, .inp 1] 2 = rt_lockbarref03_Late := by kernel_rfl
def rt_lockbarref03_within : RT :=
 ck (.mm true) [.inp 0, zi 0] <|
 ck (.mm false) [q0_143, .inp 1] <|
.ret (.app (.mm false) [q0_143, .inp 1])
theorem run_lockbarref03_within : runF E 198 [.inp 0, .inp 1] 2 = rt_lockbarref03_within := by kernel_rfl
def rt_lockbarref03_Count : RT :=
.seg [.call 1 [] 198 [.inp 0, zi 65535] false] <|
.ret (.inp 1)
theorem run_lockbarref03_Count : runF E 176 [.inp 0] 1 = rt_lockbarref03_Count := by kernel_rfl
def rt_lockbarref03_More : RT :=
.seg [.call 2 [] 176 [.inp 0] false] <|
.seg [.call 3 [] 176 [.inp 1] false] <|
 ck (.bin .add) [.inp 2, .inp 3] <|
 ck (.mm false) [q0_144, zi 65535] <|
.ret (.app (.mm false) [q0_144, zi 65535])
theorem run_lockbarref03_More : runF E 146 [.inp 0, .inp 1] 2 = rt_lockbarref03_More := by kernel_rfl
def rt_lockbarref03_Row : RT :=
 ck (.un .not) [.inp 0] <|
.cond (.inp 0)
 (.seg [.call 2 [] 146 [.inp 1, zi 1] false] <|
.ret (.inp 2))
 (.ret (zi 0))
theorem run_lockbarref03_Row : runF E 117 [.inp 0, .inp 1] 2 = rt_lockbarref03_Row := by kernel_rfl
def rt_lockbarref05_Ways : RT :=
 ck (.bin .eql) [.inp 0, .int .u8 1] <|
.cond (bi .eql (.inp 0) (.int .u8 1))
 (.ret (zi 1))
 (ck (.bin .eql) [.inp 0, .int .u8 2] <|
.cond (q0_145)
 (.ret (zi 2))
 (ck (.bin .eql) [.inp 0, .int .u8 3] <|
.cond (bi .eql (.inp 0) (.int .u8 3))
 (.ret (zi 2))
 (.ret (zi 0))))
theorem run_lockbarref05_Ways : runF E 207 [.inp 0] 1 = rt_lockbarref05_Ways := by kernel_rfl
def rt_lockbarref05_Ends : RT :=
 ck (.bin .lss) [.inp 1, zi 0] <|
.seg [.call 2 [(bi .lss (.inp 1) (zi 0), false)] 207 [.inp 0] false] <|
 ckg (bi .lss (.inp 1) (zi 0)) false (.bin .geq) [.inp 1, .inp 2] <|
 ck .pick [bi .lss (.inp 1) (zi 0), bT, q0_146] <|
.cond (pk (bi .lss (.inp 1) (zi 0)) bT q0_146)
 (.ret (.tup [zi 0, zi 0, bF]))
 (ck (.bin .eql) [.inp 1, zi 0] <|
.cond (bi .eql (.inp 1) (zi 0))
 (.ret (.tup [zi 0, zi 1, bT]))
 (ck (.bin .eql) [.inp 0, .int .u8 2] <|
.cond (q0_145)
 (.ret (.tup [zi 0, zi 2, bT]))
 (.ret (.tup [zi 2, zi 3, bT]))))
theorem run_lockbarref05_Ends : runF E 208 [.inp 0, .inp 1] 2 = rt_lockbarref05_Ends := by kernel_rfl
def rt_lockbarref05_Way : RT :=
.loop 0 3 [zi 0] <|
.seg [.call 4 [] 207 [.inp 0] false] <|
 ck (.bin .lss) [.inp 3, .inp 4] <|
.cond (bi .lss (.inp 3) (.inp 4))
 (.seg [.call 5 [] 208 [.inp 0, .inp 3] false] <|
 ck (.tproj 0) [.inp 5] <|
 ck (.tproj 1) [.inp 5] <|
 ck (.tproj 2) [.inp 5] <|
 ck (.bin .eql) [.inp 1, tp 0 (.inp 5)] <|
 ckg (q0_147) true (.bin .eql) [.inp 2, tp 1 (.inp 5)] <|
 ck .pick [q0_147, q0_148, bF] <|
 ckg (q0_149) false (.bin .eql) [.inp 1, tp 1 (.inp 5)] <|
.seg [.chk [(q0_150, true), (q0_149, false)] (.bin .eql) [.inp 2, tp 0 (.inp 5)]] <|
 ckg (q0_149) false .pick [q0_150, q0_151, bF] <|
 ck .pick [q0_149, bT, q0_152] <|
.seg [.bind 6 (q0_149),
.bind 7 (q0_152),
.bind 8 (pk q0_149 bT q0_152)] <|
.cond (.inp 8)
 (.ret (.tup [.inp 3, bT]))
 (ck (.bin .add) [.inp 3, zi 1] <|
.again 0 [bi .add (.inp 3) (zi 1)]))
 (.ret (.tup [zi 0, bF]))
theorem run_lockbarref05_Way : runF E 181 [.inp 0, .inp 1, .inp 2] 3 = rt_lockbarref05_Way := by kernel_rfl
def rt_lockbarref05_Pos : RT :=
.seg [.call 3 [] 181 [.inp 0, .inp 1, .inp 2] false] <|
 ck (.tproj 0) [.inp 3] <|
 ck (.tproj 1) [.inp 3] <|
 ckg (tp 1 (.inp 3)) true (.bin .neq) [.inp 0, .int .u8 2] <|
 ck .pick [tp 1 (.inp 3), q0_153, bF] <|
.cond (pk (tp 1 (.inp 3)) q0_153 bF)
 (.ret (.tup [zi (-1), bT]))
 (.ret (.tup [tp 0 (.inp 3), tp 1 (.inp 3)]))
theorem run_lockbarref05_Pos : runF E 180 [.inp 0, .inp 1, .inp 2] 3 = rt_lockbarref05_Pos := by kernel_rfl
def rt_lockbarref06_At : RT :=
 ck (.isAgg 11) [.agg (ipx 0 11)] <|
 ck (.isAgg 2) [.agg [.inp 11, .inp 12]] <|
.seg [.chk [] (.bin .lss) [.inp 11, zi 0],
.chk [(q0_154, false)] .len [.inp 0],
.chk [(q0_154, false)] (.bin .geq) [.inp 11, ln (.inp 0)],
.chk [] .pick [q0_154, bT, q0_155],
.chk [(q0_156, false)] (.bin .lss) [.inp 12, zi 0],
.chk [] .pick [q0_156, bT, q0_157],
.chk [(q0_158, false)] (.eidx 11) [.inp 0, .inp 11],
.chk [(q0_158, false)] (.eoff 0) [q0_159],
.chk [(q0_158, false)] (.eload 1 false) [q0_160],
.call 13 [(q0_158, false)] 224 [q0_161] false,
.chk [(q0_158, false)] (.bin .geq) [.inp 12, .inp 13],
.chk [] .pick [q0_158, bT, q0_162]] <|
.seg [.bind 14 (q0_158),
.bind 15 (pk q0_158 bT q0_162)] <|
.cond (.inp 15)
 (.ret (.tup [.agg [.int .u8 0, zi 0, zi 0, zi 0, zi 0, zi 0, zi 0, zi 0, zi 0, zi 0, zi 0], bF]))
 (ck (.eidx 11) [.inp 0, .inp 11] <|
 ck (.eload 11 true) [q0_159] <|
 ck (.isAgg 11) [q0_163] <|
.ret (.tup [.agg (ptx (q0_163) 0 11), bT]))
theorem run_lockbarref06_At : runF E 228 [.agg (ips 0 11), .agg [.inp 11, .inp 12]] 13 = rt_lockbarref06_At := by kernel_rfl
def rt_lockbarref06_Step : RT :=
 ck (.isAgg 11) [.agg (ipx 0 11)] <|
 ck (.isAgg 3) [q0_164] <|
 ck (.bin .lss) [.inp 11, zi 0] <|
 ckg (q0_154) false .len [.inp 0] <|
 ckg (q0_154) false (.bin .geq) [.inp 11, ln (.inp 0)] <|
 ck .pick [q0_154, bT, q0_155] <|
.cond (q0_156)
 (.ret (.tup [zi 0, bF]))
 (.seg [.chk [] (.eidx 11) [.inp 0, .inp 11],
.chk [] (.eoff 0) [q0_159],
.chk [] (.eload 1 false) [q0_160],
.call 14 [] 181 [q0_161, .inp 12, .inp 13] false,
.chk [] (.tproj 0) [.inp 14],
.chk [] (.tproj 1) [.inp 14]] <|
.ret (.tup [tp 0 (.inp 14), tp 1 (.inp 14)]))
theorem run_lockbarref06_Step : runF E 155 [.agg (ips 0 11), .agg [.inp 11, .inp 12, .inp 13]] 14 = rt_lockbarref06_Step := by kernel_rfl
def rt_lockbarref10_there : RT :=
 ck (.isAgg 11) [.agg (ipx 0 11)] <|
 ck (.isAgg 3) [q0_164] <|
.seg [.call 14 [] 155 [.agg (ipx 0 11), q0_164] false] <|
 ck (.tproj 0) [.inp 14] <|
 ck (.tproj 1) [.inp 14] <|
.ret (tp 1 (.inp 14))
theorem run_lockbarref10_there : runF E 179 [.agg (ips 0 11), .agg [.inp 11, .inp 12, .inp 13]] 14 = rt_lockbarref10_there := by kernel_rfl
def rt_lockbarref10_Over : RT :=
 ck (.isAgg 11) [.agg (ipx 0 11)] <|
 ck (.bin .lss) [.inp 11, zi 0] <|
 ckg (q0_154) false .len [.inp 2] <|
 ckg (q0_154) false (.bin .geq) [.inp 11, ln (.inp 2)] <|
 ck .pick [q0_154, bT, q0_165] <|
.cond (pk q0_154 bT q0_165)
 (.ret (.nils))
 (ck (.eidx 3) [.inp 2, .inp 11] <|
 ck (.eoff 2) [ei 3 (.inp 2) (.inp 11)] <|
 ck (.eload 1 false) [q0_166] <|
.seg [.chk [] (.szs 3) [q0_167],
.chk [] .app [.app .lst [], q0_167]] <|
.ret (.app .app [.app .lst [], q0_167]))
theorem run_lockbarref10_Over : runF E 75 [.agg (ips 0 11), .inp 11] 12 = rt_lockbarref10_Over := by kernel_rfl
def rt_lockbarref10_Point : RT :=
 ck (.isAgg 11) [.agg (ipx 0 11)] <|
 ck (.isAgg 3) [q0_164] <|
.seg [.call 14 [] 179 [.agg (ipx 0 11), q0_164] false] <|
 ck (.un .not) [.inp 14] <|
 ckg (nt (.inp 14)) false (.eidx 11) [.inp 0, .inp 11] <|
 ckg (nt (.inp 14)) false (.eoff 0) [q0_159] <|
 ckg (nt (.inp 14)) false (.eload 1 false) [q0_160] <|
 ckg (nt (.inp 14)) false (.bin .neq) [q0_161, .int .u8 2] <|
 ck .pick [nt (.inp 14), bT, q0_168] <|
.seg [.bind 15 (pk (nt (.inp 14)) bT q0_168)] <|
.cond (.inp 15)
 (.ret (.tup [zi 0, zi 0, bF]))
 (.seg [.call 16 [] 180 [.int .u8 2, .inp 12, .inp 13] false] <|
 ck (.tproj 0) [.inp 16] <|
 ck (.tproj 1) [.inp 16] <|
.ret (.tup [.inp 11, tp 0 (.inp 16), bT]))
theorem run_lockbarref10_Point : runF E 154 [.agg (ips 0 11), .agg [.inp 11, .inp 12, .inp 13]] 14 = rt_lockbarref10_Point := by kernel_rfl
end
end Go.Lb.LK
namespace Go.Lb.LK
open Go Go.Lb Go.Proofs
noncomputable section
@[simp] def q1_0 : SE := .agg [.inp 11, .inp 12, .inp 13]
@[simp] def q1_1 : SE := .agg [tp 0 (.inp 15), tp 1 (.inp 15), .inp 14]
@[simp] def q1_2 : SE := .app .lst [q1_1]
@[simp] def q1_3 : SE := bi .lss (.inp 18) (ln (.inp 3))
@[simp] def q1_4 : SE := pk q1_3 (tp 1 (.inp 16)) bF
@[simp] def q1_5 : SE := el 4 (ei 4 (.inp 3) (.inp 18))
@[simp] def q1_6 : SE := pt 0 q1_5
@[simp] def q1_7 : SE := bi .eql q1_6 (.inp 11)
@[simp] def q1_8 : SE := pt 1 q1_5
@[simp] def q1_9 : SE := bi .eql q1_8 (tp 0 (.inp 16))
@[simp] def q1_10 : SE := pk q1_7 q1_9 bF
@[simp] def q1_11 : SE := pt 2 q1_5
@[simp] def q1_12 : SE := pt 3 q1_5
@[simp] def q1_13 : SE := .agg [q1_11, q1_12, .inp 14]
@[simp] def q1_14 : SE := .app .lst [q1_13]
@[simp] def q1_15 : SE := .app .app [.inp 17, q1_14]
@[simp] def q1_16 : SE := bi .add (.inp 18) (zi 1)
@[simp] def q1_17 : SE := .agg [.inp 0, .inp 1, .inp 2]
@[simp] def q1_18 : SE := bi .neq (ln (.inp 0)) (ln (.inp 1))
@[simp] def q1_19 : SE := bi .lss (.inp 2) (ln (.inp 0))
@[simp] def q1_20 : SE := el 3 (ei 3 (.inp 0) (.inp 2))
@[simp] def q1_21 : SE := el 3 (ei 3 (.inp 1) (.inp 2))
@[simp] def q1_22 : SE := .app (.eqa [ some .i64, some .i64, some .i64] true) [q1_20, q1_21]
@[simp] def q1_23 : SE := bi .eql (.inp 0) (.inp 3)
@[simp] def q1_24 : SE := bi .eql (.inp 1) (.inp 4)
@[simp] def q1_25 : SE := pk q1_23 q1_24 bF
@[simp] def q1_26 : SE := ei 3 (.inp 13) (.inp 15)
@[simp] def q1_27 : SE := ei 3 (.inp 16) (.inp 18)
@[simp] def q1_28 : SE := bi .lss (.inp 1) (zi 32)
@[simp] def q1_29 : SE := pk (bi .geq (.inp 1) (zi 0)) q1_28 bF
@[simp] def q1_30 : SE := .app (.conv .u64) [.inp 1]
@[simp] def q1_31 : SE := bi .shr (.inp 0) q1_30
@[simp] def q1_32 : SE := bi .and q1_31 (.int .u32 1)
@[simp] def q1_33 : SE := bi .eql q1_32 (.int .u32 1)
@[simp] def q1_34 : SE := bi .lss (.inp 40) (zi 24)
@[simp] def q1_35 : SE := .agg (ap [.inp 11] (ap (ipx 41 24) (ipx 36 4)))
@[simp] def q1_36 : SE := .app (.aidx 24 1 1 1 false) [q1_35, .inp 40]
@[simp] def q1_37 : SE := bi .lss (.inp 40) (zi 0)
@[simp] def q1_38 : SE := bi .geq (.inp 40) (ln (.inp 0))
@[simp] def q1_39 : SE := pk q1_37 bT q1_38
@[simp] def q1_40 : SE := bi .geq (.inp 40) (zi 24)
@[simp] def q1_41 : SE := pk (.inp 42) bT (.inp 43)
@[simp] def q1_42 : SE := .app (.aidx 24 1 1 1 false) [.agg (ipx 11 29), .inp 40]
@[simp] def q1_43 : SE := bi .lss q1_42 (.inp 4)
@[simp] def q1_49 : SE := ei 11 (.inp 0) (.inp 40)
@[simp] def q1_50 : SE := .app (.eoff 0) [q1_49]
@[simp] def q1_51 : SE := e1 q1_50
@[simp] def q1_52 : SE := bi .neq q1_51 (.int .u8 2)
@[simp] def q1_53 : SE := pk q1_39 bT q1_52
@[simp] def q1_54 : SE := bi .lss (.inp 0) (zi (-1))
@[simp] def q1_55 : SE := pk q1_54 bT (bi .gtr (.inp 0) (zi 1))
@[simp] def q1_56 : SE := pk q1_55 bT (bi .lss (.inp 1) (zi 0))
@[simp] def q1_57 : SE := bi .gtr (.inp 1) (zi 1000)
@[simp] def q1_58 : SE := .app (.eqa [ some .i64, some .i64, none] false) [q1_17, .inp 5]
@[simp] def q1_59 : SE := .app (.eoff 0) [ei 3 (.inp 0) (.inp 2)]
@[simp] def q1_60 : SE := .app (.eoff 0) [ei 3 (.inp 1) (.inp 3)]
@[simp] def q1_61 : SE := e1 q1_59
@[simp] def q1_62 : SE := e1 q1_60
@[simp] def q1_63 : SE := bi .eql q1_61 q1_62
@[simp] def q1_64 : SE := .app (.eoff 1) [ei 3 (.inp 0) (.inp 2)]
@[simp] def q1_65 : SE := .app (.eoff 1) [ei 3 (.inp 1) (.inp 3)]
@[simp] def q1_66 : SE := e1 q1_64
@[simp] def q1_67 : SE := e1 q1_65
@[simp] def q1_68 : SE := bi .neq q1_66 q1_67
@[simp] def q1_69 : SE := bi .gtr (.inp 0) (zi 1073741824)
@[simp] def q1_70 : SE := pk (bi .lss (.inp 0) (zi 1)) bT q1_69
@[simp] def q1_71 : SE := bi .lss (ln (.inp 3)) (zi 1)
@[simp] def q1_72 : SE := pk q1_70 bT q1_71
@[simp] def q1_73 : SE := bi .gtr (ln (.inp 3)) (zi 12)
@[simp] def q1_74 : SE := pk q1_72 bT q1_73
@[simp] def q1_75 : SE := bi .gtr (ln (.inp 4)) (zi 2)
@[simp] def q1_76 : SE := pk q1_74 bT q1_75
@[simp] def q1_77 : SE := bi .lss (.inp 6) (.int .u8 1)
@[simp] def q1_78 : SE := pk q1_76 bT q1_77
@[simp] def q1_79 : SE := bi .geq (.inp 6) (.int .u8 5)
@[simp] def q1_80 : SE := pk q1_78 bT q1_79
@[simp] def q1_81 : SE := pk q1_80 bT (bi .lss (.inp 7) (zi 0))
@[simp] def q1_82 : SE := bi .gtr (.inp 7) (ln (.inp 3))
@[simp] def q1_83 : SE := pk q1_81 bT q1_82
@[simp] def q1_84 : SE := bi .lss (.inp 21) (zi 0)
@[simp] def q1_85 : SE := pk q1_83 bT q1_84
@[simp] def q1_86 : SE := bi .gtr (.inp 21) (zi 1073741824)
@[simp] def q1_87 : SE := pk q1_85 bT q1_86
@[simp] def q1_88 : SE := .app .app [.app .lst [], .inp 3]
@[simp] def q1_89 : SE := .app .app [q1_88, .inp 4]
@[simp] def q1_90 : SE := ln q1_89
@[simp] def q1_91 : SE := .app (.rowget 3 0 1 false) [q1_89, .inp 35]
@[simp] def q1_92 : SE := .app (.rowget 3 0 1 false) [q1_89, .inp 34]
@[simp] def q1_93 : SE := bi .add (.inp 35) (zi 1)
@[simp] def q1_94 : SE := el 3 (ei 3 (.inp 5) (.inp 36))
@[simp] def q1_95 : SE := pt 2 q1_94
@[simp] def q1_96 : SE := bi .lss q1_95 (zi 0)
@[simp] def q1_97 : SE := bi .gtr q1_95 (ln (.inp 3))
@[simp] def q1_98 : SE := pk q1_96 bT q1_97
@[simp] def q1_99 : SE := pt 0 q1_94
@[simp] def q1_100 : SE := bi .lss q1_99 (zi 0)
@[simp] def q1_101 : SE := pk q1_98 bT q1_100
@[simp] def q1_102 : SE := bi .geq q1_99 (zi 24)
@[simp] def q1_103 : SE := pk q1_101 bT q1_102
@[simp] def q1_104 : SE := pt 1 q1_94
@[simp] def q1_105 : SE := bi .lss q1_104 (zi 0)
@[simp] def q1_106 : SE := pk q1_103 bT q1_105
@[simp] def q1_107 : SE := bi .gtr q1_104 (zi 1)
@[simp] def q1_108 : SE := .app (.mm true) [.inp 7, zi 0]
@[simp] def q1_109 : SE := .app (.eoff 0) [ei 3 (.inp 3) (.inp 24)]
@[simp] def q1_110 : SE := e1 q1_109
@[simp] def q1_111 : SE := .app .lst [q1_110]
@[simp] def q1_112 : SE := bi .add (.inp 24) (zi 1)
@[simp] def q1_113 : SE := bi .lss (.inp 26) (ln (.inp 4))
@[simp] def q1_114 : SE := .app (.eoff 0) [ei 3 (.inp 4) (.inp 26)]
@[simp] def q1_115 : SE := e1 q1_114
@[simp] def q1_116 : SE := .app .lst [q1_115]
@[simp] def q1_117 : SE := bi .lss (.inp 25) (ln (.inp 24))
@[simp] def q1_118 : SE := ei 1 (.inp 24) (.inp 25)
@[simp] def q1_119 : SE := e1 q1_118
@[simp] def q1_120 : SE := bi .add (.inp 25) (zi 1)
@[simp] def q1_121 : SE := el 3 (ei 3 (.inp 5) (.inp 24))
@[simp] def q1_122 : SE := pt 2 q1_121
@[simp] def q1_123 : SE := bi .geq q1_122 q1_108
@[simp] def q1_124 : SE := bi .eql q1_122 (ln (.inp 3))
@[simp] def q1_125 : SE := pk q1_124 (.inp 20) bF
@[simp] def q1_126 : SE := nt q1_125
@[simp] def q1_127 : SE := .agg [pt 0 q1_121, pt 1 q1_121, q1_122]
@[simp] def q1_128 : SE := .app .lst [q1_127]
@[simp] def q1_129 : SE := ei 3 (.inp 24) (.inp 25)
@[simp] def q1_130 : SE := .app (.eoff 0) [q1_129]
@[simp] def q1_131 : SE := e1 q1_130
@[simp] def q1_132 : SE := .app (.eoff 1) [q1_129]
@[simp] def q1_133 : SE := .agg [.inp 1, .inp 2, .inp 3]
@[simp] def q1_134 : SE := ei 1 (.inp 46) (.inp 47)
@[simp] def q1_135 : SE := bi .eql (.inp 0) (.inp 23)
@[simp] def q1_136 : SE := pk q1_135 (.inp 46) bF
@[simp] def q1_137 : SE := pk q1_136 (.inp 47) bF
@[simp] def q1_138 : SE := pk q1_137 (.inp 48) bF
@[simp] def q1_139 : SE := bi .eql (.inp 6) (.inp 29)
@[simp] def q1_140 : SE := pk q1_138 q1_139 bF
@[simp] def q1_141 : SE := bi .eql (.inp 7) (.inp 30)
@[simp] def q1_142 : SE := pk q1_140 q1_141 bF
@[simp] def q1_143 : SE := .app (.eqa [ none, none, none, none, none, none, none, none, none, none, none, none] false) [.agg (ipx 8 12), .agg (ipx 31 12)]
@[simp] def q1_144 : SE := pk q1_142 q1_143 bF
@[simp] def q1_145 : SE := .app (.eqb false) [.inp 20, .inp 43]
@[simp] def q1_146 : SE := pk q1_144 q1_145 bF
@[simp] def q1_147 : SE := bi .eql (.inp 21) (.inp 44)
@[simp] def q1_148 : SE := pk q1_146 q1_147 bF
@[simp] def q1_149 : SE := .app (.eqb false) [.inp 22, .inp 45]
@[simp] def q1_152 : SE := ei 23 (.inp 1) (.inp 148)
@[simp] def q1_153 : SE := ei 23 (.inp 75) (.inp 148)
@[simp] def q1_154 : SE := bi .eql (.inp 0) (.inp 74)
@[simp] def q1_155 : SE := .app (.eqa [ some .i64, some .i64, none, some .i64, some .i64, none, some .i64, some .i64, none, some .i64, some .i64, none, some .i64, some .i64, none, some .i64, some .i64, none, some .i64, some .i64, none, some .i64, some .i64, none, some .i64, some .i64, none, some .i64, some .i64, none, some .i64, some .i64, none, some .i64, some .i64, none, some .i64, some .i64, none, some .i64, some .i64, none, some .i64, some .i64, none, some .i64, some .i64, none, some .i64, some .i64, none, some .i64, some .i64, none, some .i64, some .i64, none, some .i64, some .i64, none, some .i64, some .i64, none, some .i64, some .i64, none, some .i64, some .i64, none, some .i64, some .i64, none] false) [.agg (ipx 2 72), .agg (ipx 76 72)]
@[simp] def q1_156 : SE := bi .gtr (ln (.inp 1)) (zi 6)
@[simp] def q1_157 : SE := pk q1_156 bT (bi .lss (.inp 0) (zi 1))
@[simp] def q1_158 : SE := bi .lss (.inp 75) (ln (.inp 1))
@[simp] def q1_159 : SE := ei 23 (.inp 1) (.inp 75)
@[simp] def q1_160 : SE := el 23 q1_159
@[simp] def q1_161 : SE := .agg (ptx (q1_160) 0 23)
@[simp] def q1_162 : SE := pt 0 q1_160
@[simp] def q1_163 : SE := bi .geq q1_162 (.inp 0)
@[simp] def q1_164 : SE := pk (nt (.inp 76)) bT q1_163
@[simp] def q1_165 : SE := bi .gtr (.inp 75) (zi 0)
@[simp] def q1_166 : SE := bi .sub (.inp 75) (zi 1)
@[simp] def q1_167 : SE := ei 23 (.inp 1) q1_166
@[simp] def q1_168 : SE := .app (.eoff 0) [q1_167]
@[simp] def q1_169 : SE := e1 q1_168
@[simp] def q1_170 : SE := bi .leq q1_162 q1_169
@[simp] def q1_171 : SE := pk q1_165 q1_170 bF
@[simp] def q1_172 : SE := ei 23 (.inp 1) (.inp 81)
@[simp] def q1_173 : SE := bi .add (.inp 75) (zi 1)
@[simp] def q1_174 : SE := .app (.aidx 24 3 2 3 true) [.agg (ipx 0 74), .inp 76]
@[simp] def q1_175 : SE := .app (.eoff 0) [q1_159]
@[simp] def q1_176 : SE := .app (.eoff 6) [q1_159]
@[simp] def q1_177 : SE := e1 q1_176
@[simp] def q1_178 : SE := bi .neq q1_177 (.int .u8 1)
def rt_lockbarref10_Wants : RT :=
 ck (.isAgg 11) [.agg (ipx 0 11)] <|
 ck (.isAgg 3) [q1_0] <|
.seg [.call 15 [] 154 [.agg (ipx 0 11), q1_0] false] <|
 ck (.tproj 0) [.inp 15] <|
 ck (.tproj 1) [.inp 15] <|
 ck (.tproj 2) [.inp 15] <|
.cond (tp 2 (.inp 15))
 (.seg [.chk [] .isOne [tp 0 (.inp 15)],
.chk [] .isOne [tp 1 (.inp 15)],
.chk [] .isOne [.inp 14]] <|
 ck (.isAgg 3) [q1_1] <|
.seg [.chk [] (.szs 3) [q1_2],
.chk [] .app [.nils, q1_2]] <|
.seg [.call 16 [] 155 [.agg (ipx 0 11), q1_0] false] <|
 ck (.tproj 0) [.inp 16] <|
 ck (.tproj 1) [.inp 16] <|
.loop 0 17 [.app .app [.nils, q1_2], zi 0] <|
 ck .len [.inp 3] <|
 ck (.bin .lss) [.inp 18, ln (.inp 3)] <|
 ck .pick [q1_3, tp 1 (.inp 16), bF] <|
.cond (q1_4)
 (ck (.eidx 4) [.inp 3, .inp 18] <|
 ck (.eload 4 true) [ei 4 (.inp 3) (.inp 18)] <|
 ck (.isAgg 4) [q1_5] <|
 ck (.bin .eql) [q1_6, .inp 11] <|
 ckg (q1_7) true (.bin .eql) [q1_8, tp 0 (.inp 16)] <|
 ck .pick [q1_7, q1_9, bF] <|
.seg [.bind 19 (q1_10)] <|
.cond (.inp 19)
 (.seg [.chk [] .isOne [q1_11],
.chk [] .isOne [q1_12],
.chk [] .isOne [.inp 14]] <|
 ck (.isAgg 3) [q1_13] <|
.seg [.chk [] (.szs 3) [q1_14],
.chk [] .app [.inp 17, q1_14]] <|
.seg [.bind 20 (q1_14),
.bind 21 (q1_15)] <|
 ck (.bin .add) [.inp 18, zi 1] <|
.again 0 [.inp 21, q1_16])
 (ck (.bin .add) [.inp 18, zi 1] <|
.again 0 [.inp 17, q1_16]))
 (.ret (.inp 17)))
 (.seg [.call 16 [] 155 [.agg (ipx 0 11), q1_0] false] <|
 ck (.tproj 0) [.inp 16] <|
 ck (.tproj 1) [.inp 16] <|
.loop 0 17 [.nils, zi 0] <|
 ck .len [.inp 3] <|
 ck (.bin .lss) [.inp 18, ln (.inp 3)] <|
 ck .pick [q1_3, tp 1 (.inp 16), bF] <|
.cond (q1_4)
 (ck (.eidx 4) [.inp 3, .inp 18] <|
 ck (.eload 4 true) [ei 4 (.inp 3) (.inp 18)] <|
 ck (.isAgg 4) [q1_5] <|
 ck (.bin .eql) [q1_6, .inp 11] <|
 ckg (q1_7) true (.bin .eql) [q1_8, tp 0 (.inp 16)] <|
 ck .pick [q1_7, q1_9, bF] <|
.seg [.bind 19 (q1_10)] <|
.cond (.inp 19)
 (.seg [.chk [] .isOne [q1_11],
.chk [] .isOne [q1_12],
.chk [] .isOne [.inp 14]] <|
 ck (.isAgg 3) [q1_13] <|
.seg [.chk [] (.szs 3) [q1_14],
.chk [] .app [.inp 17, q1_14]] <|
.seg [.bind 20 (q1_14),
.bind 21 (q1_15)] <|
 ck (.bin .add) [.inp 18, zi 1] <|
.again 0 [.inp 21, q1_16])
 (ck (.bin .add) [.inp 18, zi 1] <|
.again 0 [.inp 17, q1_16]))
 (.ret (.inp 17)))
theorem run_lockbarref10_Wants : runF E 121 [.agg (ips 0 11), .agg [.inp 11, .inp 12, .inp 13], .inp 14] 15 = rt_lockbarref10_Wants := by kernel_rfl
def rt_lockbarref11_Own : RT :=
 ck (.isAgg 3) [q1_17] <|
.seg [.chk [] (.szs 3) [.inp 2],
.chk [] .app [.app .lst [], .inp 2]] <|
 ck (.isAgg 3) [.agg [.inp 0, .inp 1, .row 10]] <|
.ret (.agg [.inp 0, .inp 1, .app .app [.app .lst [], .inp 2]])
theorem run_lockbarref11_Own : runF E 74 [.agg [.inp 0, .inp 1, .inp 2]] 3 = rt_lockbarref11_Own := by kernel_rfl
def rt_lockbarref11_Steps : RT :=
 ck .len [.inp 0] <|
 ck .len [.inp 1] <|
 ck (.bin .neq) [ln (.inp 0), ln (.inp 1)] <|
.cond (q1_18)
 (.ret (bF))
 (.loop 0 2 [zi 0] <|
 ck .len [.inp 0] <|
 ck (.bin .lss) [.inp 2, ln (.inp 0)] <|
.cond (q1_19)
 (.seg [.chk [] (.eidx 3) [.inp 0, .inp 2],
.chk [] (.eload 3 true) [ei 3 (.inp 0) (.inp 2)],
.chk [] (.eidx 3) [.inp 1, .inp 2],
.chk [] (.eload 3 true) [ei 3 (.inp 1) (.inp 2)],
.chk [] (.eqa [ some .i64, some .i64, some .i64] true) [q1_20, q1_21]] <|
.cond (q1_22)
 (.ret (bF))
 (ck (.bin .add) [.inp 2, zi 1] <|
.again 0 [bi .add (.inp 2) (zi 1)]))
 (.ret (bT)))
theorem run_lockbarref11_Steps : runF E 112 [.inp 0, .inp 1] 2 = rt_lockbarref11_Steps := by kernel_rfl
def rt_lockbarref11_Same : RT :=
 ck (.isAgg 3) [q1_17] <|
 ck (.isAgg 3) [.agg [.inp 3, .inp 4, .inp 5]] <|
 ck (.bin .eql) [.inp 0, .inp 3] <|
 ckg (q1_23) true (.bin .eql) [.inp 1, .inp 4] <|
 ck .pick [q1_23, q1_24, bF] <|
.seg [.call 6 [(q1_25, true)] 112 [.inp 2, .inp 5] false] <|
 ck .pick [q1_25, .inp 6, bF] <|
.seg [.bind 7 (pk q1_25 (.inp 6) bF)] <|
.ret (.inp 7)
theorem run_lockbarref11_Same : runF E 111 [.agg [.inp 0, .inp 1, .inp 2], .agg [.inp 3, .inp 4, .inp 5]] 6 = rt_lockbarref11_Same := by kernel_rfl
def rt_lockbarref13_Of : RT :=
 ck (.isAgg 11) [.agg (ipx 0 11)] <|
 ck (.isAgg 3) [q1_0] <|
 ck .len [.inp 13] <|
.loop 0 14 [.nils, zi 0] <|
 ck (.bin .lss) [.inp 15, ln (.inp 13)] <|
.cond (bi .lss (.inp 15) (ln (.inp 13)))
 (.seg [.chk [] (.eidx 3) [.inp 13, .inp 15],
.chk [] (.eload 3 true) [q1_26],
.call 16 [] 121 [.agg (ipx 0 11), el 3 q1_26, .inp 15] false,
.chk [] (.szs 3) [.inp 16],
.chk [] .app [.inp 14, .inp 16]] <|
 ck (.bin .add) [.inp 15, zi 1] <|
.again 0 [.app .app [.inp 14, .inp 16], bi .add (.inp 15) (zi 1)])
 (.seg [.call 16 [] 75 [.agg (ipx 0 11), .inp 12] false] <|
.loop 0 17 [.inp 14, zi 0] <|
 ck .len [.inp 16] <|
 ck (.bin .lss) [.inp 18, ln (.inp 16)] <|
.cond (bi .lss (.inp 18) (ln (.inp 16)))
 (.seg [.chk [] (.eidx 3) [.inp 16, .inp 18],
.chk [] (.eload 3 true) [q1_27],
.call 19 [] 121 [.agg (ipx 0 11), el 3 q1_27, ln (.inp 13)] false,
.chk [] (.szs 3) [.inp 19],
.chk [] .app [.inp 17, .inp 19]] <|
 ck (.bin .add) [.inp 18, zi 1] <|
.again 0 [.app .app [.inp 17, .inp 19], q1_16])
 (.ret (.inp 17)))
theorem run_lockbarref13_Of : runF E 76 [.agg (ips 0 11), .agg [.inp 11, .inp 12, .inp 13]] 14 = rt_lockbarref13_Of := by kernel_rfl
def rt_lockbarref15_New : RT :=
.ret (.agg [zi 65535, zi 0, zi 0, zi 0, zi 0, zi 0, zi 0, zi 0, zi 0, zi 0, zi 0, zi 0, zi 0, zi 0, zi 0, zi 0, zi 0, zi 0, zi 0, zi 0, zi 0, zi 0, zi 0, zi 0, zi 0, .int .u32 0, .int .u32 0, .int .u32 0, .int .u32 0])
theorem run_lockbarref15_New : runF E 38 [] 0 = rt_lockbarref15_New := by kernel_rfl
def rt_lockbarref15_bit : RT :=
 ck (.bin .geq) [.inp 1, zi 0] <|
 ckg (bi .geq (.inp 1) (zi 0)) true (.bin .lss) [.inp 1, zi 32] <|
 ck .pick [bi .geq (.inp 1) (zi 0), q1_28, bF] <|
 ckg (q1_29) true (.conv .u64) [.inp 1] <|
 ckg (q1_29) true (.bin .shr) [.inp 0, q1_30] <|
 ckg (q1_29) true (.bin .and) [q1_31, .int .u32 1] <|
 ckg (q1_29) true (.bin .eql) [q1_32, .int .u32 1] <|
 ck .pick [q1_29, q1_33, bF] <|
.seg [.bind 2 (pk q1_29 q1_33 bF)] <|
.ret (.inp 2)
theorem run_lockbarref15_bit : runF E 69 [.inp 0, .inp 1] 2 = rt_lockbarref15_bit := by kernel_rfl
def rt_lockbarref15_Stale : RT :=
 ck (.isAgg 11) [.agg (ipx 0 11)] <|
 ck (.isAgg 29) [.agg (ipx 11 29)] <|
.seg [.call 40 [] 67 [.inp 11, .inp 6] false] <|
.ret (.inp 40)
theorem run_lockbarref15_Stale : runF E 22 [.agg (ips 0 11), .agg (ips 11 29)] 40 = rt_lockbarref15_Stale := by kernel_rfl
def rt_lockbarref15_rows : RT :=
 ck (.isAgg 11) [.agg (ipx 0 11)] <|
 ck (.isAgg 29) [.agg (ipx 11 29)] <|
.loop 0 40 (ap [zi 0] (ipx 12 24)) <|
 ck (.bin .lss) [.inp 40, zi 24] <|
.cond (q1_34)
 (.seg [.call 65 [] 22 [.agg (ipx 0 11), q1_35] false,
.chk [] (.un .not) [.inp 65],
.call 66 [(nt (.inp 65), true)] 69 [.inp 36, .inp 40] false,
.chk [(nt (.inp 65), true)] (.un .not) [.inp 66],
.chk [] .pick [nt (.inp 65), nt (.inp 66), bF],
.chk [] (.inr 24) [.inp 40],
.chk [] (.aidx 24 1 1 1 false) [q1_35, .inp 40],
.call 67 [] 117 [pk (nt (.inp 65)) (nt (.inp 66)) bF, q1_36] false,
.chk [] (.inr 24) [.inp 40],
.chk [] (.inr 24) [.inp 40],
.chk [] .isOne [.inp 67]] <|
.seg [.bind 68 (q1_36)] <|
 ck (.bin .add) [.inp 40, zi 1] <|
.again 0 [bi .add (.inp 40) (zi 1), .app (.cellset 1 24 1 0 1 1) [.inp 40, .inp 41, .agg [.inp 67]], .app (.cellset 1 24 1 0 1 2) [.inp 40, .inp 42, .agg [.inp 67]], .app (.cellset 1 24 1 0 1 3) [.inp 40, .inp 43, .agg [.inp 67]], .app (.cellset 1 24 1 0 1 4) [.inp 40, .inp 44, .agg [.inp 67]], .app (.cellset 1 24 1 0 1 5) [.inp 40, .inp 45, .agg [.inp 67]], .app (.cellset 1 24 1 0 1 6) [.inp 40, .inp 46, .agg [.inp 67]], .app (.cellset 1 24 1 0 1 7) [.inp 40, .inp 47, .agg [.inp 67]], .app (.cellset 1 24 1 0 1 8) [.inp 40, .inp 48, .agg [.inp 67]], .app (.cellset 1 24 1 0 1 9) [.inp 40, .inp 49, .agg [.inp 67]], .app (.cellset 1 24 1 0 1 10) [.inp 40, .inp 50, .agg [.inp 67]], .app (.cellset 1 24 1 0 1 11) [.inp 40, .inp 51, .agg [.inp 67]], .app (.cellset 1 24 1 0 1 12) [.inp 40, .inp 52, .agg [.inp 67]], .app (.cellset 1 24 1 0 1 13) [.inp 40, .inp 53, .agg [.inp 67]], .app (.cellset 1 24 1 0 1 14) [.inp 40, .inp 54, .agg [.inp 67]], .app (.cellset 1 24 1 0 1 15) [.inp 40, .inp 55, .agg [.inp 67]], .app (.cellset 1 24 1 0 1 16) [.inp 40, .inp 56, .agg [.inp 67]], .app (.cellset 1 24 1 0 1 17) [.inp 40, .inp 57, .agg [.inp 67]], .app (.cellset 1 24 1 0 1 18) [.inp 40, .inp 58, .agg [.inp 67]], .app (.cellset 1 24 1 0 1 19) [.inp 40, .inp 59, .agg [.inp 67]], .app (.cellset 1 24 1 0 1 20) [.inp 40, .inp 60, .agg [.inp 67]], .app (.cellset 1 24 1 0 1 21) [.inp 40, .inp 61, .agg [.inp 67]], .app (.cellset 1 24 1 0 1 22) [.inp 40, .inp 62, .agg [.inp 67]], .app (.cellset 1 24 1 0 1 23) [.inp 40, .inp 63, .agg [.inp 67]], .app (.cellset 1 24 1 0 1 24) [.inp 40, .inp 64, .agg [.inp 67]]])
 (ck (.isAgg 29) [q1_35] <|
.ret (q1_35))
theorem run_lockbarref15_rows : runF E 72 [.agg (ips 0 11), .agg (ips 11 29)] 40 = rt_lockbarref15_rows := by kernel_rfl
def rt_lockbarref15_Take : RT :=
 ck (.isAgg 11) [.agg (ipx 0 11)] <|
 ck (.isAgg 29) [.agg (ipx 11 29)] <|
 ck (.isAgg 4) [.agg (ipx 40 4)] <|
 ck (.isAgg 4) [.agg (ipx 40 4)] <|
.seg [.call 44 [] 72 [.agg (ipx 0 11), .agg (ap [zi 0] (ap (ipx 12 24) (ipx 40 4)))] false] <|
 ck (.isAgg 29) [.inp 44] <|
.ret (.agg (ptx (.inp 44) 0 29))
theorem run_lockbarref15_Take : runF E 37 [.agg (ips 0 11), .agg (ips 11 29), .agg (ips 40 4)] 44 = rt_lockbarref15_Take := by kernel_rfl
def rt_lockbarref15_Occupied : RT :=
 ck (.isAgg 11) [.agg (ipx 0 11)] <|
 ck (.isAgg 29) [.agg (ipx 11 29)] <|
 ck (.bin .lss) [.inp 40, zi 0] <|
 ckg (q1_37) false .len [.inp 0] <|
 ckg (q1_37) false (.bin .geq) [.inp 40, ln (.inp 0)] <|
 ck .pick [q1_37, bT, q1_38] <|
 ckg (q1_39) false (.bin .geq) [.inp 40, zi 24] <|
 ck .pick [q1_39, bT, q1_40] <|
.seg [.bind 41 (pk q1_39 bT q1_40)] <|
.cond (.inp 41)
 (.ret (bT))
 (.seg [.call 42 [] 22 [.agg (ipx 0 11), .agg (ipx 11 29)] false,
.call 43 [(.inp 42, false)] 69 [.inp 36, .inp 40] false,
.chk [] .pick [.inp 42, bT, .inp 43],
.chk [(q1_41, false)] (.inr 24) [.inp 40],
.chk [(q1_41, false)] (.aidx 24 1 1 1 false) [.agg (ipx 11 29), .inp 40],
.chk [(q1_41, false)] (.bin .lss) [q1_42, .inp 4],
.chk [] .pick [q1_41, bT, q1_43]] <|
.seg [.bind 44 (pk q1_41 bT q1_43),
.bind 45 (q1_42),
.bind 46 (q1_43)] <|
.ret (.inp 44))
theorem run_lockbarref15_Occupied : runF E 24 [.agg (ips 0 11), .agg (ips 11 29), .inp 40] 41 = rt_lockbarref15_Occupied := by kernel_rfl
def rt_lockbarref15_At : RT :=
 ck (.isAgg 11) [.agg (ipx 0 11)] <|
 ck (.isAgg 29) [.agg (ipx 11 29)] <|
 ck (.bin .lss) [.inp 40, zi 0] <|
 ckg (q1_37) false .len [.inp 0] <|
 ckg (q1_37) false (.bin .geq) [.inp 40, ln (.inp 0)] <|
 ck .pick [q1_37, bT, q1_38] <|
 ckg (q1_39) false (.eidx 11) [.inp 0, .inp 40] <|
 ckg (q1_39) false (.eoff 0) [q1_49] <|
 ckg (q1_39) false (.eload 1 false) [q1_50] <|
 ckg (q1_39) false (.bin .neq) [q1_51, .int .u8 2] <|
 ck .pick [q1_39, bT, q1_52] <|
.seg [.call 41 [(q1_53, false)] 22 [.agg (ipx 0 11), .agg (ipx 11 29)] false] <|
 ck .pick [q1_53, bT, .inp 41] <|
.seg [.bind 42 (q1_53),
.bind 43 (pk q1_53 bT (.inp 41))] <|
.cond (.inp 43)
 (.ret (zi (-1)))
 (.seg [.call 44 [] 69 [.inp 37, .inp 40] false,
.call 45 [] 69 [.inp 38, .inp 40] false] <|
 ck (.eqb false) [.inp 44, .inp 45] <|
.cond (.app (.eqb false) [.inp 44, .inp 45])
 (.ret (zi (-1)))
 (.cond (.inp 44)
 (.ret (zi 0))
 (.ret (zi 1))))
theorem run_lockbarref15_At : runF E 29 [.agg (ips 0 11), .agg (ips 11 29), .inp 40] 41 = rt_lockbarref15_At := by kernel_rfl
def rt_lockbarref16_Rest : RT :=
.ret (.agg [zi (-1), zi 0, bF])
theorem run_lockbarref16_Rest : runF E 71 [] 0 = rt_lockbarref16_Rest := by kernel_rfl
def rt_lockbarref16_Right : RT :=
 ck (.isAgg 3) [q1_17] <|
 ck (.bin .lss) [.inp 0, zi (-1)] <|
 ckg (q1_54) false (.bin .gtr) [.inp 0, zi 1] <|
 ck .pick [q1_54, bT, bi .gtr (.inp 0) (zi 1)] <|
 ckg (q1_55) false (.bin .lss) [.inp 1, zi 0] <|
 ck .pick [q1_55, bT, bi .lss (.inp 1) (zi 0)] <|
 ckg (q1_56) false (.bin .gtr) [.inp 1, zi 1000] <|
 ck .pick [q1_56, bT, q1_57] <|
.seg [.bind 3 (q1_56),
.bind 4 (pk q1_56 bT q1_57)] <|
.cond (.inp 4)
 (.ret (bF))
 (.seg [.chk [] (.bin .geq) [.inp 0, zi 0],
.call 5 [(bi .geq (.inp 0) (zi 0), false)] 71 [] false,
.chk [(bi .geq (.inp 0) (zi 0), false)] (.eqa [ some .i64, some .i64, none] false) [q1_17, .inp 5],
.chk [] .pick [bi .geq (.inp 0) (zi 0), bT, q1_58]] <|
.seg [.bind 6 (pk (bi .geq (.inp 0) (zi 0)) bT q1_58)] <|
.ret (.inp 6))
theorem run_lockbarref16_Right : runF E 30 [.agg [.inp 0, .inp 1, .inp 2]] 3 = rt_lockbarref16_Right := by kernel_rfl
def rt_lockbarref17_clash : RT :=
.loop 0 2 [zi 0] <|
 ck .len [.inp 0] <|
 ck (.bin .lss) [.inp 2, ln (.inp 0)] <|
.cond (q1_19)
 (.loop 1 3 [zi 0] <|
 ck .len [.inp 1] <|
 ck (.bin .lss) [.inp 3, ln (.inp 1)] <|
.cond (bi .lss (.inp 3) (ln (.inp 1)))
 (.seg [.chk [] (.eidx 3) [.inp 0, .inp 2],
.chk [] (.eoff 0) [ei 3 (.inp 0) (.inp 2)],
.chk [] (.eload 1 false) [q1_59],
.chk [] (.eidx 3) [.inp 1, .inp 3],
.chk [] (.eoff 0) [ei 3 (.inp 1) (.inp 3)],
.chk [] (.eload 1 false) [q1_60],
.chk [] (.bin .eql) [q1_61, q1_62],
.chk [(q1_63, true)] (.eidx 3) [.inp 0, .inp 2],
.chk [(q1_63, true)] (.eoff 1) [ei 3 (.inp 0) (.inp 2)],
.chk [(q1_63, true)] (.eload 1 false) [q1_64],
.chk [(q1_63, true)] (.eidx 3) [.inp 1, .inp 3],
.chk [(q1_63, true)] (.eoff 1) [ei 3 (.inp 1) (.inp 3)],
.chk [(q1_63, true)] (.eload 1 false) [q1_65],
.chk [(q1_63, true)] (.bin .neq) [q1_66, q1_67],
.chk [] .pick [q1_63, q1_68, bF]] <|
.seg [.bind 4 (q1_63),
.bind 5 (q1_68),
.bind 6 (pk q1_63 q1_68 bF)] <|
.cond (.inp 6)
 (.ret (bT))
 (ck (.bin .add) [.inp 3, zi 1] <|
.again 1 [bi .add (.inp 3) (zi 1)]))
 (ck (.bin .add) [.inp 2, zi 1] <|
.again 0 [bi .add (.inp 2) (zi 1)]))
 (.ret (bF))
theorem run_lockbarref17_clash : runF E 66 [.inp 0, .inp 1] 2 = rt_lockbarref17_clash := by kernel_rfl
def rt_lockbarref17_Right : RT :=
 ck (.isAgg 23) [.agg (ipx 0 23)] <|
 ck .len [.inp 3] <|
 ck (.bin .lss) [.inp 0, zi 1] <|
 ckg (bi .lss (.inp 0) (zi 1)) false (.bin .gtr) [.inp 0, zi 1073741824] <|
 ck .pick [bi .lss (.inp 0) (zi 1), bT, q1_69] <|
 ckg (q1_70) false (.bin .lss) [ln (.inp 3), zi 1] <|
 ck .pick [q1_70, bT, q1_71] <|
 ckg (q1_72) false (.bin .gtr) [ln (.inp 3), zi 12] <|
 ck .pick [q1_72, bT, q1_73] <|
 ckg (q1_74) false .len [.inp 4] <|
 ckg (q1_74) false (.bin .gtr) [ln (.inp 4), zi 2] <|
 ck .pick [q1_74, bT, q1_75] <|
 ckg (q1_76) false (.bin .lss) [.inp 6, .int .u8 1] <|
 ck .pick [q1_76, bT, q1_77] <|
 ckg (q1_78) false (.bin .geq) [.inp 6, .int .u8 5] <|
 ck .pick [q1_78, bT, q1_79] <|
 ckg (q1_80) false (.bin .lss) [.inp 7, zi 0] <|
 ck .pick [q1_80, bT, bi .lss (.inp 7) (zi 0)] <|
 ckg (q1_81) false (.bin .gtr) [.inp 7, ln (.inp 3)] <|
 ck .pick [q1_81, bT, q1_82] <|
 ckg (q1_83) false (.bin .lss) [.inp 21, zi 0] <|
 ck .pick [q1_83, bT, q1_84] <|
 ckg (q1_85) false (.bin .gtr) [.inp 21, zi 1073741824] <|
 ck .pick [q1_85, bT, q1_86] <|
.seg [.call 23 [(q1_87, false)] 66 [.inp 5, .inp 5] false] <|
 ck .pick [q1_87, bT, .inp 23] <|
.seg [.bind 24 (q1_72),
.bind 25 (q1_74),
.bind 26 (q1_76),
.bind 27 (q1_78),
.bind 28 (q1_80),
.bind 29 (q1_81),
.bind 30 (q1_83),
.bind 31 (q1_85),
.bind 32 (q1_87),
.bind 33 (pk q1_87 bT (.inp 23))] <|
.cond (.inp 33)
 (.ret (bF))
 (.seg [.chk [] (.szs 3) [.inp 3],
.chk [] .app [.app .lst [], .inp 3],
.chk [] (.szs 3) [.inp 4],
.chk [] .app [q1_88, .inp 4]] <|
.loop 0 34 [zi 0] <|
 ck .len [q1_89] <|
 ck (.bin .lss) [.inp 34, q1_90] <|
.cond (bi .lss (.inp 34) q1_90)
 (.loop 1 35 [zi 0] <|
 ck (.bin .lss) [.inp 35, .inp 34] <|
.cond (bi .lss (.inp 35) (.inp 34))
 (.seg [.chk [] (.eidx 3) [q1_89, .inp 35],
.chk [] (.inr 4294967296) [.inp 35],
.chk [] (.rowget 3 0 1 false) [q1_89, .inp 35],
.chk [] (.eidx 3) [q1_89, .inp 34],
.chk [] (.inr 4294967296) [.inp 34],
.chk [] (.rowget 3 0 1 false) [q1_89, .inp 34],
.chk [] (.bin .eql) [q1_91, q1_92]] <|
.seg [.bind 36 (bi .eql q1_91 q1_92)] <|
.cond (.inp 36)
 (.ret (bF))
 (ck (.bin .add) [.inp 35, zi 1] <|
.again 1 [q1_93]))
 (ck (.bin .add) [.inp 34, zi 1] <|
.again 0 [bi .add (.inp 34) (zi 1)]))
 (.loop 0 35 [ln (.inp 3)] <|
 ck (.bin .lss) [.inp 35, zi 12] <|
.cond (bi .lss (.inp 35) (zi 12))
 (ck (.inr 12) [.inp 35] <|
 ck (.aidx 12 1 8 1 false) [.agg (ipx 0 23), .inp 35] <|
.seg [.bind 36 (.app (.aidx 12 1 8 1 false) [.agg (ipx 0 23), .inp 35])] <|
.cond (.inp 36)
 (.ret (bF))
 (ck (.bin .add) [.inp 35, zi 1] <|
.again 0 [q1_93]))
 (.loop 0 36 [zi 0] <|
 ck .len [.inp 5] <|
 ck (.bin .lss) [.inp 36, ln (.inp 5)] <|
.cond (bi .lss (.inp 36) (ln (.inp 5)))
 (ck (.eidx 3) [.inp 5, .inp 36] <|
 ck (.eload 3 true) [ei 3 (.inp 5) (.inp 36)] <|
 ck (.isAgg 3) [q1_94] <|
 ck (.bin .lss) [q1_95, zi 0] <|
 ckg (q1_96) false (.bin .gtr) [q1_95, ln (.inp 3)] <|
 ck .pick [q1_96, bT, q1_97] <|
 ckg (q1_98) false (.bin .lss) [q1_99, zi 0] <|
 ck .pick [q1_98, bT, q1_100] <|
 ckg (q1_101) false (.bin .geq) [q1_99, zi 24] <|
 ck .pick [q1_101, bT, q1_102] <|
 ckg (q1_103) false (.bin .lss) [q1_104, zi 0] <|
 ck .pick [q1_103, bT, q1_105] <|
 ckg (q1_106) false (.bin .gtr) [q1_104, zi 1] <|
 ck .pick [q1_106, bT, q1_107] <|
.seg [.bind 37 (q1_98),
.bind 38 (q1_101),
.bind 39 (q1_103),
.bind 40 (q1_106),
.bind 41 (pk q1_106 bT q1_107)] <|
.cond (.inp 41)
 (.ret (bF))
 (ck (.bin .add) [.inp 36, zi 1] <|
.again 0 [bi .add (.inp 36) (zi 1)]))
 (.ret (bT)))))
theorem run_lockbarref17_Right : runF E 65 [.agg (ips 0 23)] 23 = rt_lockbarref17_Right := by kernel_rfl
def rt_lockbarref17_Sections : RT :=
 ck (.isAgg 23) [.agg (ipx 0 23)] <|
 ck (.mm true) [.inp 7, zi 0] <|
.loop 0 23 [.nils, q1_108] <|
 ck .len [.inp 3] <|
 ck (.bin .lss) [.inp 24, ln (.inp 3)] <|
.cond (bi .lss (.inp 24) (ln (.inp 3)))
 (ck (.eidx 3) [.inp 3, .inp 24] <|
 ck (.eoff 0) [ei 3 (.inp 3) (.inp 24)] <|
 ck (.eload 1 false) [q1_109] <|
.seg [.chk [] .isOne [q1_110],
.chk [] .isOne [q1_110]] <|
.seg [.chk [] (.szs 1) [q1_111],
.chk [] .app [.inp 23, q1_111]] <|
 ck (.bin .add) [.inp 24, zi 1] <|
.again 0 [.app .app [.inp 23, q1_111], q1_112])
 (.loop 0 25 [.inp 23, zi 0] <|
 ck .len [.inp 4] <|
 ck (.bin .lss) [.inp 26, ln (.inp 4)] <|
 ckg (q1_113) true (.un .not) [.inp 20] <|
 ck .pick [q1_113, nt (.inp 20), bF] <|
.cond (pk q1_113 (nt (.inp 20)) bF)
 (ck (.eidx 3) [.inp 4, .inp 26] <|
 ck (.eoff 0) [ei 3 (.inp 4) (.inp 26)] <|
 ck (.eload 1 false) [q1_114] <|
.seg [.chk [] .isOne [q1_115],
.chk [] .isOne [q1_115]] <|
.seg [.chk [] (.szs 1) [q1_116],
.chk [] .app [.inp 25, q1_116]] <|
 ck (.bin .add) [.inp 26, zi 1] <|
.again 0 [.app .app [.inp 25, q1_116], bi .add (.inp 26) (zi 1)])
 (.ret (.inp 25)))
theorem run_lockbarref17_Sections : runF E 26 [.agg (ips 0 23)] 23 = rt_lockbarref17_Sections := by kernel_rfl
def rt_lockbarref17_Has : RT :=
 ck (.isAgg 23) [.agg (ipx 0 23)] <|
.seg [.call 24 [] 26 [.agg (ipx 0 23)] false] <|
.loop 0 25 [zi 0] <|
 ck .len [.inp 24] <|
 ck (.bin .lss) [.inp 25, ln (.inp 24)] <|
.cond (q1_117)
 (ck (.eidx 1) [.inp 24, .inp 25] <|
 ck (.eload 1 false) [q1_118] <|
 ck (.bin .eql) [q1_119, .inp 23] <|
.cond (bi .eql q1_119 (.inp 23))
 (.ret (bT))
 (ck (.bin .add) [.inp 25, zi 1] <|
.again 0 [q1_120]))
 (.ret (bF))
theorem run_lockbarref17_Has : runF E 27 [.agg (ips 0 23), .inp 23] 24 = rt_lockbarref17_Has := by kernel_rfl
def rt_lockbarref17_Needs : RT :=
 ck (.isAgg 23) [.agg (ipx 0 23)] <|
.loop 0 23 [.nils, zi 0] <|
 ck .len [.inp 5] <|
 ck (.bin .lss) [.inp 24, ln (.inp 5)] <|
.cond (bi .lss (.inp 24) (ln (.inp 5)))
 (ck (.eidx 3) [.inp 5, .inp 24] <|
 ck (.eload 3 true) [ei 3 (.inp 5) (.inp 24)] <|
 ck (.isAgg 3) [q1_121] <|
 ck (.mm true) [.inp 7, zi 0] <|
 ck (.bin .geq) [q1_122, q1_108] <|
 ckg (q1_123) true .len [.inp 3] <|
 ckg (q1_123) true (.bin .eql) [q1_122, ln (.inp 3)] <|
 ckg (q1_123) true .pick [q1_124, .inp 20, bF] <|
 ckg (q1_123) true (.un .not) [q1_125] <|
 ck .pick [q1_123, q1_126, bF] <|
.seg [.bind 25 (q1_125),
.bind 26 (q1_126),
.bind 27 (pk q1_123 q1_126 bF)] <|
.cond (.inp 27)
 (ck (.isAgg 3) [q1_127] <|
.seg [.chk [] (.szs 3) [q1_128],
.chk [] .app [.inp 23, q1_128]] <|
.seg [.bind 28 (q1_128),
.bind 29 (.app .app [.inp 23, q1_128])] <|
 ck (.bin .add) [.inp 24, zi 1] <|
.again 0 [.inp 29, q1_112])
 (ck (.bin .add) [.inp 24, zi 1] <|
.again 0 [.inp 23, q1_112]))
 (.ret (.inp 23))
theorem run_lockbarref17_Needs : runF E 28 [.agg (ips 0 23)] 23 = rt_lockbarref17_Needs := by kernel_rfl
def rt_lockbarref17_Wants : RT :=
 ck (.isAgg 23) [.agg (ipx 0 23)] <|
.seg [.call 24 [] 28 [.agg (ipx 0 23)] false] <|
.loop 0 25 [zi 0] <|
 ck .len [.inp 24] <|
 ck (.bin .lss) [.inp 25, ln (.inp 24)] <|
.cond (q1_117)
 (ck (.eidx 3) [.inp 24, .inp 25] <|
 ck (.eoff 0) [q1_129] <|
 ck (.eload 1 false) [q1_130] <|
 ck (.bin .eql) [q1_131, .inp 23] <|
.cond (bi .eql q1_131 (.inp 23))
 (ck (.eidx 3) [.inp 24, .inp 25] <|
 ck (.eoff 1) [q1_129] <|
 ck (.eload 1 false) [q1_132] <|
.ret (.tup [e1 q1_132, bT]))
 (ck (.bin .add) [.inp 25, zi 1] <|
.again 0 [q1_120]))
 (.ret (.tup [zi 0, bF]))
theorem run_lockbarref17_Wants : runF E 68 [.agg (ips 0 23), .inp 23] 24 = rt_lockbarref17_Wants := by kernel_rfl
def rt_lockbarref17_Own : RT :=
 ck (.isAgg 23) [.agg (ipx 0 23)] <|
.seg [.call 23 [] 74 [q1_133] false] <|
 ck (.isAgg 3) [.inp 23] <|
.seg [.chk [] (.szs 3) [.inp 4],
.chk [] .app [.app .lst [], .inp 4]] <|
.seg [.chk [] (.szs 3) [.inp 5],
.chk [] .app [.app .lst [], .inp 5]] <|
 ck (.isAgg 23) [.agg (ap [.inp 0, pt 0 (.inp 23), pt 1 (.inp 23), pt 2 (.inp 23), .row 20, .row 32] (ipx 6 17))] <|
.ret (.agg (ap [.inp 0, pt 0 (.inp 23), pt 1 (.inp 23), pt 2 (.inp 23), .app .app [.app .lst [], .inp 4], .app .app [.app .lst [], .inp 5]] (ipx 6 17)))
theorem run_lockbarref17_Own : runF E 70 [.agg (ips 0 23)] 23 = rt_lockbarref17_Own := by kernel_rfl
def rt_lockbarref17_Apart : RT :=
 ck (.isAgg 23) [.agg (ipx 0 23)] <|
 ck (.isAgg 23) [.agg (ipx 23 23)] <|
.seg [.call 46 [] 26 [.agg (ipx 0 23)] false] <|
.loop 0 47 [zi 0] <|
 ck .len [.inp 46] <|
 ck (.bin .lss) [.inp 47, ln (.inp 46)] <|
.cond (bi .lss (.inp 47) (ln (.inp 46)))
 (.seg [.chk [] (.eidx 1) [.inp 46, .inp 47],
.chk [] (.eload 1 false) [q1_134],
.call 48 [] 27 [.agg (ipx 23 23), e1 q1_134] false] <|
.cond (.inp 48)
 (.ret (bF))
 (ck (.bin .add) [.inp 47, zi 1] <|
.again 0 [bi .add (.inp 47) (zi 1)]))
 (.seg [.call 48 [] 28 [.agg (ipx 0 23)] false,
.call 49 [] 28 [.agg (ipx 23 23)] false,
.call 50 [] 66 [.inp 48, .inp 49] false,
.chk [] (.un .not) [.inp 50]] <|
.ret (nt (.inp 50)))
theorem run_lockbarref17_Apart : runF E 21 [.agg (ips 0 23), .agg (ips 23 23)] 46 = rt_lockbarref17_Apart := by kernel_rfl
def rt_lockbarref17_All : RT :=
 ck .len [.inp 0] <|
 ck .len [.inp 1] <|
 ck (.bin .neq) [ln (.inp 0), ln (.inp 1)] <|
.cond (q1_18)
 (.ret (bF))
 (.loop 0 2 [zi 0] <|
 ck .len [.inp 0] <|
 ck (.bin .lss) [.inp 2, ln (.inp 0)] <|
.cond (q1_19)
 (.seg [.chk [] (.eidx 3) [.inp 0, .inp 2],
.chk [] (.eload 3 true) [ei 3 (.inp 0) (.inp 2)],
.chk [] (.eidx 3) [.inp 1, .inp 2],
.chk [] (.eload 3 true) [ei 3 (.inp 1) (.inp 2)],
.chk [] (.eqa [ some .i64, some .i64, some .i64] true) [q1_20, q1_21]] <|
.cond (q1_22)
 (.ret (bF))
 (ck (.bin .add) [.inp 2, zi 1] <|
.again 0 [bi .add (.inp 2) (zi 1)]))
 (.ret (bT)))
theorem run_lockbarref17_All : runF E 113 [.inp 0, .inp 1] 2 = rt_lockbarref17_All := by kernel_rfl
def rt_lockbarref17_Same : RT :=
 ck (.isAgg 23) [.agg (ipx 0 23)] <|
 ck (.isAgg 23) [.agg (ipx 23 23)] <|
 ck (.bin .eql) [.inp 0, .inp 23] <|
.seg [.call 46 [(q1_135, true)] 111 [q1_133, .agg [.inp 24, .inp 25, .inp 26]] false] <|
 ck .pick [q1_135, .inp 46, bF] <|
.seg [.call 47 [(q1_136, true)] 112 [.inp 4, .inp 27] false] <|
 ck .pick [q1_136, .inp 47, bF] <|
.seg [.call 48 [(q1_137, true)] 113 [.inp 5, .inp 28] false] <|
 ck .pick [q1_137, .inp 48, bF] <|
 ckg (q1_138) true (.bin .eql) [.inp 6, .inp 29] <|
 ck .pick [q1_138, q1_139, bF] <|
 ckg (q1_140) true (.bin .eql) [.inp 7, .inp 30] <|
 ck .pick [q1_140, q1_141, bF] <|
 ckg (q1_142) true (.eqa [ none, none, none, none, none, none, none, none, none, none, none, none] false) [.agg (ipx 8 12), .agg (ipx 31 12)] <|
 ck .pick [q1_142, q1_143, bF] <|
 ckg (q1_144) true (.eqb false) [.inp 20, .inp 43] <|
 ck .pick [q1_144, q1_145, bF] <|
 ckg (q1_146) true (.bin .eql) [.inp 21, .inp 44] <|
 ck .pick [q1_146, q1_147, bF] <|
 ckg (q1_148) true (.eqb false) [.inp 22, .inp 45] <|
 ck .pick [q1_148, q1_149, bF] <|
.seg [.bind 49 (pk q1_148 q1_149 bF),
.bind 50 (q1_138),
.bind 51 (q1_140),
.bind 52 (q1_142),
.bind 53 (q1_143),
.bind 54 (q1_144),
.bind 55 (q1_146),
.bind 56 (q1_148)] <|
.ret (.inp 49)
theorem run_lockbarref17_Same : runF E 57 [.agg (ips 0 23), .agg (ips 23 23)] 46 = rt_lockbarref17_Same := by kernel_rfl
def rt_lockbarref18_Same : RT :=
 ck (.isAgg 74) [.agg (ipx 0 74)] <|
 ck (.isAgg 74) [.agg (ipx 74 74)] <|
 ck .len [.inp 1] <|
 ck .len [.inp 75] <|
 ck (.bin .neq) [ln (.inp 1), ln (.inp 75)] <|
.cond (bi .neq (ln (.inp 1)) (ln (.inp 75)))
 (.ret (bF))
 (.loop 0 148 [zi 0] <|
 ck .len [.inp 1] <|
 ck (.bin .lss) [.inp 148, ln (.inp 1)] <|
.cond (bi .lss (.inp 148) (ln (.inp 1)))
 (.seg [.chk [] (.eidx 23) [.inp 1, .inp 148],
.chk [] (.eload 23 true) [q1_152],
.chk [] (.eidx 23) [.inp 75, .inp 148],
.chk [] (.eload 23 true) [q1_153],
.call 149 [] 57 [el 23 q1_152, el 23 q1_153] false,
.chk [] (.un .not) [.inp 149]] <|
.cond (.inp 149)
 (ck (.bin .add) [.inp 148, zi 1] <|
.again 0 [bi .add (.inp 148) (zi 1)])
 (.ret (bF)))
 (ck (.bin .eql) [.inp 0, .inp 74] <|
 ckg (q1_154) true (.eqa [ some .i64, some .i64, none, some .i64, some .i64, none, some .i64, some .i64, none, some .i64, some .i64, none, some .i64, some .i64, none, some .i64, some .i64, none, some .i64, some .i64, none, some .i64, some .i64, none, some .i64, some .i64, none, some .i64, some .i64, none, some .i64, some .i64, none, some .i64, some .i64, none, some .i64, some .i64, none, some .i64, some .i64, none, some .i64, some .i64, none, some .i64, some .i64, none, some .i64, some .i64, none, some .i64, some .i64, none, some .i64, some .i64, none, some .i64, some .i64, none, some .i64, some .i64, none, some .i64, some .i64, none, some .i64, some .i64, none, some .i64, some .i64, none] false) [.agg (ipx 2 72), .agg (ipx 76 72)] <|
 ck .pick [q1_154, q1_155, bF] <|
.seg [.bind 149 (pk q1_154 q1_155 bF),
.bind 150 (q1_155)] <|
.ret (.inp 149)))
theorem run_lockbarref18_Same : runF E 12 [.agg (ips 0 74), .agg (ips 74 74)] 148 = rt_lockbarref18_Same := by kernel_rfl
def rt_lockbarref18_Right : RT :=
 ck (.isAgg 74) [.agg (ipx 0 74)] <|
 ck .len [.inp 1] <|
 ck (.bin .gtr) [ln (.inp 1), zi 6] <|
 ckg (q1_156) false (.bin .lss) [.inp 0, zi 1] <|
 ck .pick [q1_156, bT, bi .lss (.inp 0) (zi 1)] <|
 ckg (q1_157) false (.bin .gtr) [.inp 0, zi 1073741824] <|
 ck .pick [q1_157, bT, q1_69] <|
.seg [.bind 74 (pk q1_157 bT q1_69)] <|
.cond (.inp 74)
 (.ret (bF))
 (.loop 0 75 [zi 0] <|
 ck .len [.inp 1] <|
 ck (.bin .lss) [.inp 75, ln (.inp 1)] <|
.cond (q1_158)
 (ck (.eidx 23) [.inp 1, .inp 75] <|
 ck (.eload 23 true) [q1_159] <|
 ck (.isAgg 23) [q1_160] <|
.seg [.call 76 [] 65 [q1_161] false,
.chk [] (.un .not) [.inp 76],
.chk [(nt (.inp 76), false)] (.bin .geq) [q1_162, .inp 0],
.chk [] .pick [nt (.inp 76), bT, q1_163],
.chk [(q1_164, false)] (.bin .gtr) [.inp 75, zi 0],
.chk [(q1_165, true), (q1_164, false)] (.bin .sub) [.inp 75, zi 1],
.chk [(q1_165, true), (q1_164, false)] (.eidx 23) [.inp 1, q1_166],
.chk [(q1_165, true), (q1_164, false)] (.eoff 0) [q1_167],
.chk [(q1_165, true), (q1_164, false)] (.eload 1 false) [q1_168],
.chk [(q1_165, true), (q1_164, false)] (.bin .leq) [q1_162, q1_169],
.chk [(q1_164, false)] .pick [q1_165, q1_170, bF],
.chk [] .pick [q1_164, bT, q1_171]] <|
.seg [.bind 77 (q1_164),
.bind 78 (q1_170),
.bind 79 (q1_171),
.bind 80 (pk q1_164 bT q1_171)] <|
.cond (.inp 80)
 (.ret (bF))
 (.loop 1 81 [zi 0] <|
 ck (.bin .lss) [.inp 81, .inp 75] <|
.cond (bi .lss (.inp 81) (.inp 75))
 (.seg [.chk [] (.eidx 23) [.inp 1, .inp 81],
.chk [] (.eload 23 true) [q1_172],
.call 82 [] 21 [q1_161, el 23 q1_172] false,
.chk [] (.un .not) [.inp 82]] <|
.cond (.inp 82)
 (ck (.bin .add) [.inp 81, zi 1] <|
.again 1 [bi .add (.inp 81) (zi 1)])
 (.ret (bF)))
 (ck (.bin .add) [.inp 75, zi 1] <|
.again 0 [q1_173])))
 (.loop 0 76 [zi 0] <|
 ck (.bin .lss) [.inp 76, zi 24] <|
.cond (bi .lss (.inp 76) (zi 24))
 (ck (.inr 24) [.inp 76] <|
 ck (.aidx 24 3 2 3 true) [.agg (ipx 0 74), .inp 76] <|
.seg [.call 77 [] 30 [q1_174] false] <|
 ck (.un .not) [.inp 77] <|
.seg [.bind 78 (q1_174)] <|
.cond (.inp 77)
 (ck (.bin .add) [.inp 76, zi 1] <|
.again 0 [bi .add (.inp 76) (zi 1)])
 (.ret (bF)))
 (.ret (bT))))
theorem run_lockbarref18_Right : runF E 20 [.agg (ips 0 74)] 74 = rt_lockbarref18_Right := by kernel_rfl
def rt_lockbarref18_Holder : RT :=
 ck (.isAgg 74) [.agg (ipx 0 74)] <|
.loop 0 75 [zi 0] <|
 ck .len [.inp 1] <|
 ck (.bin .lss) [.inp 75, ln (.inp 1)] <|
.cond (q1_158)
 (ck (.eidx 23) [.inp 1, .inp 75] <|
 ck (.eload 23 true) [q1_159] <|
.seg [.call 76 [] 27 [q1_160, .inp 74] false] <|
.cond (.inp 76)
 (ck (.eidx 23) [.inp 1, .inp 75] <|
 ck (.eoff 0) [q1_159] <|
 ck (.eload 1 false) [q1_175] <|
.ret (.tup [e1 q1_175, bT]))
 (ck (.bin .add) [.inp 75, zi 1] <|
.again 0 [q1_173]))
 (.ret (.tup [zi 0, bF]))
theorem run_lockbarref18_Holder : runF E 32 [.agg (ips 0 74), .inp 74] 75 = rt_lockbarref18_Holder := by kernel_rfl
def rt_lockbarref18_Wanted : RT :=
 ck (.isAgg 74) [.agg (ipx 0 74)] <|
.loop 0 75 [zi 0] <|
 ck .len [.inp 1] <|
 ck (.bin .lss) [.inp 75, ln (.inp 1)] <|
.cond (q1_158)
 (ck (.eidx 23) [.inp 1, .inp 75] <|
 ck (.eload 23 true) [q1_159] <|
.seg [.call 76 [] 68 [q1_160, .inp 74] false] <|
 ck (.tproj 0) [.inp 76] <|
 ck (.tproj 1) [.inp 76] <|
.cond (tp 1 (.inp 76))
 (.ret (.tup [tp 0 (.inp 76), bT]))
 (ck (.bin .add) [.inp 75, zi 1] <|
.again 0 [q1_173]))
 (.ret (.tup [zi 0, bF]))
theorem run_lockbarref18_Wanted : runF E 31 [.agg (ips 0 74), .inp 74] 75 = rt_lockbarref18_Wanted := by kernel_rfl
def rt_lockbarref18_Locked : RT :=
 ck (.isAgg 74) [.agg (ipx 0 74)] <|
.loop 0 75 [zi 0] <|
 ck .len [.inp 1] <|
 ck (.bin .lss) [.inp 75, ln (.inp 1)] <|
.cond (q1_158)
 (ck (.eidx 23) [.inp 1, .inp 75] <|
 ck (.eload 23 true) [q1_159] <|
.seg [.call 76 [] 68 [q1_160, .inp 74] false] <|
 ck (.tproj 0) [.inp 76] <|
 ck (.tproj 1) [.inp 76] <|
 ckg (tp 1 (.inp 76)) true (.eidx 23) [.inp 1, .inp 75] <|
 ckg (tp 1 (.inp 76)) true (.eoff 6) [q1_159] <|
 ckg (tp 1 (.inp 76)) true (.eload 1 false) [q1_176] <|
 ckg (tp 1 (.inp 76)) true (.bin .neq) [q1_177, .int .u8 1] <|
 ck .pick [tp 1 (.inp 76), q1_178, bF] <|
.seg [.bind 77 (pk (tp 1 (.inp 76)) q1_178 bF)] <|
.cond (.inp 77)
 (.ret (bT))
 (ck (.bin .add) [.inp 75, zi 1] <|
.again 0 [q1_173]))
 (.ret (bF))
theorem run_lockbarref18_Locked : runF E 23 [.agg (ips 0 74), .inp 74] 75 = rt_lockbarref18_Locked := by kernel_rfl
def rt_lockbarref18_Free : RT :=
 ck (.isAgg 11) [.agg (ipx 0 11)] <|
 ck (.isAgg 29) [.agg (ipx 11 29)] <|
 ck (.isAgg 74) [.agg (ipx 40 74)] <|
.seg [.call 115 [] 32 [.agg (ipx 40 74), .inp 114] false] <|
 ck (.tproj 0) [.inp 115] <|
 ck (.tproj 1) [.inp 115] <|
 ck (.un .not) [tp 1 (.inp 115)] <|
.seg [.call 116 [(nt (tp 1 (.inp 115)), true)] 24 [.agg (ipx 0 11), .agg (ipx 11 29), .inp 114] false] <|
 ckg (nt (tp 1 (.inp 115))) true (.un .not) [.inp 116] <|
 ck .pick [nt (tp 1 (.inp 115)), nt (.inp 116), bF] <|
.ret (pk (nt (tp 1 (.inp 115))) (nt (.inp 116)) bF)
theorem run_lockbarref18_Free : runF E 60 [.agg (ips 0 11), .agg (ips 11 29), .agg (ips 40 74), .inp 114] 115 = rt_lockbarref18_Free := by kernel_rfl
end
end Go.Lb.LK
