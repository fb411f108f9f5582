/- What functions come to, printed by a program, checked by the kernel. -/
import Derived.Test.YtbofccnennefnaaGreatDoorCh1
import Derived.Test.YtbofccnennefnaaGreatDoorCh2
import Derived.Test.YtbofccnennefnaaGreatDoorCh3
import Derived.Shelf.Small.Bits
import Derived.Shelf.Strconv.Itoa0
import Derived.Shelf.Sort.Plain
import Derived.Ground.Names2Prog
import Derived.Shelf.Slices.CompactI
import Derived.Test.YtbofccnennefnaaGreatDoorProg
set_option linter.unusedSimpArgs false
set_option linter.unusedVariables false
namespace Go.Lb.LK
open Go Go.Lb Go.Proofs
noncomputable section
@[simp] def q5_0 : SE := el 2 (.ref [zi (-1), zi 0] 0)
@[simp] def q5_1 : SE := .app (.eqa [ some .i64, some .i64] false) [.agg [.inp 0, .inp 1], q5_0]
@[simp] def q5_2 : SE := bi .lss (.inp 0) (zi 24)
@[simp] def q5_3 : SE := pk (bi .geq (.inp 0) (zi 0)) q5_2 bF
@[simp] def q5_4 : SE := pk q5_3 (bi .geq (.inp 1) (zi 0)) bF
@[simp] def q5_5 : SE := pk q5_4 (bi .leq (.inp 1) (zi 3)) bF
@[simp] def q5_6 : SE := .app (.aidx 4 2 0 2 true) [.agg (ipx 1 8), .inp 12]
@[simp] def q5_7 : SE := bi .lss (.inp 12) (pt 0 (.inp 11))
@[simp] def q5_8 : SE := pk q5_7 (nt (.inp 16)) bF
@[simp] def q5_9 : SE := bi .geq (.inp 12) (pt 0 (.inp 11))
@[simp] def q5_10 : SE := .app (.eqa [ some .i64, some .i64] true) [.agg [.inp 14, .inp 15], q5_0]
@[simp] def q5_11 : SE := pk q5_9 q5_10 bF
@[simp] def q5_12 : SE := bi .add (.inp 12) (zi 1)
@[simp] def q5_13 : SE := .app (.aidx 2 1 0 1 false) [.agg [.inp 9, .inp 10], .inp 13]
@[simp] def q5_14 : SE := bi .lss q5_13 (zi 0)
@[simp] def q5_15 : SE := bi .gtr q5_13 (zi 3)
@[simp] def q5_16 : SE := pk q5_14 bT q5_15
@[simp] def q5_17 : SE := bi .gtr q5_13 (zi 0)
@[simp] def q5_18 : SE := bi .geq (.inp 13) (pt 5 (.inp 11))
@[simp] def q5_19 : SE := pk q5_17 q5_18 bF
@[simp] def q5_20 : SE := bi .add (.inp 13) (zi 1)
@[simp] def q5_21 : SE := bi .geq (.inp 11) (zi 0)
@[simp] def q5_22 : SE := bi .lss (.inp 11) (ln (.inp 0))
@[simp] def q5_23 : SE := pk q5_21 q5_22 bF
@[simp] def q5_24 : SE := bi .lss (.inp 12) (zi 0)
@[simp] def q5_25 : SE := pk (nt (.inp 13)) bT q5_24
@[simp] def q5_26 : SE := ei 11 (.inp 0) (.inp 11)
@[simp] def q5_27 : SE := .app (.eoff 0) [q5_26]
@[simp] def q5_28 : SE := e1 q5_27
@[simp] def q5_29 : SE := bi .geq (.inp 12) (.inp 14)
@[simp] def q5_30 : SE := el 11 q5_26
@[simp] def q5_31 : SE := .agg (ptx (q5_30) 0 11)
@[simp] def q5_32 : SE := el 2 (ei 2 (.inp 1) (.inp 13))
@[simp] def q5_33 : SE := .agg [pt 0 q5_32, pt 1 q5_32]
@[simp] def q5_34 : SE := bi .lss (ln (.inp 0)) (zi 1)
@[simp] def q5_35 : SE := e1 (ei 1 (.inp 0) (zi 0))
@[simp] def q5_36 : SE := bi .lss (.inp 2) (ln (.inp 0))
@[simp] def q5_37 : SE := e1 (ei 1 (.inp 0) (.inp 2))
@[simp] def q5_38 : SE := el 11 (ei 11 (.inp 0) (.inp 1))
@[simp] def q5_39 : SE := bi .lss (.inp 12) (ln (.inp 0))
@[simp] def q5_40 : SE := el 4 (ei 4 (.inp 0) (.inp 12))
@[simp] def q5_41 : SE := el 11 (.ref (ipx 1 11) 0)
@[simp] def q5_42 : SE := pt 0 q5_41
@[simp] def q5_43 : SE := pt 1 q5_41
@[simp] def q5_44 : SE := pt 2 q5_41
@[simp] def q5_45 : SE := pt 3 q5_41
@[simp] def q5_46 : SE := pt 4 q5_41
@[simp] def q5_47 : SE := pt 5 q5_41
@[simp] def q5_48 : SE := pt 6 q5_41
@[simp] def q5_49 : SE := pt 7 q5_41
@[simp] def q5_50 : SE := pt 8 q5_41
@[simp] def q5_51 : SE := pt 9 q5_41
@[simp] def q5_52 : SE := pt 10 q5_41
@[simp] def q5_53 : SE := pt 0 q5_40
@[simp] def q5_54 : SE := bi .geq q5_53 (zi 0)
@[simp] def q5_55 : SE := bi .lss q5_53 (ln (.inp 14))
@[simp] def q5_56 : SE := pt 2 q5_40
@[simp] def q5_57 : SE := bi .geq q5_56 (zi 0)
@[simp] def q5_58 : SE := bi .lss q5_56 (ln (.inp 27))
@[simp] def q5_59 : SE := bi .eql q5_53 q5_56
@[simp] def q5_60 : SE := pk (nt (.inp 38)) bT q5_59
@[simp] def q5_61 : SE := pt 3 q5_40
@[simp] def q5_62 : SE := bi .lss q5_61 (zi 0)
@[simp] def q5_63 : SE := pk q5_60 bT q5_62
@[simp] def q5_64 : SE := bi .gtr q5_61 (zi 1)
@[simp] def q5_65 : SE := pk q5_63 bT q5_64
@[simp] def q5_66 : SE := pt 1 q5_40
@[simp] def q5_67 : SE := bi .lss q5_66 (zi 0)
@[simp] def q5_68 : SE := bi .geq (.inp 12) (zi 0)
@[simp] def q5_69 : SE := ei 11 (e1 (.ref (ipx 1 11) 0)) q5_53
@[simp] def q5_70 : SE := .app (.eoff 0) [q5_69]
@[simp] def q5_71 : SE := e1 q5_70
@[simp] def q5_72 : SE := bi .geq q5_66 (.inp 45)
@[simp] def q5_73 : SE := ei 11 (e1 (.ref (ipx 1 11) 0)) q5_56
@[simp] def q5_74 : SE := .app (.eoff 0) [q5_73]
@[simp] def q5_75 : SE := e1 q5_74
@[simp] def q5_76 : SE := bi .neq q5_75 (.int .u8 2)
@[simp] def q5_77 : SE := bi .gtr (ln (.inp 0)) (zi 24)
@[simp] def q5_78 : SE := bi .gtr (ln (.inp 1)) (zi 12)
@[simp] def q5_79 : SE := pk q5_77 bT q5_78
@[simp] def q5_80 : SE := bi .gtr (ln (.inp 2)) (zi 12)
@[simp] def q5_81 : SE := pk q5_79 bT q5_80
@[simp] def q5_82 : SE := bi .gtr (ln (.inp 3)) (zi 16)
@[simp] def q5_83 : SE := bi .lss (.inp 14) (zi 1)
@[simp] def q5_84 : SE := bi .gtr (.inp 15) (zi 1000)
@[simp] def q5_85 : SE := pk q5_83 bT q5_84
@[simp] def q5_86 : SE := pk q5_85 bT (.inp 16)
@[simp] def q5_87 : SE := ei 11 (.inp 0) (.inp 20)
@[simp] def q5_88 : SE := el 11 q5_87
@[simp] def q5_89 : SE := .agg (ptx (q5_88) 1 8)
@[simp] def q5_90 : SE := .app (.aidx 4 2 0 2 true) [q5_89, .inp 21]
@[simp] def q5_91 : SE := bi .add (.inp 21) (zi 1)
@[simp] def q5_92 : SE := el 2 (ei 2 (.inp 1) (.inp 21))
@[simp] def q5_93 : SE := .agg [pt 0 q5_92, pt 1 q5_92]
@[simp] def q5_94 : SE := el 3 (ei 3 (.inp 2) (.inp 22))
@[simp] def q5_95 : SE := .agg [pt 0 q5_94, pt 1 q5_94]
@[simp] def q5_96 : SE := el 3 (ei 3 (.inp 2) (.inp 23))
@[simp] def q5_97 : SE := pt 2 q5_96
@[simp] def q5_98 : SE := ln q5_97
@[simp] def q5_99 : SE := ei 3 q5_97 (.inp 24)
@[simp] def q5_100 : SE := el 3 q5_99
@[simp] def q5_101 : SE := bi .add (.inp 23) (zi 1)
@[simp] def q5_102 : SE := pk q5_23 q5_68 bF
@[simp] def q5_103 : SE := bi .lss (.inp 12) (.inp 13)
@[simp] def q5_104 : SE := .app (.eoff 1) [q5_26]
@[simp] def q5_105 : SE := .app (.eaidx 4 2) [q5_104, .inp 12]
@[simp] def q5_106 : SE := el 2 q5_105
@[simp] def q5_107 : SE := .agg [pt 0 (.inp 15), pt 1 (.inp 15)]
@[simp] def q5_108 : SE := .app (.eqa [ some .i64, some .i64] true) [q5_107, q5_0]
@[simp] def q5_109 : SE := bi .eql (pt 0 (.inp 15)) (.inp 11)
@[simp] def q5_110 : SE := pk q5_109 bT (nt (.inp 16))
@[simp] def q5_111 : SE := .app (.eqa [ some .i64, some .i64] true) [.inp 17, .agg [.inp 11, .inp 13]]
@[simp] def q5_112 : SE := pk q5_110 bT q5_111
@[simp] def q5_113 : SE := .agg [zi 0, zi 0, zi 0, zi 0, zi 0, zi 0, zi 0, zi 0, zi 0, zi 0, zi 0, zi 0, zi 0, zi 0, zi 0, zi 0, zi 0, zi 0, zi 0, zi 0, zi 0, zi 0, zi 0, zi 0]
@[simp] def q5_114 : SE := .app (.aidx 24 1 0 1 false) [q5_113, .inp 11]
@[simp] def q5_115 : SE := bi .add q5_114 (zi 1)
@[simp] def q5_116 : SE := .agg [q5_115]
@[simp] def q5_117 : SE := ei 3 (.inp 13) (.inp 40)
@[simp] def q5_118 : SE := el 3 q5_117
@[simp] def q5_119 : SE := pt 0 q5_118
@[simp] def q5_120 : SE := pt 1 q5_118
@[simp] def q5_121 : SE := .agg [q5_119, q5_120]
@[simp] def q5_122 : SE := .app (.aidx 24 1 0 1 false) [.agg (ipx 41 24), q5_119]
@[simp] def q5_123 : SE := bi .add q5_122 (zi 1)
@[simp] def q5_124 : SE := .agg [q5_123]
@[simp] def q5_125 : SE := .app (.aidx 24 1 0 1 false) [.agg (ipx 71 24), q5_119]
@[simp] def q5_126 : SE := pt 2 q5_118
@[simp] def q5_127 : SE := .agg [.inp 0, .inp 1, .inp 2, zi 0]
@[simp] def q5_128 : SE := el 11 (.ref (ipx 0 11) 0)
@[simp] def q5_129 : SE := ln (e1 (.ref (ipx 0 11) 1))
@[simp] def q5_130 : SE := bi .lss (.inp 12) (.inp 11)
@[simp] def q5_131 : SE := bi .lss (.inp 13) (.inp 12)
@[simp] def q5_132 : SE := ei 2 (e1 (.ref (ipx 0 11) 1)) (.inp 13)
@[simp] def q5_133 : SE := ei 2 (e1 (.ref (ipx 0 11) 1)) (.inp 12)
@[simp] def q5_134 : SE := el 2 q5_132
@[simp] def q5_135 : SE := el 2 q5_133
@[simp] def q5_136 : SE := ln (e1 (.ref (ipx 0 11) 2))
@[simp] def q5_137 : SE := ei 3 (e1 (.ref (ipx 0 11) 2)) (.inp 13)
@[simp] def q5_138 : SE := .app (.eoff 0) [q5_137]
@[simp] def q5_139 : SE := ei 3 (e1 (.ref (ipx 0 11) 2)) (.inp 12)
@[simp] def q5_140 : SE := .app (.eoff 0) [q5_139]
@[simp] def q5_141 : SE := el 2 q5_138
@[simp] def q5_142 : SE := el 2 q5_140
@[simp] def q5_143 : SE := ei 3 (.inp 11) (.inp 13)
@[simp] def q5_144 : SE := el 3 q5_143
@[simp] def q5_145 : SE := .agg [pt 0 q5_144, pt 1 q5_144, pt 2 q5_144]
@[simp] def q5_146 : SE := ln (e1 (.ref (ipx 0 11) 3))
@[simp] def q5_147 : SE := ei 4 (e1 (.ref (ipx 0 11) 3)) (.inp 13)
@[simp] def q5_148 : SE := el 4 q5_147
@[simp] def q5_149 : SE := ei 4 (e1 (.ref (ipx 0 11) 3)) (.inp 12)
@[simp] def q5_150 : SE := el 4 q5_149
@[simp] def q5_151 : SE := .app .lst [.clo 211 [] [.ptr 16 0], .clo 213 [] [.ptr 16 0], .clo 217 [] [.ptr 16 0], .clo 219 [] [.ptr 16 0], .clo 221 [] [.ptr 16 0]]
@[simp] def q5_152 : SE := .agg [.inp 0, .inp 1, .inp 2]
@[simp] def q5_153 : SE := ei 3 (.inp 11) (.inp 12)
@[simp] def q5_154 : SE := el 3 q5_153
@[simp] def q5_155 : SE := bi .lss (.inp 14) (ln (.inp 11))
@[simp] def q5_156 : SE := bi .sub (.inp 14) (zi 1)
@[simp] def q5_157 : SE := ei 3 (.inp 11) q5_156
@[simp] def q5_158 : SE := ei 3 (.inp 11) (.inp 14)
@[simp] def q5_159 : SE := el 3 q5_157
@[simp] def q5_160 : SE := el 3 q5_158
@[simp] def q5_161 : SE := bi .lss (.inp 13) (ln (.inp 11))
@[simp] def q5_162 : SE := bi .sub (.inp 13) (zi 1)
@[simp] def q5_163 : SE := ei 3 (.inp 11) q5_162
@[simp] def q5_164 : SE := el 3 q5_163
@[simp] def q5_165 : SE := el 3 (ei 3 (.inp 2) (.inp 5))
@[simp] def q5_166 : SE := bi .gtr (ln (.inp 4)) (zi 0)
@[simp] def q5_167 : SE := pt 0 q5_165
@[simp] def q5_168 : SE := e1 (ei 1 (.inp 4) (zi 0))
@[simp] def q5_169 : SE := bi .eql q5_167 q5_168
@[simp] def q5_170 : SE := e1 (ei 1 (.inp 0) (.inp 12))
@[simp] def q5_171 : SE := bi .lss q5_170 (zi 0)
@[simp] def q5_172 : SE := ln (e1 (.ref (ipx 1 11) 0))
@[simp] def q5_173 : SE := bi .geq q5_170 q5_172
def rt_port_Ways : RT :=
.seg [.call 1 [] 199 [.inp 0] false] <|
 ck (.part 5 1 false) [.inp 1] <|
.ret (pt 5 (.inp 1))
theorem run_port_Ways : runF E 204 [.inp 0] 1 = rt_port_Ways := by kernel_rfl
def rt_port_May : RT :=
 ck (.isAgg 2) [.agg [.inp 0, .inp 1]] <|
 ck (.eload 2 true) [.ref [zi (-1), zi 0] 0] <|
 ck (.eqa [ some .i64, some .i64] false) [.agg [.inp 0, .inp 1], q5_0] <|
 ckg (q5_1) false (.bin .geq) [.inp 0, zi 0] <|
.seg [.chk [(bi .geq (.inp 0) (zi 0), true), (q5_1, false)] (.bin .lss) [.inp 0, zi 24]] <|
 ckg (q5_1) false .pick [bi .geq (.inp 0) (zi 0), q5_2, bF] <|
.seg [.chk [(q5_3, true), (q5_1, false)] (.bin .geq) [.inp 1, zi 0]] <|
 ckg (q5_1) false .pick [q5_3, bi .geq (.inp 1) (zi 0), bF] <|
.seg [.chk [(q5_4, true), (q5_1, false)] (.bin .leq) [.inp 1, zi 3]] <|
 ckg (q5_1) false .pick [q5_4, bi .leq (.inp 1) (zi 3), bF] <|
 ck .pick [q5_1, bT, q5_5] <|
.seg [.bind 2 (pk q5_1 bT q5_5),
.bind 3 (q5_4),
.bind 4 (q5_5)] <|
.ret (.inp 2)
theorem run_port_May : runF E 244 [.agg [.inp 0, .inp 1]] 2 = rt_port_May := by kernel_rfl
def rt_port_Right : RT :=
 ck (.isAgg 11) [.agg (ipx 0 11)] <|
.seg [.call 11 [] 199 [.inp 0] false] <|
 ck (.isAgg 7) [.inp 11] <|
 ck (.bin .eql) [pt 0 (.inp 11), zi 0] <|
.cond (bi .eql (pt 0 (.inp 11)) (zi 0))
 (.ret (bF))
 (.loop 0 12 [zi 0] <|
 ck (.bin .lss) [.inp 12, zi 4] <|
.cond (bi .lss (.inp 12) (zi 4))
 (ck (.aidx 4 2 0 2 true) [.agg (ipx 1 8), .inp 12] <|
 ck (.isAgg 2) [q5_6] <|
.seg [.bind 13 (q5_6),
.bind 14 (pt 0 q5_6),
.bind 15 (pt 1 q5_6)] <|
 ck (.bin .lss) [.inp 12, pt 0 (.inp 11)] <|
.seg [.call 16 [(q5_7, true)] 244 [.agg [.inp 14, .inp 15]] false] <|
 ckg (q5_7) true (.un .not) [.inp 16] <|
 ck .pick [q5_7, nt (.inp 16), bF] <|
 ckg (q5_8) false (.bin .geq) [.inp 12, pt 0 (.inp 11)] <|
.seg [.chk [(q5_9, true), (q5_8, false)] (.eload 2 true) [.ref [zi (-1), zi 0] 0]] <|
.seg [.chk [(q5_9, true), (q5_8, false)] (.eqa [ some .i64, some .i64] true) [.agg [.inp 14, .inp 15], q5_0]] <|
 ckg (q5_8) false .pick [q5_9, q5_10, bF] <|
 ck .pick [q5_8, bT, q5_11] <|
.seg [.bind 17 (q5_11),
.bind 18 (pk q5_8 bT q5_11)] <|
.cond (.inp 18)
 (.ret (bF))
 (ck (.bin .add) [.inp 12, zi 1] <|
.again 0 [q5_12]))
 (.loop 0 13 [zi 0] <|
 ck (.bin .lss) [.inp 13, zi 2] <|
.cond (bi .lss (.inp 13) (zi 2))
 (ck (.aidx 2 1 0 1 false) [.agg [.inp 9, .inp 10], .inp 13] <|
 ck (.bin .lss) [q5_13, zi 0] <|
 ckg (q5_14) false (.bin .gtr) [q5_13, zi 3] <|
 ck .pick [q5_14, bT, q5_15] <|
 ckg (q5_16) false (.bin .gtr) [q5_13, zi 0] <|
.seg [.chk [(q5_17, true), (q5_16, false)] (.bin .geq) [.inp 13, pt 5 (.inp 11)]] <|
 ckg (q5_16) false .pick [q5_17, q5_18, bF] <|
 ck .pick [q5_16, bT, q5_19] <|
.seg [.bind 14 (q5_16),
.bind 15 (q5_19),
.bind 16 (pk q5_16 bT q5_19)] <|
.cond (.inp 16)
 (.ret (bF))
 (ck (.bin .add) [.inp 13, zi 1] <|
.again 0 [q5_20]))
 (.ret (bT))))
theorem run_port_Right : runF E 201 [.agg (ips 0 11)] 11 = rt_port_Right := by kernel_rfl
def rt_layout_section : RT :=
 ck (.isAgg 11) [.agg (ipx 0 11)] <|
 ck (.bin .geq) [.inp 11, zi 0] <|
 ckg (q5_21) true .len [.inp 0] <|
 ckg (q5_21) true (.bin .lss) [.inp 11, ln (.inp 0)] <|
 ck .pick [q5_21, q5_22, bF] <|
.ret (q5_23)
theorem run_layout_section : runF E 171 [.agg (ips 0 11), .inp 11] 12 = rt_layout_section := by kernel_rfl
def rt_layout_At : RT :=
 ck (.isAgg 11) [.agg (ipx 0 11)] <|
 ck (.isAgg 2) [.agg [.inp 11, .inp 12]] <|
.seg [.call 13 [] 171 [.agg (ipx 0 11), .inp 11] false,
.chk [] (.un .not) [.inp 13],
.chk [(nt (.inp 13), false)] (.bin .lss) [.inp 12, zi 0],
.chk [] .pick [nt (.inp 13), bT, q5_24],
.chk [(q5_25, false)] (.eidx 11) [.inp 0, .inp 11],
.chk [(q5_25, false)] (.eoff 0) [q5_26],
.chk [(q5_25, false)] (.eload 1 false) [q5_27],
.call 14 [(q5_25, false)] 225 [q5_28] false,
.chk [(q5_25, false)] (.bin .geq) [.inp 12, .inp 14],
.chk [] .pick [q5_25, bT, q5_29]] <|
.seg [.bind 15 (pk q5_25 bT q5_29)] <|
.cond (.inp 15)
 (.ret (.tup [.agg [.int .u8 0, zi 0, zi 0, zi 0, zi 0, zi 0, zi 0, zi 0, zi 0, zi 0, zi 0], bF]))
 (ck (.eidx 11) [.inp 0, .inp 11] <|
 ck (.eload 11 true) [q5_26] <|
 ck (.isAgg 11) [q5_30] <|
.ret (.tup [q5_31, bT]))
theorem run_layout_At : runF E 210 [.agg (ips 0 11), .agg [.inp 11, .inp 12]] 13 = rt_layout_At := by kernel_rfl
def rt_layout_Signal : RT :=
 ck (.isAgg 11) [.agg (ipx 0 11)] <|
 ck (.isAgg 2) [.agg [.inp 11, .inp 12]] <|
 ck .len [.inp 1] <|
.loop 0 13 [zi 0] <|
 ck (.bin .lss) [.inp 13, ln (.inp 1)] <|
.cond (bi .lss (.inp 13) (ln (.inp 1)))
 (ck (.eidx 2) [.inp 1, .inp 13] <|
 ck (.eload 2 true) [ei 2 (.inp 1) (.inp 13)] <|
 ck (.isAgg 2) [q5_32] <|
 ck (.eqa [ some .i64, some .i64] false) [q5_33, .agg [.inp 11, .inp 12]] <|
.seg [.bind 14 (.app (.eqa [ some .i64, some .i64] false) [q5_33, .agg [.inp 11, .inp 12]])] <|
.cond (.inp 14)
 (.ret (.inp 13))
 (ck (.bin .add) [.inp 13, zi 1] <|
.again 0 [q5_20]))
 (.ret (zi (-1)))
theorem run_layout_Signal : runF E 95 [.agg (ips 0 11), .agg [.inp 11, .inp 12]] 13 = rt_layout_Signal := by kernel_rfl
def rt_slices_Min_int : RT :=
 ck .len [.inp 0] <|
 ck (.bin .lss) [ln (.inp 0), zi 1] <|
.cond (q5_34)
 (.dead 6 [zi 9])
 (ck (.eidx 1) [.inp 0, zi 0] <|
 ck (.eload 1 false) [ei 1 (.inp 0) (zi 0)] <|
.loop 0 1 [q5_35, zi 1] <|
 ck .len [.inp 0] <|
 ck (.bin .lss) [.inp 2, ln (.inp 0)] <|
.cond (q5_36)
 (ck (.eidx 1) [.inp 0, .inp 2] <|
 ck (.eload 1 false) [ei 1 (.inp 0) (.inp 2)] <|
 ck (.mm false) [.inp 1, q5_37] <|
 ck (.bin .add) [.inp 2, zi 1] <|
.again 0 [.app (.mm false) [.inp 1, q5_37], bi .add (.inp 2) (zi 1)])
 (.ret (.inp 1)))
theorem run_slices_Min_int : runF E 205 [.inp 0] 1 = rt_slices_Min_int := by kernel_rfl
def rt_slices_Max_int : RT :=
 ck .len [.inp 0] <|
 ck (.bin .lss) [ln (.inp 0), zi 1] <|
.cond (q5_34)
 (.dead 6 [zi 9])
 (ck (.eidx 1) [.inp 0, zi 0] <|
 ck (.eload 1 false) [ei 1 (.inp 0) (zi 0)] <|
.loop 0 1 [q5_35, zi 1] <|
 ck .len [.inp 0] <|
 ck (.bin .lss) [.inp 2, ln (.inp 0)] <|
.cond (q5_36)
 (ck (.eidx 1) [.inp 0, .inp 2] <|
 ck (.eload 1 false) [ei 1 (.inp 0) (.inp 2)] <|
 ck (.mm true) [.inp 1, q5_37] <|
 ck (.bin .add) [.inp 2, zi 1] <|
.again 0 [.app (.mm true) [.inp 1, q5_37], bi .add (.inp 2) (zi 1)])
 (.ret (.inp 1)))
theorem run_slices_Max_int : runF E 206 [.inp 0] 1 = rt_slices_Max_int := by kernel_rfl
def rt_slices_ContainsFunc_Section : RT :=
 ck .len [.inp 0] <|
.loop 0 1 [zi 0] <|
 ck (.bin .lss) [.inp 1, ln (.inp 0)] <|
.cond (bi .lss (.inp 1) (ln (.inp 0)))
 (ck (.eidx 11) [.inp 0, .inp 1] <|
 ck (.eload 11 true) [ei 11 (.inp 0) (.inp 1)] <|
 ck (.isAgg 11) [q5_38] <|
.seg [.call 2 [] 201 [.agg (ptx (q5_38) 0 11)] false] <|
 ck (.un .not) [.inp 2] <|
.cond (.inp 2)
 (ck (.bin .add) [.inp 1, zi 1] <|
.again 0 [bi .add (.inp 1) (zi 1)])
 (ck (.bin .geq) [.inp 1, zi 0] <|
.ret (bi .geq (.inp 1) (zi 0))))
 (ck (.bin .geq) [zi (-1), zi 0] <|
.ret (bF))
theorem run_slices_ContainsFunc_Section : runF E 207 [.inp 0, .clo 200 [] []] 1 = rt_slices_ContainsFunc_Section := by kernel_rfl
def rt_slices_ContainsFunc_Flank : RT :=
 ck .len [.inp 0] <|
.loop 0 12 [zi 0] <|
 ck (.bin .lss) [.inp 12, ln (.inp 0)] <|
.cond (q5_39)
 (ck (.eidx 4) [.inp 0, .inp 12] <|
 ck (.eload 4 true) [ei 4 (.inp 0) (.inp 12)] <|
 ck (.isAgg 4) [q5_40] <|
 ck (.eload 11 true) [.ref (ipx 1 11) 0] <|
 ck (.isAgg 11) [q5_41] <|
.seg [.bind 13 (q5_41),
.bind 14 (q5_42),
.bind 15 (q5_43),
.bind 16 (q5_44),
.bind 17 (q5_45),
.bind 18 (q5_46),
.bind 19 (q5_47),
.bind 20 (q5_48),
.bind 21 (q5_49),
.bind 22 (q5_50),
.bind 23 (q5_51),
.bind 24 (q5_52)] <|
 ck (.bin .geq) [q5_53, zi 0] <|
 ckg (q5_54) true .len [.inp 14] <|
 ckg (q5_54) true (.bin .lss) [q5_53, ln (.inp 14)] <|
 ck .pick [q5_54, q5_55, bF] <|
.seg [.bind 25 (pk q5_54 q5_55 bF)] <|
 ck (.un .not) [.inp 25] <|
 ckg (nt (.inp 25)) false (.eload 11 true) [.ref (ipx 1 11) 0] <|
.cond (.inp 25)
 (ck (.isAgg 11) [q5_41] <|
.seg [.bind 26 (q5_41),
.bind 27 (q5_42),
.bind 28 (q5_43),
.bind 29 (q5_44),
.bind 30 (q5_45),
.bind 31 (q5_46),
.bind 32 (q5_47),
.bind 33 (q5_48),
.bind 34 (q5_49),
.bind 35 (q5_50),
.bind 36 (q5_51),
.bind 37 (q5_52)] <|
 ck (.bin .geq) [q5_56, zi 0] <|
 ckg (q5_57) true .len [.inp 27] <|
 ckg (q5_57) true (.bin .lss) [q5_56, ln (.inp 27)] <|
 ck .pick [q5_57, q5_58, bF] <|
.seg [.bind 38 (pk q5_57 q5_58 bF)] <|
 ck (.un .not) [.inp 38] <|
 ckg (nt (.inp 38)) false (.bin .eql) [q5_53, q5_56] <|
 ck .pick [nt (.inp 38), bT, q5_59] <|
 ckg (q5_60) false (.bin .lss) [q5_61, zi 0] <|
 ck .pick [q5_60, bT, q5_62] <|
 ckg (q5_63) false (.bin .gtr) [q5_61, zi 1] <|
 ck .pick [q5_63, bT, q5_64] <|
 ckg (q5_65) false (.bin .lss) [q5_66, zi 0] <|
 ck .pick [q5_65, bT, q5_67] <|
.seg [.bind 39 (q5_41),
.bind 40 (q5_59),
.bind 41 (q5_60),
.bind 42 (q5_63),
.bind 43 (q5_65),
.bind 44 (pk q5_65 bT q5_67)] <|
.cond (.inp 44)
 (ck (.bin .geq) [.inp 12, zi 0] <|
.ret (q5_68))
 (.seg [.chk [] (.eoff 0) [.ref (ipx 1 11) 0],
.chk [] (.eload 1 false) [.ref (ipx 1 11) 0],
.chk [] (.eidx 11) [e1 (.ref (ipx 1 11) 0), q5_53],
.chk [] (.eoff 0) [q5_69],
.chk [] (.eload 1 false) [q5_70],
.call 45 [] 204 [q5_71] false,
.chk [] (.bin .geq) [q5_66, .inp 45],
.chk [(q5_72, false)] (.eoff 0) [.ref (ipx 1 11) 0],
.chk [(q5_72, false)] (.eload 1 false) [.ref (ipx 1 11) 0],
.chk [(q5_72, false)] (.eidx 11) [e1 (.ref (ipx 1 11) 0), q5_56],
.chk [(q5_72, false)] (.eoff 0) [q5_73],
.chk [(q5_72, false)] (.eload 1 false) [q5_74],
.chk [(q5_72, false)] (.bin .neq) [q5_75, .int .u8 2],
.chk [] .pick [q5_72, bT, q5_76]] <|
.seg [.bind 46 (pk q5_72 bT q5_76),
.bind 47 (e1 (.ref (ipx 1 11) 0)),
.bind 48 (q5_69),
.bind 49 (q5_70),
.bind 50 (q5_71),
.bind 51 (q5_73),
.bind 52 (q5_74),
.bind 53 (q5_75),
.bind 54 (q5_76)] <|
.cond (.inp 46)
 (ck (.bin .geq) [.inp 12, zi 0] <|
.ret (q5_68))
 (ck (.bin .add) [.inp 12, zi 1] <|
.again 0 [q5_12])))
 (.seg [.bind 26 (q5_41)] <|
 ck (.bin .geq) [.inp 12, zi 0] <|
.ret (q5_68)))
 (ck (.bin .geq) [zi (-1), zi 0] <|
.ret (bF))
theorem run_slices_ContainsFunc_Flank : runF E 208 [.inp 0, .clo 203 [] [.ref (ips 1 11) 0]] 12 = rt_slices_ContainsFunc_Flank := by kernel_rfl
def rt_layout_Right : RT :=
 ck (.isAgg 11) [.agg (ipx 0 11)] <|
 ck (.isAgg 7) [.agg (ipx 4 7)] <|
.seg [.chk [] .isOne [.inp 4],
.chk [] .isOne [.inp 5],
.chk [] .isOne [.inp 6],
.chk [] .isOne [.inp 7],
.chk [] .isOne [.inp 8],
.chk [] .isOne [.inp 9],
.chk [] .isOne [.inp 10],
.chk [] .isOne [.inp 4],
.chk [] .isOne [.inp 5],
.chk [] .isOne [.inp 6],
.chk [] .isOne [.inp 7],
.chk [] .isOne [.inp 8],
.chk [] .isOne [.inp 9],
.chk [] .isOne [.inp 10]] <|
 ck .len [.inp 0] <|
 ck (.bin .gtr) [ln (.inp 0), zi 24] <|
 ckg (q5_77) false .len [.inp 1] <|
 ckg (q5_77) false (.bin .gtr) [ln (.inp 1), zi 12] <|
 ck .pick [q5_77, bT, q5_78] <|
 ckg (q5_79) false .len [.inp 2] <|
 ckg (q5_79) false (.bin .gtr) [ln (.inp 2), zi 12] <|
 ck .pick [q5_79, bT, q5_80] <|
 ckg (q5_81) false .len [.inp 3] <|
 ckg (q5_81) false (.bin .gtr) [ln (.inp 3), zi 16] <|
 ck .pick [q5_81, bT, q5_82] <|
.seg [.bind 11 (q5_79),
.bind 12 (q5_81),
.bind 13 (pk q5_81 bT q5_82)] <|
.cond (.inp 13)
 (.ret (bF))
 (.seg [.call 14 [] 205 [.app .lst (ipx 4 7)] true] <|
 ck (.bin .lss) [.inp 14, zi 1] <|
.seg [.call 15 [(q5_83, false)] 206 [.app .lst (ipx 4 7)] true] <|
 ckg (q5_83) false (.bin .gtr) [.inp 15, zi 1000] <|
 ck .pick [q5_83, bT, q5_84] <|
.seg [.call 16 [(q5_85, false)] 207 [.inp 0, .clo 200 [] []] false] <|
 ck .pick [q5_85, bT, .inp 16] <|
.seg [.call 17 [(q5_86, false)] 208 [.inp 3, .clo 203 [] [.ref (ipx 0 11) 0]] true] <|
 ck .pick [q5_86, bT, .inp 17] <|
.seg [.bind 18 (q5_86),
.bind 19 (pk q5_86 bT (.inp 17))] <|
.cond (.inp 19)
 (.ret (bF))
 (ck (.isAgg 11) [.agg (ipx 0 11)] <|
 ck .len [.inp 0] <|
.loop 0 20 [zi 0] <|
 ck (.bin .lss) [.inp 20, ln (.inp 0)] <|
.cond (bi .lss (.inp 20) (ln (.inp 0)))
 (ck (.eidx 11) [.inp 0, .inp 20] <|
 ck (.eload 11 true) [q5_87] <|
 ck (.isAgg 11) [q5_88] <|
.loop 1 21 [zi 0] <|
 ck (.bin .lss) [.inp 21, zi 4] <|
.cond (bi .lss (.inp 21) (zi 4))
 (ck (.aidx 4 2 0 2 true) [q5_89, .inp 21] <|
 ck (.isAgg 2) [q5_90] <|
.seg [.bind 22 (q5_90),
.bind 23 (pt 0 q5_90),
.bind 24 (pt 1 q5_90)] <|
 ck (.bin .geq) [.inp 23, zi 0] <|
.cond (bi .geq (.inp 23) (zi 0))
 (ck (.isAgg 2) [.agg [.inp 23, .inp 24]] <|
.seg [.call 25 [] 210 [.agg (ipx 0 11), .agg [.inp 23, .inp 24]] false] <|
 ck (.tproj 0) [.inp 25] <|
 ck (.tproj 1) [.inp 25] <|
 ck (.isAgg 11) [tp 0 (.inp 25)] <|
 ck (.un .not) [tp 1 (.inp 25)] <|
.cond (tp 1 (.inp 25))
 (ck (.un .not) [bT] <|
 ck (.bin .add) [.inp 21, zi 1] <|
.again 1 [q5_91])
 (ck (.un .not) [bF] <|
.ret (bF)))
 (ck (.bin .add) [.inp 21, zi 1] <|
.again 1 [q5_91]))
 (ck (.bin .add) [.inp 20, zi 1] <|
.again 0 [bi .add (.inp 20) (zi 1)]))
 (ck .len [.inp 1] <|
.loop 0 21 [zi 0] <|
 ck (.bin .lss) [.inp 21, ln (.inp 1)] <|
.cond (bi .lss (.inp 21) (ln (.inp 1)))
 (ck (.eidx 2) [.inp 1, .inp 21] <|
 ck (.eload 2 true) [ei 2 (.inp 1) (.inp 21)] <|
 ck (.isAgg 2) [q5_92] <|
 ck (.isAgg 2) [q5_93] <|
.seg [.call 22 [] 210 [.agg (ipx 0 11), q5_93] false] <|
 ck (.tproj 0) [.inp 22] <|
 ck (.tproj 1) [.inp 22] <|
 ck (.isAgg 11) [tp 0 (.inp 22)] <|
 ck (.un .not) [tp 1 (.inp 22)] <|
.cond (tp 1 (.inp 22))
 (ck (.un .not) [bT] <|
 ck (.bin .add) [.inp 21, zi 1] <|
.again 0 [q5_91])
 (ck (.un .not) [bF] <|
.ret (bF)))
 (ck .len [.inp 2] <|
.loop 0 22 [zi 0] <|
 ck (.bin .lss) [.inp 22, ln (.inp 2)] <|
.cond (bi .lss (.inp 22) (ln (.inp 2)))
 (ck (.eidx 3) [.inp 2, .inp 22] <|
 ck (.eload 3 true) [ei 3 (.inp 2) (.inp 22)] <|
 ck (.isAgg 3) [q5_94] <|
 ck (.isAgg 2) [q5_95] <|
.seg [.call 23 [] 210 [.agg (ipx 0 11), q5_95] false] <|
 ck (.tproj 0) [.inp 23] <|
 ck (.tproj 1) [.inp 23] <|
 ck (.isAgg 11) [tp 0 (.inp 23)] <|
 ck (.un .not) [tp 1 (.inp 23)] <|
.cond (tp 1 (.inp 23))
 (ck (.un .not) [bT] <|
 ck (.bin .add) [.inp 22, zi 1] <|
.again 0 [bi .add (.inp 22) (zi 1)])
 (ck (.un .not) [bF] <|
.ret (bF)))
 (ck .len [.inp 2] <|
.loop 0 23 [zi 0] <|
 ck (.bin .lss) [.inp 23, ln (.inp 2)] <|
.cond (bi .lss (.inp 23) (ln (.inp 2)))
 (ck (.eidx 3) [.inp 2, .inp 23] <|
 ck (.eload 3 true) [ei 3 (.inp 2) (.inp 23)] <|
 ck (.isAgg 3) [q5_96] <|
 ck .len [q5_97] <|
 ck (.bin .gtr) [q5_98, zi 2] <|
.cond (bi .gtr q5_98 (zi 2))
 (.ret (bF))
 (ck .len [q5_97] <|
.loop 1 24 [zi 0] <|
 ck (.bin .lss) [.inp 24, q5_98] <|
.cond (bi .lss (.inp 24) q5_98)
 (ck (.eidx 3) [q5_97, .inp 24] <|
 ck (.eload 3 true) [q5_99] <|
 ck (.isAgg 3) [q5_100] <|
.seg [.call 25 [] 130 [.agg (ipx 0 11), .agg [pt 0 q5_100, pt 1 q5_100, pt 2 q5_100]] false] <|
 ck (.tproj 0) [.inp 25] <|
 ck (.tproj 1) [.inp 25] <|
 ck (.un .not) [tp 1 (.inp 25)] <|
.cond (tp 1 (.inp 25))
 (ck (.bin .add) [.inp 24, zi 1] <|
.again 1 [bi .add (.inp 24) (zi 1)])
 (ck (.bin .geq) [.inp 24, zi 0] <|
.cond (bi .geq (.inp 24) (zi 0))
 (.ret (bF))
 (ck (.bin .add) [.inp 23, zi 1] <|
.again 0 [q5_101])))
 (ck (.bin .geq) [zi (-1), zi 0] <|
 ck (.bin .add) [.inp 23, zi 1] <|
.again 0 [q5_101])))
 (.ret (bT)))))))
theorem run_layout_Right : runF E 169 [.agg (ips 0 11)] 11 = rt_layout_Right := by kernel_rfl
def rt_join_Has : RT :=
 ck (.isAgg 11) [.agg (ipx 0 11)] <|
 ck (.isAgg 2) [.agg [.inp 11, .inp 12]] <|
.seg [.chk [] (.bin .geq) [.inp 11, zi 0],
.chk [(q5_21, true)] .len [.inp 0],
.chk [(q5_21, true)] (.bin .lss) [.inp 11, ln (.inp 0)],
.chk [] .pick [q5_21, q5_22, bF],
.chk [(q5_23, true)] (.bin .geq) [.inp 12, zi 0],
.chk [] .pick [q5_23, q5_68, bF],
.chk [(q5_102, true)] (.eidx 11) [.inp 0, .inp 11],
.chk [(q5_102, true)] (.eoff 0) [q5_26],
.chk [(q5_102, true)] (.eload 1 false) [q5_27],
.call 13 [(q5_102, true)] 225 [q5_28] false,
.chk [(q5_102, true)] (.bin .lss) [.inp 12, .inp 13],
.chk [] .pick [q5_102, q5_103, bF]] <|
.seg [.bind 14 (pk q5_102 q5_103 bF),
.bind 15 (q5_102)] <|
.ret (.inp 14)
theorem run_join_Has : runF E 173 [.agg (ips 0 11), .agg [.inp 11, .inp 12]] 13 = rt_join_Has := by kernel_rfl
def rt_join_Beyond : RT :=
 ck (.isAgg 11) [.agg (ipx 0 11)] <|
 ck (.isAgg 2) [.agg [.inp 11, .inp 12]] <|
.seg [.call 13 [] 173 [.agg (ipx 0 11), .agg [.inp 11, .inp 12]] false] <|
.cond (.inp 13)
 (.seg [.chk [] (.eidx 11) [.inp 0, .inp 11],
.chk [] (.eoff 1) [q5_26],
.chk [] (.eaidx 4 2) [q5_104, .inp 12],
.chk [] (.eload 2 true) [q5_105],
.chk [] (.isAgg 2) [q5_106]] <|
.ret (.agg [pt 0 q5_106, pt 1 q5_106]))
 (ck (.eload 2 true) [.ref [zi (-1), zi 0] 0] <|
 ck (.isAgg 2) [q5_0] <|
.ret (.agg [pt 0 q5_0, pt 1 q5_0]))
theorem run_join_Beyond : runF E 131 [.agg (ips 0 11), .agg [.inp 11, .inp 12]] 13 = rt_join_Beyond := by kernel_rfl
def rt_join_Joined : RT :=
 ck (.isAgg 11) [.agg (ipx 0 11)] <|
 ck .len [.inp 0] <|
 ck (.bin .gtr) [ln (.inp 0), zi 24] <|
.cond (q5_77)
 (.ret (bF))
 (ck .len [.inp 0] <|
.loop 0 11 [zi 0] <|
 ck (.bin .lss) [.inp 11, ln (.inp 0)] <|
.cond (q5_22)
 (ck (.eidx 11) [.inp 0, .inp 11] <|
 ck (.eload 11 true) [q5_26] <|
 ck .isOne [.inp 11] <|
 ck (.isAgg 11) [q5_30] <|
.seg [.call 12 [] 201 [q5_31] false] <|
 ck (.un .not) [.inp 12] <|
.cond (.inp 12)
 (ck (.isAgg 11) [.agg (ipx 0 11)] <|
 ck .isOne [.inp 11] <|
.loop 1 13 [zi 0] <|
 ck (.bin .lss) [.inp 13, zi 4] <|
.cond (bi .lss (.inp 13) (zi 4))
 (.seg [.chk [] .isOne [.inp 11],
.chk [] .isOne [.inp 13]] <|
 ck (.isAgg 2) [.agg [.inp 11, .inp 13]] <|
.seg [.call 14 [] 173 [.agg (ipx 0 11), .agg [.inp 11, .inp 13]] false,
.call 15 [(.inp 14, true)] 131 [.agg (ipx 0 11), .agg [.inp 11, .inp 13]] false] <|
.cond (.inp 14)
 (ck (.isAgg 2) [.agg [.inp 11, .inp 13]] <|
 ck (.isAgg 2) [.inp 15] <|
.seg [.chk [] (.eload 2 true) [.ref [zi (-1), zi 0] 0],
.chk [] (.eqa [ some .i64, some .i64] true) [q5_107, q5_0],
.chk [(q5_108, true)] (.bin .eql) [pt 0 (.inp 15), .inp 11],
.call 16 [(q5_109, false), (q5_108, true)] 173 [.agg (ipx 0 11), q5_107] false,
.chk [(q5_109, false), (q5_108, true)] (.un .not) [.inp 16],
.chk [(q5_108, true)] .pick [q5_109, bT, nt (.inp 16)],
.call 17 [(q5_110, false), (q5_108, true)] 131 [.agg (ipx 0 11), q5_107] false,
.chk [(q5_110, false), (q5_108, true)] (.eqa [ some .i64, some .i64] true) [.inp 17, .agg [.inp 11, .inp 13]],
.chk [(q5_108, true)] .pick [q5_110, bT, q5_111],
.chk [] .pick [q5_108, q5_112, bF]] <|
.seg [.bind 18 (q5_108),
.bind 19 (q5_112),
.bind 20 (pk q5_108 q5_112 bF)] <|
.cond (.inp 20)
 (ck (.un .not) [bF] <|
.ret (bF))
 (ck (.un .not) [bT] <|
 ck (.bin .add) [.inp 13, zi 1] <|
.again 1 [q5_20]))
 (ck (.bin .add) [.inp 13, zi 1] <|
.again 1 [q5_20]))
 (ck (.bin .add) [.inp 11, zi 1] <|
.again 0 [bi .add (.inp 11) (zi 1)]))
 (.ret (bF)))
 (.ret (bT)))
theorem run_join_Joined : runF E 212 [.agg (ips 0 11)] 11 = rt_join_Joined := by kernel_rfl
def rt_topo_over : RT :=
 ck (.isAgg 11) [.agg (ipx 0 11)] <|
 ck (.isAgg 3) [.agg [.inp 11, .inp 12, .inp 13]] <|
 ck (.isAgg 2) [.agg [.inp 11, .inp 12]] <|
 ck (.inr 24) [.inp 11] <|
 ck (.aidx 24 1 0 1 false) [q5_113, .inp 11] <|
 ck (.bin .add) [q5_114, zi 1] <|
 ck (.inr 24) [.inp 11] <|
.seg [.chk [] (.inr 24) [.inp 11],
.chk [] .isOne [q5_115]] <|
.seg [.bind 14 (q5_114),
.bind 15 (q5_115),
.bind 16 (.app (.cellset 0 24 1 0 1 0) [.inp 11, zi 0, q5_116]),
.bind 17 (.app (.cellset 0 24 1 0 1 1) [.inp 11, zi 0, q5_116]),
.bind 18 (.app (.cellset 0 24 1 0 1 2) [.inp 11, zi 0, q5_116]),
.bind 19 (.app (.cellset 0 24 1 0 1 3) [.inp 11, zi 0, q5_116]),
.bind 20 (.app (.cellset 0 24 1 0 1 4) [.inp 11, zi 0, q5_116]),
.bind 21 (.app (.cellset 0 24 1 0 1 5) [.inp 11, zi 0, q5_116]),
.bind 22 (.app (.cellset 0 24 1 0 1 6) [.inp 11, zi 0, q5_116]),
.bind 23 (.app (.cellset 0 24 1 0 1 7) [.inp 11, zi 0, q5_116]),
.bind 24 (.app (.cellset 0 24 1 0 1 8) [.inp 11, zi 0, q5_116]),
.bind 25 (.app (.cellset 0 24 1 0 1 9) [.inp 11, zi 0, q5_116]),
.bind 26 (.app (.cellset 0 24 1 0 1 10) [.inp 11, zi 0, q5_116]),
.bind 27 (.app (.cellset 0 24 1 0 1 11) [.inp 11, zi 0, q5_116]),
.bind 28 (.app (.cellset 0 24 1 0 1 12) [.inp 11, zi 0, q5_116]),
.bind 29 (.app (.cellset 0 24 1 0 1 13) [.inp 11, zi 0, q5_116]),
.bind 30 (.app (.cellset 0 24 1 0 1 14) [.inp 11, zi 0, q5_116]),
.bind 31 (.app (.cellset 0 24 1 0 1 15) [.inp 11, zi 0, q5_116]),
.bind 32 (.app (.cellset 0 24 1 0 1 16) [.inp 11, zi 0, q5_116]),
.bind 33 (.app (.cellset 0 24 1 0 1 17) [.inp 11, zi 0, q5_116]),
.bind 34 (.app (.cellset 0 24 1 0 1 18) [.inp 11, zi 0, q5_116]),
.bind 35 (.app (.cellset 0 24 1 0 1 19) [.inp 11, zi 0, q5_116]),
.bind 36 (.app (.cellset 0 24 1 0 1 20) [.inp 11, zi 0, q5_116]),
.bind 37 (.app (.cellset 0 24 1 0 1 21) [.inp 11, zi 0, q5_116]),
.bind 38 (.app (.cellset 0 24 1 0 1 22) [.inp 11, zi 0, q5_116]),
.bind 39 (.app (.cellset 0 24 1 0 1 23) [.inp 11, zi 0, q5_116])] <|
 ck .len [.inp 13] <|
.loop 0 40 (ap [zi 0] (ap (ipx 16 24) [.inp 11, .inp 12])) <|
 ck (.bin .lss) [.inp 40, ln (.inp 13)] <|
.cond (bi .lss (.inp 40) (ln (.inp 13)))
 (ck (.eidx 3) [.inp 13, .inp 40] <|
 ck (.eload 3 true) [q5_117] <|
 ck (.isAgg 3) [q5_118] <|
.seg [.call 67 [] 131 [.agg (ipx 0 11), .agg [.inp 65, .inp 66]] false,
.chk [] .isOne [q5_119],
.chk [] .isOne [q5_120],
.chk [] (.eqa [ some .i64, some .i64] true) [.inp 67, q5_121]] <|
.seg [.bind 68 (.app (.eqa [ some .i64, some .i64] true) [.inp 67, q5_121])] <|
.cond (.inp 68)
 (.ret (bF))
 (ck (.inr 24) [q5_119] <|
 ck (.aidx 24 1 0 1 false) [.agg (ipx 41 24), q5_119] <|
 ck (.bin .add) [q5_122, zi 1] <|
 ck (.inr 24) [q5_119] <|
.seg [.chk [] (.inr 24) [q5_119],
.chk [] .isOne [q5_123]] <|
.seg [.bind 69 (q5_122),
.bind 70 (q5_123),
.bind 71 (.app (.cellset 0 24 1 0 1 0) [q5_119, .inp 41, q5_124]),
.bind 72 (.app (.cellset 0 24 1 0 1 1) [q5_119, .inp 42, q5_124]),
.bind 73 (.app (.cellset 0 24 1 0 1 2) [q5_119, .inp 43, q5_124]),
.bind 74 (.app (.cellset 0 24 1 0 1 3) [q5_119, .inp 44, q5_124]),
.bind 75 (.app (.cellset 0 24 1 0 1 4) [q5_119, .inp 45, q5_124]),
.bind 76 (.app (.cellset 0 24 1 0 1 5) [q5_119, .inp 46, q5_124]),
.bind 77 (.app (.cellset 0 24 1 0 1 6) [q5_119, .inp 47, q5_124]),
.bind 78 (.app (.cellset 0 24 1 0 1 7) [q5_119, .inp 48, q5_124]),
.bind 79 (.app (.cellset 0 24 1 0 1 8) [q5_119, .inp 49, q5_124]),
.bind 80 (.app (.cellset 0 24 1 0 1 9) [q5_119, .inp 50, q5_124]),
.bind 81 (.app (.cellset 0 24 1 0 1 10) [q5_119, .inp 51, q5_124]),
.bind 82 (.app (.cellset 0 24 1 0 1 11) [q5_119, .inp 52, q5_124]),
.bind 83 (.app (.cellset 0 24 1 0 1 12) [q5_119, .inp 53, q5_124]),
.bind 84 (.app (.cellset 0 24 1 0 1 13) [q5_119, .inp 54, q5_124]),
.bind 85 (.app (.cellset 0 24 1 0 1 14) [q5_119, .inp 55, q5_124]),
.bind 86 (.app (.cellset 0 24 1 0 1 15) [q5_119, .inp 56, q5_124]),
.bind 87 (.app (.cellset 0 24 1 0 1 16) [q5_119, .inp 57, q5_124]),
.bind 88 (.app (.cellset 0 24 1 0 1 17) [q5_119, .inp 58, q5_124]),
.bind 89 (.app (.cellset 0 24 1 0 1 18) [q5_119, .inp 59, q5_124]),
.bind 90 (.app (.cellset 0 24 1 0 1 19) [q5_119, .inp 60, q5_124]),
.bind 91 (.app (.cellset 0 24 1 0 1 20) [q5_119, .inp 61, q5_124]),
.bind 92 (.app (.cellset 0 24 1 0 1 21) [q5_119, .inp 62, q5_124]),
.bind 93 (.app (.cellset 0 24 1 0 1 22) [q5_119, .inp 63, q5_124]),
.bind 94 (.app (.cellset 0 24 1 0 1 23) [q5_119, .inp 64, q5_124])] <|
 ck (.inr 24) [q5_119] <|
 ck (.aidx 24 1 0 1 false) [.agg (ipx 71 24), q5_119] <|
 ck (.bin .gtr) [q5_125, zi 1] <|
.seg [.bind 95 (q5_125),
.bind 96 (bi .gtr q5_125 (zi 1))] <|
.cond (.inp 96)
 (.ret (bF))
 (.seg [.chk [] .isOne [q5_119],
.chk [] .isOne [q5_126]] <|
 ck (.isAgg 2) [.agg [q5_119, q5_126]] <|
 ck (.bin .add) [.inp 40, zi 1] <|
.again 0 (ap [bi .add (.inp 40) (zi 1)] (ap (ipx 71 24) [q5_119, q5_126])))))
 (.ret (bT))
theorem run_topo_over : runF E 220 [.agg (ips 0 11), .agg [.inp 11, .inp 12, .inp 13]] 14 = rt_topo_over := by kernel_rfl
def rt_topo_rules_5_1 : RT :=
 ck (.isAgg 4) [.agg (ipx 0 4)] <|
 ck (.isAgg 4) [q5_127] <|
.ret (q5_127)
theorem run_topo_rules_5_1 : runF E 222 [.agg (ips 0 4)] 4 = rt_topo_rules_5_1 := by kernel_rfl
def rt_topo_rules_1 : RT :=
 ck (.eload 11 true) [.ref (ipx 0 11) 0] <|
.seg [.call 11 [] 212 [q5_128] false] <|
.seg [.bind 12 (q5_128)] <|
.cond (.inp 11)
 (.ret (zi (-1)))
 (.ret (zi 0))
theorem run_topo_rules_1 : runF E 211 [.ref (ips 0 11) 0] 11 = rt_topo_rules_1 := by kernel_rfl
def rt_topo_rules_2 : RT :=
 ck (.eoff 1) [.ref (ipx 0 11) 0] <|
 ck (.eload 1 false) [.ref (ipx 0 11) 1] <|
 ck .len [e1 (.ref (ipx 0 11) 1)] <|
 ck .isOne [q5_129] <|
.seg [.bind 11 (q5_129)] <|
.loop 0 12 [zi 0] <|
 ck (.bin .lss) [.inp 12, .inp 11] <|
.cond (q5_130)
 (.loop 1 13 [zi 0] <|
 ck (.bin .lss) [.inp 13, .inp 12] <|
.cond (q5_131)
 (.seg [.chk [] (.eoff 1) [.ref (ipx 0 11) 0],
.chk [] (.eload 1 false) [.ref (ipx 0 11) 1],
.chk [] (.eidx 2) [e1 (.ref (ipx 0 11) 1), .inp 13],
.chk [] (.eload 2 true) [q5_132],
.chk [] (.eoff 1) [.ref (ipx 0 11) 0],
.chk [] (.eload 1 false) [.ref (ipx 0 11) 1],
.chk [] (.eidx 2) [e1 (.ref (ipx 0 11) 1), .inp 12],
.chk [] (.eload 2 true) [q5_133],
.chk [] (.eqa [ some .i64, some .i64] false) [q5_134, q5_135]] <|
.seg [.bind 14 (.app (.eqa [ some .i64, some .i64] false) [q5_134, q5_135]),
.bind 15 (e1 (.ref (ipx 0 11) 1)),
.bind 16 (q5_132),
.bind 17 (q5_134),
.bind 18 (q5_133),
.bind 19 (q5_135)] <|
.cond (.inp 14)
 (ck .isOne [.inp 12] <|
 ck (.un .not) [bF] <|
.seg [.bind 20 (e1 (.ref (ipx 0 11) 1)),
.bind 21 (q5_129)] <|
.ret (.inp 12))
 (ck (.bin .add) [.inp 13, zi 1] <|
.again 1 [q5_20]))
 (ck (.bin .add) [.inp 12, zi 1] <|
.again 0 [q5_12]))
 (.seg [.bind 13 (e1 (.ref (ipx 0 11) 1)),
.bind 14 (q5_129)] <|
.ret (zi (-1)))
theorem run_topo_rules_2 : runF E 213 [.ref (ips 0 11) 0] 11 = rt_topo_rules_2 := by kernel_rfl
def rt_topo_rules_3 : RT :=
 ck (.eoff 2) [.ref (ipx 0 11) 0] <|
 ck (.eload 1 false) [.ref (ipx 0 11) 2] <|
 ck .len [e1 (.ref (ipx 0 11) 2)] <|
 ck .isOne [q5_136] <|
.seg [.bind 11 (q5_136)] <|
.loop 0 12 [zi 0] <|
 ck (.bin .lss) [.inp 12, .inp 11] <|
.cond (q5_130)
 (.loop 1 13 [zi 0] <|
 ck (.bin .lss) [.inp 13, .inp 12] <|
.cond (q5_131)
 (.seg [.chk [] (.eoff 2) [.ref (ipx 0 11) 0],
.chk [] (.eload 1 false) [.ref (ipx 0 11) 2],
.chk [] (.eidx 3) [e1 (.ref (ipx 0 11) 2), .inp 13],
.chk [] (.eoff 0) [q5_137],
.chk [] (.eload 2 true) [q5_138],
.chk [] (.eoff 2) [.ref (ipx 0 11) 0],
.chk [] (.eload 1 false) [.ref (ipx 0 11) 2],
.chk [] (.eidx 3) [e1 (.ref (ipx 0 11) 2), .inp 12],
.chk [] (.eoff 0) [q5_139],
.chk [] (.eload 2 true) [q5_140],
.chk [] (.eqa [ some .i64, some .i64] false) [q5_141, q5_142]] <|
.seg [.bind 14 (.app (.eqa [ some .i64, some .i64] false) [q5_141, q5_142]),
.bind 15 (e1 (.ref (ipx 0 11) 2)),
.bind 16 (q5_137),
.bind 17 (q5_138),
.bind 18 (q5_141),
.bind 19 (q5_139),
.bind 20 (q5_140),
.bind 21 (q5_142)] <|
.cond (.inp 14)
 (ck .isOne [.inp 12] <|
 ck (.un .not) [bF] <|
.seg [.bind 22 (e1 (.ref (ipx 0 11) 2)),
.bind 23 (q5_136)] <|
.ret (.inp 12))
 (ck (.bin .add) [.inp 13, zi 1] <|
.again 1 [q5_20]))
 (ck (.bin .add) [.inp 12, zi 1] <|
.again 0 [q5_12]))
 (.seg [.bind 13 (e1 (.ref (ipx 0 11) 2)),
.bind 14 (q5_136)] <|
.ret (zi (-1)))
theorem run_topo_rules_3 : runF E 217 [.ref (ips 0 11) 0] 11 = rt_topo_rules_3 := by kernel_rfl
def rt_topo_rules_4 : RT :=
 ck (.eoff 2) [.ref (ipx 0 11) 0] <|
 ck (.eload 1 false) [.ref (ipx 0 11) 2] <|
 ck .len [e1 (.ref (ipx 0 11) 2)] <|
.seg [.bind 11 (e1 (.ref (ipx 0 11) 2)),
.bind 12 (q5_136)] <|
.loop 0 13 [zi 0] <|
 ck (.bin .lss) [.inp 13, .inp 12] <|
.cond (q5_131)
 (ck (.eidx 3) [.inp 11, .inp 13] <|
 ck (.eload 3 true) [q5_143] <|
 ck (.isAgg 3) [q5_144] <|
 ck (.eload 11 true) [.ref (ipx 0 11) 0] <|
.seg [.call 14 [] 220 [q5_128, q5_145] false] <|
 ck (.un .not) [.inp 14] <|
.seg [.bind 15 (q5_128)] <|
.cond (.inp 14)
 (ck (.bin .add) [.inp 13, zi 1] <|
.again 0 [q5_20])
 (.ret (.inp 13)))
 (.ret (zi (-1)))
theorem run_topo_rules_4 : runF E 219 [.ref (ips 0 11) 0] 11 = rt_topo_rules_4 := by kernel_rfl
def rt_topo_rules_5 : RT :=
 ck (.eoff 3) [.ref (ipx 0 11) 0] <|
 ck (.eload 1 false) [.ref (ipx 0 11) 3] <|
 ck .len [e1 (.ref (ipx 0 11) 3)] <|
 ck .isOne [q5_146] <|
.seg [.bind 11 (q5_146)] <|
.loop 0 12 [zi 0] <|
 ck (.bin .lss) [.inp 12, .inp 11] <|
.cond (q5_130)
 (.loop 1 13 [zi 0] <|
 ck (.bin .lss) [.inp 13, .inp 12] <|
.cond (q5_131)
 (.seg [.chk [] (.eoff 3) [.ref (ipx 0 11) 0],
.chk [] (.eload 1 false) [.ref (ipx 0 11) 3],
.chk [] (.eidx 4) [e1 (.ref (ipx 0 11) 3), .inp 13],
.chk [] (.eload 4 true) [q5_147],
.call 14 [] 222 [q5_148] false,
.chk [] (.eoff 3) [.ref (ipx 0 11) 0],
.chk [] (.eload 1 false) [.ref (ipx 0 11) 3],
.chk [] (.eidx 4) [e1 (.ref (ipx 0 11) 3), .inp 12],
.chk [] (.eload 4 true) [q5_149],
.call 15 [] 222 [q5_150] false,
.chk [] (.eqa [ some .i64, some .i64, some .i64, some .i64] false) [.inp 14, .inp 15]] <|
.seg [.bind 16 (e1 (.ref (ipx 0 11) 3)),
.bind 17 (q5_147),
.bind 18 (q5_148),
.bind 19 (q5_149),
.bind 20 (q5_150)] <|
.cond (.app (.eqa [ some .i64, some .i64, some .i64, some .i64] false) [.inp 14, .inp 15])
 (ck .isOne [.inp 12] <|
 ck (.un .not) [bF] <|
.seg [.bind 21 (e1 (.ref (ipx 0 11) 3)),
.bind 22 (q5_146)] <|
.ret (.inp 12))
 (ck (.bin .add) [.inp 13, zi 1] <|
.again 1 [q5_20]))
 (ck (.bin .add) [.inp 12, zi 1] <|
.again 0 [q5_12]))
 (.seg [.bind 13 (e1 (.ref (ipx 0 11) 3)),
.bind 14 (q5_146)] <|
.ret (zi (-1)))
theorem run_topo_rules_5 : runF E 221 [.ref (ips 0 11) 0] 11 = rt_topo_rules_5 := by kernel_rfl
def rt_topo_Check : RT :=
 ck (.isAgg 11) [.agg (ipx 0 11)] <|
.seg [.call 11 [] 169 [.agg (ipx 0 11)] false] <|
 ck (.un .not) [.inp 11] <|
.cond (.inp 11)
 (ck (.isAgg 11) [.agg (ipx 0 11)] <|
.seg [.chk [] .isOne [.clo 211 [] [.ptr 16 0]],
.chk [] .isOne [.clo 213 [] [.ptr 16 0]],
.chk [] .isOne [.clo 217 [] [.ptr 16 0]],
.chk [] .isOne [.clo 219 [] [.ptr 16 0]],
.chk [] .isOne [.clo 221 [] [.ptr 16 0]]] <|
 ck .len [q5_151] <|
 ck (.bin .lss) [zi 0, zi 5] <|
 ck (.eidx 1) [q5_151, zi 0] <|
 ck (.rowget 1 0 1 false) [q5_151, zi 0] <|
.seg [.call 12 [] 211 [.ref (ipx 0 11) 0] true] <|
 ck (.bin .geq) [.inp 12, zi 0] <|
.cond (q5_68)
 (ck (.bin .add) [zi 0, zi 1] <|
.ret (.tup [zi 1, .inp 12, zi 90]))
 (ck (.bin .add) [zi 0, zi 1] <|
 ck (.bin .lss) [zi 1, zi 5] <|
 ck (.eidx 1) [q5_151, zi 1] <|
 ck (.rowget 1 0 1 false) [q5_151, zi 1] <|
.seg [.call 13 [] 213 [.ref (ipx 0 11) 0] true] <|
 ck (.bin .geq) [.inp 13, zi 0] <|
.cond (bi .geq (.inp 13) (zi 0))
 (ck (.bin .add) [zi 1, zi 1] <|
.ret (.tup [zi 2, .inp 13, zi 90]))
 (ck (.bin .add) [zi 1, zi 1] <|
 ck (.bin .lss) [zi 2, zi 5] <|
 ck (.eidx 1) [q5_151, zi 2] <|
 ck (.rowget 1 0 1 false) [q5_151, zi 2] <|
.seg [.call 14 [] 217 [.ref (ipx 0 11) 0] true] <|
 ck (.bin .geq) [.inp 14, zi 0] <|
.cond (bi .geq (.inp 14) (zi 0))
 (ck (.bin .add) [zi 2, zi 1] <|
.ret (.tup [zi 3, .inp 14, zi 90]))
 (ck (.bin .add) [zi 2, zi 1] <|
 ck (.bin .lss) [zi 3, zi 5] <|
 ck (.eidx 1) [q5_151, zi 3] <|
 ck (.rowget 1 0 1 false) [q5_151, zi 3] <|
.seg [.call 15 [] 219 [.ref (ipx 0 11) 0] true] <|
 ck (.bin .geq) [.inp 15, zi 0] <|
.cond (bi .geq (.inp 15) (zi 0))
 (ck (.bin .add) [zi 3, zi 1] <|
.ret (.tup [zi 4, .inp 15, zi 90]))
 (ck (.bin .add) [zi 3, zi 1] <|
 ck (.bin .lss) [zi 4, zi 5] <|
 ck (.eidx 1) [q5_151, zi 4] <|
 ck (.rowget 1 0 1 false) [q5_151, zi 4] <|
.seg [.call 16 [] 221 [.ref (ipx 0 11) 0] true] <|
 ck (.bin .geq) [.inp 16, zi 0] <|
.cond (bi .geq (.inp 16) (zi 0))
 (ck (.bin .add) [zi 4, zi 1] <|
.ret (.tup [zi 5, .inp 16, zi 90]))
 (ck (.bin .add) [zi 4, zi 1] <|
 ck (.bin .lss) [zi 5, zi 5] <|
.ret (.tup [zi 0, zi 0, zi 0])))))))
 (.ret (.tup [zi 0, zi 0, zi 60]))
theorem run_topo_Check : runF E 127 [.agg (ips 0 11)] 11 = rt_topo_Check := by kernel_rfl
def rt_topo_Right : RT :=
 ck (.isAgg 11) [.agg (ipx 0 11)] <|
.seg [.call 11 [] 127 [.agg (ipx 0 11)] false] <|
 ck (.tproj 0) [.inp 11] <|
 ck (.tproj 1) [.inp 11] <|
 ck (.tproj 2) [.inp 11] <|
 ck (.bin .eql) [tp 2 (.inp 11), zi 0] <|
.ret (bi .eql (tp 2 (.inp 11)) (zi 0))
theorem run_topo_Right : runF E 85 [.agg (ips 0 11)] 11 = rt_topo_Right := by kernel_rfl
def rt_route_in : RT :=
 ck (.isAgg 3) [q5_152] <|
.seg [.chk [] .isOne [.inp 0],
.chk [] .isOne [.inp 1]] <|
 ck (.isAgg 2) [.agg [.inp 0, .inp 1]] <|
.ret (.agg [.inp 0, .inp 1])
theorem run_route_in : runF E 88 [.agg [.inp 0, .inp 1, .inp 2]] 3 = rt_route_in := by kernel_rfl
def rt_route_out : RT :=
 ck (.isAgg 3) [q5_152] <|
.seg [.chk [] .isOne [.inp 0],
.chk [] .isOne [.inp 2]] <|
 ck (.isAgg 2) [.agg [.inp 0, .inp 2]] <|
.ret (.agg [.inp 0, .inp 2])
theorem run_route_out : runF E 89 [.agg [.inp 0, .inp 1, .inp 2]] 3 = rt_route_out := by kernel_rfl
def rt_route_Goes : RT :=
 ck (.isAgg 11) [.agg (ipx 0 11)] <|
 ck .len [.inp 11] <|
.loop 0 12 [zi 0] <|
 ck (.bin .lss) [.inp 12, ln (.inp 11)] <|
.cond (bi .lss (.inp 12) (ln (.inp 11)))
 (ck (.eidx 3) [.inp 11, .inp 12] <|
 ck (.eload 3 true) [q5_153] <|
 ck (.isAgg 3) [q5_154] <|
.seg [.call 13 [] 130 [.agg (ipx 0 11), .agg [pt 0 q5_154, pt 1 q5_154, pt 2 q5_154]] false] <|
 ck (.tproj 0) [.inp 13] <|
 ck (.tproj 1) [.inp 13] <|
 ck (.un .not) [tp 1 (.inp 13)] <|
.cond (tp 1 (.inp 13))
 (ck (.bin .add) [.inp 12, zi 1] <|
.again 0 [q5_12])
 (ck (.bin .geq) [.inp 12, zi 0] <|
.cond (q5_68)
 (.ret (bF))
 (ck .isOne [.inp 11] <|
.loop 0 14 [zi 1] <|
.seg [.chk [] .len [.inp 11],
.chk [] (.bin .lss) [.inp 14, ln (.inp 11)],
.chk [(q5_155, true)] (.bin .sub) [.inp 14, zi 1],
.chk [(q5_155, true)] (.eidx 3) [.inp 11, q5_156],
.chk [(q5_155, true)] (.eload 3 true) [q5_157],
.chk [(q5_155, true)] (.eidx 3) [.inp 11, .inp 14],
.chk [(q5_155, true)] (.eload 3 true) [q5_158]] <|
.cond (q5_155)
 (ck (.isAgg 3) [q5_159] <|
 ck (.isAgg 3) [q5_160] <|
.seg [.call 15 [] 89 [.agg [pt 0 q5_159, pt 1 q5_159, pt 2 q5_159]] false,
.call 16 [] 131 [.agg (ipx 0 11), .inp 15] false,
.call 17 [] 88 [.agg [pt 0 q5_160, pt 1 q5_160, pt 2 q5_160]] false,
.chk [] (.eqa [ some .i64, some .i64] true) [.inp 16, .inp 17]] <|
.cond (.app (.eqa [ some .i64, some .i64] true) [.inp 16, .inp 17])
 (.ret (bF))
 (ck (.bin .add) [.inp 14, zi 1] <|
.again 0 [bi .add (.inp 14) (zi 1)]))
 (.ret (bT)))))
 (ck (.bin .geq) [zi (-1), zi 0] <|
 ck .isOne [.inp 11] <|
.loop 0 13 [zi 1] <|
.seg [.chk [] .len [.inp 11],
.chk [] (.bin .lss) [.inp 13, ln (.inp 11)],
.chk [(q5_161, true)] (.bin .sub) [.inp 13, zi 1],
.chk [(q5_161, true)] (.eidx 3) [.inp 11, q5_162],
.chk [(q5_161, true)] (.eload 3 true) [q5_163],
.chk [(q5_161, true)] (.eidx 3) [.inp 11, .inp 13],
.chk [(q5_161, true)] (.eload 3 true) [q5_143]] <|
.cond (q5_161)
 (ck (.isAgg 3) [q5_164] <|
 ck (.isAgg 3) [q5_144] <|
.seg [.call 14 [] 89 [.agg [pt 0 q5_164, pt 1 q5_164, pt 2 q5_164]] false,
.call 15 [] 131 [.agg (ipx 0 11), .inp 14] false,
.call 16 [] 88 [q5_145] false,
.chk [] (.eqa [ some .i64, some .i64] true) [.inp 15, .inp 16]] <|
.cond (.app (.eqa [ some .i64, some .i64] true) [.inp 15, .inp 16])
 (.ret (bF))
 (ck (.bin .add) [.inp 13, zi 1] <|
.again 0 [q5_20]))
 (.ret (bT)))
theorem run_route_Goes : runF E 90 [.agg (ips 0 11), .inp 11] 12 = rt_route_Goes := by kernel_rfl
def rt_route_Through : RT :=
 ck (.isAgg 3) [q5_152] <|
 ck .len [.inp 2] <|
.loop 0 4 [.inp 3, zi 0] <|
 ck (.bin .lss) [.inp 5, ln (.inp 2)] <|
.cond (bi .lss (.inp 5) (ln (.inp 2)))
 (ck (.eidx 3) [.inp 2, .inp 5] <|
 ck (.eload 3 true) [ei 3 (.inp 2) (.inp 5)] <|
 ck (.isAgg 3) [q5_165] <|
.seg [.chk [] .len [.inp 4],
.chk [] (.bin .gtr) [ln (.inp 4), zi 0],
.chk [(q5_166, true)] (.eidx 1) [.inp 4, zi 0],
.chk [(q5_166, true)] (.eload 1 false) [ei 1 (.inp 4) (zi 0)],
.chk [(q5_166, true)] (.bin .eql) [q5_167, q5_168],
.chk [] .pick [q5_166, q5_169, bF]] <|
.seg [.bind 6 (q5_169),
.bind 7 (pk q5_166 q5_169 bF)] <|
.cond (.inp 7)
 (.seg [.chk [] (.szs 1) [.inp 4],
.chk [] (.slice true false) [.inp 4, zi 1]] <|
 ck (.bin .add) [.inp 5, zi 1] <|
.again 0 [.app (.slice true false) [.inp 4, zi 1], bi .add (.inp 5) (zi 1)])
 (ck (.bin .add) [.inp 5, zi 1] <|
.again 0 [.inp 4, bi .add (.inp 5) (zi 1)]))
 (ck .len [.inp 4] <|
 ck (.bin .eql) [ln (.inp 4), zi 0] <|
.ret (bi .eql (ln (.inp 4)) (zi 0)))
theorem run_route_Through : runF E 91 [.agg [.inp 0, .inp 1, .inp 2], .inp 3] 4 = rt_route_Through := by kernel_rfl
def rt_slices_ContainsFunc_int : RT :=
 ck .len [.inp 0] <|
.loop 0 12 [zi 0] <|
 ck (.bin .lss) [.inp 12, ln (.inp 0)] <|
.cond (q5_39)
 (ck (.eidx 1) [.inp 0, .inp 12] <|
 ck (.eload 1 false) [ei 1 (.inp 0) (.inp 12)] <|
 ck (.bin .lss) [q5_170, zi 0] <|
 ckg (q5_171) false (.eoff 0) [.ref (ipx 1 11) 0] <|
 ckg (q5_171) false (.eload 1 false) [.ref (ipx 1 11) 0] <|
 ckg (q5_171) false .len [e1 (.ref (ipx 1 11) 0)] <|
 ckg (q5_171) false (.bin .geq) [q5_170, q5_172] <|
 ck .pick [q5_171, bT, q5_173] <|
.seg [.bind 13 (pk q5_171 bT q5_173),
.bind 14 (e1 (.ref (ipx 1 11) 0)),
.bind 15 (q5_172),
.bind 16 (q5_173)] <|
.cond (.inp 13)
 (ck (.bin .geq) [.inp 12, zi 0] <|
.ret (q5_68))
 (ck (.bin .add) [.inp 12, zi 1] <|
.again 0 [q5_12]))
 (ck (.bin .geq) [zi (-1), zi 0] <|
.ret (bF))
theorem run_slices_ContainsFunc_int : runF E 86 [.inp 0, .clo 87 [] [.ref (ips 1 11) 0]] 12 = rt_slices_ContainsFunc_int := by kernel_rfl
end
end Go.Lb.LK
namespace Go.Lb.LK
open Go Go.Lb Go.Proofs
noncomputable section
@[simp] def q6_0 : SE := .agg [.inp 11, .inp 12, .inp 13]
@[simp] def q6_1 : SE := bi .lss (.inp 11) (zi 0)
@[simp] def q6_2 : SE := bi .geq (.inp 11) (ln (.inp 1))
@[simp] def q6_3 : SE := pk q6_1 bT q6_2
@[simp] def q6_4 : SE := bi .lss (.inp 12) (zi 0)
@[simp] def q6_5 : SE := pk q6_3 bT q6_4
@[simp] def q6_6 : SE := bi .geq (.inp 12) (ln (.inp 2))
@[simp] def q6_7 : SE := pk q6_5 bT q6_6
@[simp] def q6_8 : SE := bi .gtr (ln (.inp 14)) (zi 2)
@[simp] def q6_9 : SE := pk q6_7 bT q6_8
@[simp] def q6_10 : SE := el 3 (ei 3 (.inp 2) (.inp 12))
@[simp] def q6_11 : SE := bi .lss (ln (.inp 13)) (zi 1)
@[simp] def q6_12 : SE := bi .gtr (ln (.inp 13)) (zi 12)
@[simp] def q6_13 : SE := pk q6_11 bT q6_12
@[simp] def q6_14 : SE := .app (.eoff 0) [ei 2 (.inp 1) (.inp 11)]
@[simp] def q6_15 : SE := el 2 q6_14
@[simp] def q6_16 : SE := .app (.eqa [ some .i64, some .i64] true) [.inp 21, q6_15]
@[simp] def q6_17 : SE := pk q6_13 bT q6_16
@[simp] def q6_18 : SE := bi .sub (ln (.inp 13)) (zi 1)
@[simp] def q6_19 : SE := ei 3 (.inp 13) q6_18
@[simp] def q6_20 : SE := .agg [pt 0 q6_10, pt 1 q6_10]
@[simp] def q6_21 : SE := .app (.eqa [ some .i64, some .i64] true) [.inp 22, q6_20]
@[simp] def q6_22 : SE := pt 2 q6_10
@[simp] def q6_23 : SE := ei 3 (.inp 29) (.inp 30)
@[simp] def q6_24 : SE := el 3 q6_23
@[simp] def q6_25 : SE := .app (.slice false true) [.inp 29, .inp 30]
@[simp] def q6_26 : SE := ln q6_25
@[simp] def q6_27 : SE := ei 3 q6_25 (.inp 31)
@[simp] def q6_28 : SE := el 3 q6_27
@[simp] def q6_29 : SE := pt 0 q6_28
@[simp] def q6_30 : SE := pt 0 q6_24
@[simp] def q6_31 : SE := bi .add (.inp 30) (zi 1)
@[simp] def q6_32 : SE := bi .add (.inp 31) (zi 1)
@[simp] def q6_33 : SE := bi .lss (.inp 31) (ln (.inp 13))
@[simp] def q6_34 : SE := bi .sub (.inp 31) (zi 1)
@[simp] def q6_35 : SE := ei 3 (.inp 13) (.inp 31)
@[simp] def q6_36 : SE := el 3 q6_35
@[simp] def q6_37 : SE := el 23 (ei 23 (.inp 0) (.inp 2))
@[simp] def q6_38 : SE := pt 0 q6_37
def rt_route_Check : RT :=
 ck (.isAgg 11) [.agg (ipx 0 11)] <|
 ck (.isAgg 3) [q6_0] <|
 ck .len [.inp 13] <|
 ck (.bin .lss) [.inp 11, zi 0] <|
 ckg (q6_1) false .len [.inp 1] <|
 ckg (q6_1) false (.bin .geq) [.inp 11, ln (.inp 1)] <|
 ck .pick [q6_1, bT, q6_2] <|
 ckg (q6_3) false (.bin .lss) [.inp 12, zi 0] <|
 ck .pick [q6_3, bT, q6_4] <|
 ckg (q6_5) false .len [.inp 2] <|
 ckg (q6_5) false (.bin .geq) [.inp 12, ln (.inp 2)] <|
 ck .pick [q6_5, bT, q6_6] <|
 ckg (q6_7) false .len [.inp 14] <|
 ckg (q6_7) false (.bin .gtr) [ln (.inp 14), zi 2] <|
 ck .pick [q6_7, bT, q6_8] <|
.seg [.call 15 [(q6_9, false)] 85 [.agg (ipx 0 11)] false] <|
 ckg (q6_9) false (.un .not) [.inp 15] <|
 ck .pick [q6_9, bT, nt (.inp 15)] <|
.seg [.bind 16 (q6_5),
.bind 17 (q6_7),
.bind 18 (q6_9),
.bind 19 (pk q6_9 bT (nt (.inp 15)))] <|
.cond (.inp 19)
 (.ret (zi 2))
 (.seg [.call 20 [] 86 [.inp 14, .clo 87 [] [.ref (ipx 0 11) 0]] true] <|
.cond (.inp 20)
 (.ret (zi 2))
 (.seg [.chk [] (.eidx 3) [.inp 2, .inp 12],
.chk [] (.eload 3 true) [ei 3 (.inp 2) (.inp 12)],
.chk [] (.isAgg 3) [q6_10]] <|
.seg [.chk [] (.bin .lss) [ln (.inp 13), zi 1],
.chk [(q6_11, false)] (.bin .gtr) [ln (.inp 13), zi 12],
.chk [] .pick [q6_11, bT, q6_12],
.chk [(q6_13, false)] (.eidx 3) [.inp 13, zi 0],
.chk [(q6_13, false)] (.eload 3 true) [ei 3 (.inp 13) (zi 0)],
.call 21 [(q6_13, false)] 88 [el 3 (ei 3 (.inp 13) (zi 0))] false,
.chk [(q6_13, false)] (.eidx 2) [.inp 1, .inp 11],
.chk [(q6_13, false)] (.eoff 0) [ei 2 (.inp 1) (.inp 11)],
.chk [(q6_13, false)] (.eload 2 true) [q6_14],
.chk [(q6_13, false)] (.eqa [ some .i64, some .i64] true) [.inp 21, q6_15],
.chk [] .pick [q6_13, bT, q6_16],
.chk [(q6_17, false)] (.bin .sub) [ln (.inp 13), zi 1],
.chk [(q6_17, false)] (.eidx 3) [.inp 13, q6_18],
.chk [(q6_17, false)] (.eload 3 true) [q6_19],
.call 22 [(q6_17, false)] 89 [el 3 q6_19] false,
.chk [(q6_17, false)] (.eqa [ some .i64, some .i64] true) [.inp 22, q6_20],
.chk [] .pick [q6_17, bT, q6_21]] <|
.seg [.bind 23 (q6_13),
.bind 24 (q6_17),
.bind 25 (q6_21),
.bind 26 (pk q6_17 bT q6_21)] <|
.cond (.inp 26)
 (.ret (zi 110))
 (.seg [.call 27 [] 90 [.agg (ipx 0 11), .inp 13] false] <|
 ck (.un .not) [.inp 27] <|
.seg [.call 28 [(nt (.inp 27), false)] 91 [q6_0, .inp 14] false] <|
 ckg (nt (.inp 27)) false (.un .not) [.inp 28] <|
 ck .pick [nt (.inp 27), bT, nt (.inp 28)] <|
.cond (pk (nt (.inp 27)) bT (nt (.inp 28)))
 (.ret (zi 110))
 (.seg [.chk [] .isOne [.inp 13],
.chk [] .isOne [q6_22],
.chk [] .isOne [.inp 13],
.chk [] .isOne [q6_22]] <|
.seg [.call 29 [] 93 [.app .lst [.inp 13, q6_22]] false] <|
 ck .len [.inp 29] <|
.loop 0 30 [zi 0] <|
 ck (.bin .lss) [.inp 30, ln (.inp 29)] <|
.cond (bi .lss (.inp 30) (ln (.inp 29)))
 (ck (.eidx 3) [.inp 29, .inp 30] <|
 ck (.eload 3 true) [q6_23] <|
 ck (.isAgg 3) [q6_24] <|
.seg [.chk [] (.szs 3) [.inp 29],
.chk [] (.slice false true) [.inp 29, .inp 30]] <|
 ck .len [q6_25] <|
.loop 1 31 [zi 0] <|
 ck (.bin .lss) [.inp 31, q6_26] <|
.cond (bi .lss (.inp 31) q6_26)
 (ck (.eidx 3) [q6_25, .inp 31] <|
 ck (.eload 3 true) [q6_27] <|
 ck (.isAgg 3) [q6_28] <|
 ck (.bin .eql) [q6_29, q6_30] <|
.seg [.bind 32 (bi .eql q6_29 q6_30)] <|
.cond (.inp 32)
 (ck (.bin .geq) [.inp 31, zi 0] <|
.cond (bi .geq (.inp 31) (zi 0))
 (.ret (zi 110))
 (ck (.bin .add) [.inp 30, zi 1] <|
.again 0 [q6_31]))
 (ck (.bin .add) [.inp 31, zi 1] <|
.again 1 [q6_32]))
 (ck (.bin .geq) [zi (-1), zi 0] <|
 ck (.bin .add) [.inp 30, zi 1] <|
.again 0 [q6_31]))
 (ck .isOne [.inp 13] <|
.loop 0 31 [zi 1] <|
.seg [.chk [] .len [.inp 13],
.chk [] (.bin .lss) [.inp 31, ln (.inp 13)],
.chk [(q6_33, true)] (.bin .sub) [.inp 31, zi 1],
.chk [(q6_33, true)] (.eidx 3) [.inp 13, q6_34],
.chk [(q6_33, true)] (.eload 3 true) [ei 3 (.inp 13) q6_34],
.chk [(q6_33, true)] (.eidx 3) [.inp 13, .inp 31],
.chk [(q6_33, true)] (.eload 3 true) [q6_35]] <|
.cond (q6_33)
 (ck (.isAgg 3) [q6_36] <|
.seg [.call 32 [] 88 [.agg [pt 0 q6_36, pt 1 q6_36, pt 2 q6_36]] false,
.call 33 [] 95 [.agg (ipx 0 11), .inp 32] false,
.chk [] (.bin .geq) [.inp 33, zi 0]] <|
.cond (bi .geq (.inp 33) (zi 0))
 (.ret (zi 110))
 (ck (.bin .add) [.inp 31, zi 1] <|
.again 0 [q6_32]))
 (.ret (zi 0)))))))
theorem run_route_Check : runF E 55 [.agg (ips 0 11), .agg [.inp 11, .inp 12, .inp 13], .inp 14] 15 = rt_route_Check := by kernel_rfl
def rt_slices_IndexFunc_Held : RT :=
 ck .len [.inp 0] <|
.loop 0 2 [zi 0] <|
 ck (.bin .lss) [.inp 2, ln (.inp 0)] <|
.cond (bi .lss (.inp 2) (ln (.inp 0)))
 (ck (.eidx 23) [.inp 0, .inp 2] <|
 ck (.eload 23 true) [ei 23 (.inp 0) (.inp 2)] <|
 ck (.isAgg 23) [q6_37] <|
 ck (.eload 1 false) [.ref [.inp 1] 0] <|
 ck (.bin .eql) [q6_38, e1 (.ref [.inp 1] 0)] <|
.cond (bi .eql q6_38 (e1 (.ref [.inp 1] 0)))
 (.ret (.inp 2))
 (ck (.bin .add) [.inp 2, zi 1] <|
.again 0 [bi .add (.inp 2) (zi 1)]))
 (.ret (zi (-1)))
theorem run_slices_IndexFunc_Held : runF E 49 [.inp 0, .clo 50 [] [.ref [.inp 1] 0]] 2 = rt_slices_IndexFunc_Held := by kernel_rfl
end
end Go.Lb.LK
namespace Go.Lb.LK
open Go Go.Lb Go.Proofs
noncomputable section
@[simp] def q7_0 : SE := .tup [.agg [zi 0, zi 0, zi 0, .nils, .nils, .nils, .int .u8 0, zi 0, bF, bF, bF, bF, bF, bF, bF, bF, bF, bF, bF, bF, bF, zi 0, bF], bF]
@[simp] def q7_1 : SE := ei 23 (.inp 1) (.inp 74)
@[simp] def q7_2 : SE := ei 23 (.inp 1) (.inp 76)
@[simp] def q7_3 : SE := el 23 q7_2
@[simp] def q7_4 : SE := pt 1 q7_3
@[simp] def q7_5 : SE := bi .add (.inp 76) (zi 1)
@[simp] def q7_6 : SE := ei 23 (.inp 1) (.inp 75)
@[simp] def q7_7 : SE := .agg (pts (.inp 77) 0 23)
@[simp] def q7_8 : SE := .agg [.inp 114, .inp 115, .inp 116]
@[simp] def q7_9 : SE := bi .geq (.inp 40) (zi 1073741824)
def rt_commit_told : RT :=
 ck (.isAgg 74) [.agg (ips 0 74)] <|
 ck (.bin .lss) [.inp 74, zi 0] <|
.cond (bi .lss (.inp 74) (zi 0))
 (.ret (q7_0))
 (ck (.eidx 23) [.inp 1, .inp 74] <|
 ck (.eload 23 true) [q7_1] <|
.seg [.call 75 [] 78 [el 23 q7_1] false] <|
 ck (.isAgg 23) [.inp 75] <|
.ret (.tup [.agg (pts (.inp 75) 0 23), bT]))
theorem run_commit_told : runF E 48 [.agg (ips 0 74), .inp 74] 75 = rt_commit_told := by kernel_rfl
def rt_commit_New : RT :=
.loop 0 0 [zi 0, zi 0, zi 0, bF, zi 0, zi 0, bF, zi 0, zi 0, bF, zi 0, zi 0, bF, zi 0, zi 0, bF, zi 0, zi 0, bF, zi 0, zi 0, bF, zi 0, zi 0, bF, zi 0, zi 0, bF, zi 0, zi 0, bF, zi 0, zi 0, bF, zi 0, zi 0, bF, zi 0, zi 0, bF, zi 0, zi 0, bF, zi 0, zi 0, bF, zi 0, zi 0, bF, zi 0, zi 0, bF, zi 0, zi 0, bF, zi 0, zi 0, bF, zi 0, zi 0, bF, zi 0, zi 0, bF, zi 0, zi 0, bF, zi 0, zi 0, bF, zi 0, zi 0, bF] <|
 ck (.bin .lss) [.inp 0, zi 24] <|
.cond (bi .lss (.inp 0) (zi 24))
 (.seg [.call 73 [] 60 [] false] <|
 ck (.inr 24) [.inp 0] <|
.seg [.chk [] (.inr 24) [.inp 0],
.chk [] (.isAgg 3) [.inp 73]] <|
.seg (csB 2 (.inp 0) (.agg [pt 0 (.inp 73), pt 1 (.inp 73), pt 2 (.inp 73)]) 74 2 (ips 1 72)) <|
 ck (.bin .add) [.inp 0, zi 1] <|
.again 0 (ap [bi .add (.inp 0) (zi 1)] (ips 74 72)))
 (ck (.isAgg 74) [.agg (ap [zi 1, .enil] (ips 1 72))] <|
.ret (.agg (ap [zi 1, .nils] (ips 1 72))))
theorem run_commit_New : runF E 20 [] 0 = rt_commit_New := by kernel_rfl
def rt_commit_Find : RT :=
 ck (.isAgg 74) [.agg (ips 0 74)] <|
 ck .isOne [.inp 74] <|
.seg [.call 75 [] 49 [.inp 1, .clo 50 [] [.ref [.inp 74] 0]] true,
.call 76 [] 48 [.agg (ips 0 74), .inp 75] false,
.chk [] (.tproj 0) [.inp 76],
.chk [] (.tproj 1) [.inp 76],
.chk [] (.isAgg 23) [tp 0 (.inp 76)]] <|
.ret (.tup [.agg (pts (tp 0 (.inp 76)) 0 23), tp 1 (.inp 76)])
theorem run_commit_Find : runF E 12 [.agg (ips 0 74), .inp 74] 75 = rt_commit_Find := by kernel_rfl
def rt_commit_Of : RT :=
 ck (.isAgg 74) [.agg (ips 0 74)] <|
 ck .len [.inp 1] <|
.loop 0 75 [zi (-1), zi 0] <|
 ck (.bin .lss) [.inp 76, ln (.inp 1)] <|
.cond (bi .lss (.inp 76) (ln (.inp 1)))
 (ck (.eidx 23) [.inp 1, .inp 76] <|
 ck (.eload 23 true) [q7_2] <|
 ck (.isAgg 23) [q7_3] <|
 ck (.bin .eql) [q7_4, .inp 74] <|
.cond (bi .eql q7_4 (.inp 74))
 (ck (.bin .add) [.inp 76, zi 1] <|
.again 0 [.inp 76, q7_5])
 (ck (.bin .add) [.inp 76, zi 1] <|
.again 0 [.inp 75, q7_5]))
 (ck (.isAgg 74) [.agg (ips 0 74)] <|
 ck (.bin .lss) [.inp 75, zi 0] <|
.cond (bi .lss (.inp 75) (zi 0))
 (.ret (q7_0))
 (ck (.eidx 23) [.inp 1, .inp 75] <|
 ck (.eload 23 true) [q7_6] <|
.seg [.call 77 [] 78 [el 23 q7_6] false] <|
 ck (.isAgg 23) [.inp 77] <|
 ck (.isAgg 23) [q7_7] <|
.ret (.tup [q7_7, bT])))
theorem run_commit_Of : runF E 16 [.agg (ips 0 74), .inp 74] 75 = rt_commit_Of := by kernel_rfl
def rt_commit_Look : RT :=
 ck (.isAgg 11) [.agg (ips 0 11)] <|
 ck (.isAgg 29) [.agg (ips 11 29)] <|
 ck (.isAgg 74) [.agg (ips 40 74)] <|
 ck (.isAgg 3) [q7_8] <|
.seg [.call 117 [] 55 [.agg (ips 0 11), q7_8, .nils] false] <|
 ck (.bin .neq) [.inp 117, zi 0] <|
.cond (bi .neq (.inp 117) (zi 0))
 (.ret (.inp 117))
 (.seg [.call 118 [] 56 [.agg (ips 0 11), q7_8] false] <|
 ck (.un .not) [.inp 118] <|
.cond (.inp 118)
 (ck (.bin .geq) [.inp 40, zi 1073741824] <|
.seg [.call 119 [(q7_9, false)] 57 [.agg (ips 40 74)] false] <|
 ckg (q7_9) false (.un .not) [.inp 119] <|
 ck .pick [q7_9, bT, nt (.inp 119)] <|
.cond (pk q7_9 bT (nt (.inp 119)))
 (.ret (zi 2))
 (.seg [.call 120 [] 58 [.agg (ips 0 11), .agg (ips 11 29), .agg (ips 40 74), q7_8] false] <|
.ret (.inp 120)))
 (.ret (zi 110)))
theorem run_commit_Look : runF E 18 [.agg (ips 0 11), .agg (ips 11 29), .agg (ips 40 74), .agg [.inp 114, .inp 115, .inp 116]] 117 = rt_commit_Look := by kernel_rfl
end
end Go.Lb.LK
namespace Go.Lb.LK
open Go Go.Lb Go.Proofs
noncomputable section
@[simp] def q8_0 : SE := .agg [.inp 114, .inp 115, .inp 116]
@[simp] def q8_1 : SE := .agg (ap [.inp 40, .enil] (ips 42 72))
@[simp] def q8_2 : SE := .agg [.inp 40, pt 0 (.inp 119), pt 1 (.inp 119), pt 2 (.inp 119), .inp 120, .inp 121, .int .u8 1, zi 0, bF, bF, bF, bF, bF, bF, bF, bF, bF, bF, bF, bF, bF, zi 0, bF]
@[simp] def q8_3 : SE := ei 3 (.inp 121) (.inp 122)
@[simp] def q8_4 : SE := el 3 q8_3
@[simp] def q8_5 : SE := pt 0 q8_4
@[simp] def q8_6 : SE := pt 1 q8_4
@[simp] def q8_7 : SE := .agg (ap [.inp 40, .enil] (ips 123 72))
@[simp] def q8_8 : SE := .app (.aidx 24 3 2 3 true) [q8_7, q8_5]
@[simp] def q8_9 : SE := .agg [pt 0 (.inp 197), pt 1 (.inp 197), pt 2 (.inp 197)]
@[simp] def q8_10 : SE := bi .add (.inp 122) (zi 1)
@[simp] def q8_11 : SE := .agg [pt 0 (.inp 195), pt 1 (.inp 195), pt 2 (.inp 195)]
@[simp] def q8_12 : SE := .app .lst [q8_2]
@[simp] def q8_13 : SE := bi .add (.inp 40) (zi 1)
@[simp] def q8_14 : SE := .app .app [.app .lst [], .inp 41]
@[simp] def q8_15 : SE := ln q8_14
@[simp] def q8_16 : SE := .app (.rowget 23 0 23 true) [.inp 119, .inp 118]
@[simp] def q8_17 : SE := .agg (pts (.inp 120) 0 23)
@[simp] def q8_18 : SE := .agg (ap [.inp 40, .row 34] (ips 42 72))
@[simp] def q8_19 : SE := .agg [.inp 40, pt 0 (.inp 121), pt 1 (.inp 121), pt 2 (.inp 121), .inp 122, .inp 123, .int .u8 1, zi 0, bF, bF, bF, bF, bF, bF, bF, bF, bF, bF, bF, bF, bF, zi 0, bF]
@[simp] def q8_20 : SE := ei 3 (.inp 123) (.inp 124)
@[simp] def q8_21 : SE := el 3 q8_20
@[simp] def q8_22 : SE := pt 0 q8_21
@[simp] def q8_23 : SE := pt 1 q8_21
@[simp] def q8_24 : SE := .agg (ap [.inp 40, .undef] (ips 125 72))
@[simp] def q8_25 : SE := .app (.aidx 24 3 2 3 true) [q8_24, q8_22]
@[simp] def q8_26 : SE := .agg [pt 0 (.inp 199), pt 1 (.inp 199), pt 2 (.inp 199)]
@[simp] def q8_27 : SE := bi .add (.inp 124) (zi 1)
@[simp] def q8_28 : SE := .app .lst [q8_19]
def rt_commit_Commit : RT :=
 ck (.isAgg 11) [.agg (ips 0 11)] <|
 ck (.isAgg 29) [.agg (ips 11 29)] <|
 ck (.isAgg 74) [.agg (ips 40 74)] <|
 ck (.isAgg 3) [q8_0] <|
 ck (.isAgg 74) [.agg (ips 40 74)] <|
.seg [.chk [] .len [.inp 41],
.isNil 117 [] (.inp 41)] <|
.cond (.inp 117)
 (ck .len [.nils] <|
.loop 0 118 [] <|
 ck (.bin .lss) [zi 0, zi 0] <|
 ck (.isAgg 74) [q8_1] <|
 ck (.isAgg 74) [q8_1] <|
.seg [.call 118 [] 18 [.agg (ips 0 11), .agg (ips 11 29), .agg (ips 40 74), q8_0] false] <|
 ck (.bin .neq) [.inp 118, zi 0] <|
.cond (bi .neq (.inp 118) (zi 0))
 (ck (.isAgg 74) [q8_1] <|
.ret (.tup [.agg (ap [.inp 40, .nils] (ips 42 72)), zi 0, .inp 118]))
 (.seg [.call 119 [] 40 [q8_0] false,
.call 120 [] 41 [.agg (ips 0 11), .inp 115] false,
.call 121 [] 42 [.agg (ips 0 11), q8_0] false,
.chk [] .isOne [.inp 40],
.chk [] (.isAgg 3) [.inp 119],
.chk [] .isOne [.inp 120],
.chk [] .isOne [.inp 121],
.chk [] (.isAgg 23) [q8_2]] <|
 ck (.isAgg 11) [.agg (ips 0 11)] <|
 ck (.isAgg 29) [.agg (ips 11 29)] <|
 ck .isOne [.inp 121] <|
 ck .len [.inp 121] <|
.loop 0 122 (ap [zi 0] (ips 42 72)) <|
 ck (.bin .lss) [.inp 122, ln (.inp 121)] <|
.cond (bi .lss (.inp 122) (ln (.inp 121)))
 (ck (.eidx 3) [.inp 121, .inp 122] <|
 ck (.eload 3 true) [q8_3] <|
 ck (.isAgg 3) [q8_4] <|
.seg [.call 195 [] 60 [] false] <|
 ck (.isAgg 3) [.inp 195] <|
.seg [.call 196 [] 83 [.agg (ips 0 11), .agg (ips 11 29), q8_5] false,
.chk [] (.bin .neq) [.inp 196, q8_6]] <|
.cond (bi .neq (.inp 196) q8_6)
 (.seg [.chk [] (.inr 24) [q8_5],
.chk [] (.aidx 24 3 2 3 true) [q8_7, q8_5],
.call 197 [] 84 [q8_8, q8_6] false,
.chk [] (.isAgg 3) [.inp 197]] <|
.seg [.bind 198 (q8_8)] <|
 ck (.isAgg 3) [q8_9] <|
.seg [.chk [] (.inr 24) [q8_5],
.chk [] (.aidx 24 3 2 3 true) [q8_7, q8_5],
.chk [] (.eqa [ some .i64, some .i64, none] true) [q8_8, q8_9]] <|
.seg [.bind 199 (q8_8),
.bind 200 (.app (.eqa [ some .i64, some .i64, none] true) [q8_8, q8_9])] <|
.cond (.inp 200)
 (ck (.inr 24) [q8_5] <|
.seg [.chk [] (.inr 24) [q8_5],
.chk [] (.isAgg 3) [q8_9]] <|
.seg (csB 2 (q8_5) (q8_9) 201 2 (ips 123 72)) <|
 ck (.un .not) [bT] <|
 ck (.bin .add) [.inp 122, zi 1] <|
.again 0 (ap [q8_10] (ips 201 72)))
 (ck (.un .not) [bT] <|
 ck (.bin .add) [.inp 122, zi 1] <|
.again 0 (ap [q8_10] (ips 123 72))))
 (ck (.isAgg 3) [q8_11] <|
.seg [.chk [] (.inr 24) [q8_5],
.chk [] (.aidx 24 3 2 3 true) [q8_7, q8_5],
.chk [] (.eqa [ some .i64, some .i64, none] true) [q8_8, q8_11]] <|
.seg [.bind 197 (q8_8),
.bind 198 (.app (.eqa [ some .i64, some .i64, none] true) [q8_8, q8_11])] <|
.cond (.inp 198)
 (ck (.inr 24) [q8_5] <|
.seg [.chk [] (.inr 24) [q8_5],
.chk [] (.isAgg 3) [q8_11]] <|
.seg (csB 2 (q8_5) (q8_11) 199 2 (ips 123 72)) <|
 ck (.un .not) [bT] <|
 ck (.bin .add) [.inp 122, zi 1] <|
.again 0 (ap [q8_10] (ips 199 72)))
 (ck (.un .not) [bT] <|
 ck (.bin .add) [.inp 122, zi 1] <|
.again 0 (ap [q8_10] (ips 123 72)))))
 (ck (.isAgg 23) [q8_2] <|
.seg [.chk [] (.szs 23) [q8_12],
.chk [] .app [.nils, q8_12]] <|
.seg [.bind 195 (q8_12),
.bind 196 (.app .app [.nils, q8_12])] <|
 ck (.bin .add) [.inp 40, zi 1] <|
 ck .isOne [q8_13] <|
 ck (.isAgg 74) [.agg (ap [q8_13, .row 140] (ips 123 72))] <|
.ret (.tup [.agg (ap [q8_13, .inp 196] (ips 123 72)), .inp 40, zi 0]))))
 (.seg [.chk [] (.szs 23) [.inp 41],
.chk [] .app [.app .lst [], .inp 41]] <|
 ck .len [q8_14] <|
.loop 0 118 [zi 0, q8_14] <|
 ck (.bin .lss) [.inp 118, q8_15] <|
.cond (bi .lss (.inp 118) q8_15)
 (ck (.eidx 23) [.inp 119, .inp 118] <|
 ck (.rowget 23 0 23 true) [.inp 119, .inp 118] <|
 ck (.isAgg 23) [q8_16] <|
.seg [.call 120 [] 78 [.agg (pts (q8_16) 0 23)] false,
.chk [] (.eidx 23) [.inp 119, .inp 118],
.chk [] (.rowset 23 0 23) [.inp 119, .inp 118, q8_17],
.chk [] (.isAgg 23) [.inp 120]] <|
.seg [.bind 121 (.app (.rowset 23 0 23) [.inp 119, .inp 118, q8_17])] <|
 ck (.bin .add) [.inp 118, zi 1] <|
.again 0 [bi .add (.inp 118) (zi 1), .inp 121])
 (ck (.isAgg 74) [q8_18] <|
 ck (.isAgg 74) [q8_18] <|
.seg [.call 120 [] 18 [.agg (ips 0 11), .agg (ips 11 29), .agg (ips 40 74), q8_0] false] <|
 ck (.bin .neq) [.inp 120, zi 0] <|
.cond (bi .neq (.inp 120) (zi 0))
 (ck (.isAgg 74) [q8_18] <|
.ret (.tup [.agg (ap [.inp 40, .inp 119] (ips 42 72)), zi 0, .inp 120]))
 (.seg [.call 121 [] 40 [q8_0] false,
.call 122 [] 41 [.agg (ips 0 11), .inp 115] false,
.call 123 [] 42 [.agg (ips 0 11), q8_0] false,
.chk [] .isOne [.inp 40],
.chk [] (.isAgg 3) [.inp 121],
.chk [] .isOne [.inp 122],
.chk [] .isOne [.inp 123],
.chk [] (.isAgg 23) [q8_19]] <|
 ck (.isAgg 11) [.agg (ips 0 11)] <|
 ck (.isAgg 29) [.agg (ips 11 29)] <|
 ck .isOne [.inp 123] <|
 ck .len [.inp 123] <|
.loop 0 124 (ap [zi 0] (ips 42 72)) <|
 ck (.bin .lss) [.inp 124, ln (.inp 123)] <|
.cond (bi .lss (.inp 124) (ln (.inp 123)))
 (ck (.eidx 3) [.inp 123, .inp 124] <|
 ck (.eload 3 true) [q8_20] <|
 ck (.isAgg 3) [q8_21] <|
.seg [.call 197 [] 60 [] false] <|
 ck (.isAgg 3) [.inp 197] <|
.seg [.call 198 [] 83 [.agg (ips 0 11), .agg (ips 11 29), q8_22] false,
.chk [] (.bin .neq) [.inp 198, q8_23]] <|
.cond (bi .neq (.inp 198) q8_23)
 (.seg [.chk [] (.inr 24) [q8_22],
.chk [] (.aidx 24 3 2 3 true) [q8_24, q8_22],
.call 199 [] 84 [q8_25, q8_23] false,
.chk [] (.isAgg 3) [.inp 199]] <|
.seg [.bind 200 (q8_25)] <|
 ck (.isAgg 3) [q8_26] <|
.seg [.chk [] (.inr 24) [q8_22],
.chk [] (.aidx 24 3 2 3 true) [q8_24, q8_22],
.chk [] (.eqa [ some .i64, some .i64, none] true) [q8_25, q8_26]] <|
.seg [.bind 201 (q8_25),
.bind 202 (.app (.eqa [ some .i64, some .i64, none] true) [q8_25, q8_26])] <|
.cond (.inp 202)
 (ck (.inr 24) [q8_22] <|
.seg [.chk [] (.inr 24) [q8_22],
.chk [] (.isAgg 3) [q8_26]] <|
.seg (csB 2 (q8_22) (q8_26) 203 2 (ips 125 72)) <|
 ck (.un .not) [bT] <|
 ck (.bin .add) [.inp 124, zi 1] <|
.again 0 (ap [q8_27] (ips 203 72)))
 (ck (.un .not) [bT] <|
 ck (.bin .add) [.inp 124, zi 1] <|
.again 0 (ap [q8_27] (ips 125 72))))
 (ck (.isAgg 3) [q8_9] <|
.seg [.chk [] (.inr 24) [q8_22],
.chk [] (.aidx 24 3 2 3 true) [q8_24, q8_22],
.chk [] (.eqa [ some .i64, some .i64, none] true) [q8_25, q8_9]] <|
.seg [.bind 199 (q8_25),
.bind 200 (.app (.eqa [ some .i64, some .i64, none] true) [q8_25, q8_9])] <|
.cond (.inp 200)
 (ck (.inr 24) [q8_22] <|
.seg [.chk [] (.inr 24) [q8_22],
.chk [] (.isAgg 3) [q8_9]] <|
.seg (csB 2 (q8_22) (q8_9) 201 2 (ips 125 72)) <|
 ck (.un .not) [bT] <|
 ck (.bin .add) [.inp 124, zi 1] <|
.again 0 (ap [q8_27] (ips 201 72)))
 (ck (.un .not) [bT] <|
 ck (.bin .add) [.inp 124, zi 1] <|
.again 0 (ap [q8_27] (ips 125 72)))))
 (ck (.isAgg 23) [q8_19] <|
.seg [.chk [] (.szs 23) [q8_28],
.chk [] .app [.inp 119, q8_28]] <|
.seg [.bind 197 (q8_28),
.bind 198 (.app .app [.inp 119, q8_28])] <|
 ck (.bin .add) [.inp 40, zi 1] <|
 ck .isOne [q8_13] <|
 ck (.isAgg 74) [.agg (ap [q8_13, .row 146] (ips 125 72))] <|
.ret (.tup [.agg (ap [q8_13, .inp 198] (ips 125 72)), .inp 40, zi 0])))))
theorem run_commit_Commit : runF E 10 [.agg (ips 0 11), .agg (ips 11 29), .agg (ips 40 74), .agg [.inp 114, .inp 115, .inp 116]] 117 = rt_commit_Commit := by kernel_rfl
end
end Go.Lb.LK
namespace Go.Lb.LK
open Go Go.Lb Go.Proofs
noncomputable section
@[simp] def q9_0 : SE := .app (.eoff 0) [ei 3 (.inp 0) (.inp 2)]
@[simp] def q9_1 : SE := e1 q9_0
@[simp] def q9_2 : SE := .app (.eoff 1) [ei 3 (.inp 0) (.inp 2)]
def rt_lockbarref13_At : RT :=
.loop 0 2 [zi 0] <|
 ck .len [.inp 0] <|
 ck (.bin .lss) [.inp 2, ln (.inp 0)] <|
.cond (bi .lss (.inp 2) (ln (.inp 0)))
 (ck (.eidx 3) [.inp 0, .inp 2] <|
 ck (.eoff 0) [ei 3 (.inp 0) (.inp 2)] <|
 ck (.eload 1 false) [q9_0] <|
 ck (.bin .eql) [q9_1, .inp 1] <|
.cond (bi .eql q9_1 (.inp 1))
 (ck (.eidx 3) [.inp 0, .inp 2] <|
 ck (.eoff 1) [ei 3 (.inp 0) (.inp 2)] <|
 ck (.eload 1 false) [q9_2] <|
.ret (.tup [e1 q9_2, bT]))
 (ck (.bin .add) [.inp 2, zi 1] <|
.again 0 [bi .add (.inp 2) (zi 1)]))
 (.ret (.tup [zi 0, bF]))
theorem run_lockbarref13_At : runF E 33 [.inp 0, .inp 1] 2 = rt_lockbarref13_At := by kernel_rfl
end
end Go.Lb.LK
namespace Go.Lb.LK
open Go Go.Lb Go.Proofs
noncomputable section
@[simp] def q10_0 : SE := ei 23 (.inp 1) (.inp 75)
@[simp] def q10_1 : SE := .app (.eoff 1) [q10_0]
@[simp] def q10_2 : SE := .app (.eoff 0) [q10_1]
@[simp] def q10_3 : SE := e1 q10_2
@[simp] def q10_4 : SE := bi .lss (.inp 88) (ln (.inp 12))
@[simp] def q10_5 : SE := bi .leq (.inp 88) (zi 10)
@[simp] def q10_6 : SE := ei 23 (.inp 12) (.inp 88)
@[simp] def q10_7 : SE := bi .gtr (ln (.inp 12)) (zi 10)
@[simp] def q10_8 : SE := pk (.inp 89) bT q10_7
@[simp] def q10_9 : SE := bi .gtr (ln (.inp 87)) (zi 30)
@[simp] def q10_10 : SE := .agg (pts (.inp 0) 0 11)
@[simp] def q10_11 : SE := .agg (pts (.inp 2) 0 29)
@[simp] def q10_12 : SE := .agg [zi 0, zi 0, .app .lst [.agg [zi 0, zi 0, zi 1]]]
@[simp] def q10_13 : SE := .agg (pts (tp 0 (.inp 4)) 0 74)
@[simp] def q10_14 : SE := ln (pt 1 (tp 0 (.inp 4)))
@[simp] def q10_15 : SE := bi .eql (tp 1 (.inp 4)) (zi 1)
@[simp] def q10_16 : SE := bi .eql (tp 2 (.inp 4)) (zi 0)
@[simp] def q10_17 : SE := pk q10_15 q10_16 bF
@[simp] def q10_18 : SE := bi .eql (pt 0 (tp 0 (.inp 4))) (zi 2)
@[simp] def q10_19 : SE := pk q10_17 q10_18 bF
@[simp] def q10_20 : SE := ei 23 (pt 1 (tp 0 (.inp 4))) (zi 0)
@[simp] def q10_21 : SE := .app (.eoff 6) [q10_20]
@[simp] def q10_22 : SE := e1 q10_21
@[simp] def q10_23 : SE := bi .eql q10_22 (.int .u8 1)
@[simp] def q10_24 : SE := pk q10_19 q10_23 bF
@[simp] def q10_25 : SE := bi .eql (tp 1 (.inp 5)) (zi 0)
@[simp] def q10_26 : SE := pk q10_24 q10_25 bF
@[simp] def q10_27 : SE := bi .eql (tp 2 (.inp 5)) (zi 190)
@[simp] def q10_28 : SE := pk q10_26 q10_27 bF
@[simp] def q10_29 : SE := bi .eql (tp 2 (.inp 8)) (zi 190)
@[simp] def q10_30 : SE := pk q10_28 q10_29 bF
@[simp] def q10_31 : SE := bi .eql (tp 2 (.inp 10)) (zi 110)
@[simp] def q10_32 : SE := pk q10_30 q10_31 bF
@[simp] def q10_33 : SE := pk q10_32 (tp 1 (.inp 11)) bF
@[simp] def q10_34 : SE := pk q10_33 (tp 1 (.inp 12)) bF
@[simp] def q10_35 : SE := pk q10_34 (nt (tp 1 (.inp 13))) bF
@[simp] def q10_36 : SE := pk q10_35 (.inp 14) bF
@[simp] def q10_37 : SE := bi .eql (.inp 16) (zi 0)
@[simp] def q10_38 : SE := pk q10_36 q10_37 bF
@[simp] def q10_39 : SE := .app (.part 2 72 true) [.inp 17]
@[simp] def q10_40 : SE := .app (.aidx 24 3 0 3 true) [q10_39, zi 3]
@[simp] def q10_41 : SE := pt 0 q10_40
@[simp] def q10_42 : SE := bi .eql q10_41 (zi (-1))
def rt_lockbarref19_Of : RT :=
 ck (.isAgg 74) [.agg (ips 0 74)] <|
 ck .len [.inp 1] <|
 ck (.bin .sub) [ln (.inp 1), zi 1] <|
.loop 0 75 [bi .sub (ln (.inp 1)) (zi 1)] <|
 ck (.bin .geq) [.inp 75, zi 0] <|
.cond (bi .geq (.inp 75) (zi 0))
 (ck (.eidx 23) [.inp 1, .inp 75] <|
 ck (.eoff 1) [q10_0] <|
 ck (.eoff 0) [q10_1] <|
 ck (.eload 1 false) [q10_2] <|
 ck (.bin .eql) [q10_3, .inp 74] <|
.cond (bi .eql q10_3 (.inp 74))
 (ck (.eidx 23) [.inp 1, .inp 75] <|
 ck (.eload 23 true) [q10_0] <|
.seg [.call 76 [] 51 [el 23 q10_0] false] <|
 ck (.isAgg 23) [.inp 76] <|
.ret (.tup [.agg (pts (.inp 76) 0 23), bT]))
 (ck (.bin .sub) [.inp 75, zi 1] <|
.again 0 [bi .sub (.inp 75) (zi 1)]))
 (.ret (.tup [.agg [zi 0, zi 0, zi 0, .nils, .nils, .nils, .int .u8 0, zi 0, bF, bF, bF, bF, bF, bF, bF, bF, bF, bF, bF, bF, bF, zi 0, bF], bF]))
theorem run_lockbarref19_Of : runF E 17 [.agg (ips 0 74), .inp 74] 75 = rt_lockbarref19_Of := by kernel_rfl
def rt_lockbarlaw19_one : RT :=
.seg [.bind 0 (.app .lst [.agg [.int .u8 1, zi (-1), zi 0, zi (-1), zi 0, zi (-1), zi 0, zi (-1), zi 0, zi 0, zi 0]])] <|
.ret (.agg [.inp 0, .app .lst [.agg [zi 0, zi 0]], .app .lst [.agg [zi 0, zi 1, .nils]], .nils, zi 1, zi 1, zi 1, zi 1, zi 1, zi 1, zi 1])
theorem run_lockbarlaw19_one : runF E 36 [] 0 = rt_lockbarlaw19_one := by kernel_rfl
def rt_lockbarlaw19_great : RT :=
 ck (.isAgg 11) [.agg (ips 0 11)] <|
 ck (.isAgg 74) [.agg (ips 11 74)] <|
 ck (.isAgg 3) [.agg [.inp 85, .inp 86, .inp 87]] <|
.loop 0 88 [zi 0] <|
 ck .len [.inp 12] <|
 ck (.bin .lss) [.inp 88, ln (.inp 12)] <|
 ckg (q10_4) true (.bin .leq) [.inp 88, zi 10] <|
 ck .pick [q10_4, q10_5, bF] <|
.cond (pk q10_4 q10_5 bF)
 (ck (.eidx 23) [.inp 12, .inp 88] <|
 ck (.eload 23 true) [q10_6] <|
.seg [.call 89 [] 34 [el 23 q10_6] false] <|
.cond (.inp 89)
 (.ret (bT))
 (ck (.bin .add) [.inp 88, zi 1] <|
.again 0 [bi .add (.inp 88) (zi 1)]))
 (.seg [.call 89 [] 35 [.agg (ips 0 11)] false] <|
 ckg (.inp 89) false .len [.inp 12] <|
 ckg (.inp 89) false (.bin .gtr) [ln (.inp 12), zi 10] <|
 ck .pick [.inp 89, bT, q10_7] <|
 ckg (q10_8) false .len [.inp 87] <|
 ckg (q10_8) false (.bin .gtr) [ln (.inp 87), zi 30] <|
 ck .pick [q10_8, bT, q10_9] <|
.seg [.bind 90 (pk q10_8 bT q10_9)] <|
.ret (.inp 90))
theorem run_lockbarlaw19_great : runF E 8 [.agg (ips 0 11), .agg (ips 11 74), .agg [.inp 85, .inp 86, .inp 87]] 88 = rt_lockbarlaw19_great := by kernel_rfl
def rt_lockbarlaw19_wakes : RT :=
.seg [.call 0 [] 36 [] false] <|
 ck (.isAgg 11) [.inp 0] <|
.seg [.call 1 [] 38 [] false,
.call 2 [] 37 [q10_10, .inp 1, .agg [.int .u32 0, .int .u32 0, .int .u32 0, .int .u32 0]] false,
.chk [] (.isAgg 29) [.inp 2]] <|
.seg [.call 3 [] 20 [] false,
.call 4 [] 10 [q10_10, q10_11, .inp 3, q10_12] false,
.chk [] (.tproj 0) [.inp 4],
.chk [] (.tproj 1) [.inp 4],
.chk [] (.tproj 2) [.inp 4],
.chk [] (.isAgg 74) [tp 0 (.inp 4)]] <|
.seg [.call 5 [] 10 [q10_10, q10_11, q10_13, q10_12] false] <|
 ck (.tproj 0) [.inp 5] <|
 ck (.tproj 1) [.inp 5] <|
 ck (.tproj 2) [.inp 5] <|
 ck (.isAgg 74) [tp 0 (.inp 5)] <|
.seg [.call 6 [] 38 [] false,
.call 7 [] 20 [] false,
.call 8 [] 10 [q10_10, .inp 6, .inp 7, q10_12] false,
.chk [] (.tproj 0) [.inp 8],
.chk [] (.tproj 1) [.inp 8],
.chk [] (.tproj 2) [.inp 8],
.chk [] (.isAgg 74) [tp 0 (.inp 8)]] <|
.seg [.call 9 [] 20 [] false,
.call 10 [] 10 [q10_10, q10_11, .inp 9, .agg [zi 0, zi 0, .nils]] false,
.chk [] (.tproj 0) [.inp 10],
.chk [] (.tproj 1) [.inp 10],
.chk [] (.tproj 2) [.inp 10],
.chk [] (.isAgg 74) [tp 0 (.inp 10)]] <|
 ck .len [pt 1 (tp 0 (.inp 4))] <|
 ck (.bin .neq) [q10_14, zi 1] <|
.cond (bi .neq q10_14 (zi 1))
 (.ret (bF))
 (.seg [.call 11 [] 12 [q10_13, zi 1] false] <|
 ck (.tproj 0) [.inp 11] <|
 ck (.tproj 1) [.inp 11] <|
 ck (.isAgg 23) [tp 0 (.inp 11)] <|
.seg [.call 12 [] 16 [q10_13, zi 0] false] <|
 ck (.tproj 0) [.inp 12] <|
 ck (.tproj 1) [.inp 12] <|
 ck (.isAgg 23) [tp 0 (.inp 12)] <|
.seg [.call 13 [] 16 [q10_13, zi 1] false] <|
 ck (.tproj 0) [.inp 13] <|
 ck (.tproj 1) [.inp 13] <|
 ck (.isAgg 23) [tp 0 (.inp 13)] <|
.seg [.chk [] (.bin .eql) [tp 1 (.inp 4), zi 1],
.chk [(q10_15, true)] (.bin .eql) [tp 2 (.inp 4), zi 0],
.chk [] .pick [q10_15, q10_16, bF],
.chk [(q10_17, true)] (.bin .eql) [pt 0 (tp 0 (.inp 4)), zi 2],
.chk [] .pick [q10_17, q10_18, bF],
.chk [(q10_19, true)] (.eidx 23) [pt 1 (tp 0 (.inp 4)), zi 0],
.chk [(q10_19, true)] (.eoff 6) [q10_20],
.chk [(q10_19, true)] (.eload 1 false) [q10_21],
.chk [(q10_19, true)] (.bin .eql) [q10_22, .int .u8 1],
.chk [] .pick [q10_19, q10_23, bF],
.chk [(q10_24, true)] (.bin .eql) [tp 1 (.inp 5), zi 0],
.chk [] .pick [q10_24, q10_25, bF],
.chk [(q10_26, true)] (.bin .eql) [tp 2 (.inp 5), zi 190],
.chk [] .pick [q10_26, q10_27, bF],
.chk [(q10_28, true)] (.bin .eql) [tp 2 (.inp 8), zi 190],
.chk [] .pick [q10_28, q10_29, bF],
.chk [(q10_30, true)] (.bin .eql) [tp 2 (.inp 10), zi 110],
.chk [] .pick [q10_30, q10_31, bF],
.chk [] .pick [q10_32, tp 1 (.inp 11), bF],
.chk [] .pick [q10_33, tp 1 (.inp 12), bF],
.chk [(q10_34, true)] (.un .not) [tp 1 (.inp 13)],
.chk [] .pick [q10_34, nt (tp 1 (.inp 13)), bF],
.call 14 [(q10_35, true)] 15 [.agg (pts (tp 0 (.inp 11)) 0 23), .agg (pts (tp 0 (.inp 12)) 0 23)] false,
.chk [] .pick [q10_35, .inp 14, bF],
.call 15 [(q10_36, true)] 20 [] false,
.call 16 [(q10_36, true)] 18 [q10_10, q10_11, .inp 15, q10_12] false,
.chk [(q10_36, true)] (.bin .eql) [.inp 16, zi 0],
.chk [] .pick [q10_36, q10_37, bF],
.call 17 [(q10_38, true)] 20 [] false,
.chk [(q10_38, true)] (.part 2 72 true) [.inp 17],
.chk [(q10_38, true)] (.aidx 24 3 0 3 true) [q10_39, zi 3],
.chk [(q10_38, true)] (.part 0 1 false) [q10_40],
.chk [(q10_38, true)] (.bin .eql) [q10_41, zi (-1)],
.chk [] .pick [q10_38, q10_42, bF]] <|
.seg [.bind 18 (pk q10_38 q10_42 bF),
.bind 19 (q10_17),
.bind 20 (q10_19),
.bind 21 (q10_24),
.bind 22 (q10_26),
.bind 23 (q10_28),
.bind 24 (q10_30),
.bind 25 (q10_32),
.bind 26 (q10_33),
.bind 27 (q10_34),
.bind 28 (q10_35),
.bind 29 (q10_36),
.bind 30 (q10_38)] <|
.ret (.inp 18))
theorem run_lockbarlaw19_wakes : runF E 9 [] 0 = rt_lockbarlaw19_wakes := by kernel_rfl
end
end Go.Lb.LK
namespace Go.Proofs
open Go.Shelf
def Tryz.lays125_ren : Go.Shelf.Ren := ⟨fun | 125 => 183 | 128 => 237 | 129 => 238 | n => n, fun | 46 => 141 | 3 => 3 | 51 => 31 | 53 => 235 | 4 => 4 | 5 => 5 | 9 => 9 | n => n, fun | n => n⟩
theorem Tryz.lays125 : Go.Proofs.Lays.n125 Tryz.prog Tryz.lays125_ren := {
 mixed := by kernel_rfl
 f125 := Tryz.func183.trans (congrArg some (by kernel_rfl))
 f128 := Tryz.func237.trans (congrArg some (by kernel_rfl))
 f129 := Tryz.func238.trans (congrArg some (by kernel_rfl))
 t3 := Tryz.underlying3
 a3 := Tryz.isAgg3
 z3 := Tryz.sizeOf3
 v3 := Tryz.zeroValue3
 t4 := Tryz.underlying4
 a4 := Tryz.isAgg4
 z4 := Tryz.sizeOf4
 v4 := Tryz.zeroValue4
 t5 := Tryz.underlying5
 a5 := Tryz.isAgg5
 z5 := Tryz.sizeOf5
 v5 := Tryz.zeroValue5
 t9 := Tryz.underlying9
 a9 := Tryz.isAgg9
 z9 := Tryz.sizeOf9
 v9 := Tryz.zeroValue9
 t46 := Tryz.underlying141
 a46 := Tryz.isAgg141
 z46 := Tryz.sizeOf141
 v46 := Tryz.zeroValue141
 t51 := Tryz.underlying31
 a51 := Tryz.isAgg31
 z51 := Tryz.sizeOf31
 v51 := Tryz.zeroValue31
 t53 := Tryz.underlying235
 a53 := Tryz.isAgg235
 z53 := Tryz.sizeOf235
 v53 := Tryz.zeroValue235 }
theorem Tryz.bits_Len (x : Int) (w : World) (h0 : 0 ≤ x) (h1 : x ≤ 18446744073709551615) :
  Calls Tryz.prog 183 #[.int .u64 x] w fun e w' => e = .returned (.int .i64 (Lib.bitLen x.toNat)) ∧ w' = w := Any.bits_Len Tryz.lays125 x w h0 h1
def Tryz.lays189_ren : Go.Shelf.Ren := ⟨fun | 189 => 144 | 125 => 183 | 257 => 182 | 128 => 237 | 129 => 238 | 294 => 228 | 295 => 229 | 296 => 230 | 297 => 231 | 298 => 232 | 299 => 233 | 216 => 234 | 300 => 235 | 301 => 236 | 328 => 251 | 329 => 252 | 330 => 253 | 331 => 254 | 332 => 255 | 215 => 256 | 343 => 258 | n => n, fun | 28 => 62 | 3 => 3 | 46 => 141 | 0 => 0 | 51 => 31 | 53 => 235 | 4 => 4 | 183 => 228 | 182 => 227 | 131 => 64 | 5 => 5 | 9 => 9 | 218 => 245 | 222 => 249 | 228 => 252 | 229 => 253 | n => n, fun | n => n⟩
theorem Tryz.lays189 : Go.Proofs.Lays.n189 Tryz.prog Tryz.lays189_ren := {
 mixed := by kernel_rfl
 f125 := Tryz.func183.trans (congrArg some (by kernel_rfl))
 f128 := Tryz.func237.trans (congrArg some (by kernel_rfl))
 f129 := Tryz.func238.trans (congrArg some (by kernel_rfl))
 f189 := Tryz.func144.trans (congrArg some (by kernel_rfl))
 f215 := Tryz.func256.trans (congrArg some (by kernel_rfl))
 f216 := Tryz.func234.trans (congrArg some (by kernel_rfl))
 f257 := Tryz.func182.trans (congrArg some (by kernel_rfl))
 f294 := Tryz.func228.trans (congrArg some (by kernel_rfl))
 f295 := Tryz.func229.trans (congrArg some (by kernel_rfl))
 f296 := Tryz.func230.trans (congrArg some (by kernel_rfl))
 f297 := Tryz.func231.trans (congrArg some (by kernel_rfl))
 f298 := Tryz.func232.trans (congrArg some (by kernel_rfl))
 f299 := Tryz.func233.trans (congrArg some (by kernel_rfl))
 f300 := Tryz.func235.trans (congrArg some (by kernel_rfl))
 f301 := Tryz.func236.trans (congrArg some (by kernel_rfl))
 f328 := Tryz.func251.trans (congrArg some (by kernel_rfl))
 f329 := Tryz.func252.trans (congrArg some (by kernel_rfl))
 f330 := Tryz.func253.trans (congrArg some (by kernel_rfl))
 f331 := Tryz.func254.trans (congrArg some (by kernel_rfl))
 f332 := Tryz.func255.trans (congrArg some (by kernel_rfl))
 f343 := Tryz.func258.trans (congrArg some (by kernel_rfl))
 t0 := Tryz.underlying0
 a0 := Tryz.isAgg0
 z0 := Tryz.sizeOf0
 v0 := Tryz.zeroValue0
 t3 := Tryz.underlying3
 a3 := Tryz.isAgg3
 z3 := Tryz.sizeOf3
 v3 := Tryz.zeroValue3
 t4 := Tryz.underlying4
 a4 := Tryz.isAgg4
 z4 := Tryz.sizeOf4
 v4 := Tryz.zeroValue4
 t5 := Tryz.underlying5
 a5 := Tryz.isAgg5
 z5 := Tryz.sizeOf5
 v5 := Tryz.zeroValue5
 t9 := Tryz.underlying9
 a9 := Tryz.isAgg9
 z9 := Tryz.sizeOf9
 v9 := Tryz.zeroValue9
 t28 := Tryz.underlying62
 a28 := Tryz.isAgg62
 z28 := Tryz.sizeOf62
 v28 := Tryz.zeroValue62
 t46 := Tryz.underlying141
 a46 := Tryz.isAgg141
 z46 := Tryz.sizeOf141
 v46 := Tryz.zeroValue141
 t51 := Tryz.underlying31
 a51 := Tryz.isAgg31
 z51 := Tryz.sizeOf31
 v51 := Tryz.zeroValue31
 t53 := Tryz.underlying235
 a53 := Tryz.isAgg235
 z53 := Tryz.sizeOf235
 v53 := Tryz.zeroValue235
 t131 := Tryz.underlying64
 a131 := Tryz.isAgg64
 z131 := Tryz.sizeOf64
 v131 := Tryz.zeroValue64
 t182 := Tryz.underlying227
 a182 := Tryz.isAgg227
 z182 := Tryz.sizeOf227
 v182 := Tryz.zeroValue227
 t183 := Tryz.underlying228
 a183 := Tryz.isAgg228
 z183 := Tryz.sizeOf228
 v183 := Tryz.zeroValue228
 t218 := Tryz.underlying245
 a218 := Tryz.isAgg245
 z218 := Tryz.sizeOf245
 v218 := Tryz.zeroValue245
 t222 := Tryz.underlying249
 a222 := Tryz.isAgg249
 z222 := Tryz.sizeOf249
 v222 := Tryz.zeroValue249
 t228 := Tryz.underlying252
 a228 := Tryz.isAgg252
 z228 := Tryz.sizeOf252
 v228 := Tryz.zeroValue252
 t229 := Tryz.underlying253
 a229 := Tryz.isAgg253
 z229 := Tryz.sizeOf253
 v229 := Tryz.zeroValue253 }
open Go.Sort Go.RowKit in
theorem Tryz.slices_Sort_int (blk off cap : Nat) (zs : List Int) (w : World) (hH : Holds (Value.int .i64) w blk off zs.toArray) (hblk : blk < w.heap.size) (hsz : zs.length < 4611686018427387904) :
  Calls Tryz.prog 144 #[.slice (some ⟨blk, off, none⟩) zs.length cap] w fun e w' =>
   e = .returned (.tuple #[]) ∧ ∃ n os, w' = grow (putRow (Value.int .i64) (Sort.ahead w n) blk off (zs.mergeSort fun x y => decide (x ≤ y)).toArray) os := Any.slices_Sort_int Tryz.lays189 blk off cap zs w hH hblk hsz
def Tryz.laysNm220_ren : Go.Shelf.Ren := ⟨fun | 20 => 145 | n => n, fun | 22 => 62 | 3 => 3 | 4 => 4 | 0 => 0 | n => n, fun | n => n⟩
theorem Tryz.laysNm220 : Go.Proofs.Lays2.n20 Tryz.prog Tryz.laysNm220_ren := {
 mixed := by kernel_rfl
 f20 := Tryz.func145.trans (congrArg some (by kernel_rfl))
 t0 := Tryz.underlying0
 a0 := Tryz.isAgg0
 z0 := Tryz.sizeOf0
 v0 := Tryz.zeroValue0
 t3 := Tryz.underlying3
 a3 := Tryz.isAgg3
 z3 := Tryz.sizeOf3
 v3 := Tryz.zeroValue3
 t4 := Tryz.underlying4
 a4 := Tryz.isAgg4
 z4 := Tryz.sizeOf4
 v4 := Tryz.zeroValue4
 t22 := Tryz.underlying62
 a22 := Tryz.isAgg62
 z22 := Tryz.sizeOf62
 v22 := Tryz.zeroValue62
 i3 := by kernel_rfl }
open Go.RowKit Go.Lib Go.Sort in
theorem Tryz.slices_Compact_int (blk off cap : Nat) (zs : List Int) (w : World) (hH : Holds (Value.int .i64) w blk off zs.toArray) (hsz : zs.length ≤ 9223372036854775807) (hcap : zs.length ≤ cap) :
  Calls Tryz.prog 145 #[.slice (some ⟨blk, off, none⟩) zs.length cap] w fun e w' => e = .returned (.slice (some ⟨blk, off, none⟩) (Lib.compact zs).length cap) ∧ ∃ q, w' = putRow (Value.int .i64) (Sort.ahead w q) blk off (Lib.compact zs ++ List.replicate (zs.length - (Lib.compact zs).length) 0).toArray := Any.slices_Compact_int Tryz.laysNm220 blk off cap zs w hH hsz hcap
open Go.RowKit Go.Lib Go.Sort in
theorem Tryz.slices_Compact_int_empty (a : Option Addr) (cap : Nat) (w : World) :
  Calls Tryz.prog 145 #[.slice a 0 cap] w fun e w' => e = .returned (.slice a 0 cap) ∧ w' = w := Any.slices_Compact_int_empty Tryz.laysNm220 a cap w
end Go.Proofs
