/- What functions come to, printed by a program, checked by the kernel. -/
import Derived.Test.YtbofccnennefnaaGreatDoorCh1
set_option linter.unusedSimpArgs false
set_option linter.unusedVariables false
namespace Go.Lb.LK
open Go Go.Lb Go.Proofs
noncomputable section
@[simp] def q1_0 : SE := .agg [.inp 114, .inp 115, .inp 116]
@[simp] def q1_1 : SE := ei 23 (.inp 41) (.inp 117)
@[simp] def q1_2 : SE := el 23 q1_1
@[simp] def q1_3 : SE := pt 1 q1_2
@[simp] def q1_4 : SE := bi .eql q1_3 (.inp 114)
@[simp] def q1_5 : SE := pt 6 q1_2
@[simp] def q1_6 : SE := bi .neq q1_5 (.int .u8 3)
@[simp] def q1_7 : SE := ei 3 (.inp 116) (.inp 119)
@[simp] def q1_8 : SE := el 3 q1_7
@[simp] def q1_9 : SE := bi .geq (.inp 119) (zi 0)
@[simp] def q1_10 : SE := bi .lss (.inp 122) (ln (.inp 121))
@[simp] def q1_11 : SE := ei 3 (.inp 121) (.inp 122)
@[simp] def q1_12 : SE := el 3 q1_11
@[simp] def q1_13 : SE := pt 0 q1_12
@[simp] def q1_14 : SE := bi .add (.inp 122) (zi 1)
@[simp] def q1_15 : SE := bi .geq (.inp 122) (zi 0)
@[simp] def q1_16 : SE := ei 3 (.inp 124) (.inp 125)
@[simp] def q1_17 : SE := el 3 q1_16
@[simp] def q1_18 : SE := bi .geq (ln (.inp 41)) (zi 6)
@[simp] def q1_19 : SE := bi .lss (.inp 124) (ln (.inp 123))
@[simp] def q1_20 : SE := ei 3 (.inp 123) (.inp 124)
@[simp] def q1_21 : SE := el 3 q1_20
@[simp] def q1_22 : SE := .agg [pt 0 q1_21, pt 1 q1_21, pt 2 q1_21]
@[simp] def q1_23 : SE := bi .add (.inp 124) (zi 1)
@[simp] def q1_24 : SE := bi .geq (.inp 124) (zi 0)
@[simp] def q1_25 : SE := bi .lss (.inp 121) (ln (.inp 120))
@[simp] def q1_26 : SE := ei 3 (.inp 120) (.inp 121)
@[simp] def q1_27 : SE := el 3 q1_26
@[simp] def q1_28 : SE := pt 0 q1_27
@[simp] def q1_29 : SE := bi .add (.inp 121) (zi 1)
@[simp] def q1_30 : SE := bi .geq (.inp 121) (zi 0)
@[simp] def q1_31 : SE := bi .lss (.inp 123) (ln (.inp 122))
@[simp] def q1_32 : SE := ei 3 (.inp 122) (.inp 123)
@[simp] def q1_33 : SE := el 3 q1_32
@[simp] def q1_34 : SE := .agg [pt 0 q1_33, pt 1 q1_33, pt 2 q1_33]
@[simp] def q1_35 : SE := bi .add (.inp 123) (zi 1)
@[simp] def q1_36 : SE := bi .geq (.inp 123) (zi 0)
@[simp] def q1_37 : SE := ei 3 (.inp 116) (.inp 118)
@[simp] def q1_38 : SE := el 3 q1_37
@[simp] def q1_39 : SE := bi .geq (.inp 118) (zi 0)
@[simp] def q1_40 : SE := ei 3 (.inp 119) (.inp 120)
@[simp] def q1_41 : SE := el 3 q1_40
@[simp] def q1_42 : SE := bi .gtr (ln (.inp 1)) (zi 6)
@[simp] def q1_43 : SE := pk q1_42 bT (bi .lss (.inp 0) (zi 1))
@[simp] def q1_44 : SE := bi .gtr (.inp 0) (zi 1073741824)
@[simp] def q1_45 : SE := ei 23 (.inp 1) (.inp 76)
@[simp] def q1_46 : SE := el 23 q1_45
@[simp] def q1_47 : SE := .agg (ptx (q1_46) 0 23)
@[simp] def q1_48 : SE := pt 0 q1_46
@[simp] def q1_49 : SE := bi .leq q1_48 (.inp 75)
@[simp] def q1_50 : SE := pk (nt (.inp 77)) bT q1_49
@[simp] def q1_51 : SE := bi .geq q1_48 (.inp 0)
@[simp] def q1_52 : SE := pk q1_50 bT q1_51
@[simp] def q1_53 : SE := .app (.slice false true) [.inp 1, .inp 76]
@[simp] def q1_54 : SE := ln q1_53
@[simp] def q1_55 : SE := ei 23 q1_53 (.inp 78)
@[simp] def q1_56 : SE := el 23 q1_55
@[simp] def q1_57 : SE := .agg (ptx (q1_56) 0 23)
@[simp] def q1_58 : SE := bi .add (.inp 76) (zi 1)
@[simp] def q1_59 : SE := .app (.aidx 24 3 0 3 true) [.agg (ipx 2 72), .inp 77]
@[simp] def q1_60 : SE := .app (.conv .i64) [.inp 0]
@[simp] def q1_61 : SE := .ref [zi 0, zi 0, zi 0, zi 0, zi 0, zi 0, bF, zi 2, zi 0, zi 1, zi 0, zi 0, zi 1, bF, zi 3, zi 0, zi 1, zi 0, zi 2, zi 2, bT, zi 4, zi 0, zi 1, zi 2, zi 3, zi 2, bF] 0
@[simp] def q1_62 : SE := .app (.eaidx 4 7) [q1_61, .inp 0]
@[simp] def q1_63 : SE := el 7 q1_62
@[simp] def q1_64 : SE := .app .lst [.agg [pt 1 (.inp 3), pt 2 (.inp 3)], .agg [pt 3 (.inp 3), pt 4 (.inp 3)]]
@[simp] def q1_65 : SE := .app (.slice false true) [q1_64, pt 5 (.inp 3)]
@[simp] def q1_66 : SE := el 2 (ei 2 (.inp 4) (.inp 6))
@[simp] def q1_67 : SE := pt 0 q1_66
@[simp] def q1_68 : SE := pt 1 q1_66
@[simp] def q1_69 : SE := bi .eql q1_68 (.inp 1)
@[simp] def q1_70 : SE := bi .eql q1_67 (.inp 2)
@[simp] def q1_71 : SE := .tup [tp 0 (.inp 3), tp 1 (.inp 3)]
@[simp] def q1_72 : SE := .agg [.inp 11, .inp 12, .inp 13]
@[simp] def q1_73 : SE := bi .geq (.inp 11) (zi 0)
@[simp] def q1_74 : SE := bi .lss (.inp 11) (ln (.inp 0))
@[simp] def q1_75 : SE := pk q1_73 q1_74 bF
@[simp] def q1_76 : SE := ei 11 (.inp 0) (.inp 11)
@[simp] def q1_77 : SE := .app (.eoff 0) [q1_76]
@[simp] def q1_78 : SE := e1 q1_77
@[simp] def q1_79 : SE := bi .lss (.inp 11) (zi 0)
@[simp] def q1_80 : SE := bi .geq (.inp 11) (ln (.inp 2))
@[simp] def q1_81 : SE := pk q1_79 bT q1_80
@[simp] def q1_82 : SE := .app (.eoff 2) [ei 3 (.inp 2) (.inp 11)]
@[simp] def q1_83 : SE := e1 q1_82
@[simp] def q1_84 : SE := bi .neq q1_78 (.int .u8 2)
@[simp] def q1_85 : SE := .tup [.inp 11, tp 0 (.inp 16), bT]
@[simp] def q1_86 : SE := .agg [tp 0 (.inp 15), tp 1 (.inp 15), .inp 14]
@[simp] def q1_87 : SE := .app .lst [q1_86]
@[simp] def q1_88 : SE := .app .app [.nils, q1_87]
@[simp] def q1_89 : SE := bi .lss (.inp 17) (ln (.inp 3))
@[simp] def q1_90 : SE := el 4 (ei 4 (.inp 3) (.inp 17))
@[simp] def q1_91 : SE := pt 0 q1_90
@[simp] def q1_92 : SE := bi .eql q1_91 (.inp 11)
@[simp] def q1_93 : SE := pk (tp 1 (.inp 16)) q1_92 bF
@[simp] def q1_94 : SE := pt 1 q1_90
@[simp] def q1_95 : SE := bi .eql q1_94 (tp 0 (.inp 16))
@[simp] def q1_96 : SE := pk q1_93 q1_95 bF
@[simp] def q1_97 : SE := .agg (ptx (q1_90) 0 4)
@[simp] def q1_98 : SE := pt 2 q1_90
@[simp] def q1_99 : SE := pt 3 q1_90
@[simp] def q1_100 : SE := .agg [q1_98, q1_99, .inp 14]
@[simp] def q1_101 : SE := .app .lst [q1_100]
@[simp] def q1_102 : SE := .app .app [.inp 18, q1_101]
@[simp] def q1_103 : SE := bi .add (.inp 17) (zi 1)
@[simp] def q1_104 : SE := ei 3 (.inp 13) (.inp 14)
@[simp] def q1_105 : SE := el 3 q1_104
@[simp] def q1_106 : SE := .agg [pt 0 q1_105, pt 1 q1_105, pt 2 q1_105]
@[simp] def q1_107 : SE := ei 3 (.inp 16) (.inp 17)
@[simp] def q1_108 : SE := el 3 q1_107
@[simp] def q1_109 : SE := .agg [pt 0 q1_108, pt 1 q1_108, pt 2 q1_108]
@[simp] def q1_110 : SE := bi .lss (.inp 2) (ln (.inp 0))
@[simp] def q1_111 : SE := e1 (ei 1 (.inp 0) (.inp 2))
@[simp] def q1_112 : SE := ln q1_111
@[simp] def q1_113 : SE := bi .add (.inp 1) q1_112
@[simp] def q1_114 : SE := .app .rep [bi .sub (.inp 1) (zi 0), .agg [zi 0, zi 0, zi 0]]
@[simp] def q1_115 : SE := e1 (ei 1 (.inp 0) (.inp 5))
@[simp] def q1_116 : SE := e1 (ei 1 (.inp 0) (.inp 4))
@[simp] def q1_117 : SE := el 3 (ei 3 (.inp 0) (.inp 2))
@[simp] def q1_118 : SE := pt 0 q1_117
@[simp] def q1_119 : SE := el 3 (ei 3 (.inp 2) (.inp 3))
@[simp] def q1_120 : SE := pt 1 q1_119
@[simp] def q1_121 : SE := .app (.mm true) [.inp 0, zi 0]
@[simp] def q1_122 : SE := bi .add (.inp 2) (.inp 3)
@[simp] def q1_123 : SE := bi .eql (.inp 0) (.int .u8 2)
@[simp] def q1_124 : SE := bi .geq (.inp 1) (.inp 2)
@[simp] def q1_125 : SE := bi .eql (.inp 1) (tp 0 (.inp 5))
@[simp] def q1_126 : SE := bi .eql (.inp 2) (tp 1 (.inp 5))
@[simp] def q1_127 : SE := pk q1_125 q1_126 bF
@[simp] def q1_128 : SE := bi .eql (.inp 1) (tp 1 (.inp 5))
@[simp] def q1_129 : SE := bi .eql (.inp 2) (tp 0 (.inp 5))
@[simp] def q1_130 : SE := pk q1_128 q1_129 bF
@[simp] def q1_131 : SE := bi .neq (.inp 0) (.int .u8 2)
@[simp] def q1_132 : SE := bi .geq (.inp 11) (ln (.inp 0))
@[simp] def q1_133 : SE := pk q1_79 bT q1_132
@[simp] def q1_134 : SE := bi .lss (.inp 12) (zi 0)
@[simp] def q1_135 : SE := pk q1_133 bT q1_134
@[simp] def q1_136 : SE := bi .geq (.inp 12) (.inp 13)
@[simp] def q1_137 : SE := el 11 q1_76
@[simp] def q1_138 : SE := bi .lss (.inp 18) (ln (.inp 3))
@[simp] def q1_139 : SE := pk q1_138 (tp 1 (.inp 16)) bF
@[simp] def q1_140 : SE := el 4 (ei 4 (.inp 3) (.inp 18))
@[simp] def q1_141 : SE := pt 0 q1_140
@[simp] def q1_142 : SE := bi .eql q1_141 (.inp 11)
@[simp] def q1_143 : SE := pt 1 q1_140
@[simp] def q1_144 : SE := bi .eql q1_143 (tp 0 (.inp 16))
@[simp] def q1_145 : SE := pk q1_142 q1_144 bF
@[simp] def q1_146 : SE := pt 2 q1_140
@[simp] def q1_147 : SE := pt 3 q1_140
@[simp] def q1_148 : SE := .agg [q1_146, q1_147, .inp 14]
@[simp] def q1_149 : SE := .app .lst [q1_148]
@[simp] def q1_150 : SE := .app .app [.inp 17, q1_149]
@[simp] def q1_151 : SE := bi .add (.inp 18) (zi 1)
@[simp] def q1_152 : SE := .agg [.inp 0, .inp 1, .inp 2]
@[simp] def q1_153 : SE := el 3 (ei 3 (.inp 1) (.inp 2))
@[simp] def q1_154 : SE := bi .eql (.inp 0) (.inp 3)
@[simp] def q1_155 : SE := bi .eql (.inp 1) (.inp 4)
@[simp] def q1_156 : SE := pk q1_154 q1_155 bF
@[simp] def q1_157 : SE := ei 3 (.inp 13) (.inp 15)
@[simp] def q1_158 : SE := ei 3 (.inp 16) (.inp 18)
@[simp] def q1_159 : SE := bi .lss (.inp 1) (zi 32)
@[simp] def q1_160 : SE := pk (bi .geq (.inp 1) (zi 0)) q1_159 bF
@[simp] def q1_161 : SE := .app (.conv .u64) [.inp 1]
@[simp] def q1_162 : SE := bi .shr (.inp 0) q1_161
@[simp] def q1_163 : SE := bi .and q1_162 (.int .u32 1)
@[simp] def q1_164 : SE := bi .eql q1_163 (.int .u32 1)
@[simp] def q1_165 : SE := .agg (ap [.inp 11] (ap (ipx 41 24) (ipx 36 4)))
@[simp] def q1_166 : SE := .app (.aidx 24 1 1 1 false) [q1_165, .inp 40]
@[simp] def q1_167 : SE := bi .lss (.inp 40) (zi 0)
@[simp] def q1_168 : SE := bi .geq (.inp 40) (ln (.inp 0))
@[simp] def q1_169 : SE := pk q1_167 bT q1_168
@[simp] def q1_170 : SE := bi .geq (.inp 40) (zi 24)
@[simp] def q1_171 : SE := pk (.inp 42) bT (.inp 43)
@[simp] def q1_172 : SE := .app (.aidx 24 1 1 1 false) [.agg (ipx 11 29), .inp 40]
@[simp] def q1_173 : SE := bi .lss q1_172 (.inp 4)
@[simp] def q1_174 : SE := ei 11 (.inp 0) (.inp 40)
@[simp] def q1_175 : SE := .app (.eoff 0) [q1_174]
@[simp] def q1_176 : SE := e1 q1_175
@[simp] def q1_177 : SE := bi .neq q1_176 (.int .u8 2)
@[simp] def q1_178 : SE := pk q1_169 bT q1_177
def rt_free_Can : RT :=
 ck (.isAgg 11) [.agg (ipx 0 11)] <|
 ck (.isAgg 29) [.agg (ipx 11 29)] <|
 ck (.isAgg 74) [.agg (ipx 40 74)] <|
 ck (.isAgg 3) [q1_0] <|
 ck .len [.inp 41] <|
.loop 0 117 [zi 0] <|
 ck (.bin .lss) [.inp 117, ln (.inp 41)] <|
.cond (bi .lss (.inp 117) (ln (.inp 41)))
 (ck (.eidx 23) [.inp 41, .inp 117] <|
 ck (.eload 23 true) [q1_1] <|
 ck (.isAgg 23) [q1_2] <|
 ck (.bin .eql) [q1_3, .inp 114] <|
 ckg (q1_4) true (.bin .neq) [q1_5, .int .u8 3] <|
 ck .pick [q1_4, q1_6, bF] <|
.seg [.bind 118 (pk q1_4 q1_6 bF)] <|
.cond (.inp 118)
 (ck (.bin .geq) [.inp 117, zi 0] <|
.cond (bi .geq (.inp 117) (zi 0))
 (.ret (zi 190))
 (ck .len [.inp 116] <|
.loop 0 119 [zi 0] <|
 ck (.bin .lss) [.inp 119, ln (.inp 116)] <|
.cond (bi .lss (.inp 119) (ln (.inp 116)))
 (ck (.eidx 3) [.inp 116, .inp 119] <|
 ck (.eload 3 true) [q1_7] <|
 ck (.isAgg 3) [q1_8] <|
.seg [.call 120 [] 104 [.agg (ipx 0 11), .agg (ipx 11 29), .agg (ipx 40 74), pt 0 q1_8] false] <|
 ck (.un .not) [.inp 120] <|
.cond (.inp 120)
 (ck (.bin .add) [.inp 119, zi 1] <|
.again 0 [bi .add (.inp 119) (zi 1)])
 (ck (.bin .geq) [.inp 119, zi 0] <|
.seg [.call 121 [(q1_9, false)] 41 [.agg (ipx 0 11), .inp 115] false] <|
.cond (q1_9)
 (.ret (zi 190))
 (ck .len [.inp 121] <|
.loop 0 122 [zi 0] <|
 ck (.bin .lss) [.inp 122, ln (.inp 121)] <|
.cond (q1_10)
 (ck (.eidx 3) [.inp 121, .inp 122] <|
 ck (.eload 3 true) [q1_11] <|
 ck (.isAgg 3) [q1_12] <|
.seg [.call 123 [] 104 [.agg (ipx 0 11), .agg (ipx 11 29), .agg (ipx 40 74), q1_13] false] <|
 ck (.un .not) [.inp 123] <|
.cond (.inp 123)
 (ck (.bin .add) [.inp 122, zi 1] <|
.again 0 [q1_14])
 (ck (.bin .geq) [.inp 122, zi 0] <|
.cond (q1_15)
 (.ret (zi 190))
 (.seg [.call 124 [] 42 [.agg (ipx 0 11), q1_0] false] <|
 ck .len [.inp 124] <|
.loop 0 125 [zi 0] <|
 ck (.bin .lss) [.inp 125, ln (.inp 124)] <|
.cond (bi .lss (.inp 125) (ln (.inp 124)))
 (ck (.eidx 3) [.inp 124, .inp 125] <|
 ck (.eload 3 true) [q1_16] <|
 ck (.isAgg 3) [q1_17] <|
.seg [.call 126 [] 106 [.agg (ipx 0 11), .agg (ipx 11 29), .agg (ipx 40 74), .agg [pt 0 q1_17, pt 1 q1_17, pt 2 q1_17]] false] <|
 ck (.un .not) [.inp 126] <|
.cond (.inp 126)
 (ck (.bin .add) [.inp 125, zi 1] <|
.again 0 [bi .add (.inp 125) (zi 1)])
 (ck (.bin .geq) [.inp 125, zi 0] <|
.cond (bi .geq (.inp 125) (zi 0))
 (.ret (zi 190))
 (ck .len [.inp 41] <|
 ck (.bin .geq) [ln (.inp 41), zi 6] <|
.cond (q1_18)
 (.ret (zi 191))
 (.ret (zi 0)))))
 (ck (.bin .geq) [zi (-1), zi 0] <|
 ck .len [.inp 41] <|
 ck (.bin .geq) [ln (.inp 41), zi 6] <|
.cond (q1_18)
 (.ret (zi 191))
 (.ret (zi 0))))))
 (ck (.bin .geq) [zi (-1), zi 0] <|
.seg [.call 123 [] 42 [.agg (ipx 0 11), q1_0] false] <|
 ck .len [.inp 123] <|
.loop 0 124 [zi 0] <|
 ck (.bin .lss) [.inp 124, ln (.inp 123)] <|
.cond (q1_19)
 (ck (.eidx 3) [.inp 123, .inp 124] <|
 ck (.eload 3 true) [q1_20] <|
 ck (.isAgg 3) [q1_21] <|
.seg [.call 125 [] 106 [.agg (ipx 0 11), .agg (ipx 11 29), .agg (ipx 40 74), q1_22] false] <|
 ck (.un .not) [.inp 125] <|
.cond (.inp 125)
 (ck (.bin .add) [.inp 124, zi 1] <|
.again 0 [q1_23])
 (ck (.bin .geq) [.inp 124, zi 0] <|
.cond (q1_24)
 (.ret (zi 190))
 (ck .len [.inp 41] <|
 ck (.bin .geq) [ln (.inp 41), zi 6] <|
.cond (q1_18)
 (.ret (zi 191))
 (.ret (zi 0)))))
 (ck (.bin .geq) [zi (-1), zi 0] <|
 ck .len [.inp 41] <|
 ck (.bin .geq) [ln (.inp 41), zi 6] <|
.cond (q1_18)
 (.ret (zi 191))
 (.ret (zi 0)))))))
 (ck (.bin .geq) [zi (-1), zi 0] <|
.seg [.call 120 [] 41 [.agg (ipx 0 11), .inp 115] false] <|
 ck .len [.inp 120] <|
.loop 0 121 [zi 0] <|
 ck (.bin .lss) [.inp 121, ln (.inp 120)] <|
.cond (q1_25)
 (ck (.eidx 3) [.inp 120, .inp 121] <|
 ck (.eload 3 true) [q1_26] <|
 ck (.isAgg 3) [q1_27] <|
.seg [.call 122 [] 104 [.agg (ipx 0 11), .agg (ipx 11 29), .agg (ipx 40 74), q1_28] false] <|
 ck (.un .not) [.inp 122] <|
.cond (.inp 122)
 (ck (.bin .add) [.inp 121, zi 1] <|
.again 0 [q1_29])
 (ck (.bin .geq) [.inp 121, zi 0] <|
.cond (q1_30)
 (.ret (zi 190))
 (.seg [.call 123 [] 42 [.agg (ipx 0 11), q1_0] false] <|
 ck .len [.inp 123] <|
.loop 0 124 [zi 0] <|
 ck (.bin .lss) [.inp 124, ln (.inp 123)] <|
.cond (q1_19)
 (ck (.eidx 3) [.inp 123, .inp 124] <|
 ck (.eload 3 true) [q1_20] <|
 ck (.isAgg 3) [q1_21] <|
.seg [.call 125 [] 106 [.agg (ipx 0 11), .agg (ipx 11 29), .agg (ipx 40 74), q1_22] false] <|
 ck (.un .not) [.inp 125] <|
.cond (.inp 125)
 (ck (.bin .add) [.inp 124, zi 1] <|
.again 0 [q1_23])
 (ck (.bin .geq) [.inp 124, zi 0] <|
.cond (q1_24)
 (.ret (zi 190))
 (ck .len [.inp 41] <|
 ck (.bin .geq) [ln (.inp 41), zi 6] <|
.cond (q1_18)
 (.ret (zi 191))
 (.ret (zi 0)))))
 (ck (.bin .geq) [zi (-1), zi 0] <|
 ck .len [.inp 41] <|
 ck (.bin .geq) [ln (.inp 41), zi 6] <|
.cond (q1_18)
 (.ret (zi 191))
 (.ret (zi 0))))))
 (ck (.bin .geq) [zi (-1), zi 0] <|
.seg [.call 122 [] 42 [.agg (ipx 0 11), q1_0] false] <|
 ck .len [.inp 122] <|
.loop 0 123 [zi 0] <|
 ck (.bin .lss) [.inp 123, ln (.inp 122)] <|
.cond (q1_31)
 (ck (.eidx 3) [.inp 122, .inp 123] <|
 ck (.eload 3 true) [q1_32] <|
 ck (.isAgg 3) [q1_33] <|
.seg [.call 124 [] 106 [.agg (ipx 0 11), .agg (ipx 11 29), .agg (ipx 40 74), q1_34] false] <|
 ck (.un .not) [.inp 124] <|
.cond (.inp 124)
 (ck (.bin .add) [.inp 123, zi 1] <|
.again 0 [q1_35])
 (ck (.bin .geq) [.inp 123, zi 0] <|
.cond (q1_36)
 (.ret (zi 190))
 (ck .len [.inp 41] <|
 ck (.bin .geq) [ln (.inp 41), zi 6] <|
.cond (q1_18)
 (.ret (zi 191))
 (.ret (zi 0)))))
 (ck (.bin .geq) [zi (-1), zi 0] <|
 ck .len [.inp 41] <|
 ck (.bin .geq) [ln (.inp 41), zi 6] <|
.cond (q1_18)
 (.ret (zi 191))
 (.ret (zi 0)))))))
 (ck (.bin .add) [.inp 117, zi 1] <|
.again 0 [bi .add (.inp 117) (zi 1)]))
 (ck (.bin .geq) [zi (-1), zi 0] <|
 ck .len [.inp 116] <|
.loop 0 118 [zi 0] <|
 ck (.bin .lss) [.inp 118, ln (.inp 116)] <|
.cond (bi .lss (.inp 118) (ln (.inp 116)))
 (ck (.eidx 3) [.inp 116, .inp 118] <|
 ck (.eload 3 true) [q1_37] <|
 ck (.isAgg 3) [q1_38] <|
.seg [.call 119 [] 104 [.agg (ipx 0 11), .agg (ipx 11 29), .agg (ipx 40 74), pt 0 q1_38] false] <|
 ck (.un .not) [.inp 119] <|
.cond (.inp 119)
 (ck (.bin .add) [.inp 118, zi 1] <|
.again 0 [bi .add (.inp 118) (zi 1)])
 (ck (.bin .geq) [.inp 118, zi 0] <|
.seg [.call 120 [(q1_39, false)] 41 [.agg (ipx 0 11), .inp 115] false] <|
.cond (q1_39)
 (.ret (zi 190))
 (ck .len [.inp 120] <|
.loop 0 121 [zi 0] <|
 ck (.bin .lss) [.inp 121, ln (.inp 120)] <|
.cond (q1_25)
 (ck (.eidx 3) [.inp 120, .inp 121] <|
 ck (.eload 3 true) [q1_26] <|
 ck (.isAgg 3) [q1_27] <|
.seg [.call 122 [] 104 [.agg (ipx 0 11), .agg (ipx 11 29), .agg (ipx 40 74), q1_28] false] <|
 ck (.un .not) [.inp 122] <|
.cond (.inp 122)
 (ck (.bin .add) [.inp 121, zi 1] <|
.again 0 [q1_29])
 (ck (.bin .geq) [.inp 121, zi 0] <|
.cond (q1_30)
 (.ret (zi 190))
 (.seg [.call 123 [] 42 [.agg (ipx 0 11), q1_0] false] <|
 ck .len [.inp 123] <|
.loop 0 124 [zi 0] <|
 ck (.bin .lss) [.inp 124, ln (.inp 123)] <|
.cond (q1_19)
 (ck (.eidx 3) [.inp 123, .inp 124] <|
 ck (.eload 3 true) [q1_20] <|
 ck (.isAgg 3) [q1_21] <|
.seg [.call 125 [] 106 [.agg (ipx 0 11), .agg (ipx 11 29), .agg (ipx 40 74), q1_22] false] <|
 ck (.un .not) [.inp 125] <|
.cond (.inp 125)
 (ck (.bin .add) [.inp 124, zi 1] <|
.again 0 [q1_23])
 (ck (.bin .geq) [.inp 124, zi 0] <|
.cond (q1_24)
 (.ret (zi 190))
 (ck .len [.inp 41] <|
 ck (.bin .geq) [ln (.inp 41), zi 6] <|
.cond (q1_18)
 (.ret (zi 191))
 (.ret (zi 0)))))
 (ck (.bin .geq) [zi (-1), zi 0] <|
 ck .len [.inp 41] <|
 ck (.bin .geq) [ln (.inp 41), zi 6] <|
.cond (q1_18)
 (.ret (zi 191))
 (.ret (zi 0))))))
 (ck (.bin .geq) [zi (-1), zi 0] <|
.seg [.call 122 [] 42 [.agg (ipx 0 11), q1_0] false] <|
 ck .len [.inp 122] <|
.loop 0 123 [zi 0] <|
 ck (.bin .lss) [.inp 123, ln (.inp 122)] <|
.cond (q1_31)
 (ck (.eidx 3) [.inp 122, .inp 123] <|
 ck (.eload 3 true) [q1_32] <|
 ck (.isAgg 3) [q1_33] <|
.seg [.call 124 [] 106 [.agg (ipx 0 11), .agg (ipx 11 29), .agg (ipx 40 74), q1_34] false] <|
 ck (.un .not) [.inp 124] <|
.cond (.inp 124)
 (ck (.bin .add) [.inp 123, zi 1] <|
.again 0 [q1_35])
 (ck (.bin .geq) [.inp 123, zi 0] <|
.cond (q1_36)
 (.ret (zi 190))
 (ck .len [.inp 41] <|
 ck (.bin .geq) [ln (.inp 41), zi 6] <|
.cond (q1_18)
 (.ret (zi 191))
 (.ret (zi 0)))))
 (ck (.bin .geq) [zi (-1), zi 0] <|
 ck .len [.inp 41] <|
 ck (.bin .geq) [ln (.inp 41), zi 6] <|
.cond (q1_18)
 (.ret (zi 191))
 (.ret (zi 0)))))))
 (ck (.bin .geq) [zi (-1), zi 0] <|
.seg [.call 119 [] 41 [.agg (ipx 0 11), .inp 115] false] <|
 ck .len [.inp 119] <|
.loop 0 120 [zi 0] <|
 ck (.bin .lss) [.inp 120, ln (.inp 119)] <|
.cond (bi .lss (.inp 120) (ln (.inp 119)))
 (ck (.eidx 3) [.inp 119, .inp 120] <|
 ck (.eload 3 true) [q1_40] <|
 ck (.isAgg 3) [q1_41] <|
.seg [.call 121 [] 104 [.agg (ipx 0 11), .agg (ipx 11 29), .agg (ipx 40 74), pt 0 q1_41] false] <|
 ck (.un .not) [.inp 121] <|
.cond (.inp 121)
 (ck (.bin .add) [.inp 120, zi 1] <|
.again 0 [bi .add (.inp 120) (zi 1)])
 (ck (.bin .geq) [.inp 120, zi 0] <|
.cond (bi .geq (.inp 120) (zi 0))
 (.ret (zi 190))
 (.seg [.call 122 [] 42 [.agg (ipx 0 11), q1_0] false] <|
 ck .len [.inp 122] <|
.loop 0 123 [zi 0] <|
 ck (.bin .lss) [.inp 123, ln (.inp 122)] <|
.cond (q1_31)
 (ck (.eidx 3) [.inp 122, .inp 123] <|
 ck (.eload 3 true) [q1_32] <|
 ck (.isAgg 3) [q1_33] <|
.seg [.call 124 [] 106 [.agg (ipx 0 11), .agg (ipx 11 29), .agg (ipx 40 74), q1_34] false] <|
 ck (.un .not) [.inp 124] <|
.cond (.inp 124)
 (ck (.bin .add) [.inp 123, zi 1] <|
.again 0 [q1_35])
 (ck (.bin .geq) [.inp 123, zi 0] <|
.cond (q1_36)
 (.ret (zi 190))
 (ck .len [.inp 41] <|
 ck (.bin .geq) [ln (.inp 41), zi 6] <|
.cond (q1_18)
 (.ret (zi 191))
 (.ret (zi 0)))))
 (ck (.bin .geq) [zi (-1), zi 0] <|
 ck .len [.inp 41] <|
 ck (.bin .geq) [ln (.inp 41), zi 6] <|
.cond (q1_18)
 (.ret (zi 191))
 (.ret (zi 0))))))
 (ck (.bin .geq) [zi (-1), zi 0] <|
.seg [.call 121 [] 42 [.agg (ipx 0 11), q1_0] false] <|
 ck .len [.inp 121] <|
.loop 0 122 [zi 0] <|
 ck (.bin .lss) [.inp 122, ln (.inp 121)] <|
.cond (q1_10)
 (ck (.eidx 3) [.inp 121, .inp 122] <|
 ck (.eload 3 true) [q1_11] <|
 ck (.isAgg 3) [q1_12] <|
.seg [.call 123 [] 106 [.agg (ipx 0 11), .agg (ipx 11 29), .agg (ipx 40 74), .agg [q1_13, pt 1 q1_12, pt 2 q1_12]] false] <|
 ck (.un .not) [.inp 123] <|
.cond (.inp 123)
 (ck (.bin .add) [.inp 122, zi 1] <|
.again 0 [q1_14])
 (ck (.bin .geq) [.inp 122, zi 0] <|
.cond (q1_15)
 (.ret (zi 190))
 (ck .len [.inp 41] <|
 ck (.bin .geq) [ln (.inp 41), zi 6] <|
.cond (q1_18)
 (.ret (zi 191))
 (.ret (zi 0)))))
 (ck (.bin .geq) [zi (-1), zi 0] <|
 ck .len [.inp 41] <|
 ck (.bin .geq) [ln (.inp 41), zi 6] <|
.cond (q1_18)
 (.ret (zi 191))
 (.ret (zi 0))))))
theorem run_free_Can : runF E 58 [.agg (ips 0 11), .agg (ips 11 29), .agg (ips 40 74), .agg [.inp 114, .inp 115, .inp 116]] 117 = rt_free_Can := by kernel_rfl
def rt_free_Right : RT :=
 ck (.isAgg 74) [.agg (ipx 0 74)] <|
 ck .len [.inp 1] <|
 ck (.bin .gtr) [ln (.inp 1), zi 6] <|
 ckg (q1_42) false (.bin .lss) [.inp 0, zi 1] <|
 ck .pick [q1_42, bT, bi .lss (.inp 0) (zi 1)] <|
 ckg (q1_43) false (.bin .gtr) [.inp 0, zi 1073741824] <|
 ck .pick [q1_43, bT, q1_44] <|
.seg [.bind 74 (pk q1_43 bT q1_44)] <|
.cond (.inp 74)
 (.ret (bF))
 (ck .len [.inp 1] <|
.loop 0 75 [zi 0, zi 0] <|
 ck (.bin .lss) [.inp 76, ln (.inp 1)] <|
.cond (bi .lss (.inp 76) (ln (.inp 1)))
 (ck (.eidx 23) [.inp 1, .inp 76] <|
 ck (.eload 23 true) [q1_45] <|
 ck (.isAgg 23) [q1_46] <|
.seg [.call 77 [] 99 [q1_47] false] <|
 ck (.un .not) [.inp 77] <|
 ckg (nt (.inp 77)) false (.bin .leq) [q1_48, .inp 75] <|
 ck .pick [nt (.inp 77), bT, q1_49] <|
 ckg (q1_50) false (.bin .geq) [q1_48, .inp 0] <|
 ck .pick [q1_50, bT, q1_51] <|
.seg [.chk [(q1_52, false)] (.szs 23) [.inp 1],
.chk [(q1_52, false)] (.slice false true) [.inp 1, .inp 76]] <|
.cond (q1_52)
 (.seg [.bind 78 (q1_50)] <|
.ret (bF))
 (ck .len [q1_53] <|
.loop 1 78 [zi 0] <|
 ck (.bin .lss) [.inp 78, q1_54] <|
.cond (bi .lss (.inp 78) q1_54)
 (ck (.eidx 23) [q1_53, .inp 78] <|
 ck (.eload 23 true) [q1_55] <|
 ck (.isAgg 23) [q1_56] <|
 ck (.isAgg 23) [q1_57] <|
.seg [.call 79 [] 98 [q1_47, q1_57] false] <|
 ck (.un .not) [.inp 79] <|
.cond (.inp 79)
 (ck (.bin .add) [.inp 78, zi 1] <|
.again 1 [bi .add (.inp 78) (zi 1)])
 (ck (.bin .geq) [.inp 78, zi 0] <|
.seg [.bind 80 (q1_50)] <|
.cond (bi .geq (.inp 78) (zi 0))
 (.ret (bF))
 (ck (.bin .add) [.inp 76, zi 1] <|
.again 0 [q1_48, q1_58])))
 (ck (.bin .geq) [zi (-1), zi 0] <|
.seg [.bind 79 (q1_50)] <|
 ck (.bin .add) [.inp 76, zi 1] <|
.again 0 [q1_48, q1_58])))
 (.loop 0 77 [zi 0] <|
 ck (.bin .lss) [.inp 77, zi 24] <|
.cond (bi .lss (.inp 77) (zi 24))
 (ck (.aidx 24 3 0 3 true) [.agg (ipx 2 72), .inp 77] <|
 ck (.isAgg 3) [q1_59] <|
.seg [.bind 78 (q1_59),
.bind 79 (pt 0 q1_59),
.bind 80 (pt 1 q1_59),
.bind 81 (pt 2 q1_59)] <|
.seg [.call 82 [] 101 [.agg [.inp 79, .inp 80, .inp 81]] false] <|
 ck (.un .not) [.inp 82] <|
.cond (.inp 82)
 (ck (.bin .add) [.inp 77, zi 1] <|
.again 0 [bi .add (.inp 77) (zi 1)])
 (.ret (bF)))
 (.ret (bT))))
theorem run_free_Right : runF E 57 [.agg (ips 0 74)] 74 = rt_free_Right := by kernel_rfl
def rt_port_of : RT :=
 ck (.conv .i64) [.inp 0] <|
 ck (.bin .lss) [q1_60, zi 4] <|
.cond (bi .lss q1_60 (zi 4))
 (ck (.eaidx 4 7) [q1_61, .inp 0] <|
 ck (.eload 7 true) [q1_62] <|
 ck (.isAgg 7) [q1_63] <|
.seg [.bind 1 (q1_62),
.bind 2 (q1_63),
.bind 3 (pt 0 q1_63),
.bind 4 (pt 1 q1_63),
.bind 5 (pt 2 q1_63),
.bind 6 (pt 3 q1_63),
.bind 7 (pt 4 q1_63),
.bind 8 (pt 5 q1_63),
.bind 9 (pt 6 q1_63)] <|
.ret (.agg (ipx 3 7)))
 (.ret (.agg [zi 0, zi 0, zi 0, zi 0, zi 0, zi 0, bF]))
theorem run_port_of : runF E 199 [.inp 0] 1 = rt_port_of := by kernel_rfl
def rt_port_Way : RT :=
 ck .isOne [.inp 2] <|
 ck .isOne [.inp 0] <|
 ck .isOne [.inp 1] <|
.seg [.call 3 [] 199 [.inp 0] false] <|
 ck (.isAgg 7) [.inp 3] <|
 ck (.slice false true) [q1_64, pt 5 (.inp 3)] <|
 ck .len [q1_65] <|
.seg [.bind 4 (q1_65),
.bind 5 (ln q1_65)] <|
.loop 0 6 [zi 0] <|
 ck (.bin .lss) [.inp 6, .inp 5] <|
.cond (bi .lss (.inp 6) (.inp 5))
 (ck (.eidx 2) [.inp 4, .inp 6] <|
 ck (.eload 2 true) [ei 2 (.inp 4) (.inp 6)] <|
 ck (.isAgg 2) [q1_66] <|
 ck (.bin .eql) [q1_67, .inp 1] <|
.cond (bi .eql q1_67 (.inp 1))
 (ck (.bin .eql) [q1_68, .inp 2] <|
.cond (bi .eql q1_68 (.inp 2))
 (ck .isOne [.inp 6] <|
 ck (.un .not) [bF] <|
 ck .isOne [.inp 6] <|
.ret (.tup [.inp 6, bT]))
 (ck (.un .not) [bT] <|
 ck (.bin .eql) [q1_68, .inp 1] <|
.cond (q1_69)
 (ck (.bin .eql) [q1_67, .inp 2] <|
.cond (q1_70)
 (ck .isOne [.inp 6] <|
 ck (.un .not) [bF] <|
 ck .isOne [.inp 6] <|
.ret (.tup [.inp 6, bT]))
 (ck (.un .not) [bT] <|
 ck (.bin .add) [.inp 6, zi 1] <|
.again 0 [bi .add (.inp 6) (zi 1)]))
 (ck (.bin .add) [.inp 6, zi 1] <|
.again 0 [bi .add (.inp 6) (zi 1)])))
 (ck (.bin .eql) [q1_68, .inp 1] <|
.cond (q1_69)
 (ck (.bin .eql) [q1_67, .inp 2] <|
.cond (q1_70)
 (ck .isOne [.inp 6] <|
 ck (.un .not) [bF] <|
 ck .isOne [.inp 6] <|
.ret (.tup [.inp 6, bT]))
 (ck (.un .not) [bT] <|
 ck (.bin .add) [.inp 6, zi 1] <|
.again 0 [bi .add (.inp 6) (zi 1)]))
 (ck (.bin .add) [.inp 6, zi 1] <|
.again 0 [bi .add (.inp 6) (zi 1)])))
 (.ret (.tup [zi 0, bF]))
theorem run_port_Way : runF E 172 [.inp 0, .inp 1, .inp 2] 3 = rt_port_Way := by kernel_rfl
def rt_port_Pos : RT :=
.seg [.call 3 [] 172 [.inp 0, .inp 1, .inp 2] false] <|
 ck (.tproj 0) [.inp 3] <|
 ck (.tproj 1) [.inp 3] <|
.seg [.call 4 [(tp 1 (.inp 3), true)] 199 [.inp 0] false] <|
 ckg (tp 1 (.inp 3)) true (.part 6 1 false) [.inp 4] <|
 ckg (tp 1 (.inp 3)) true (.un .not) [pt 6 (.inp 4)] <|
 ck .pick [tp 1 (.inp 3), nt (pt 6 (.inp 4)), bF] <|
.cond (pk (tp 1 (.inp 3)) (nt (pt 6 (.inp 4))) bF)
 (.ret (.tup [zi (-1), tp 1 (.inp 3)]))
 (.ret (q1_71))
theorem run_port_Pos : runF E 165 [.inp 0, .inp 1, .inp 2] 3 = rt_port_Pos := by kernel_rfl
def rt_port_Ports : RT :=
.seg [.call 1 [] 199 [.inp 0] false] <|
 ck (.part 0 1 false) [.inp 1] <|
.ret (pt 0 (.inp 1))
theorem run_port_Ports : runF E 225 [.inp 0] 1 = rt_port_Ports := by kernel_rfl
def rt_layout_Step : RT :=
 ck (.isAgg 11) [.agg (ipx 0 11)] <|
 ck (.isAgg 3) [q1_72] <|
 ck (.isAgg 11) [.agg (ipx 0 11)] <|
 ck (.bin .geq) [.inp 11, zi 0] <|
 ckg (q1_73) true .len [.inp 0] <|
 ckg (q1_73) true (.bin .lss) [.inp 11, ln (.inp 0)] <|
 ck .pick [q1_73, q1_74, bF] <|
 ck (.un .not) [q1_75] <|
.seg [.bind 14 (nt q1_75)] <|
.cond (.inp 14)
 (.ret (.tup [zi 0, bF]))
 (.seg [.chk [] (.eidx 11) [.inp 0, .inp 11],
.chk [] (.eoff 0) [q1_76],
.chk [] (.eload 1 false) [q1_77],
.call 15 [] 172 [q1_78, .inp 12, .inp 13] false,
.chk [] (.tproj 0) [.inp 15],
.chk [] (.tproj 1) [.inp 15]] <|
.ret (.tup [tp 0 (.inp 15), tp 1 (.inp 15)]))
theorem run_layout_Step : runF E 130 [.agg (ips 0 11), .agg [.inp 11, .inp 12, .inp 13]] 14 = rt_layout_Step := by kernel_rfl
def rt_beyond_Over : RT :=
 ck (.isAgg 11) [.agg (ipx 0 11)] <|
 ck (.bin .lss) [.inp 11, zi 0] <|
 ckg (q1_79) false .len [.inp 2] <|
 ckg (q1_79) false (.bin .geq) [.inp 11, ln (.inp 2)] <|
 ck .pick [q1_79, bT, q1_80] <|
.cond (q1_81)
 (.ret (.nils))
 (ck (.eidx 3) [.inp 2, .inp 11] <|
 ck (.eoff 2) [ei 3 (.inp 2) (.inp 11)] <|
 ck (.eload 1 false) [q1_82] <|
.seg [.call 12 [] 79 [q1_83] false] <|
.ret (.inp 12))
theorem run_beyond_Over : runF E 41 [.agg (ips 0 11), .inp 11] 12 = rt_beyond_Over := by kernel_rfl
def rt_beyond_Point : RT :=
 ck (.isAgg 11) [.agg (ipx 0 11)] <|
 ck (.isAgg 3) [q1_72] <|
.seg [.call 14 [] 130 [.agg (ipx 0 11), q1_72] false] <|
 ck (.tproj 0) [.inp 14] <|
 ck (.tproj 1) [.inp 14] <|
 ck (.un .not) [tp 1 (.inp 14)] <|
 ckg (nt (tp 1 (.inp 14))) false (.eidx 11) [.inp 0, .inp 11] <|
 ckg (nt (tp 1 (.inp 14))) false (.eoff 0) [q1_76] <|
 ckg (nt (tp 1 (.inp 14))) false (.eload 1 false) [q1_77] <|
 ckg (nt (tp 1 (.inp 14))) false (.bin .neq) [q1_78, .int .u8 2] <|
 ck .pick [nt (tp 1 (.inp 14)), bT, q1_84] <|
.seg [.bind 15 (pk (nt (tp 1 (.inp 14))) bT q1_84)] <|
.cond (.inp 15)
 (.ret (.tup [zi 0, zi 0, bF]))
 (.seg [.call 16 [] 165 [.int .u8 2, .inp 12, .inp 13] false] <|
 ck (.tproj 0) [.inp 16] <|
 ck (.tproj 1) [.inp 16] <|
.ret (q1_85))
theorem run_beyond_Point : runF E 120 [.agg (ips 0 11), .agg [.inp 11, .inp 12, .inp 13]] 14 = rt_beyond_Point := by kernel_rfl
def rt_beyond_Wants : RT :=
 ck (.isAgg 11) [.agg (ipx 0 11)] <|
 ck (.isAgg 3) [q1_72] <|
 ck .isOne [.inp 14] <|
.seg [.call 15 [] 120 [.agg (ipx 0 11), q1_72] false] <|
 ck (.tproj 0) [.inp 15] <|
 ck (.tproj 1) [.inp 15] <|
 ck (.tproj 2) [.inp 15] <|
.cond (tp 2 (.inp 15))
 (.seg [.chk [] .isOne [tp 0 (.inp 15)],
.chk [] .isOne [tp 1 (.inp 15)],
.chk [] .isOne [.inp 14]] <|
 ck (.isAgg 3) [q1_86] <|
.seg [.chk [] (.szs 3) [q1_87],
.chk [] .app [.nils, q1_87]] <|
 ck (.isAgg 11) [.agg (ipx 0 11)] <|
 ck (.isAgg 3) [q1_72] <|
.seg [.call 16 [] 130 [.agg (ipx 0 11), q1_72] false] <|
 ck (.tproj 0) [.inp 16] <|
 ck (.tproj 1) [.inp 16] <|
 ck .len [.inp 3] <|
.loop 0 17 [zi 0, q1_88] <|
 ck (.bin .lss) [.inp 17, ln (.inp 3)] <|
.cond (q1_89)
 (ck (.eidx 4) [.inp 3, .inp 17] <|
 ck (.eload 4 true) [ei 4 (.inp 3) (.inp 17)] <|
 ck (.isAgg 4) [q1_90] <|
 ckg (tp 1 (.inp 16)) true (.bin .eql) [q1_91, .inp 11] <|
 ck .pick [tp 1 (.inp 16), q1_92, bF] <|
 ckg (q1_93) true (.bin .eql) [q1_94, tp 0 (.inp 16)] <|
 ck .pick [q1_93, q1_95, bF] <|
.cond (q1_96)
 (ck (.isAgg 4) [q1_97] <|
.seg [.chk [] .isOne [q1_98],
.chk [] .isOne [q1_99],
.chk [] .isOne [.inp 14]] <|
 ck (.isAgg 3) [q1_100] <|
.seg [.chk [] (.szs 3) [q1_101],
.chk [] .app [.inp 18, q1_101]] <|
.seg [.bind 19 (q1_101),
.bind 20 (q1_102)] <|
 ck (.un .not) [bT] <|
.seg [.bind 21 (q1_93)] <|
 ck (.bin .add) [.inp 17, zi 1] <|
.again 0 [q1_103, .inp 20])
 (.seg [.bind 19 (q1_93)] <|
 ck (.bin .add) [.inp 17, zi 1] <|
.again 0 [q1_103, .inp 18]))
 (.ret (.inp 18)))
 (ck (.isAgg 11) [.agg (ipx 0 11)] <|
 ck (.isAgg 3) [q1_72] <|
.seg [.call 16 [] 130 [.agg (ipx 0 11), q1_72] false] <|
 ck (.tproj 0) [.inp 16] <|
 ck (.tproj 1) [.inp 16] <|
 ck .len [.inp 3] <|
.loop 0 17 [zi 0, .nils] <|
 ck (.bin .lss) [.inp 17, ln (.inp 3)] <|
.cond (q1_89)
 (ck (.eidx 4) [.inp 3, .inp 17] <|
 ck (.eload 4 true) [ei 4 (.inp 3) (.inp 17)] <|
 ck (.isAgg 4) [q1_90] <|
 ckg (tp 1 (.inp 16)) true (.bin .eql) [q1_91, .inp 11] <|
 ck .pick [tp 1 (.inp 16), q1_92, bF] <|
 ckg (q1_93) true (.bin .eql) [q1_94, tp 0 (.inp 16)] <|
 ck .pick [q1_93, q1_95, bF] <|
.cond (q1_96)
 (ck (.isAgg 4) [q1_97] <|
.seg [.chk [] .isOne [q1_98],
.chk [] .isOne [q1_99],
.chk [] .isOne [.inp 14]] <|
 ck (.isAgg 3) [q1_100] <|
.seg [.chk [] (.szs 3) [q1_101],
.chk [] .app [.inp 18, q1_101]] <|
.seg [.bind 19 (q1_101),
.bind 20 (q1_102)] <|
 ck (.un .not) [bT] <|
.seg [.bind 21 (q1_93)] <|
 ck (.bin .add) [.inp 17, zi 1] <|
.again 0 [q1_103, .inp 20])
 (.seg [.bind 19 (q1_93)] <|
 ck (.bin .add) [.inp 17, zi 1] <|
.again 0 [q1_103, .inp 18]))
 (.ret (.inp 18)))
theorem run_beyond_Wants : runF E 81 [.agg (ips 0 11), .agg [.inp 11, .inp 12, .inp 13], .inp 14] 15 = rt_beyond_Wants := by kernel_rfl
def rt_need_Of : RT :=
 ck (.isAgg 11) [.agg (ipx 0 11)] <|
 ck (.isAgg 3) [q1_72] <|
 ck (.isAgg 11) [.agg (ipx 0 11)] <|
 ck (.isAgg 3) [q1_72] <|
 ck .len [.inp 13] <|
.loop 0 14 [zi 0, .nils] <|
 ck (.bin .lss) [.inp 14, ln (.inp 13)] <|
.cond (bi .lss (.inp 14) (ln (.inp 13)))
 (ck (.eidx 3) [.inp 13, .inp 14] <|
 ck (.eload 3 true) [q1_104] <|
 ck (.isAgg 3) [q1_105] <|
 ck (.isAgg 3) [q1_106] <|
.seg [.call 16 [] 81 [.agg (ipx 0 11), q1_106, .inp 14] false,
.chk [] (.szs 3) [.inp 16],
.chk [] .app [.inp 15, .inp 16]] <|
 ck (.un .not) [bT] <|
 ck (.bin .add) [.inp 14, zi 1] <|
.again 0 [bi .add (.inp 14) (zi 1), .app .app [.inp 15, .inp 16]])
 (.seg [.call 16 [] 41 [.agg (ipx 0 11), .inp 12] false] <|
 ck .len [.inp 16] <|
.loop 0 17 [zi 0, .inp 15] <|
 ck (.bin .lss) [.inp 17, ln (.inp 16)] <|
.cond (bi .lss (.inp 17) (ln (.inp 16)))
 (ck (.eidx 3) [.inp 16, .inp 17] <|
 ck (.eload 3 true) [q1_107] <|
 ck (.isAgg 3) [q1_108] <|
 ck .len [.inp 13] <|
 ck (.isAgg 3) [q1_109] <|
.seg [.call 19 [] 81 [.agg (ipx 0 11), q1_109, ln (.inp 13)] false,
.chk [] (.szs 3) [.inp 19],
.chk [] .app [.inp 18, .inp 19]] <|
 ck (.un .not) [bT] <|
 ck (.bin .add) [.inp 17, zi 1] <|
.again 0 [q1_103, .app .app [.inp 18, .inp 19]])
 (.ret (.inp 18)))
theorem run_need_Of : runF E 42 [.agg (ips 0 11), .agg [.inp 11, .inp 12, .inp 13]] 14 = rt_need_Of := by kernel_rfl
def rt_slices_Concat_Need : RT :=
 ck .len [.inp 0] <|
.loop 0 1 [zi 0, zi 0] <|
 ck (.bin .lss) [.inp 2, ln (.inp 0)] <|
.cond (q1_110)
 (ck (.eidx 1) [.inp 0, .inp 2] <|
 ck (.eload 1 false) [ei 1 (.inp 0) (.inp 2)] <|
 ck .len [q1_111] <|
 ck (.bin .add) [.inp 1, q1_112] <|
 ck (.bin .lss) [q1_113, zi 0] <|
.cond (bi .lss q1_113 (zi 0))
 (.dead 6 [zi 9])
 (ck (.bin .add) [.inp 2, zi 1] <|
.again 0 [q1_113, bi .add (.inp 2) (zi 1)]))
 (ck (.bin .lss) [.inp 1, zi 0] <|
.cond (bi .lss (.inp 1) (zi 0))
 (.dead 6 [zi 9])
 (ck .len [.nils] <|
 ck (.bin .sub) [zi 0, zi 0] <|
 ck (.bin .sub) [.inp 1, zi 0] <|
 ck (.bin .gtr) [bi .sub (.inp 1) (zi 0), zi 0] <|
.cond (bi .gtr (bi .sub (.inp 1) (zi 0)) (zi 0))
 (ck .rep [bi .sub (.inp 1) (zi 0), .agg [zi 0, zi 0, zi 0]] <|
 ck .len [.nils] <|
 ck (.slice false true) [q1_114, zi 0] <|
.seg [.bind 3 (.app (.slice false true) [q1_114, zi 0])] <|
 ck .len [.inp 0] <|
.loop 0 4 [.inp 3, zi 0] <|
 ck (.bin .lss) [.inp 5, ln (.inp 0)] <|
.cond (bi .lss (.inp 5) (ln (.inp 0)))
 (ck (.eidx 1) [.inp 0, .inp 5] <|
 ck (.eload 1 false) [ei 1 (.inp 0) (.inp 5)] <|
.seg [.chk [] (.szs 3) [q1_115],
.chk [] .app [.inp 4, q1_115]] <|
 ck (.bin .add) [.inp 5, zi 1] <|
.again 0 [.app .app [.inp 4, q1_115], bi .add (.inp 5) (zi 1)])
 (.ret (.inp 4)))
 (ck .len [.inp 0] <|
.loop 0 3 [.nils, zi 0] <|
 ck (.bin .lss) [.inp 4, ln (.inp 0)] <|
.cond (bi .lss (.inp 4) (ln (.inp 0)))
 (ck (.eidx 1) [.inp 0, .inp 4] <|
 ck (.eload 1 false) [ei 1 (.inp 0) (.inp 4)] <|
.seg [.chk [] (.szs 3) [q1_116],
.chk [] .app [.inp 3, q1_116]] <|
 ck (.bin .add) [.inp 4, zi 1] <|
.again 0 [.app .app [.inp 3, q1_116], bi .add (.inp 4) (zi 1)])
 (.ret (.inp 3)))))
theorem run_slices_Concat_Need : runF E 137 [.inp 0] 1 = rt_slices_Concat_Need := by kernel_rfl
def rt_need_At : RT :=
 ck .len [.inp 0] <|
.loop 0 2 [zi 0] <|
 ck (.bin .lss) [.inp 2, ln (.inp 0)] <|
.cond (q1_110)
 (ck (.eidx 3) [.inp 0, .inp 2] <|
 ck (.eload 3 true) [ei 3 (.inp 0) (.inp 2)] <|
 ck (.isAgg 3) [q1_117] <|
 ck (.bin .eql) [q1_118, .inp 1] <|
.cond (bi .eql q1_118 (.inp 1))
 (.ret (.tup [pt 1 q1_117, bT]))
 (ck (.bin .add) [.inp 2, zi 1] <|
.again 0 [bi .add (.inp 2) (zi 1)]))
 (.ret (.tup [zi 0, bF]))
theorem run_need_At : runF E 139 [.inp 0, .inp 1] 2 = rt_need_At := by kernel_rfl
def rt_need_Clash : RT :=
.seg [.chk [] .isOne [.inp 0],
.chk [] .isOne [.inp 1],
.chk [] .isOne [.inp 0],
.chk [] .isOne [.inp 1]] <|
.seg [.call 2 [] 137 [.app .lst [.inp 0, .inp 1]] false] <|
 ck .isOne [.inp 2] <|
 ck .len [.inp 2] <|
.loop 0 3 [zi 0] <|
 ck (.bin .lss) [.inp 3, ln (.inp 2)] <|
.cond (bi .lss (.inp 3) (ln (.inp 2)))
 (ck (.eidx 3) [.inp 2, .inp 3] <|
 ck (.eload 3 true) [ei 3 (.inp 2) (.inp 3)] <|
 ck (.isAgg 3) [q1_119] <|
.seg [.call 4 [] 139 [.inp 2, pt 0 q1_119] false] <|
 ck (.tproj 0) [.inp 4] <|
 ck (.tproj 1) [.inp 4] <|
 ck (.bin .neq) [tp 0 (.inp 4), q1_120] <|
.cond (bi .neq (tp 0 (.inp 4)) q1_120)
 (ck (.bin .geq) [.inp 3, zi 0] <|
.ret (bi .geq (.inp 3) (zi 0)))
 (ck (.bin .add) [.inp 3, zi 1] <|
.again 0 [bi .add (.inp 3) (zi 1)]))
 (ck (.bin .geq) [zi (-1), zi 0] <|
.ret (bF))
theorem run_need_Clash : runF E 96 [.inp 0, .inp 1] 2 = rt_need_Clash := by kernel_rfl
def rt_need_Fine : RT :=
 ck (.isAgg 11) [.agg (ipx 0 11)] <|
 ck (.isAgg 3) [q1_72] <|
.seg [.call 14 [] 42 [.agg (ipx 0 11), q1_72] false] <|
.seg [.call 15 [] 96 [.inp 14, .nils] false] <|
 ck (.un .not) [.inp 15] <|
.ret (nt (.inp 15))
theorem run_need_Fine : runF E 56 [.agg (ips 0 11), .agg [.inp 11, .inp 12, .inp 13]] 14 = rt_need_Fine := by kernel_rfl
def rt_lockbarref03_Late : RT :=
 ck (.bin .gtr) [.inp 0, .inp 1] <|
.ret (bi .gtr (.inp 0) (.inp 1))
theorem run_lockbarref03_Late : runF E 112 [.inp 0, .inp 1] 2 = rt_lockbarref03_Late := by kernel_rfl
def rt_lockbarref03_within : RT :=
 ck (.mm true) [.inp 0, zi 0] <|
 ck (.mm false) [q1_121, .inp 1] <|
.ret (.app (.mm false) [q1_121, .inp 1])
theorem run_lockbarref03_within : runF E 243 [.inp 0, .inp 1] 2 = rt_lockbarref03_within := by kernel_rfl
def rt_lockbarref03_Count : RT :=
.seg [.call 1 [] 243 [.inp 0, zi 65535] false] <|
.ret (.inp 1)
theorem run_lockbarref03_Count : runF E 198 [.inp 0] 1 = rt_lockbarref03_Count := by kernel_rfl
def rt_lockbarref03_More : RT :=
.seg [.call 2 [] 198 [.inp 0] false] <|
.seg [.call 3 [] 198 [.inp 1] false] <|
 ck (.bin .add) [.inp 2, .inp 3] <|
 ck (.mm false) [q1_122, zi 65535] <|
.ret (.app (.mm false) [q1_122, zi 65535])
theorem run_lockbarref03_More : runF E 164 [.inp 0, .inp 1] 2 = rt_lockbarref03_More := by kernel_rfl
def rt_lockbarref03_Row : RT :=
 ck (.un .not) [.inp 0] <|
.cond (.inp 0)
 (.seg [.call 2 [] 164 [.inp 1, zi 1] false] <|
.ret (.inp 2))
 (.ret (zi 0))
theorem run_lockbarref03_Row : runF E 117 [.inp 0, .inp 1] 2 = rt_lockbarref03_Row := by kernel_rfl
def rt_lockbarref05_Ways : RT :=
 ck (.bin .eql) [.inp 0, .int .u8 1] <|
.cond (bi .eql (.inp 0) (.int .u8 1))
 (.ret (zi 1))
 (ck (.bin .eql) [.inp 0, .int .u8 2] <|
.cond (q1_123)
 (.ret (zi 2))
 (ck (.bin .eql) [.inp 0, .int .u8 3] <|
.cond (bi .eql (.inp 0) (.int .u8 3))
 (.ret (zi 2))
 (.ret (zi 0))))
theorem run_lockbarref05_Ways : runF E 196 [.inp 0] 1 = rt_lockbarref05_Ways := by kernel_rfl
def rt_lockbarref05_Ends : RT :=
 ck (.bin .lss) [.inp 1, zi 0] <|
.seg [.call 2 [(bi .lss (.inp 1) (zi 0), false)] 196 [.inp 0] false] <|
 ckg (bi .lss (.inp 1) (zi 0)) false (.bin .geq) [.inp 1, .inp 2] <|
 ck .pick [bi .lss (.inp 1) (zi 0), bT, q1_124] <|
.cond (pk (bi .lss (.inp 1) (zi 0)) bT q1_124)
 (.ret (.tup [zi 0, zi 0, bF]))
 (ck (.bin .eql) [.inp 1, zi 0] <|
.cond (bi .eql (.inp 1) (zi 0))
 (.ret (.tup [zi 0, zi 1, bT]))
 (ck (.bin .eql) [.inp 0, .int .u8 2] <|
.cond (q1_123)
 (.ret (.tup [zi 0, zi 2, bT]))
 (.ret (.tup [zi 2, zi 3, bT]))))
theorem run_lockbarref05_Ends : runF E 197 [.inp 0, .inp 1] 2 = rt_lockbarref05_Ends := by kernel_rfl
def rt_lockbarref05_Way : RT :=
.loop 0 3 [zi 0] <|
.seg [.call 4 [] 196 [.inp 0] false] <|
 ck (.bin .lss) [.inp 3, .inp 4] <|
.cond (bi .lss (.inp 3) (.inp 4))
 (.seg [.call 5 [] 197 [.inp 0, .inp 3] false] <|
 ck (.tproj 0) [.inp 5] <|
 ck (.tproj 1) [.inp 5] <|
 ck (.tproj 2) [.inp 5] <|
 ck (.bin .eql) [.inp 1, tp 0 (.inp 5)] <|
 ckg (q1_125) true (.bin .eql) [.inp 2, tp 1 (.inp 5)] <|
 ck .pick [q1_125, q1_126, bF] <|
 ckg (q1_127) false (.bin .eql) [.inp 1, tp 1 (.inp 5)] <|
.seg [.chk [(q1_128, true), (q1_127, false)] (.bin .eql) [.inp 2, tp 0 (.inp 5)]] <|
 ckg (q1_127) false .pick [q1_128, q1_129, bF] <|
 ck .pick [q1_127, bT, q1_130] <|
.seg [.bind 6 (q1_127),
.bind 7 (q1_130),
.bind 8 (pk q1_127 bT q1_130)] <|
.cond (.inp 8)
 (.ret (.tup [.inp 3, bT]))
 (ck (.bin .add) [.inp 3, zi 1] <|
.again 0 [bi .add (.inp 3) (zi 1)]))
 (.ret (.tup [zi 0, bF]))
theorem run_lockbarref05_Way : runF E 159 [.inp 0, .inp 1, .inp 2] 3 = rt_lockbarref05_Way := by kernel_rfl
def rt_lockbarref05_Pos : RT :=
.seg [.call 3 [] 159 [.inp 0, .inp 1, .inp 2] false] <|
 ck (.tproj 0) [.inp 3] <|
 ck (.tproj 1) [.inp 3] <|
 ckg (tp 1 (.inp 3)) true (.bin .neq) [.inp 0, .int .u8 2] <|
 ck .pick [tp 1 (.inp 3), q1_131, bF] <|
.cond (pk (tp 1 (.inp 3)) q1_131 bF)
 (.ret (.tup [zi (-1), bT]))
 (.ret (q1_71))
theorem run_lockbarref05_Pos : runF E 163 [.inp 0, .inp 1, .inp 2] 3 = rt_lockbarref05_Pos := by kernel_rfl
def rt_lockbarref06_At : RT :=
 ck (.isAgg 11) [.agg (ipx 0 11)] <|
 ck (.isAgg 2) [.agg [.inp 11, .inp 12]] <|
.seg [.chk [] (.bin .lss) [.inp 11, zi 0],
.chk [(q1_79, false)] .len [.inp 0],
.chk [(q1_79, false)] (.bin .geq) [.inp 11, ln (.inp 0)],
.chk [] .pick [q1_79, bT, q1_132],
.chk [(q1_133, false)] (.bin .lss) [.inp 12, zi 0],
.chk [] .pick [q1_133, bT, q1_134],
.chk [(q1_135, false)] (.eidx 11) [.inp 0, .inp 11],
.chk [(q1_135, false)] (.eoff 0) [q1_76],
.chk [(q1_135, false)] (.eload 1 false) [q1_77],
.call 13 [(q1_135, false)] 194 [q1_78] false,
.chk [(q1_135, false)] (.bin .geq) [.inp 12, .inp 13],
.chk [] .pick [q1_135, bT, q1_136]] <|
.seg [.bind 14 (q1_135),
.bind 15 (pk q1_135 bT q1_136)] <|
.cond (.inp 15)
 (.ret (.tup [.agg [.int .u8 0, zi 0, zi 0, zi 0, zi 0, zi 0, zi 0, zi 0, zi 0, zi 0, zi 0], bF]))
 (ck (.eidx 11) [.inp 0, .inp 11] <|
 ck (.eload 11 true) [q1_76] <|
 ck (.isAgg 11) [q1_137] <|
.ret (.tup [.agg (ptx (q1_137) 0 11), bT]))
theorem run_lockbarref06_At : runF E 241 [.agg (ips 0 11), .agg [.inp 11, .inp 12]] 13 = rt_lockbarref06_At := by kernel_rfl
def rt_lockbarref06_Step : RT :=
 ck (.isAgg 11) [.agg (ipx 0 11)] <|
 ck (.isAgg 3) [q1_72] <|
 ck (.bin .lss) [.inp 11, zi 0] <|
 ckg (q1_79) false .len [.inp 0] <|
 ckg (q1_79) false (.bin .geq) [.inp 11, ln (.inp 0)] <|
 ck .pick [q1_79, bT, q1_132] <|
.cond (q1_133)
 (.ret (.tup [zi 0, bF]))
 (.seg [.chk [] (.eidx 11) [.inp 0, .inp 11],
.chk [] (.eoff 0) [q1_76],
.chk [] (.eload 1 false) [q1_77],
.call 14 [] 159 [q1_78, .inp 12, .inp 13] false,
.chk [] (.tproj 0) [.inp 14],
.chk [] (.tproj 1) [.inp 14]] <|
.ret (.tup [tp 0 (.inp 14), tp 1 (.inp 14)]))
theorem run_lockbarref06_Step : runF E 114 [.agg (ips 0 11), .agg [.inp 11, .inp 12, .inp 13]] 14 = rt_lockbarref06_Step := by kernel_rfl
def rt_lockbarref10_there : RT :=
 ck (.isAgg 11) [.agg (ipx 0 11)] <|
 ck (.isAgg 3) [q1_72] <|
.seg [.call 14 [] 114 [.agg (ipx 0 11), q1_72] false] <|
 ck (.tproj 0) [.inp 14] <|
 ck (.tproj 1) [.inp 14] <|
.ret (tp 1 (.inp 14))
theorem run_lockbarref10_there : runF E 162 [.agg (ips 0 11), .agg [.inp 11, .inp 12, .inp 13]] 14 = rt_lockbarref10_there := by kernel_rfl
def rt_lockbarref10_Over : RT :=
 ck (.isAgg 11) [.agg (ipx 0 11)] <|
 ck (.bin .lss) [.inp 11, zi 0] <|
 ckg (q1_79) false .len [.inp 2] <|
 ckg (q1_79) false (.bin .geq) [.inp 11, ln (.inp 2)] <|
 ck .pick [q1_79, bT, q1_80] <|
.cond (q1_81)
 (.ret (.nils))
 (ck (.eidx 3) [.inp 2, .inp 11] <|
 ck (.eoff 2) [ei 3 (.inp 2) (.inp 11)] <|
 ck (.eload 1 false) [q1_82] <|
.seg [.chk [] (.szs 3) [q1_83],
.chk [] .app [.app .lst [], q1_83]] <|
.ret (.app .app [.app .lst [], q1_83]))
theorem run_lockbarref10_Over : runF E 31 [.agg (ips 0 11), .inp 11] 12 = rt_lockbarref10_Over := by kernel_rfl
def rt_lockbarref10_Point : RT :=
 ck (.isAgg 11) [.agg (ipx 0 11)] <|
 ck (.isAgg 3) [q1_72] <|
.seg [.call 14 [] 162 [.agg (ipx 0 11), q1_72] false] <|
 ck (.un .not) [.inp 14] <|
 ckg (nt (.inp 14)) false (.eidx 11) [.inp 0, .inp 11] <|
 ckg (nt (.inp 14)) false (.eoff 0) [q1_76] <|
 ckg (nt (.inp 14)) false (.eload 1 false) [q1_77] <|
 ckg (nt (.inp 14)) false (.bin .neq) [q1_78, .int .u8 2] <|
 ck .pick [nt (.inp 14), bT, q1_84] <|
.seg [.bind 15 (pk (nt (.inp 14)) bT q1_84)] <|
.cond (.inp 15)
 (.ret (.tup [zi 0, zi 0, bF]))
 (.seg [.call 16 [] 163 [.int .u8 2, .inp 12, .inp 13] false] <|
 ck (.tproj 0) [.inp 16] <|
 ck (.tproj 1) [.inp 16] <|
.ret (q1_85))
theorem run_lockbarref10_Point : runF E 116 [.agg (ips 0 11), .agg [.inp 11, .inp 12, .inp 13]] 14 = rt_lockbarref10_Point := by kernel_rfl
def rt_lockbarref10_Wants : RT :=
 ck (.isAgg 11) [.agg (ipx 0 11)] <|
 ck (.isAgg 3) [q1_72] <|
.seg [.call 15 [] 116 [.agg (ipx 0 11), q1_72] false] <|
 ck (.tproj 0) [.inp 15] <|
 ck (.tproj 1) [.inp 15] <|
 ck (.tproj 2) [.inp 15] <|
.cond (tp 2 (.inp 15))
 (.seg [.chk [] .isOne [tp 0 (.inp 15)],
.chk [] .isOne [tp 1 (.inp 15)],
.chk [] .isOne [.inp 14]] <|
 ck (.isAgg 3) [q1_86] <|
.seg [.chk [] (.szs 3) [q1_87],
.chk [] .app [.nils, q1_87]] <|
.seg [.call 16 [] 114 [.agg (ipx 0 11), q1_72] false] <|
 ck (.tproj 0) [.inp 16] <|
 ck (.tproj 1) [.inp 16] <|
.loop 0 17 [q1_88, zi 0] <|
 ck .len [.inp 3] <|
 ck (.bin .lss) [.inp 18, ln (.inp 3)] <|
 ck .pick [q1_138, tp 1 (.inp 16), bF] <|
.cond (q1_139)
 (ck (.eidx 4) [.inp 3, .inp 18] <|
 ck (.eload 4 true) [ei 4 (.inp 3) (.inp 18)] <|
 ck (.isAgg 4) [q1_140] <|
 ck (.bin .eql) [q1_141, .inp 11] <|
 ckg (q1_142) true (.bin .eql) [q1_143, tp 0 (.inp 16)] <|
 ck .pick [q1_142, q1_144, bF] <|
.seg [.bind 19 (q1_145)] <|
.cond (.inp 19)
 (.seg [.chk [] .isOne [q1_146],
.chk [] .isOne [q1_147],
.chk [] .isOne [.inp 14]] <|
 ck (.isAgg 3) [q1_148] <|
.seg [.chk [] (.szs 3) [q1_149],
.chk [] .app [.inp 17, q1_149]] <|
.seg [.bind 20 (q1_149),
.bind 21 (q1_150)] <|
 ck (.bin .add) [.inp 18, zi 1] <|
.again 0 [.inp 21, q1_151])
 (ck (.bin .add) [.inp 18, zi 1] <|
.again 0 [.inp 17, q1_151]))
 (.ret (.inp 17)))
 (.seg [.call 16 [] 114 [.agg (ipx 0 11), q1_72] false] <|
 ck (.tproj 0) [.inp 16] <|
 ck (.tproj 1) [.inp 16] <|
.loop 0 17 [.nils, zi 0] <|
 ck .len [.inp 3] <|
 ck (.bin .lss) [.inp 18, ln (.inp 3)] <|
 ck .pick [q1_138, tp 1 (.inp 16), bF] <|
.cond (q1_139)
 (ck (.eidx 4) [.inp 3, .inp 18] <|
 ck (.eload 4 true) [ei 4 (.inp 3) (.inp 18)] <|
 ck (.isAgg 4) [q1_140] <|
 ck (.bin .eql) [q1_141, .inp 11] <|
 ckg (q1_142) true (.bin .eql) [q1_143, tp 0 (.inp 16)] <|
 ck .pick [q1_142, q1_144, bF] <|
.seg [.bind 19 (q1_145)] <|
.cond (.inp 19)
 (.seg [.chk [] .isOne [q1_146],
.chk [] .isOne [q1_147],
.chk [] .isOne [.inp 14]] <|
 ck (.isAgg 3) [q1_148] <|
.seg [.chk [] (.szs 3) [q1_149],
.chk [] .app [.inp 17, q1_149]] <|
.seg [.bind 20 (q1_149),
.bind 21 (q1_150)] <|
 ck (.bin .add) [.inp 18, zi 1] <|
.again 0 [.inp 21, q1_151])
 (ck (.bin .add) [.inp 18, zi 1] <|
.again 0 [.inp 17, q1_151]))
 (.ret (.inp 17)))
theorem run_lockbarref10_Wants : runF E 75 [.agg (ips 0 11), .agg [.inp 11, .inp 12, .inp 13], .inp 14] 15 = rt_lockbarref10_Wants := by kernel_rfl
def rt_lockbarref11_Own : RT :=
 ck (.isAgg 3) [q1_152] <|
.seg [.chk [] (.szs 3) [.inp 2],
.chk [] .app [.app .lst [], .inp 2]] <|
 ck (.isAgg 3) [.agg [.inp 0, .inp 1, .row 10]] <|
.ret (.agg [.inp 0, .inp 1, .app .app [.app .lst [], .inp 2]])
theorem run_lockbarref11_Own : runF E 45 [.agg [.inp 0, .inp 1, .inp 2]] 3 = rt_lockbarref11_Own := by kernel_rfl
def rt_lockbarref11_Steps : RT :=
 ck .len [.inp 0] <|
 ck .len [.inp 1] <|
 ck (.bin .neq) [ln (.inp 0), ln (.inp 1)] <|
.cond (bi .neq (ln (.inp 0)) (ln (.inp 1)))
 (.ret (bF))
 (.loop 0 2 [zi 0] <|
 ck .len [.inp 0] <|
 ck (.bin .lss) [.inp 2, ln (.inp 0)] <|
.cond (q1_110)
 (.seg [.chk [] (.eidx 3) [.inp 0, .inp 2],
.chk [] (.eload 3 true) [ei 3 (.inp 0) (.inp 2)],
.chk [] (.eidx 3) [.inp 1, .inp 2],
.chk [] (.eload 3 true) [ei 3 (.inp 1) (.inp 2)],
.chk [] (.eqa [ some .i64, some .i64, some .i64] true) [q1_117, q1_153]] <|
.cond (.app (.eqa [ some .i64, some .i64, some .i64] true) [q1_117, q1_153])
 (.ret (bF))
 (ck (.bin .add) [.inp 2, zi 1] <|
.again 0 [bi .add (.inp 2) (zi 1)]))
 (.ret (bT)))
theorem run_lockbarref11_Steps : runF E 53 [.inp 0, .inp 1] 2 = rt_lockbarref11_Steps := by kernel_rfl
def rt_lockbarref11_Same : RT :=
 ck (.isAgg 3) [q1_152] <|
 ck (.isAgg 3) [.agg [.inp 3, .inp 4, .inp 5]] <|
 ck (.bin .eql) [.inp 0, .inp 3] <|
 ckg (q1_154) true (.bin .eql) [.inp 1, .inp 4] <|
 ck .pick [q1_154, q1_155, bF] <|
.seg [.call 6 [(q1_156, true)] 53 [.inp 2, .inp 5] false] <|
 ck .pick [q1_156, .inp 6, bF] <|
.seg [.bind 7 (pk q1_156 (.inp 6) bF)] <|
.ret (.inp 7)
theorem run_lockbarref11_Same : runF E 52 [.agg [.inp 0, .inp 1, .inp 2], .agg [.inp 3, .inp 4, .inp 5]] 6 = rt_lockbarref11_Same := by kernel_rfl
def rt_lockbarref13_Of : RT :=
 ck (.isAgg 11) [.agg (ipx 0 11)] <|
 ck (.isAgg 3) [q1_72] <|
 ck .len [.inp 13] <|
.loop 0 14 [.nils, zi 0] <|
 ck (.bin .lss) [.inp 15, ln (.inp 13)] <|
.cond (bi .lss (.inp 15) (ln (.inp 13)))
 (.seg [.chk [] (.eidx 3) [.inp 13, .inp 15],
.chk [] (.eload 3 true) [q1_157],
.call 16 [] 75 [.agg (ipx 0 11), el 3 q1_157, .inp 15] false,
.chk [] (.szs 3) [.inp 16],
.chk [] .app [.inp 14, .inp 16]] <|
 ck (.bin .add) [.inp 15, zi 1] <|
.again 0 [.app .app [.inp 14, .inp 16], bi .add (.inp 15) (zi 1)])
 (.seg [.call 16 [] 31 [.agg (ipx 0 11), .inp 12] false] <|
.loop 0 17 [.inp 14, zi 0] <|
 ck .len [.inp 16] <|
 ck (.bin .lss) [.inp 18, ln (.inp 16)] <|
.cond (bi .lss (.inp 18) (ln (.inp 16)))
 (.seg [.chk [] (.eidx 3) [.inp 16, .inp 18],
.chk [] (.eload 3 true) [q1_158],
.call 19 [] 75 [.agg (ipx 0 11), el 3 q1_158, ln (.inp 13)] false,
.chk [] (.szs 3) [.inp 19],
.chk [] .app [.inp 17, .inp 19]] <|
 ck (.bin .add) [.inp 18, zi 1] <|
.again 0 [.app .app [.inp 17, .inp 19], q1_151])
 (.ret (.inp 17)))
theorem run_lockbarref13_Of : runF E 32 [.agg (ips 0 11), .agg [.inp 11, .inp 12, .inp 13]] 14 = rt_lockbarref13_Of := by kernel_rfl
def rt_lockbarref15_New : RT :=
.ret (.agg [zi 65535, zi 0, zi 0, zi 0, zi 0, zi 0, zi 0, zi 0, zi 0, zi 0, zi 0, zi 0, zi 0, zi 0, zi 0, zi 0, zi 0, zi 0, zi 0, zi 0, zi 0, zi 0, zi 0, zi 0, zi 0, .int .u32 0, .int .u32 0, .int .u32 0, .int .u32 0])
theorem run_lockbarref15_New : runF E 38 [] 0 = rt_lockbarref15_New := by kernel_rfl
def rt_lockbarref15_bit : RT :=
 ck (.bin .geq) [.inp 1, zi 0] <|
 ckg (bi .geq (.inp 1) (zi 0)) true (.bin .lss) [.inp 1, zi 32] <|
 ck .pick [bi .geq (.inp 1) (zi 0), q1_159, bF] <|
 ckg (q1_160) true (.conv .u64) [.inp 1] <|
 ckg (q1_160) true (.bin .shr) [.inp 0, q1_161] <|
 ckg (q1_160) true (.bin .and) [q1_162, .int .u32 1] <|
 ckg (q1_160) true (.bin .eql) [q1_163, .int .u32 1] <|
 ck .pick [q1_160, q1_164, bF] <|
.seg [.bind 2 (pk q1_160 q1_164 bF)] <|
.ret (.inp 2)
theorem run_lockbarref15_bit : runF E 67 [.inp 0, .inp 1] 2 = rt_lockbarref15_bit := by kernel_rfl
def rt_lockbarref15_Stale : RT :=
 ck (.isAgg 11) [.agg (ipx 0 11)] <|
 ck (.isAgg 29) [.agg (ipx 11 29)] <|
.seg [.call 40 [] 112 [.inp 11, .inp 6] false] <|
.ret (.inp 40)
theorem run_lockbarref15_Stale : runF E 66 [.agg (ips 0 11), .agg (ips 11 29)] 40 = rt_lockbarref15_Stale := by kernel_rfl
def rt_lockbarref15_rows : RT :=
 ck (.isAgg 11) [.agg (ipx 0 11)] <|
 ck (.isAgg 29) [.agg (ipx 11 29)] <|
.loop 0 40 (ap [zi 0] (ipx 12 24)) <|
 ck (.bin .lss) [.inp 40, zi 24] <|
.cond (bi .lss (.inp 40) (zi 24))
 (.seg [.call 65 [] 66 [.agg (ipx 0 11), q1_165] false,
.chk [] (.un .not) [.inp 65],
.call 66 [(nt (.inp 65), true)] 67 [.inp 36, .inp 40] false,
.chk [(nt (.inp 65), true)] (.un .not) [.inp 66],
.chk [] .pick [nt (.inp 65), nt (.inp 66), bF],
.chk [] (.inr 24) [.inp 40],
.chk [] (.aidx 24 1 1 1 false) [q1_165, .inp 40],
.call 67 [] 117 [pk (nt (.inp 65)) (nt (.inp 66)) bF, q1_166] false,
.chk [] (.inr 24) [.inp 40],
.chk [] (.inr 24) [.inp 40],
.chk [] .isOne [.inp 67]] <|
.seg [.bind 68 (q1_166)] <|
 ck (.bin .add) [.inp 40, zi 1] <|
.again 0 [bi .add (.inp 40) (zi 1), .app (.cellset 1 24 1 0 1 1) [.inp 40, .inp 41, .agg [.inp 67]], .app (.cellset 1 24 1 0 1 2) [.inp 40, .inp 42, .agg [.inp 67]], .app (.cellset 1 24 1 0 1 3) [.inp 40, .inp 43, .agg [.inp 67]], .app (.cellset 1 24 1 0 1 4) [.inp 40, .inp 44, .agg [.inp 67]], .app (.cellset 1 24 1 0 1 5) [.inp 40, .inp 45, .agg [.inp 67]], .app (.cellset 1 24 1 0 1 6) [.inp 40, .inp 46, .agg [.inp 67]], .app (.cellset 1 24 1 0 1 7) [.inp 40, .inp 47, .agg [.inp 67]], .app (.cellset 1 24 1 0 1 8) [.inp 40, .inp 48, .agg [.inp 67]], .app (.cellset 1 24 1 0 1 9) [.inp 40, .inp 49, .agg [.inp 67]], .app (.cellset 1 24 1 0 1 10) [.inp 40, .inp 50, .agg [.inp 67]], .app (.cellset 1 24 1 0 1 11) [.inp 40, .inp 51, .agg [.inp 67]], .app (.cellset 1 24 1 0 1 12) [.inp 40, .inp 52, .agg [.inp 67]], .app (.cellset 1 24 1 0 1 13) [.inp 40, .inp 53, .agg [.inp 67]], .app (.cellset 1 24 1 0 1 14) [.inp 40, .inp 54, .agg [.inp 67]], .app (.cellset 1 24 1 0 1 15) [.inp 40, .inp 55, .agg [.inp 67]], .app (.cellset 1 24 1 0 1 16) [.inp 40, .inp 56, .agg [.inp 67]], .app (.cellset 1 24 1 0 1 17) [.inp 40, .inp 57, .agg [.inp 67]], .app (.cellset 1 24 1 0 1 18) [.inp 40, .inp 58, .agg [.inp 67]], .app (.cellset 1 24 1 0 1 19) [.inp 40, .inp 59, .agg [.inp 67]], .app (.cellset 1 24 1 0 1 20) [.inp 40, .inp 60, .agg [.inp 67]], .app (.cellset 1 24 1 0 1 21) [.inp 40, .inp 61, .agg [.inp 67]], .app (.cellset 1 24 1 0 1 22) [.inp 40, .inp 62, .agg [.inp 67]], .app (.cellset 1 24 1 0 1 23) [.inp 40, .inp 63, .agg [.inp 67]], .app (.cellset 1 24 1 0 1 24) [.inp 40, .inp 64, .agg [.inp 67]]])
 (ck (.isAgg 29) [q1_165] <|
.ret (q1_165))
theorem run_lockbarref15_rows : runF E 76 [.agg (ips 0 11), .agg (ips 11 29)] 40 = rt_lockbarref15_rows := by kernel_rfl
def rt_lockbarref15_Take : RT :=
 ck (.isAgg 11) [.agg (ipx 0 11)] <|
 ck (.isAgg 29) [.agg (ipx 11 29)] <|
 ck (.isAgg 4) [.agg (ipx 40 4)] <|
 ck (.isAgg 4) [.agg (ipx 40 4)] <|
.seg [.call 44 [] 76 [.agg (ipx 0 11), .agg (ap [zi 0] (ap (ipx 12 24) (ipx 40 4)))] false] <|
 ck (.isAgg 29) [.inp 44] <|
.ret (.agg (ptx (.inp 44) 0 29))
theorem run_lockbarref15_Take : runF E 37 [.agg (ips 0 11), .agg (ips 11 29), .agg (ips 40 4)] 44 = rt_lockbarref15_Take := by kernel_rfl
def rt_lockbarref15_Occupied : RT :=
 ck (.isAgg 11) [.agg (ipx 0 11)] <|
 ck (.isAgg 29) [.agg (ipx 11 29)] <|
 ck (.bin .lss) [.inp 40, zi 0] <|
 ckg (q1_167) false .len [.inp 0] <|
 ckg (q1_167) false (.bin .geq) [.inp 40, ln (.inp 0)] <|
 ck .pick [q1_167, bT, q1_168] <|
 ckg (q1_169) false (.bin .geq) [.inp 40, zi 24] <|
 ck .pick [q1_169, bT, q1_170] <|
.seg [.bind 41 (pk q1_169 bT q1_170)] <|
.cond (.inp 41)
 (.ret (bT))
 (.seg [.call 42 [] 66 [.agg (ipx 0 11), .agg (ipx 11 29)] false,
.call 43 [(.inp 42, false)] 67 [.inp 36, .inp 40] false,
.chk [] .pick [.inp 42, bT, .inp 43],
.chk [(q1_171, false)] (.inr 24) [.inp 40],
.chk [(q1_171, false)] (.aidx 24 1 1 1 false) [.agg (ipx 11 29), .inp 40],
.chk [(q1_171, false)] (.bin .lss) [q1_172, .inp 4],
.chk [] .pick [q1_171, bT, q1_173]] <|
.seg [.bind 44 (pk q1_171 bT q1_173),
.bind 45 (q1_172),
.bind 46 (q1_173)] <|
.ret (.inp 44))
theorem run_lockbarref15_Occupied : runF E 26 [.agg (ips 0 11), .agg (ips 11 29), .inp 40] 41 = rt_lockbarref15_Occupied := by kernel_rfl
def rt_lockbarref15_At : RT :=
 ck (.isAgg 11) [.agg (ipx 0 11)] <|
 ck (.isAgg 29) [.agg (ipx 11 29)] <|
 ck (.bin .lss) [.inp 40, zi 0] <|
 ckg (q1_167) false .len [.inp 0] <|
 ckg (q1_167) false (.bin .geq) [.inp 40, ln (.inp 0)] <|
 ck .pick [q1_167, bT, q1_168] <|
 ckg (q1_169) false (.eidx 11) [.inp 0, .inp 40] <|
 ckg (q1_169) false (.eoff 0) [q1_174] <|
 ckg (q1_169) false (.eload 1 false) [q1_175] <|
 ckg (q1_169) false (.bin .neq) [q1_176, .int .u8 2] <|
 ck .pick [q1_169, bT, q1_177] <|
.seg [.call 41 [(q1_178, false)] 66 [.agg (ipx 0 11), .agg (ipx 11 29)] false] <|
 ck .pick [q1_178, bT, .inp 41] <|
.seg [.bind 42 (q1_178),
.bind 43 (pk q1_178 bT (.inp 41))] <|
.cond (.inp 43)
 (.ret (zi (-1)))
 (.seg [.call 44 [] 67 [.inp 37, .inp 40] false,
.call 45 [] 67 [.inp 38, .inp 40] false] <|
 ck (.eqb false) [.inp 44, .inp 45] <|
.cond (.app (.eqb false) [.inp 44, .inp 45])
 (.ret (zi (-1)))
 (.cond (.inp 44)
 (.ret (zi 0))
 (.ret (zi 1))))
theorem run_lockbarref15_At : runF E 28 [.agg (ips 0 11), .agg (ips 11 29), .inp 40] 41 = rt_lockbarref15_At := by kernel_rfl
def rt_lockbarref16_Rest : RT :=
.ret (.agg [zi (-1), zi 0, bF])
theorem run_lockbarref16_Rest : runF E 46 [] 0 = rt_lockbarref16_Rest := by kernel_rfl
end
end Go.Lb.LK
