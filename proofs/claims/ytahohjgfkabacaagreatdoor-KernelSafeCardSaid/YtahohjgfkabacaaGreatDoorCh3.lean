/- What functions come to, printed by a program, checked by the kernel. -/
import Derived.Test.YtahohjgfkabacaaGreatDoorCh1
set_option linter.unusedSimpArgs false
set_option linter.unusedVariables false
namespace Go.Lb.LK
open Go Go.Lb Go.Proofs
noncomputable section
@[simp] def q2_0 : SE := .agg [.inp 114, .inp 115, .inp 116]
@[simp] def q2_1 : SE := bi .lss (.inp 114) (zi 0)
@[simp] def q2_2 : SE := bi .geq (.inp 114) (zi 24)
@[simp] def q2_3 : SE := bi .eql (tp 0 (.inp 118)) (.inp 115)
@[simp] def q2_4 : SE := bi .eql (.inp 117) (.inp 115)
@[simp] def q2_5 : SE := pk (nt (.inp 119)) bT q2_4
@[simp] def q2_6 : SE := .app (.aidx 24 3 4 1 false) [.agg (ipx 40 74), .inp 114]
@[simp] def q2_7 : SE := nt q2_6
@[simp] def q2_8 : SE := pk q2_7 (.inp 119) bF
@[simp] def q2_9 : SE := ei 23 (.inp 41) (.inp 117)
@[simp] def q2_10 : SE := .app (.eoff 1) [q2_9]
@[simp] def q2_11 : SE := .app (.eoff 0) [q2_10]
@[simp] def q2_12 : SE := e1 q2_11
@[simp] def q2_13 : SE := bi .eql q2_12 (.inp 114)
@[simp] def q2_14 : SE := .app (.eoff 6) [q2_9]
@[simp] def q2_15 : SE := e1 q2_14
@[simp] def q2_16 : SE := bi .neq q2_15 (.int .u8 3)
@[simp] def q2_17 : SE := .app .app [.app .lst [], .inp 116]
@[simp] def q2_18 : SE := .app .app [q2_17, .inp 118]
@[simp] def q2_19 : SE := ln q2_18
@[simp] def q2_20 : SE := ei 3 (.inp 120) (.inp 121)
@[simp] def q2_21 : SE := .app (.eqa [ some .i64, some .i64] false) [.agg [.inp 0, .inp 1], .agg [zi (-1), zi 0]]
@[simp] def q2_22 : SE := bi .lss (.inp 0) (zi 24)
@[simp] def q2_23 : SE := pk (bi .geq (.inp 0) (zi 0)) q2_22 bF
@[simp] def q2_24 : SE := pk q2_23 (bi .geq (.inp 1) (zi 0)) bF
@[simp] def q2_25 : SE := pk q2_24 (bi .lss (.inp 1) (zi 4)) bF
@[simp] def q2_26 : SE := bi .lss (.inp 11) (.inp 12)
@[simp] def q2_27 : SE := .app (.aidx 4 2 1 2 true) [.agg (ipx 0 11), .inp 11]
@[simp] def q2_28 : SE := pk q2_26 (nt (.inp 13)) bF
@[simp] def q2_29 : SE := bi .geq (.inp 11) (.inp 14)
@[simp] def q2_30 : SE := .app (.eqa [ some .i64, some .i64] true) [q2_27, .agg [zi (-1), zi 0]]
@[simp] def q2_31 : SE := pk q2_29 q2_30 bF
@[simp] def q2_32 : SE := bi .add (.inp 11) (zi 1)
@[simp] def q2_33 : SE := .app (.aidx 2 1 9 1 false) [.agg (ipx 0 11), .inp 12]
@[simp] def q2_34 : SE := bi .lss q2_33 (zi 0)
@[simp] def q2_35 : SE := bi .gtr q2_33 (zi 3)
@[simp] def q2_36 : SE := pk q2_34 bT q2_35
@[simp] def q2_37 : SE := bi .geq (.inp 12) (.inp 13)
@[simp] def q2_38 : SE := bi .neq q2_33 (zi 0)
@[simp] def q2_39 : SE := pk q2_37 q2_38 bF
@[simp] def q2_40 : SE := bi .add (.inp 12) (zi 1)
@[simp] def q2_41 : SE := .app (.aidx 4 2 1 1 false) [.agg (ipx 11 11), .inp 22]
@[simp] def q2_42 : SE := bi .geq q2_41 (zi 0)
@[simp] def q2_43 : SE := .app (.aidx 4 2 1 2 true) [.agg (ipx 11 11), .inp 22]
@[simp] def q2_44 : SE := .agg [.inp 11, .inp 12, .inp 13]
@[simp] def q2_45 : SE := ei 3 (.inp 13) (.inp 14)
@[simp] def q2_46 : SE := bi .add (.inp 14) (zi 1)
@[simp] def q2_47 : SE := bi .leq (ln (.inp 13)) (zi 2)
@[simp] def q2_48 : SE := bi .lss (.inp 11) (zi 0)
@[simp] def q2_49 : SE := bi .geq (.inp 11) (ln (.inp 0))
@[simp] def q2_50 : SE := pk q2_48 bT q2_49
@[simp] def q2_51 : SE := bi .lss (.inp 13) (zi 0)
@[simp] def q2_52 : SE := pk q2_50 bT q2_51
@[simp] def q2_53 : SE := bi .geq (.inp 13) (ln (.inp 0))
@[simp] def q2_54 : SE := pk q2_52 bT q2_53
@[simp] def q2_55 : SE := bi .eql (.inp 11) (.inp 13)
@[simp] def q2_56 : SE := pk q2_54 bT q2_55
@[simp] def q2_57 : SE := bi .lss (.inp 14) (zi 0)
@[simp] def q2_58 : SE := pk q2_56 bT q2_57
@[simp] def q2_59 : SE := bi .gtr (.inp 14) (zi 1)
@[simp] def q2_60 : SE := bi .geq (.inp 12) (zi 0)
@[simp] def q2_61 : SE := ei 11 (.inp 0) (.inp 11)
@[simp] def q2_62 : SE := .app (.eoff 0) [q2_61]
@[simp] def q2_63 : SE := e1 q2_62
@[simp] def q2_64 : SE := bi .lss (.inp 12) (.inp 20)
@[simp] def q2_65 : SE := pk q2_60 q2_64 bF
@[simp] def q2_66 : SE := ei 11 (.inp 0) (.inp 13)
@[simp] def q2_67 : SE := .app (.eoff 0) [q2_66]
@[simp] def q2_68 : SE := e1 q2_67
@[simp] def q2_69 : SE := bi .eql q2_68 (.int .u8 2)
@[simp] def q2_70 : SE := .app (.aidx 7 1 0 1 false) [.agg (ipx 0 7), .inp 7]
@[simp] def q2_71 : SE := bi .lss q2_70 (zi 1)
@[simp] def q2_72 : SE := bi .gtr q2_70 (zi 1000)
@[simp] def q2_73 : SE := bi .lss (.inp 11) (ln (.inp 0))
@[simp] def q2_74 : SE := el 11 q2_61
@[simp] def q2_75 : SE := .app (.eoff 0) [ei 2 (.inp 1) (.inp 12)]
@[simp] def q2_76 : SE := el 2 q2_75
@[simp] def q2_77 : SE := bi .add (.inp 13) (zi 1)
@[simp] def q2_78 : SE := bi .leq (ln (.inp 0)) (zi 24)
@[simp] def q2_79 : SE := bi .leq (ln (.inp 1)) (zi 12)
@[simp] def q2_80 : SE := pk q2_78 q2_79 bF
@[simp] def q2_81 : SE := bi .leq (ln (.inp 2)) (zi 12)
@[simp] def q2_82 : SE := pk q2_80 q2_81 bF
@[simp] def q2_83 : SE := bi .leq (ln (.inp 3)) (zi 16)
@[simp] def q2_84 : SE := pk q2_82 q2_83 bF
@[simp] def q2_85 : SE := .app (.eoff 0) [ei 2 (.inp 1) (.inp 13)]
@[simp] def q2_86 : SE := el 2 q2_85
@[simp] def q2_87 : SE := bi .geq (.inp 11) (zi 0)
@[simp] def q2_88 : SE := pk q2_87 q2_73 bF
@[simp] def q2_89 : SE := pk q2_88 q2_60 bF
@[simp] def q2_90 : SE := bi .lss (.inp 12) (.inp 13)
@[simp] def q2_91 : SE := .app (.eoff 1) [q2_61]
@[simp] def q2_92 : SE := .app (.eaidx 4 2) [q2_91, .inp 12]
@[simp] def q2_93 : SE := el 2 q2_92
@[simp] def q2_94 : SE := bi .lss (.inp 11) (zi 24)
@[simp] def q2_95 : SE := .agg (ptx (q2_74) 0 11)
@[simp] def q2_96 : SE := .app (.aidx 4 2 1 2 true) [q2_95, .inp 13]
@[simp] def q2_97 : SE := .app (.eqa [ some .i64, some .i64] true) [.agg [.inp 16, .inp 17], .inp 18]
@[simp] def q2_98 : SE := bi .eql (.inp 16) (.inp 11)
@[simp] def q2_99 : SE := pk (nt (.inp 19)) bT q2_98
@[simp] def q2_100 : SE := .app (.eqa [ some .i64, some .i64] true) [.inp 20, .agg [.inp 11, .inp 13]]
@[simp] def q2_101 : SE := pk q2_99 bT q2_100
@[simp] def q2_102 : SE := bi .lss (.inp 12) (.inp 11)
@[simp] def q2_103 : SE := .app (.eoff 0) [ei 2 (.inp 1) (.inp 11)]
@[simp] def q2_104 : SE := el 2 q2_103
@[simp] def q2_105 : SE := bi .lss (.inp 11) (ln (.inp 2))
@[simp] def q2_106 : SE := .app (.eoff 0) [ei 3 (.inp 2) (.inp 12)]
@[simp] def q2_107 : SE := .app (.eoff 0) [ei 3 (.inp 2) (.inp 11)]
@[simp] def q2_108 : SE := el 2 q2_106
@[simp] def q2_109 : SE := el 2 q2_107
@[simp] def q2_110 : SE := pk (nt (.inp 12)) bT q2_48
@[simp] def q2_111 : SE := bi .geq (.inp 11) (ln (.inp 2))
@[simp] def q2_112 : SE := .app (.eoff 2) [ei 3 (.inp 2) (.inp 11)]
@[simp] def q2_113 : SE := e1 q2_112
@[simp] def q2_114 : SE := ln q2_113
@[simp] def q2_115 : SE := ei 3 q2_113 (.inp 14)
@[simp] def q2_116 : SE := .app (.eoff 0) [q2_115]
@[simp] def q2_117 : SE := .app (.eoff 1) [q2_115]
@[simp] def q2_118 : SE := e1 q2_116
@[simp] def q2_119 : SE := e1 q2_117
@[simp] def q2_120 : SE := .agg [q2_118, q2_119]
@[simp] def q2_121 : SE := .app (.eqa [ some .i64, some .i64] true) [.inp 17, q2_120]
@[simp] def q2_122 : SE := .app (.eoff 0) [q2_107]
@[simp] def q2_123 : SE := e1 q2_122
@[simp] def q2_124 : SE := bi .eql q2_118 q2_123
@[simp] def q2_125 : SE := ei 3 q2_113 (.inp 21)
@[simp] def q2_126 : SE := .app (.eoff 0) [q2_125]
@[simp] def q2_127 : SE := e1 q2_126
@[simp] def q2_128 : SE := .app (.eoff 2) [q2_115]
@[simp] def q2_129 : SE := e1 q2_128
@[simp] def q2_130 : SE := el 4 (ei 4 (.inp 3) (.inp 12))
@[simp] def q2_131 : SE := el 4 (ei 4 (.inp 3) (.inp 11))
@[simp] def q2_132 : SE := pt 0 q2_130
@[simp] def q2_133 : SE := pt 0 q2_131
@[simp] def q2_134 : SE := bi .eql q2_132 q2_133
@[simp] def q2_135 : SE := pt 1 q2_130
@[simp] def q2_136 : SE := pt 1 q2_131
@[simp] def q2_137 : SE := bi .eql q2_135 q2_136
@[simp] def q2_138 : SE := pk q2_134 q2_137 bF
@[simp] def q2_139 : SE := pt 2 q2_130
@[simp] def q2_140 : SE := pt 2 q2_131
@[simp] def q2_141 : SE := bi .eql q2_139 q2_140
@[simp] def q2_142 : SE := .app (.aidx 4 1 0 1 false) [.agg (ipx 13 4), .inp 17]
@[simp] def q2_143 : SE := ei 3 (.inp 11) (.inp 12)
@[simp] def q2_144 : SE := bi .gtr (.inp 12) (zi 0)
@[simp] def q2_145 : SE := bi .sub (.inp 12) (zi 1)
@[simp] def q2_146 : SE := ei 3 (.inp 11) q2_145
@[simp] def q2_147 : SE := .app (.eoff 0) [q2_146]
@[simp] def q2_148 : SE := .app (.eoff 2) [q2_146]
@[simp] def q2_149 : SE := e1 q2_147
@[simp] def q2_150 : SE := e1 q2_148
@[simp] def q2_151 : SE := .app (.eoff 0) [q2_143]
@[simp] def q2_152 : SE := .app (.eoff 1) [q2_143]
@[simp] def q2_153 : SE := e1 q2_151
@[simp] def q2_154 : SE := e1 q2_152
@[simp] def q2_155 : SE := .agg [q2_153, q2_154]
@[simp] def q2_156 : SE := .app (.eqa [ some .i64, some .i64] true) [.inp 14, q2_155]
@[simp] def q2_157 : SE := pk q2_144 q2_156 bF
@[simp] def q2_158 : SE := bi .lss (.inp 3) (.inp 2)
@[simp] def q2_159 : SE := .app (.eoff 0) [ei 3 (.inp 0) (.inp 3)]
@[simp] def q2_160 : SE := .app (.eoff 0) [ei 3 (.inp 0) (.inp 2)]
@[simp] def q2_161 : SE := e1 q2_159
@[simp] def q2_162 : SE := e1 q2_160
@[simp] def q2_163 : SE := .app (.eoff 0) [ei 3 (.inp 1) (.inp 4)]
@[simp] def q2_164 : SE := e1 q2_163
@[simp] def q2_165 : SE := bi .lss (.inp 6) (ln (.inp 2))
@[simp] def q2_166 : SE := .app (.eoff 0) [ei 3 (.inp 2) (.inp 6)]
@[simp] def q2_167 : SE := e1 q2_166
@[simp] def q2_168 : SE := e1 (ei 1 (.inp 3) (.inp 5))
@[simp] def q2_169 : SE := bi .neq q2_167 q2_168
@[simp] def q2_170 : SE := pk (nt (.inp 15)) bT q2_48
@[simp] def q2_171 : SE := bi .geq (.inp 11) (ln (.inp 1))
@[simp] def q2_172 : SE := pk q2_170 bT q2_171
@[simp] def q2_173 : SE := bi .lss (.inp 12) (zi 0)
@[simp] def q2_174 : SE := pk q2_172 bT q2_173
@[simp] def q2_175 : SE := bi .geq (.inp 12) (ln (.inp 2))
@[simp] def q2_176 : SE := pk q2_174 bT q2_175
@[simp] def q2_177 : SE := bi .gtr (ln (.inp 14)) (zi 2)
@[simp] def q2_178 : SE := ei 1 (.inp 14) (.inp 20)
@[simp] def q2_179 : SE := e1 q2_178
@[simp] def q2_180 : SE := bi .lss q2_179 (zi 0)
@[simp] def q2_181 : SE := bi .geq q2_179 (ln (.inp 0))
@[simp] def q2_182 : SE := bi .lss (ln (.inp 13)) (zi 1)
@[simp] def q2_183 : SE := bi .gtr (ln (.inp 13)) (zi 12)
@[simp] def q2_184 : SE := pk q2_182 bT q2_183
@[simp] def q2_185 : SE := pk q2_184 bT (nt (.inp 21))
@[simp] def q2_186 : SE := .app (.eoff 2) [ei 3 (.inp 2) (.inp 12)]
@[simp] def q2_187 : SE := pk q2_185 bT (nt (.inp 22))
@[simp] def q2_188 : SE := .app (.eoff 0) [ei 3 (.inp 13) (zi 0)]
@[simp] def q2_189 : SE := .app (.eoff 1) [ei 3 (.inp 13) (zi 0)]
@[simp] def q2_190 : SE := e1 q2_188
@[simp] def q2_191 : SE := e1 q2_189
@[simp] def q2_192 : SE := .agg [q2_190, q2_191]
@[simp] def q2_193 : SE := .app (.eqa [ some .i64, some .i64] true) [q2_104, q2_192]
@[simp] def q2_194 : SE := bi .sub (ln (.inp 13)) (zi 1)
@[simp] def q2_195 : SE := ei 3 (.inp 13) q2_194
@[simp] def q2_196 : SE := .app (.eoff 0) [q2_195]
@[simp] def q2_197 : SE := .app (.eoff 2) [q2_195]
@[simp] def q2_198 : SE := e1 q2_196
@[simp] def q2_199 : SE := e1 q2_197
@[simp] def q2_200 : SE := .agg [q2_198, q2_199]
@[simp] def q2_201 : SE := .app (.eqa [ some .i64, some .i64] true) [q2_108, q2_200]
@[simp] def q2_202 : SE := ei 3 (.inp 13) (.inp 31)
@[simp] def q2_203 : SE := .app (.eoff 0) [q2_202]
@[simp] def q2_204 : SE := .app (.eoff 1) [q2_202]
@[simp] def q2_205 : SE := e1 q2_203
@[simp] def q2_206 : SE := e1 q2_204
@[simp] def q2_207 : SE := .app .app [.app .lst [], .inp 0]
@[simp] def q2_208 : SE := .app .app [q2_207, .inp 1]
@[simp] def q2_209 : SE := ln q2_208
@[simp] def q2_210 : SE := .app (.rowget 3 0 1 false) [q2_208, .inp 2]
@[simp] def q2_211 : SE := .app (.rowget 3 0 1 false) [q2_208, .inp 3]
@[simp] def q2_212 : SE := bi .eql q2_210 q2_211
@[simp] def q2_213 : SE := .app (.rowget 3 1 1 false) [q2_208, .inp 2]
@[simp] def q2_214 : SE := .app (.rowget 3 1 1 false) [q2_208, .inp 3]
@[simp] def q2_215 : SE := bi .neq q2_213 q2_214
@[simp] def q2_216 : SE := .ref [zi 1073741824, zi 65535] 0
@[simp] def q2_217 : SE := .app (.eaidx 2 1) [q2_216, .inp 0]
@[simp] def q2_218 : SE := e1 q2_217
@[simp] def q2_219 : SE := .app (.mm false) [.inp 1, q2_218]
@[simp] def q2_220 : SE := .app (.mm true) [.inp 2, zi 0]
@[simp] def q2_221 : SE := bi .sub q2_218 (.inp 3)
@[simp] def q2_222 : SE := .app (.mm false) [q2_220, q2_221]
@[simp] def q2_223 : SE := bi .add (.inp 3) (.inp 4)
def rt_lockbarref18_Meets : RT :=
 ck (.isAgg 11) [.agg (ipx 0 11)] <|
 ck (.isAgg 29) [.agg (ipx 11 29)] <|
 ck (.isAgg 74) [.agg (ipx 40 74)] <|
 ck (.isAgg 3) [q2_0] <|
 ck (.bin .lss) [.inp 114, zi 0] <|
 ckg (q2_1) false (.bin .geq) [.inp 114, zi 24] <|
 ck .pick [q2_1, bT, q2_2] <|
.cond (pk q2_1 bT q2_2)
 (.ret (bF))
 (.seg [.call 117 [] 29 [.agg (ipx 0 11), .agg (ipx 11 29), .inp 114] false] <|
.seg [.call 118 [] 31 [.agg (ipx 40 74), .inp 114] false] <|
 ck (.tproj 0) [.inp 118] <|
 ck (.tproj 1) [.inp 118] <|
.cond (tp 1 (.inp 118))
 (ck (.bin .eql) [tp 0 (.inp 118), .inp 115] <|
.seg [.call 119 [(q2_3, true)] 23 [.agg (ipx 40 74), .inp 114] false] <|
 ckg (q2_3) true (.un .not) [.inp 119] <|
.seg [.chk [(nt (.inp 119), false), (q2_3, true)] (.bin .eql) [.inp 117, .inp 115]] <|
 ckg (q2_3) true .pick [nt (.inp 119), bT, q2_4] <|
 ck .pick [q2_3, q2_5, bF] <|
.seg [.bind 120 (pk q2_3 q2_5 bF)] <|
.ret (.inp 120))
 (ck (.bin .eql) [.inp 117, .inp 115] <|
 ckg (q2_4) false (.inr 24) [.inp 114] <|
 ckg (q2_4) false (.inr 24) [.inp 114] <|
 ckg (q2_4) false (.aidx 24 3 4 1 false) [.agg (ipx 40 74), .inp 114] <|
 ckg (q2_4) false (.un .not) [q2_6] <|
.seg [.call 119 [(q2_7, true), (q2_4, false)] 60 [.agg (ipx 0 11), .agg (ipx 11 29), .agg (ipx 40 74), .inp 114] false] <|
 ckg (q2_4) false .pick [q2_7, .inp 119, bF] <|
 ck .pick [q2_4, bT, q2_8] <|
.seg [.bind 120 (pk q2_4 bT q2_8),
.bind 121 (q2_6),
.bind 122 (q2_7),
.bind 123 (q2_8)] <|
.ret (.inp 120)))
theorem run_lockbarref18_Meets : runF E 153 [.agg (ips 0 11), .agg (ips 11 29), .agg (ips 40 74), .agg [.inp 114, .inp 115, .inp 116]] 117 = rt_lockbarref18_Meets := by kernel_rfl
def rt_lockbarref18_Can : RT :=
 ck (.isAgg 11) [.agg (ipx 0 11)] <|
 ck (.isAgg 29) [.agg (ipx 11 29)] <|
 ck (.isAgg 74) [.agg (ipx 40 74)] <|
 ck (.isAgg 3) [q2_0] <|
.loop 0 117 [zi 0] <|
 ck .len [.inp 41] <|
 ck (.bin .lss) [.inp 117, ln (.inp 41)] <|
.cond (bi .lss (.inp 117) (ln (.inp 41)))
 (.seg [.chk [] (.eidx 23) [.inp 41, .inp 117],
.chk [] (.eoff 1) [q2_9],
.chk [] (.eoff 0) [q2_10],
.chk [] (.eload 1 false) [q2_11],
.chk [] (.bin .eql) [q2_12, .inp 114],
.chk [(q2_13, true)] (.eidx 23) [.inp 41, .inp 117],
.chk [(q2_13, true)] (.eoff 6) [q2_9],
.chk [(q2_13, true)] (.eload 1 false) [q2_14],
.chk [(q2_13, true)] (.bin .neq) [q2_15, .int .u8 3],
.chk [] .pick [q2_13, q2_16, bF]] <|
.seg [.bind 118 (pk q2_13 q2_16 bF)] <|
.cond (.inp 118)
 (.ret (zi 190))
 (ck (.bin .add) [.inp 117, zi 1] <|
.again 0 [bi .add (.inp 117) (zi 1)]))
 (.seg [.chk [] (.szs 3) [.inp 116],
.chk [] .app [.app .lst [], .inp 116],
.call 118 [] 75 [.agg (ipx 0 11), .inp 115] false,
.chk [] (.szs 3) [.inp 118],
.chk [] .app [q2_17, .inp 118]] <|
.loop 0 119 [zi 0] <|
 ck .len [q2_18] <|
 ck (.bin .lss) [.inp 119, q2_19] <|
.cond (bi .lss (.inp 119) q2_19)
 (.seg [.chk [] (.eidx 3) [q2_18, .inp 119],
.chk [] (.inr 4294967296) [.inp 119],
.chk [] (.rowget 3 0 1 false) [q2_18, .inp 119],
.call 120 [] 60 [.agg (ipx 0 11), .agg (ipx 11 29), .agg (ipx 40 74), .app (.rowget 3 0 1 false) [q2_18, .inp 119]] false,
.chk [] (.un .not) [.inp 120]] <|
.cond (.inp 120)
 (ck (.bin .add) [.inp 119, zi 1] <|
.again 0 [bi .add (.inp 119) (zi 1)])
 (.ret (zi 190)))
 (.seg [.call 120 [] 76 [.agg (ipx 0 11), q2_0] false] <|
.loop 0 121 [zi 0] <|
 ck .len [.inp 120] <|
 ck (.bin .lss) [.inp 121, ln (.inp 120)] <|
.cond (bi .lss (.inp 121) (ln (.inp 120)))
 (.seg [.chk [] (.eidx 3) [.inp 120, .inp 121],
.chk [] (.eload 3 true) [q2_20],
.call 122 [] 153 [.agg (ipx 0 11), .agg (ipx 11 29), .agg (ipx 40 74), el 3 q2_20] false,
.chk [] (.un .not) [.inp 122]] <|
.cond (.inp 122)
 (ck (.bin .add) [.inp 121, zi 1] <|
.again 0 [bi .add (.inp 121) (zi 1)])
 (.ret (zi 190)))
 (ck .len [.inp 41] <|
 ck (.bin .geq) [ln (.inp 41), zi 6] <|
.cond (bi .geq (ln (.inp 41)) (zi 6))
 (.ret (zi 191))
 (.ret (zi 0)))))
theorem run_lockbarref18_Can : runF E 120 [.agg (ips 0 11), .agg (ips 11 29), .agg (ips 40 74), .agg [.inp 114, .inp 115, .inp 116]] 117 = rt_lockbarref18_Can := by kernel_rfl
def rt_lockbarref05_Ports : RT :=
 ck (.bin .eql) [.inp 0, .int .u8 1] <|
.cond (bi .eql (.inp 0) (.int .u8 1))
 (.ret (zi 2))
 (ck (.bin .eql) [.inp 0, .int .u8 2] <|
.cond (bi .eql (.inp 0) (.int .u8 2))
 (.ret (zi 3))
 (ck (.bin .eql) [.inp 0, .int .u8 3] <|
.cond (bi .eql (.inp 0) (.int .u8 3))
 (.ret (zi 4))
 (.ret (zi 0))))
theorem run_lockbarref05_Ports : runF E 224 [.inp 0] 1 = rt_lockbarref05_Ports := by kernel_rfl
def rt_lockbarref05_May : RT :=
 ck (.isAgg 2) [.agg [.inp 0, .inp 1]] <|
 ck (.eqa [ some .i64, some .i64] false) [.agg [.inp 0, .inp 1], .agg [zi (-1), zi 0]] <|
 ckg (q2_21) false (.bin .geq) [.inp 0, zi 0] <|
.seg [.chk [(bi .geq (.inp 0) (zi 0), true), (q2_21, false)] (.bin .lss) [.inp 0, zi 24]] <|
 ckg (q2_21) false .pick [bi .geq (.inp 0) (zi 0), q2_22, bF] <|
.seg [.chk [(q2_23, true), (q2_21, false)] (.bin .geq) [.inp 1, zi 0]] <|
 ckg (q2_21) false .pick [q2_23, bi .geq (.inp 1) (zi 0), bF] <|
.seg [.chk [(q2_24, true), (q2_21, false)] (.bin .lss) [.inp 1, zi 4]] <|
 ckg (q2_21) false .pick [q2_24, bi .lss (.inp 1) (zi 4), bF] <|
 ck .pick [q2_21, bT, q2_25] <|
.seg [.bind 2 (pk q2_21 bT q2_25),
.bind 3 (q2_24),
.bind 4 (q2_25)] <|
.ret (.inp 2)
theorem run_lockbarref05_May : runF E 229 [.agg [.inp 0, .inp 1]] 2 = rt_lockbarref05_May := by kernel_rfl
def rt_lockbarref05_Right : RT :=
 ck (.isAgg 11) [.agg (ipx 0 11)] <|
.loop 0 11 [zi 0] <|
 ck (.bin .lss) [.inp 11, zi 4] <|
.cond (bi .lss (.inp 11) (zi 4))
 (.seg [.call 12 [] 224 [.inp 0] false] <|
 ck (.bin .lss) [.inp 11, .inp 12] <|
 ckg (q2_26) true (.inr 4) [.inp 11] <|
 ckg (q2_26) true (.aidx 4 2 1 2 true) [.agg (ipx 0 11), .inp 11] <|
.seg [.call 13 [(q2_26, true)] 229 [q2_27] false] <|
 ckg (q2_26) true (.un .not) [.inp 13] <|
 ck .pick [q2_26, nt (.inp 13), bF] <|
.seg [.call 14 [(q2_28, false)] 224 [.inp 0] false] <|
 ckg (q2_28) false (.bin .geq) [.inp 11, .inp 14] <|
.seg [.chk [(q2_29, true), (q2_28, false)] (.inr 4) [.inp 11]] <|
.seg [.chk [(q2_29, true), (q2_28, false)] (.aidx 4 2 1 2 true) [.agg (ipx 0 11), .inp 11]] <|
.seg [.chk [(q2_29, true), (q2_28, false)] (.eqa [ some .i64, some .i64] true) [q2_27, .agg [zi (-1), zi 0]]] <|
 ckg (q2_28) false .pick [q2_29, q2_30, bF] <|
 ck .pick [q2_28, bT, q2_31] <|
.seg [.bind 15 (q2_27),
.bind 16 (q2_30),
.bind 17 (q2_31),
.bind 18 (pk q2_28 bT q2_31)] <|
.cond (.inp 18)
 (.ret (bF))
 (ck (.bin .add) [.inp 11, zi 1] <|
.again 0 [q2_32]))
 (.loop 0 12 [zi 0] <|
 ck (.bin .lss) [.inp 12, zi 2] <|
.cond (bi .lss (.inp 12) (zi 2))
 (ck (.inr 2) [.inp 12] <|
 ck (.aidx 2 1 9 1 false) [.agg (ipx 0 11), .inp 12] <|
 ck (.bin .lss) [q2_33, zi 0] <|
 ckg (q2_34) false (.inr 2) [.inp 12] <|
 ckg (q2_34) false (.aidx 2 1 9 1 false) [.agg (ipx 0 11), .inp 12] <|
 ckg (q2_34) false (.bin .gtr) [q2_33, zi 3] <|
 ck .pick [q2_34, bT, q2_35] <|
.seg [.call 13 [(q2_36, false)] 207 [.inp 0] false] <|
 ckg (q2_36) false (.bin .geq) [.inp 12, .inp 13] <|
.seg [.chk [(q2_37, true), (q2_36, false)] (.inr 2) [.inp 12]] <|
.seg [.chk [(q2_37, true), (q2_36, false)] (.aidx 2 1 9 1 false) [.agg (ipx 0 11), .inp 12]] <|
.seg [.chk [(q2_37, true), (q2_36, false)] (.bin .neq) [q2_33, zi 0]] <|
 ckg (q2_36) false .pick [q2_37, q2_38, bF] <|
 ck .pick [q2_36, bT, q2_39] <|
.seg [.bind 14 (q2_33),
.bind 15 (q2_34),
.bind 16 (q2_35),
.bind 17 (q2_36),
.bind 18 (q2_38),
.bind 19 (q2_39),
.bind 20 (pk q2_36 bT q2_39)] <|
.cond (.inp 20)
 (.ret (bF))
 (ck (.bin .add) [.inp 12, zi 1] <|
.again 0 [q2_40]))
 (.seg [.call 13 [] 224 [.inp 0] false] <|
 ck (.bin .gtr) [.inp 13, zi 0] <|
.ret (bi .gtr (.inp 13) (zi 0))))
theorem run_lockbarref05_Right : runF E 223 [.agg (ips 0 11)] 11 = rt_lockbarref05_Right := by kernel_rfl
def rt_lockbarref06_there : RT :=
 ck (.isAgg 11) [.agg (ipx 0 11)] <|
 ck (.isAgg 2) [.agg [.inp 11, .inp 12]] <|
.seg [.call 13 [] 228 [.agg (ipx 0 11), .agg [.inp 11, .inp 12]] false] <|
 ck (.tproj 0) [.inp 13] <|
 ck (.tproj 1) [.inp 13] <|
 ck (.isAgg 11) [tp 0 (.inp 13)] <|
.ret (tp 1 (.inp 13))
theorem run_lockbarref06_there : runF E 219 [.agg (ips 0 11), .agg [.inp 11, .inp 12]] 13 = rt_lockbarref06_there := by kernel_rfl
def rt_lockbarref06_section : RT :=
 ck (.isAgg 11) [.agg (ipx 0 11)] <|
 ck (.isAgg 11) [.agg (ipx 11 11)] <|
.loop 0 22 [zi 0] <|
 ck (.bin .lss) [.inp 22, zi 4] <|
.cond (bi .lss (.inp 22) (zi 4))
 (.seg [.chk [] (.inr 4) [.inp 22],
.chk [] (.inr 4) [.inp 22],
.chk [] (.aidx 4 2 1 1 false) [.agg (ipx 11 11), .inp 22],
.chk [] (.bin .geq) [q2_41, zi 0],
.chk [(q2_42, true)] (.inr 4) [.inp 22],
.chk [(q2_42, true)] (.aidx 4 2 1 2 true) [.agg (ipx 11 11), .inp 22],
.call 23 [(q2_42, true)] 219 [.agg (ipx 0 11), q2_43] false,
.chk [(q2_42, true)] (.un .not) [.inp 23],
.chk [] .pick [q2_42, nt (.inp 23), bF]] <|
.seg [.bind 24 (q2_41),
.bind 25 (q2_42),
.bind 26 (q2_43),
.bind 27 (pk q2_42 (nt (.inp 23)) bF)] <|
.cond (.inp 27)
 (.ret (bF))
 (ck (.bin .add) [.inp 22, zi 1] <|
.again 0 [bi .add (.inp 22) (zi 1)]))
 (.seg [.call 23 [] 223 [.agg (ipx 11 11)] false] <|
.ret (.inp 23))
theorem run_lockbarref06_section : runF E 218 [.agg (ips 0 11), .agg (ips 11 11)] 22 = rt_lockbarref06_section := by kernel_rfl
def rt_lockbarref06_exit : RT :=
 ck (.isAgg 11) [.agg (ipx 0 11)] <|
 ck (.isAgg 3) [q2_44] <|
.loop 0 14 [zi 0] <|
 ck .len [.inp 13] <|
 ck (.bin .lss) [.inp 14, ln (.inp 13)] <|
.cond (bi .lss (.inp 14) (ln (.inp 13)))
 (.seg [.chk [] (.eidx 3) [.inp 13, .inp 14],
.chk [] (.eload 3 true) [q2_45],
.call 15 [] 155 [.agg (ipx 0 11), el 3 q2_45] false,
.chk [] (.tproj 0) [.inp 15],
.chk [] (.tproj 1) [.inp 15]] <|
 ck (.un .not) [tp 1 (.inp 15)] <|
.cond (tp 1 (.inp 15))
 (ck (.bin .add) [.inp 14, zi 1] <|
.again 0 [q2_46])
 (.ret (bF)))
 (.seg [.call 15 [] 219 [.agg (ipx 0 11), .agg [.inp 11, .inp 12]] false] <|
 ckg (.inp 15) true .len [.inp 13] <|
 ckg (.inp 15) true (.bin .leq) [ln (.inp 13), zi 2] <|
 ck .pick [.inp 15, q2_47, bF] <|
.ret (pk (.inp 15) q2_47 bF))
theorem run_lockbarref06_exit : runF E 220 [.agg (ips 0 11), .agg [.inp 11, .inp 12, .inp 13]] 14 = rt_lockbarref06_exit := by kernel_rfl
def rt_lockbarref06_flank : RT :=
 ck (.isAgg 11) [.agg (ipx 0 11)] <|
 ck (.isAgg 4) [.agg (ipx 11 4)] <|
 ck .len [.inp 0] <|
 ck (.bin .lss) [.inp 11, zi 0] <|
 ckg (q2_48) false (.bin .geq) [.inp 11, ln (.inp 0)] <|
 ck .pick [q2_48, bT, q2_49] <|
 ckg (q2_50) false (.bin .lss) [.inp 13, zi 0] <|
 ck .pick [q2_50, bT, q2_51] <|
 ckg (q2_52) false (.bin .geq) [.inp 13, ln (.inp 0)] <|
 ck .pick [q2_52, bT, q2_53] <|
 ckg (q2_54) false (.bin .eql) [.inp 11, .inp 13] <|
 ck .pick [q2_54, bT, q2_55] <|
 ckg (q2_56) false (.bin .lss) [.inp 14, zi 0] <|
 ck .pick [q2_56, bT, q2_57] <|
 ckg (q2_58) false (.bin .gtr) [.inp 14, zi 1] <|
 ck .pick [q2_58, bT, q2_59] <|
.seg [.bind 15 (q2_52),
.bind 16 (q2_54),
.bind 17 (q2_56),
.bind 18 (q2_58),
.bind 19 (pk q2_58 bT q2_59)] <|
.cond (.inp 19)
 (.ret (bF))
 (.seg [.chk [] (.bin .geq) [.inp 12, zi 0],
.chk [(q2_60, true)] (.eidx 11) [.inp 0, .inp 11],
.chk [(q2_60, true)] (.eoff 0) [q2_61],
.chk [(q2_60, true)] (.eload 1 false) [q2_62],
.call 20 [(q2_60, true)] 207 [q2_63] false,
.chk [(q2_60, true)] (.bin .lss) [.inp 12, .inp 20],
.chk [] .pick [q2_60, q2_64, bF],
.chk [(q2_65, true)] (.eidx 11) [.inp 0, .inp 13],
.chk [(q2_65, true)] (.eoff 0) [q2_66],
.chk [(q2_65, true)] (.eload 1 false) [q2_67],
.chk [(q2_65, true)] (.bin .eql) [q2_68, .int .u8 2],
.chk [] .pick [q2_65, q2_69, bF]] <|
.seg [.bind 21 (pk q2_65 q2_69 bF)] <|
.ret (.inp 21))
theorem run_lockbarref06_flank : runF E 221 [.agg (ips 0 11), .agg (ips 11 4)] 15 = rt_lockbarref06_flank := by kernel_rfl
def rt_lockbarref06_times : RT :=
 ck (.isAgg 7) [.agg (ipx 0 7)] <|
.seg [.chk [] .isOne [.inp 0],
.chk [] .isOne [.inp 1],
.chk [] .isOne [.inp 2],
.chk [] .isOne [.inp 3],
.chk [] .isOne [.inp 4],
.chk [] .isOne [.inp 5],
.chk [] .isOne [.inp 6]] <|
 ck (.isAgg 7) [.agg (ipx 0 7)] <|
.loop 0 7 [zi 0] <|
 ck (.bin .lss) [.inp 7, zi 7] <|
.cond (bi .lss (.inp 7) (zi 7))
 (ck (.inr 7) [.inp 7] <|
 ck (.aidx 7 1 0 1 false) [.agg (ipx 0 7), .inp 7] <|
 ck (.bin .lss) [q2_70, zi 1] <|
 ckg (q2_71) false (.inr 7) [.inp 7] <|
 ckg (q2_71) false (.aidx 7 1 0 1 false) [.agg (ipx 0 7), .inp 7] <|
 ckg (q2_71) false (.bin .gtr) [q2_70, zi 1000] <|
 ck .pick [q2_71, bT, q2_72] <|
.seg [.bind 8 (q2_70),
.bind 9 (q2_71),
.bind 10 (q2_72),
.bind 11 (pk q2_71 bT q2_72)] <|
.cond (.inp 11)
 (.ret (bF))
 (ck (.bin .add) [.inp 7, zi 1] <|
.again 0 [bi .add (.inp 7) (zi 1)]))
 (.ret (bT))
theorem run_lockbarref06_times : runF E 222 [.agg (ips 0 7)] 7 = rt_lockbarref06_times := by kernel_rfl
def rt_lockbarref06_Right : RT :=
 ck (.isAgg 11) [.agg (ipx 0 11)] <|
.loop 0 11 [zi 0] <|
 ck .len [.inp 0] <|
 ck (.bin .lss) [.inp 11, ln (.inp 0)] <|
.cond (q2_73)
 (.seg [.chk [] (.eidx 11) [.inp 0, .inp 11],
.chk [] (.eload 11 true) [q2_61],
.call 12 [] 218 [.agg (ipx 0 11), q2_74] false,
.chk [] (.un .not) [.inp 12]] <|
.cond (.inp 12)
 (ck (.bin .add) [.inp 11, zi 1] <|
.again 0 [q2_32])
 (.ret (bF)))
 (.loop 0 12 [zi 0] <|
 ck .len [.inp 1] <|
 ck (.bin .lss) [.inp 12, ln (.inp 1)] <|
.cond (bi .lss (.inp 12) (ln (.inp 1)))
 (.seg [.chk [] (.eidx 2) [.inp 1, .inp 12],
.chk [] (.eoff 0) [ei 2 (.inp 1) (.inp 12)],
.chk [] (.eload 2 true) [q2_75],
.call 13 [] 219 [.agg (ipx 0 11), q2_76] false,
.chk [] (.un .not) [.inp 13]] <|
.cond (.inp 13)
 (ck (.bin .add) [.inp 12, zi 1] <|
.again 0 [q2_40])
 (.ret (bF)))
 (.loop 0 13 [zi 0] <|
 ck .len [.inp 2] <|
 ck (.bin .lss) [.inp 13, ln (.inp 2)] <|
.cond (bi .lss (.inp 13) (ln (.inp 2)))
 (.seg [.chk [] (.eidx 3) [.inp 2, .inp 13],
.chk [] (.eload 3 true) [ei 3 (.inp 2) (.inp 13)],
.call 14 [] 220 [.agg (ipx 0 11), el 3 (ei 3 (.inp 2) (.inp 13))] false,
.chk [] (.un .not) [.inp 14]] <|
.cond (.inp 14)
 (ck (.bin .add) [.inp 13, zi 1] <|
.again 0 [q2_77])
 (.ret (bF)))
 (.loop 0 14 [zi 0] <|
 ck .len [.inp 3] <|
 ck (.bin .lss) [.inp 14, ln (.inp 3)] <|
.cond (bi .lss (.inp 14) (ln (.inp 3)))
 (.seg [.chk [] (.eidx 4) [.inp 3, .inp 14],
.chk [] (.eload 4 true) [ei 4 (.inp 3) (.inp 14)],
.call 15 [] 221 [.agg (ipx 0 11), el 4 (ei 4 (.inp 3) (.inp 14))] false,
.chk [] (.un .not) [.inp 15]] <|
.cond (.inp 15)
 (ck (.bin .add) [.inp 14, zi 1] <|
.again 0 [q2_46])
 (.ret (bF)))
 (ck .len [.inp 0] <|
 ck (.bin .leq) [ln (.inp 0), zi 24] <|
 ckg (q2_78) true .len [.inp 1] <|
 ckg (q2_78) true (.bin .leq) [ln (.inp 1), zi 12] <|
 ck .pick [q2_78, q2_79, bF] <|
 ckg (q2_80) true .len [.inp 2] <|
 ckg (q2_80) true (.bin .leq) [ln (.inp 2), zi 12] <|
 ck .pick [q2_80, q2_81, bF] <|
 ckg (q2_82) true .len [.inp 3] <|
 ckg (q2_82) true (.bin .leq) [ln (.inp 3), zi 16] <|
 ck .pick [q2_82, q2_83, bF] <|
.seg [.call 15 [(q2_84, true)] 222 [.agg (ipx 4 7)] false] <|
 ck .pick [q2_84, .inp 15, bF] <|
.seg [.bind 16 (pk q2_84 (.inp 15) bF),
.bind 17 (q2_80),
.bind 18 (q2_82),
.bind 19 (q2_84)] <|
.ret (.inp 16)))))
theorem run_lockbarref06_Right : runF E 199 [.agg (ips 0 11)] 11 = rt_lockbarref06_Right := by kernel_rfl
def rt_lockbarref06_Signal : RT :=
 ck (.isAgg 11) [.agg (ipx 0 11)] <|
 ck (.isAgg 2) [.agg [.inp 11, .inp 12]] <|
.loop 0 13 [zi 0] <|
 ck .len [.inp 1] <|
 ck (.bin .lss) [.inp 13, ln (.inp 1)] <|
.cond (bi .lss (.inp 13) (ln (.inp 1)))
 (.seg [.chk [] (.eidx 2) [.inp 1, .inp 13],
.chk [] (.eoff 0) [ei 2 (.inp 1) (.inp 13)],
.chk [] (.eload 2 true) [q2_85],
.chk [] (.eqa [ some .i64, some .i64] false) [q2_86, .agg [.inp 11, .inp 12]]] <|
.cond (.app (.eqa [ some .i64, some .i64] false) [q2_86, .agg [.inp 11, .inp 12]])
 (.ret (.inp 13))
 (ck (.bin .add) [.inp 13, zi 1] <|
.again 0 [q2_77]))
 (.ret (zi (-1)))
theorem run_lockbarref06_Signal : runF E 151 [.agg (ips 0 11), .agg [.inp 11, .inp 12]] 13 = rt_lockbarref06_Signal := by kernel_rfl
def rt_lockbarref07_Has : RT :=
 ck (.isAgg 11) [.agg (ipx 0 11)] <|
 ck (.isAgg 2) [.agg [.inp 11, .inp 12]] <|
.seg [.chk [] (.bin .geq) [.inp 11, zi 0],
.chk [(q2_87, true)] .len [.inp 0],
.chk [(q2_87, true)] (.bin .lss) [.inp 11, ln (.inp 0)],
.chk [] .pick [q2_87, q2_73, bF],
.chk [(q2_88, true)] (.bin .geq) [.inp 12, zi 0],
.chk [] .pick [q2_88, q2_60, bF],
.chk [(q2_89, true)] (.eidx 11) [.inp 0, .inp 11],
.chk [(q2_89, true)] (.eoff 0) [q2_61],
.chk [(q2_89, true)] (.eload 1 false) [q2_62],
.call 13 [(q2_89, true)] 224 [q2_63] false,
.chk [(q2_89, true)] (.bin .lss) [.inp 12, .inp 13],
.chk [] .pick [q2_89, q2_90, bF]] <|
.seg [.bind 14 (pk q2_89 q2_90 bF),
.bind 15 (q2_89)] <|
.ret (.inp 14)
theorem run_lockbarref07_Has : runF E 205 [.agg (ips 0 11), .agg [.inp 11, .inp 12]] 13 = rt_lockbarref07_Has := by kernel_rfl
def rt_lockbarref07_none : RT :=
.ret (.agg [zi (-1), zi 0])
theorem run_lockbarref07_none : runF E 206 [] 0 = rt_lockbarref07_none := by kernel_rfl
def rt_lockbarref07_Beyond : RT :=
 ck (.isAgg 11) [.agg (ipx 0 11)] <|
 ck (.isAgg 2) [.agg [.inp 11, .inp 12]] <|
.seg [.call 13 [] 205 [.agg (ipx 0 11), .agg [.inp 11, .inp 12]] false] <|
 ck (.un .not) [.inp 13] <|
.cond (.inp 13)
 (.seg [.chk [] (.eidx 11) [.inp 0, .inp 11],
.chk [] (.eoff 1) [q2_61],
.chk [] (.eaidx 4 2) [q2_91, .inp 12],
.chk [] (.eload 2 true) [q2_92],
.chk [] (.isAgg 2) [q2_93]] <|
.ret (.agg [pt 0 q2_93, pt 1 q2_93]))
 (.seg [.call 14 [] 206 [] false] <|
 ck (.isAgg 2) [.inp 14] <|
.ret (.agg [pt 0 (.inp 14), pt 1 (.inp 14)]))
theorem run_lockbarref07_Beyond : runF E 178 [.agg (ips 0 11), .agg [.inp 11, .inp 12]] 13 = rt_lockbarref07_Beyond := by kernel_rfl
def rt_lockbarref07_Joined : RT :=
 ck (.isAgg 11) [.agg (ipx 0 11)] <|
.loop 0 11 [zi 0] <|
 ck .len [.inp 0] <|
 ck (.bin .lss) [.inp 11, ln (.inp 0)] <|
 ckg (q2_73) true (.bin .lss) [.inp 11, zi 24] <|
 ck .pick [q2_73, q2_94, bF] <|
.cond (pk q2_73 q2_94 bF)
 (ck (.eidx 11) [.inp 0, .inp 11] <|
 ck (.eload 11 true) [q2_61] <|
 ck (.isAgg 11) [q2_74] <|
.seg [.call 12 [] 223 [q2_95] false] <|
 ck (.un .not) [.inp 12] <|
.cond (.inp 12)
 (.loop 1 13 [zi 0] <|
.seg [.call 14 [] 224 [pt 0 q2_74] false] <|
 ck (.bin .lss) [.inp 13, .inp 14] <|
.cond (bi .lss (.inp 13) (.inp 14))
 (ck (.inr 4) [.inp 13] <|
 ck (.aidx 4 2 1 2 true) [q2_95, .inp 13] <|
 ck (.isAgg 2) [q2_96] <|
.seg [.bind 15 (q2_96),
.bind 16 (pt 0 q2_96),
.bind 17 (pt 1 q2_96)] <|
.seg [.call 18 [] 206 [] false,
.chk [] (.eqa [ some .i64, some .i64] true) [.agg [.inp 16, .inp 17], .inp 18],
.call 19 [(q2_97, true)] 205 [.agg (ipx 0 11), .agg [.inp 16, .inp 17]] false,
.chk [(q2_97, true)] (.un .not) [.inp 19],
.chk [(nt (.inp 19), false), (q2_97, true)] (.bin .eql) [.inp 16, .inp 11],
.chk [(q2_97, true)] .pick [nt (.inp 19), bT, q2_98],
.call 20 [(q2_99, false), (q2_97, true)] 178 [.agg (ipx 0 11), .agg [.inp 16, .inp 17]] false,
.chk [(q2_99, false), (q2_97, true)] .isOne [.inp 11],
.chk [(q2_99, false), (q2_97, true)] .isOne [.inp 13],
.chk [(q2_99, false), (q2_97, true)] (.eqa [ some .i64, some .i64] true) [.inp 20, .agg [.inp 11, .inp 13]],
.chk [(q2_97, true)] .pick [q2_99, bT, q2_100],
.chk [] .pick [q2_97, q2_101, bF]] <|
.seg [.bind 21 (q2_101),
.bind 22 (pk q2_97 q2_101 bF)] <|
.cond (.inp 22)
 (.ret (bF))
 (ck (.bin .add) [.inp 13, zi 1] <|
.again 1 [q2_77]))
 (ck (.bin .add) [.inp 11, zi 1] <|
.again 0 [q2_32]))
 (.ret (bF)))
 (ck .len [.inp 0] <|
 ck (.bin .leq) [ln (.inp 0), zi 24] <|
.ret (q2_78))
theorem run_lockbarref07_Joined : runF E 200 [.agg (ips 0 11)] 11 = rt_lockbarref07_Joined := by kernel_rfl
def rt_lockbarref09_signals : RT :=
 ck (.isAgg 11) [.agg (ipx 0 11)] <|
.loop 0 11 [zi 0] <|
 ck .len [.inp 1] <|
 ck (.bin .lss) [.inp 11, ln (.inp 1)] <|
.cond (bi .lss (.inp 11) (ln (.inp 1)))
 (.loop 1 12 [zi 0] <|
 ck (.bin .lss) [.inp 12, .inp 11] <|
.cond (q2_102)
 (.seg [.chk [] (.eidx 2) [.inp 1, .inp 12],
.chk [] (.eoff 0) [ei 2 (.inp 1) (.inp 12)],
.chk [] (.eload 2 true) [q2_75],
.chk [] (.eidx 2) [.inp 1, .inp 11],
.chk [] (.eoff 0) [ei 2 (.inp 1) (.inp 11)],
.chk [] (.eload 2 true) [q2_103],
.chk [] (.eqa [ some .i64, some .i64] false) [q2_76, q2_104]] <|
.seg [.bind 13 (.app (.eqa [ some .i64, some .i64] false) [q2_76, q2_104])] <|
.cond (.inp 13)
 (.ret (.inp 11))
 (ck (.bin .add) [.inp 12, zi 1] <|
.again 1 [q2_40]))
 (ck (.bin .add) [.inp 11, zi 1] <|
.again 0 [q2_32]))
 (.ret (zi (-1)))
theorem run_lockbarref09_signals : runF E 201 [.agg (ips 0 11)] 11 = rt_lockbarref09_signals := by kernel_rfl
def rt_lockbarref09_exits : RT :=
 ck (.isAgg 11) [.agg (ipx 0 11)] <|
.loop 0 11 [zi 0] <|
 ck .len [.inp 2] <|
 ck (.bin .lss) [.inp 11, ln (.inp 2)] <|
.cond (q2_105)
 (.loop 1 12 [zi 0] <|
 ck (.bin .lss) [.inp 12, .inp 11] <|
.cond (q2_102)
 (.seg [.chk [] (.eidx 3) [.inp 2, .inp 12],
.chk [] (.eoff 0) [ei 3 (.inp 2) (.inp 12)],
.chk [] (.eload 2 true) [q2_106],
.chk [] (.eidx 3) [.inp 2, .inp 11],
.chk [] (.eoff 0) [ei 3 (.inp 2) (.inp 11)],
.chk [] (.eload 2 true) [q2_107],
.chk [] (.eqa [ some .i64, some .i64] false) [q2_108, q2_109]] <|
.seg [.bind 13 (.app (.eqa [ some .i64, some .i64] false) [q2_108, q2_109])] <|
.cond (.inp 13)
 (.ret (.inp 11))
 (ck (.bin .add) [.inp 12, zi 1] <|
.again 1 [q2_40]))
 (ck (.bin .add) [.inp 11, zi 1] <|
.again 0 [q2_32]))
 (.ret (zi (-1)))
theorem run_lockbarref09_exits : runF E 202 [.agg (ips 0 11)] 11 = rt_lockbarref09_exits := by kernel_rfl
def rt_lockbarref09_Over : RT :=
 ck (.isAgg 11) [.agg (ipx 0 11)] <|
.seg [.call 12 [] 199 [.agg (ipx 0 11)] false] <|
 ck (.un .not) [.inp 12] <|
 ckg (nt (.inp 12)) false (.bin .lss) [.inp 11, zi 0] <|
 ck .pick [nt (.inp 12), bT, q2_48] <|
 ckg (q2_110) false .len [.inp 2] <|
 ckg (q2_110) false (.bin .geq) [.inp 11, ln (.inp 2)] <|
 ck .pick [q2_110, bT, q2_111] <|
.seg [.bind 13 (pk q2_110 bT q2_111)] <|
.cond (.inp 13)
 (.ret (bF))
 (ck (.eidx 3) [.inp 2, .inp 11] <|
 ck (.eoff 0) [ei 3 (.inp 2) (.inp 11)] <|
 ck (.eload 2 true) [q2_107] <|
 ck (.isAgg 2) [q2_109] <|
 ck (.eidx 3) [.inp 2, .inp 11] <|
 ck (.eoff 2) [ei 3 (.inp 2) (.inp 11)] <|
 ck (.eload 1 false) [q2_112] <|
.loop 0 14 [zi 0, pt 0 q2_109, pt 1 q2_109] <|
 ck .len [q2_113] <|
 ck (.bin .lss) [.inp 14, q2_114] <|
.cond (bi .lss (.inp 14) q2_114)
 (.seg [.call 17 [] 178 [.agg (ipx 0 11), .agg [.inp 15, .inp 16]] false,
.chk [] (.eidx 3) [q2_113, .inp 14],
.chk [] (.eoff 0) [q2_115],
.chk [] (.eload 1 false) [q2_116],
.chk [] (.eidx 3) [q2_113, .inp 14],
.chk [] (.eoff 1) [q2_115],
.chk [] (.eload 1 false) [q2_117],
.chk [] .isOne [q2_118],
.chk [] .isOne [q2_119],
.chk [] (.eqa [ some .i64, some .i64] true) [.inp 17, q2_120],
.chk [(q2_121, false)] (.eidx 3) [q2_113, .inp 14],
.chk [(q2_121, false)] (.eoff 0) [q2_115],
.chk [(q2_121, false)] (.eload 1 false) [q2_116],
.chk [(q2_121, false)] (.eidx 3) [.inp 2, .inp 11],
.chk [(q2_121, false)] (.eoff 0) [ei 3 (.inp 2) (.inp 11)],
.chk [(q2_121, false)] (.eoff 0) [q2_107],
.chk [(q2_121, false)] (.eload 1 false) [q2_122],
.chk [(q2_121, false)] (.bin .eql) [q2_118, q2_123],
.chk [] .pick [q2_121, bT, q2_124]] <|
.seg [.bind 18 (q2_121),
.bind 19 (q2_124),
.bind 20 (pk q2_121 bT q2_124)] <|
.cond (.inp 20)
 (.ret (bF))
 (.loop 1 21 [zi 0] <|
 ck (.bin .lss) [.inp 21, .inp 14] <|
.cond (bi .lss (.inp 21) (.inp 14))
 (.seg [.chk [] (.eidx 3) [q2_113, .inp 21],
.chk [] (.eoff 0) [q2_125],
.chk [] (.eload 1 false) [q2_126],
.chk [] (.eidx 3) [q2_113, .inp 14],
.chk [] (.eoff 0) [q2_115],
.chk [] (.eload 1 false) [q2_116],
.chk [] (.bin .eql) [q2_127, q2_118]] <|
.seg [.bind 22 (bi .eql q2_127 q2_118)] <|
.cond (.inp 22)
 (.ret (bF))
 (ck (.bin .add) [.inp 21, zi 1] <|
.again 1 [bi .add (.inp 21) (zi 1)]))
 (.seg [.chk [] (.eidx 3) [q2_113, .inp 14],
.chk [] (.eoff 0) [q2_115],
.chk [] (.eload 1 false) [q2_116],
.chk [] (.eidx 3) [q2_113, .inp 14],
.chk [] (.eoff 2) [q2_115],
.chk [] (.eload 1 false) [q2_128],
.chk [] .isOne [q2_118],
.chk [] .isOne [q2_129],
.chk [] (.isAgg 2) [.agg [q2_118, q2_129]]] <|
 ck (.bin .add) [.inp 14, zi 1] <|
.again 0 [q2_46, q2_118, q2_129])))
 (.ret (bT)))
theorem run_lockbarref09_Over : runF E 225 [.agg (ips 0 11), .inp 11] 12 = rt_lockbarref09_Over := by kernel_rfl
def rt_lockbarref09_overs : RT :=
 ck (.isAgg 11) [.agg (ipx 0 11)] <|
.loop 0 11 [zi 0] <|
 ck .len [.inp 2] <|
 ck (.bin .lss) [.inp 11, ln (.inp 2)] <|
.cond (q2_105)
 (.seg [.call 12 [] 225 [.agg (ipx 0 11), .inp 11] false] <|
 ck (.un .not) [.inp 12] <|
.cond (.inp 12)
 (ck (.bin .add) [.inp 11, zi 1] <|
.again 0 [q2_32])
 (.ret (.inp 11)))
 (.ret (zi (-1)))
theorem run_lockbarref09_overs : runF E 203 [.agg (ips 0 11)] 11 = rt_lockbarref09_overs := by kernel_rfl
def rt_lockbarref09_flanks : RT :=
 ck (.isAgg 11) [.agg (ipx 0 11)] <|
.loop 0 11 [zi 0] <|
 ck .len [.inp 3] <|
 ck (.bin .lss) [.inp 11, ln (.inp 3)] <|
.cond (bi .lss (.inp 11) (ln (.inp 3)))
 (.loop 1 12 [zi 0] <|
 ck (.bin .lss) [.inp 12, .inp 11] <|
.cond (q2_102)
 (.seg [.chk [] (.eidx 4) [.inp 3, .inp 12],
.chk [] (.eload 4 true) [ei 4 (.inp 3) (.inp 12)],
.chk [] (.eidx 4) [.inp 3, .inp 11],
.chk [] (.eload 4 true) [ei 4 (.inp 3) (.inp 11)],
.chk [] (.isAgg 4) [q2_130],
.chk [] (.isAgg 4) [q2_131]] <|
 ck (.bin .eql) [q2_132, q2_133] <|
 ckg (q2_134) true (.bin .eql) [q2_135, q2_136] <|
 ck .pick [q2_134, q2_137, bF] <|
 ckg (q2_138) true (.bin .eql) [q2_139, q2_140] <|
 ck .pick [q2_138, q2_141, bF] <|
.seg [.bind 13 (q2_134),
.bind 14 (q2_137),
.bind 15 (q2_138),
.bind 16 (q2_141),
.bind 17 (pk q2_138 q2_141 bF)] <|
.cond (.inp 17)
 (.ret (.inp 11))
 (ck (.bin .add) [.inp 12, zi 1] <|
.again 1 [q2_40]))
 (ck (.bin .add) [.inp 11, zi 1] <|
.again 0 [q2_32]))
 (.ret (zi (-1)))
theorem run_lockbarref09_flanks : runF E 204 [.agg (ips 0 11)] 11 = rt_lockbarref09_flanks := by kernel_rfl
def rt_lockbarref09_Check : RT :=
 ck (.isAgg 11) [.agg (ipx 0 11)] <|
.seg [.call 11 [] 199 [.agg (ipx 0 11)] false] <|
 ck (.un .not) [.inp 11] <|
.cond (.inp 11)
 (.seg [.call 12 [] 200 [.agg (ipx 0 11)] false] <|
 ck (.un .not) [.inp 12] <|
.cond (.inp 12)
 (.seg [.call 13 [] 201 [.agg (ipx 0 11)] false,
.call 14 [] 202 [.agg (ipx 0 11)] false,
.call 15 [] 203 [.agg (ipx 0 11)] false,
.call 16 [] 204 [.agg (ipx 0 11)] false,
.chk [] .isOne [.inp 13],
.chk [] .isOne [.inp 14],
.chk [] .isOne [.inp 15],
.chk [] .isOne [.inp 16],
.chk [] (.isAgg 4) [.agg (ipx 13 4)]] <|
.loop 0 17 [zi 0] <|
 ck (.bin .lss) [.inp 17, zi 4] <|
.cond (bi .lss (.inp 17) (zi 4))
 (ck (.inr 4) [.inp 17] <|
 ck (.aidx 4 1 0 1 false) [.agg (ipx 13 4), .inp 17] <|
 ck (.bin .geq) [q2_142, zi 0] <|
.cond (bi .geq q2_142 (zi 0))
 (.seg [.chk [] (.bin .add) [.inp 17, zi 2],
.chk [] (.inr 4) [.inp 17],
.chk [] (.aidx 4 1 0 1 false) [.agg (ipx 13 4), .inp 17]] <|
.ret (.tup [bi .add (.inp 17) (zi 2), q2_142, zi 90]))
 (ck (.bin .add) [.inp 17, zi 1] <|
.again 0 [bi .add (.inp 17) (zi 1)]))
 (.ret (.tup [zi 0, zi 0, zi 0])))
 (.ret (.tup [zi 1, zi 0, zi 90])))
 (.ret (.tup [zi 0, zi 0, zi 60]))
theorem run_lockbarref09_Check : runF E 177 [.agg (ips 0 11)] 11 = rt_lockbarref09_Check := by kernel_rfl
def rt_lockbarref09_Right : RT :=
 ck (.isAgg 11) [.agg (ipx 0 11)] <|
.seg [.call 11 [] 177 [.agg (ipx 0 11)] false] <|
 ck (.tproj 0) [.inp 11] <|
 ck (.tproj 1) [.inp 11] <|
 ck (.tproj 2) [.inp 11] <|
 ck (.bin .eql) [tp 2 (.inp 11), zi 0] <|
.ret (bi .eql (tp 2 (.inp 11)) (zi 0))
theorem run_lockbarref09_Right : runF E 147 [.agg (ips 0 11)] 11 = rt_lockbarref09_Right := by kernel_rfl
def rt_lockbarref11_Goes : RT :=
 ck (.isAgg 11) [.agg (ipx 0 11)] <|
.loop 0 12 [zi 0] <|
 ck .len [.inp 11] <|
 ck (.bin .lss) [.inp 12, ln (.inp 11)] <|
.cond (bi .lss (.inp 12) (ln (.inp 11)))
 (.seg [.chk [] (.eidx 3) [.inp 11, .inp 12],
.chk [] (.eload 3 true) [q2_143],
.call 13 [] 155 [.agg (ipx 0 11), el 3 q2_143] false,
.chk [] (.tproj 0) [.inp 13],
.chk [] (.tproj 1) [.inp 13]] <|
.seg [.chk [] (.un .not) [tp 1 (.inp 13)],
.chk [(nt (tp 1 (.inp 13)), false)] (.bin .gtr) [.inp 12, zi 0],
.chk [(q2_144, true), (nt (tp 1 (.inp 13)), false)] (.bin .sub) [.inp 12, zi 1],
.chk [(q2_144, true), (nt (tp 1 (.inp 13)), false)] (.eidx 3) [.inp 11, q2_145],
.chk [(q2_144, true), (nt (tp 1 (.inp 13)), false)] (.eoff 0) [q2_146],
.chk [(q2_144, true), (nt (tp 1 (.inp 13)), false)] (.eload 1 false) [q2_147],
.chk [(q2_144, true), (nt (tp 1 (.inp 13)), false)] (.bin .sub) [.inp 12, zi 1],
.chk [(q2_144, true), (nt (tp 1 (.inp 13)), false)] (.eidx 3) [.inp 11, q2_145],
.chk [(q2_144, true), (nt (tp 1 (.inp 13)), false)] (.eoff 2) [q2_146],
.chk [(q2_144, true), (nt (tp 1 (.inp 13)), false)] (.eload 1 false) [q2_148],
.chk [(q2_144, true), (nt (tp 1 (.inp 13)), false)] .isOne [q2_149],
.chk [(q2_144, true), (nt (tp 1 (.inp 13)), false)] .isOne [q2_150],
.call 14 [(q2_144, true), (nt (tp 1 (.inp 13)), false)] 178 [.agg (ipx 0 11), .agg [q2_149, q2_150]] false,
.chk [(q2_144, true), (nt (tp 1 (.inp 13)), false)] (.eidx 3) [.inp 11, .inp 12],
.chk [(q2_144, true), (nt (tp 1 (.inp 13)), false)] (.eoff 0) [q2_143],
.chk [(q2_144, true), (nt (tp 1 (.inp 13)), false)] (.eload 1 false) [q2_151],
.chk [(q2_144, true), (nt (tp 1 (.inp 13)), false)] (.eidx 3) [.inp 11, .inp 12],
.chk [(q2_144, true), (nt (tp 1 (.inp 13)), false)] (.eoff 1) [q2_143],
.chk [(q2_144, true), (nt (tp 1 (.inp 13)), false)] (.eload 1 false) [q2_152],
.chk [(q2_144, true), (nt (tp 1 (.inp 13)), false)] .isOne [q2_153],
.chk [(q2_144, true), (nt (tp 1 (.inp 13)), false)] .isOne [q2_154],
.chk [(q2_144, true), (nt (tp 1 (.inp 13)), false)] (.eqa [ some .i64, some .i64] true) [.inp 14, q2_155],
.chk [(nt (tp 1 (.inp 13)), false)] .pick [q2_144, q2_156, bF],
.chk [] .pick [nt (tp 1 (.inp 13)), bT, q2_157]] <|
.seg [.bind 15 (q2_156),
.bind 16 (q2_157),
.bind 17 (pk (nt (tp 1 (.inp 13))) bT q2_157)] <|
.cond (.inp 17)
 (.ret (bF))
 (ck (.bin .add) [.inp 12, zi 1] <|
.again 0 [q2_40]))
 (.ret (bT))
theorem run_lockbarref11_Goes : runF E 148 [.agg (ips 0 11), .inp 11] 12 = rt_lockbarref11_Goes := by kernel_rfl
def rt_lockbarref11_simple : RT :=
.loop 0 2 [zi 0] <|
 ck .len [.inp 0] <|
 ck (.bin .lss) [.inp 2, ln (.inp 0)] <|
.cond (bi .lss (.inp 2) (ln (.inp 0)))
 (.loop 1 3 [zi 0] <|
 ck (.bin .lss) [.inp 3, .inp 2] <|
.cond (q2_158)
 (.seg [.chk [] (.eidx 3) [.inp 0, .inp 3],
.chk [] (.eoff 0) [ei 3 (.inp 0) (.inp 3)],
.chk [] (.eload 1 false) [q2_159],
.chk [] (.eidx 3) [.inp 0, .inp 2],
.chk [] (.eoff 0) [ei 3 (.inp 0) (.inp 2)],
.chk [] (.eload 1 false) [q2_160],
.chk [] (.bin .eql) [q2_161, q2_162]] <|
.seg [.bind 4 (bi .eql q2_161 q2_162)] <|
.cond (.inp 4)
 (.ret (bF))
 (ck (.bin .add) [.inp 3, zi 1] <|
.again 1 [bi .add (.inp 3) (zi 1)]))
 (.loop 1 4 [zi 0] <|
 ck .len [.inp 1] <|
 ck (.bin .lss) [.inp 4, ln (.inp 1)] <|
.cond (bi .lss (.inp 4) (ln (.inp 1)))
 (.seg [.chk [] (.eidx 3) [.inp 1, .inp 4],
.chk [] (.eoff 0) [ei 3 (.inp 1) (.inp 4)],
.chk [] (.eload 1 false) [q2_163],
.chk [] (.eidx 3) [.inp 0, .inp 2],
.chk [] (.eoff 0) [ei 3 (.inp 0) (.inp 2)],
.chk [] (.eload 1 false) [q2_160],
.chk [] (.bin .eql) [q2_164, q2_162]] <|
.seg [.bind 5 (bi .eql q2_164 q2_162)] <|
.cond (.inp 5)
 (.ret (bF))
 (ck (.bin .add) [.inp 4, zi 1] <|
.again 1 [bi .add (.inp 4) (zi 1)]))
 (ck (.bin .add) [.inp 2, zi 1] <|
.again 0 [bi .add (.inp 2) (zi 1)])))
 (.ret (bT))
theorem run_lockbarref11_simple : runF E 149 [.inp 0, .inp 1] 2 = rt_lockbarref11_simple := by kernel_rfl
def rt_lockbarref11_Through : RT :=
 ck (.isAgg 3) [.agg [.inp 0, .inp 1, .inp 2]] <|
.loop 0 4 [zi 0, zi 0] <|
 ck .len [.inp 3] <|
 ck (.bin .lss) [.inp 5, ln (.inp 3)] <|
.cond (bi .lss (.inp 5) (ln (.inp 3)))
 (.loop 1 6 [.inp 4] <|
.seg [.chk [] .len [.inp 2],
.chk [] (.bin .lss) [.inp 6, ln (.inp 2)],
.chk [(q2_165, true)] (.eidx 3) [.inp 2, .inp 6],
.chk [(q2_165, true)] (.eoff 0) [ei 3 (.inp 2) (.inp 6)],
.chk [(q2_165, true)] (.eload 1 false) [q2_166],
.chk [(q2_165, true)] (.eidx 1) [.inp 3, .inp 5],
.chk [(q2_165, true)] (.eload 1 false) [ei 1 (.inp 3) (.inp 5)],
.chk [(q2_165, true)] (.bin .neq) [q2_167, q2_168],
.chk [] .pick [q2_165, q2_169, bF]] <|
.seg [.bind 7 (q2_169),
.bind 8 (pk q2_165 q2_169 bF)] <|
.cond (.inp 8)
 (ck (.bin .add) [.inp 6, zi 1] <|
.again 1 [bi .add (.inp 6) (zi 1)])
 (ck .len [.inp 2] <|
 ck (.bin .geq) [.inp 6, ln (.inp 2)] <|
.cond (bi .geq (.inp 6) (ln (.inp 2)))
 (.ret (bF))
 (ck (.bin .add) [.inp 6, zi 1] <|
 ck (.bin .add) [.inp 5, zi 1] <|
.again 0 [bi .add (.inp 6) (zi 1), bi .add (.inp 5) (zi 1)])))
 (.ret (bT))
theorem run_lockbarref11_Through : runF E 150 [.agg [.inp 0, .inp 1, .inp 2], .inp 3] 4 = rt_lockbarref11_Through := by kernel_rfl
def rt_lockbarref11_Check : RT :=
 ck (.isAgg 11) [.agg (ipx 0 11)] <|
 ck (.isAgg 3) [q2_44] <|
.seg [.call 15 [] 147 [.agg (ipx 0 11)] false] <|
 ck (.un .not) [.inp 15] <|
 ckg (nt (.inp 15)) false (.bin .lss) [.inp 11, zi 0] <|
 ck .pick [nt (.inp 15), bT, q2_48] <|
 ckg (q2_170) false .len [.inp 1] <|
 ckg (q2_170) false (.bin .geq) [.inp 11, ln (.inp 1)] <|
 ck .pick [q2_170, bT, q2_171] <|
 ckg (q2_172) false (.bin .lss) [.inp 12, zi 0] <|
 ck .pick [q2_172, bT, q2_173] <|
 ckg (q2_174) false .len [.inp 2] <|
 ckg (q2_174) false (.bin .geq) [.inp 12, ln (.inp 2)] <|
 ck .pick [q2_174, bT, q2_175] <|
 ckg (q2_176) false .len [.inp 14] <|
 ckg (q2_176) false (.bin .gtr) [ln (.inp 14), zi 2] <|
 ck .pick [q2_176, bT, q2_177] <|
.seg [.bind 16 (q2_172),
.bind 17 (q2_174),
.bind 18 (q2_176),
.bind 19 (pk q2_176 bT q2_177)] <|
.cond (.inp 19)
 (.ret (zi 2))
 (.loop 0 20 [zi 0] <|
 ck .len [.inp 14] <|
 ck (.bin .lss) [.inp 20, ln (.inp 14)] <|
.cond (bi .lss (.inp 20) (ln (.inp 14)))
 (.seg [.chk [] (.eidx 1) [.inp 14, .inp 20],
.chk [] (.eload 1 false) [q2_178],
.chk [] (.bin .lss) [q2_179, zi 0],
.chk [(q2_180, false)] (.eidx 1) [.inp 14, .inp 20],
.chk [(q2_180, false)] (.eload 1 false) [q2_178],
.chk [(q2_180, false)] .len [.inp 0],
.chk [(q2_180, false)] (.bin .geq) [q2_179, ln (.inp 0)],
.chk [] .pick [q2_180, bT, q2_181]] <|
.seg [.bind 21 (pk q2_180 bT q2_181)] <|
.cond (.inp 21)
 (.ret (zi 2))
 (ck (.bin .add) [.inp 20, zi 1] <|
.again 0 [bi .add (.inp 20) (zi 1)]))
 (ck .len [.inp 13] <|
.seg [.chk [] (.bin .lss) [ln (.inp 13), zi 1],
.chk [(q2_182, false)] (.bin .gtr) [ln (.inp 13), zi 12],
.chk [] .pick [q2_182, bT, q2_183],
.call 21 [(q2_184, false)] 148 [.agg (ipx 0 11), .inp 13] false,
.chk [(q2_184, false)] (.un .not) [.inp 21],
.chk [] .pick [q2_184, bT, nt (.inp 21)],
.chk [(q2_185, false)] (.eidx 3) [.inp 2, .inp 12],
.chk [(q2_185, false)] (.eoff 2) [ei 3 (.inp 2) (.inp 12)],
.chk [(q2_185, false)] (.eload 1 false) [q2_186],
.call 22 [(q2_185, false)] 149 [.inp 13, e1 q2_186] false,
.chk [(q2_185, false)] (.un .not) [.inp 22],
.chk [] .pick [q2_185, bT, nt (.inp 22)],
.call 23 [(q2_187, false)] 150 [q2_44, .inp 14] false,
.chk [(q2_187, false)] (.un .not) [.inp 23],
.chk [] .pick [q2_187, bT, nt (.inp 23)]] <|
.seg [.bind 24 (q2_184),
.bind 25 (q2_185),
.bind 26 (q2_187),
.bind 27 (pk q2_187 bT (nt (.inp 23)))] <|
.cond (.inp 27)
 (.ret (zi 110))
 (.seg [.chk [] (.eidx 2) [.inp 1, .inp 11],
.chk [] (.eoff 0) [ei 2 (.inp 1) (.inp 11)],
.chk [] (.eload 2 true) [q2_103],
.chk [] (.eidx 3) [.inp 13, zi 0],
.chk [] (.eoff 0) [ei 3 (.inp 13) (zi 0)],
.chk [] (.eload 1 false) [q2_188],
.chk [] (.eidx 3) [.inp 13, zi 0],
.chk [] (.eoff 1) [ei 3 (.inp 13) (zi 0)],
.chk [] (.eload 1 false) [q2_189],
.chk [] .isOne [q2_190],
.chk [] .isOne [q2_191],
.chk [] (.eqa [ some .i64, some .i64] true) [q2_104, q2_192],
.chk [(q2_193, false)] (.eidx 3) [.inp 2, .inp 12],
.chk [(q2_193, false)] (.eoff 0) [ei 3 (.inp 2) (.inp 12)],
.chk [(q2_193, false)] (.eload 2 true) [q2_106],
.chk [(q2_193, false)] (.bin .sub) [ln (.inp 13), zi 1],
.chk [(q2_193, false)] (.eidx 3) [.inp 13, q2_194],
.chk [(q2_193, false)] (.eoff 0) [q2_195],
.chk [(q2_193, false)] (.eload 1 false) [q2_196],
.chk [(q2_193, false)] (.bin .sub) [ln (.inp 13), zi 1],
.chk [(q2_193, false)] (.eidx 3) [.inp 13, q2_194],
.chk [(q2_193, false)] (.eoff 2) [q2_195],
.chk [(q2_193, false)] (.eload 1 false) [q2_197],
.chk [(q2_193, false)] .isOne [q2_198],
.chk [(q2_193, false)] .isOne [q2_199],
.chk [(q2_193, false)] (.eqa [ some .i64, some .i64] true) [q2_108, q2_200],
.chk [] .pick [q2_193, bT, q2_201]] <|
.seg [.bind 28 (q2_193),
.bind 29 (q2_201),
.bind 30 (pk q2_193 bT q2_201)] <|
.cond (.inp 30)
 (.ret (zi 110))
 (.loop 0 31 [zi 1] <|
 ck (.bin .lss) [.inp 31, ln (.inp 13)] <|
.cond (bi .lss (.inp 31) (ln (.inp 13)))
 (.seg [.chk [] (.eidx 3) [.inp 13, .inp 31],
.chk [] (.eoff 0) [q2_202],
.chk [] (.eload 1 false) [q2_203],
.chk [] (.eidx 3) [.inp 13, .inp 31],
.chk [] (.eoff 1) [q2_202],
.chk [] (.eload 1 false) [q2_204],
.chk [] .isOne [q2_205],
.chk [] .isOne [q2_206],
.call 32 [] 151 [.agg (ipx 0 11), .agg [q2_205, q2_206]] false,
.chk [] (.bin .geq) [.inp 32, zi 0]] <|
.cond (bi .geq (.inp 32) (zi 0))
 (.ret (zi 110))
 (ck (.bin .add) [.inp 31, zi 1] <|
.again 0 [bi .add (.inp 31) (zi 1)]))
 (.ret (zi 0))))))
theorem run_lockbarref11_Check : runF E 118 [.agg (ips 0 11), .agg [.inp 11, .inp 12, .inp 13], .inp 14] 15 = rt_lockbarref11_Check := by kernel_rfl
def rt_lockbarref13_Clash : RT :=
.seg [.chk [] (.szs 3) [.inp 0],
.chk [] .app [.app .lst [], .inp 0]] <|
.seg [.chk [] (.szs 3) [.inp 1],
.chk [] .app [q2_207, .inp 1]] <|
.loop 0 2 [zi 0] <|
 ck .len [q2_208] <|
 ck (.bin .lss) [.inp 2, q2_209] <|
.cond (bi .lss (.inp 2) q2_209)
 (.loop 1 3 [zi 0] <|
 ck (.bin .lss) [.inp 3, .inp 2] <|
.cond (q2_158)
 (.seg [.chk [] (.eidx 3) [q2_208, .inp 2],
.chk [] (.inr 4294967296) [.inp 2],
.chk [] (.rowget 3 0 1 false) [q2_208, .inp 2],
.chk [] (.eidx 3) [q2_208, .inp 3],
.chk [] (.inr 4294967296) [.inp 3],
.chk [] (.rowget 3 0 1 false) [q2_208, .inp 3],
.chk [] (.bin .eql) [q2_210, q2_211],
.chk [(q2_212, true)] (.eidx 3) [q2_208, .inp 2],
.chk [(q2_212, true)] (.inr 4294967296) [.inp 2],
.chk [(q2_212, true)] (.rowget 3 1 1 false) [q2_208, .inp 2],
.chk [(q2_212, true)] (.eidx 3) [q2_208, .inp 3],
.chk [(q2_212, true)] (.inr 4294967296) [.inp 3],
.chk [(q2_212, true)] (.rowget 3 1 1 false) [q2_208, .inp 3],
.chk [(q2_212, true)] (.bin .neq) [q2_213, q2_214],
.chk [] .pick [q2_212, q2_215, bF]] <|
.seg [.bind 4 (q2_212),
.bind 5 (q2_215),
.bind 6 (pk q2_212 q2_215 bF)] <|
.cond (.inp 6)
 (.ret (bT))
 (ck (.bin .add) [.inp 3, zi 1] <|
.again 1 [bi .add (.inp 3) (zi 1)]))
 (ck (.bin .add) [.inp 2, zi 1] <|
.again 0 [bi .add (.inp 2) (zi 1)]))
 (.ret (bF))
theorem run_lockbarref13_Clash : runF E 152 [.inp 0, .inp 1] 2 = rt_lockbarref13_Clash := by kernel_rfl
def rt_lockbarref13_Fine : RT :=
 ck (.isAgg 11) [.agg (ipx 0 11)] <|
 ck (.isAgg 3) [q2_44] <|
.seg [.call 14 [] 76 [.agg (ipx 0 11), q2_44] false] <|
.seg [.call 15 [] 152 [.inp 14, .nils] false] <|
 ck (.un .not) [.inp 15] <|
.ret (nt (.inp 15))
theorem run_lockbarref13_Fine : runF E 119 [.agg (ips 0 11), .agg [.inp 11, .inp 12, .inp 13]] 14 = rt_lockbarref13_Fine := by kernel_rfl
def rt_tick_on : RT :=
 ck .isOne [.inp 1] <|
 ck (.eaidx 2 1) [q2_216, .inp 0] <|
 ck (.eload 1 false) [q2_217] <|
 ck (.mm false) [.inp 1, q2_218] <|
 ck (.mm true) [zi 0, q2_219] <|
.seg [.bind 3 (.app (.mm true) [zi 0, q2_219])] <|
 ck .isOne [.inp 3] <|
 ck .isOne [.inp 0] <|
 ck .isOne [.inp 3] <|
 ck .isOne [.inp 2] <|
.seg [.chk [] (.mm true) [.inp 2, zi 0],
.chk [] (.eaidx 2 1) [q2_216, .inp 0],
.chk [] (.eload 1 false) [q2_217],
.chk [] (.bin .sub) [q2_218, .inp 3],
.chk [] (.mm false) [q2_220, q2_221],
.chk [] .isOne [q2_222]] <|
.seg [.bind 4 (q2_222)] <|
 ck (.bin .gtr) [.inp 4, zi 0] <|
.cond (bi .gtr (.inp 4) (zi 0))
 (ck (.bin .add) [.inp 3, .inp 4] <|
 ck .isOne [q2_223] <|
.ret (q2_223))
 (.ret (.inp 3))
theorem run_tick_on : runF E 196 [.inp 0, .inp 1, .inp 2] 3 = rt_tick_on := by kernel_rfl
def rt_tick_Next : RT :=
.seg [.call 1 [] 196 [zi 0, .inp 0, zi 1] false] <|
.ret (.inp 1)
theorem run_tick_Next : runF E 172 [.inp 0] 1 = rt_tick_Next := by kernel_rfl
end
end Go.Lb.LK
namespace Go.Lb.LK
open Go Go.Lb Go.Proofs
noncomputable section
@[simp] def q3_0 : SE := bi .lss (.inp 64) (ln (.inp 63))
@[simp] def q3_1 : SE := ei 3 (.inp 63) (.inp 64)
@[simp] def q3_2 : SE := el 3 q3_1
@[simp] def q3_3 : SE := pt 1 q3_2
@[simp] def q3_4 : SE := bi .geq (.inp 64) (zi 0)
@[simp] def q3_5 : SE := bi .add (.inp 64) (zi 1)
@[simp] def q3_6 : SE := .agg (ptx (.inp 63) 8 12)
@[simp] def q3_7 : SE := .agg (ptx (.inp 63) 0 23)
@[simp] def q3_8 : SE := ei 3 (pt 3 (.inp 63)) (.inp 65)
@[simp] def q3_9 : SE := .app (.eoff 0) [q3_8]
@[simp] def q3_10 : SE := bi .eql (.inp 65) (zi 0)
@[simp] def q3_11 : SE := bi .sub (.inp 65) (zi 1)
@[simp] def q3_12 : SE := .app (.aidx 12 1 0 1 false) [.agg (ipx 66 12), q3_11]
@[simp] def q3_13 : SE := pk q3_10 bT q3_12
@[simp] def q3_14 : SE := bi .add (.inp 65) (zi 1)
@[simp] def q3_15 : SE := pk (.inp 78) q3_13 bF
@[simp] def q3_16 : SE := .agg [q3_15]
@[simp] def q3_17 : SE := bi .sub (ln (pt 3 (.inp 63))) (zi 1)
@[simp] def q3_18 : SE := bi .leq (pt 7 (.inp 63)) q3_17
@[simp] def q3_19 : SE := .app (.aidx 12 1 0 1 false) [.agg (ipx 66 12), pt 7 (.inp 63)]
@[simp] def q3_20 : SE := pk q3_18 q3_19 bF
@[simp] def q3_21 : SE := bi .eql (pt 7 (.inp 63)) q3_17
@[simp] def q3_22 : SE := bi .add (pt 7 (.inp 63)) (zi 1)
@[simp] def q3_23 : SE := .app (.aidx 12 1 0 1 false) [.agg (ipx 66 12), q3_22]
@[simp] def q3_24 : SE := pk q3_21 bT q3_23
@[simp] def q3_25 : SE := pk q3_20 q3_24 bF
@[simp] def q3_26 : SE := ei 3 (pt 3 (.inp 63)) (pt 7 (.inp 63))
@[simp] def q3_27 : SE := .app (.eoff 0) [q3_26]
@[simp] def q3_28 : SE := e1 q3_27
@[simp] def q3_29 : SE := .app (.aidx 12 1 0 1 false) [.agg (ipx 66 12), q3_17]
@[simp] def q3_30 : SE := bi .geq (.inp 85) (.inp 8)
@[simp] def q3_31 : SE := pk (pt 20 (.inp 63)) bT q3_30
@[simp] def q3_32 : SE := bi .gtr (pt 7 (.inp 63)) q3_17
@[simp] def q3_33 : SE := pk q3_31 bT q3_32
@[simp] def q3_34 : SE := .agg (ap (ptx (.inp 63) 0 8) (ap (ipx 66 12) [.inp 86, .inp 85, pt 22 (.inp 63)]))
@[simp] def q3_35 : SE := pk (pt 20 (.inp 63)) bT q3_32
@[simp] def q3_36 : SE := .agg (ap (ptx (.inp 63) 0 8) (ap (ipx 66 12) [.inp 85, pt 21 (.inp 63), pt 22 (.inp 63)]))
@[simp] def q3_37 : SE := bi .leq (.inp 95) q3_17
@[simp] def q3_38 : SE := .app (.aidx 12 1 0 1 false) [.agg (ipx 66 12), .inp 95]
@[simp] def q3_39 : SE := pk q3_37 q3_38 bF
@[simp] def q3_40 : SE := bi .eql (.inp 95) q3_17
@[simp] def q3_41 : SE := bi .add (.inp 95) (zi 1)
@[simp] def q3_42 : SE := .app (.aidx 12 1 0 1 false) [.agg (ipx 66 12), q3_41]
@[simp] def q3_43 : SE := pk q3_40 bT q3_42
@[simp] def q3_44 : SE := pk q3_39 q3_43 bF
@[simp] def q3_45 : SE := ei 3 (pt 3 (.inp 63)) (.inp 95)
@[simp] def q3_46 : SE := .app (.eoff 0) [q3_45]
@[simp] def q3_47 : SE := e1 q3_46
@[simp] def q3_48 : SE := bi .geq (.inp 102) (.inp 8)
@[simp] def q3_49 : SE := pk (pt 20 (.inp 63)) bT q3_48
@[simp] def q3_50 : SE := bi .gtr (.inp 95) q3_17
@[simp] def q3_51 : SE := pk q3_49 bT q3_50
@[simp] def q3_52 : SE := .agg (ap (ptx (.inp 63) 0 7) (ap [.inp 95] (ap (ipx 66 12) [.inp 103, .inp 102, pt 22 (.inp 63)])))
@[simp] def q3_53 : SE := pk (pt 20 (.inp 63)) bT q3_50
@[simp] def q3_54 : SE := .agg (ap (ptx (.inp 63) 0 7) (ap [.inp 95] (ap (ipx 66 12) [.inp 102, pt 21 (.inp 63), pt 22 (.inp 63)])))
@[simp] def q3_55 : SE := bi .geq (.inp 101) (.inp 8)
@[simp] def q3_56 : SE := pk (pt 20 (.inp 63)) bT q3_55
@[simp] def q3_57 : SE := pk q3_56 bT q3_50
@[simp] def q3_58 : SE := .agg (ap (ptx (.inp 63) 0 7) (ap [.inp 95] (ap (ipx 66 12) [.inp 102, .inp 101, pt 22 (.inp 63)])))
@[simp] def q3_59 : SE := .agg (ap (ptx (.inp 63) 0 7) (ap [.inp 95] (ap (ipx 66 12) [.inp 101, pt 21 (.inp 63), pt 22 (.inp 63)])))
@[simp] def q3_60 : SE := bi .geq (.inp 84) (.inp 8)
@[simp] def q3_61 : SE := pk (pt 20 (.inp 63)) bT q3_60
@[simp] def q3_62 : SE := pk q3_61 bT q3_32
@[simp] def q3_63 : SE := .agg (ap (ptx (.inp 63) 0 8) (ap (ipx 66 12) [.inp 85, .inp 84, pt 22 (.inp 63)]))
@[simp] def q3_64 : SE := .agg (ap (ptx (.inp 63) 0 8) (ap (ipx 66 12) [.inp 84, pt 21 (.inp 63), pt 22 (.inp 63)]))
@[simp] def q3_65 : SE := .agg (ap (ptx (.inp 63) 0 20) [.inp 86, .inp 85, pt 22 (.inp 63)])
@[simp] def q3_66 : SE := .agg (ap (ptx (.inp 63) 0 20) [.inp 85, pt 21 (.inp 63), pt 22 (.inp 63)])
@[simp] def q3_67 : SE := .agg (ap (ptx (.inp 63) 0 7) (ap [.inp 95] (ap (ptx (.inp 63) 8 12) [.inp 103, .inp 102, pt 22 (.inp 63)])))
@[simp] def q3_68 : SE := .agg (ap (ptx (.inp 63) 0 7) (ap [.inp 95] (ap (ptx (.inp 63) 8 12) [.inp 102, pt 21 (.inp 63), pt 22 (.inp 63)])))
@[simp] def q3_69 : SE := .agg (ap (ptx (.inp 63) 0 7) (ap [.inp 95] (ap (ptx (.inp 63) 8 12) [.inp 102, .inp 101, pt 22 (.inp 63)])))
@[simp] def q3_70 : SE := .agg (ap (ptx (.inp 63) 0 7) (ap [.inp 95] (ap (ptx (.inp 63) 8 12) [.inp 101, pt 21 (.inp 63), pt 22 (.inp 63)])))
@[simp] def q3_71 : SE := .agg (ap (ptx (.inp 63) 0 20) [.inp 85, .inp 84, pt 22 (.inp 63)])
@[simp] def q3_72 : SE := .agg (ap (ptx (.inp 63) 0 20) [.inp 84, pt 21 (.inp 63), pt 22 (.inp 63)])
@[simp] def q3_73 : SE := bi .eql (.inp 46) (.int .u8 1)
@[simp] def q3_74 : SE := bi .eql (.inp 46) (.int .u8 2)
@[simp] def q3_75 : SE := .app (.eoff 0) [ei 3 (.inp 43) (zi 0)]
@[simp] def q3_76 : SE := .agg (ptx (.inp 66) 0 23)
@[simp] def q3_77 : SE := bi .lss (.inp 11) (ln (.inp 2))
@[simp] def q3_78 : SE := bi .leq (.inp 11) (zi 20)
@[simp] def q3_79 : SE := .app (.eoff 2) [ei 3 (.inp 2) (.inp 11)]
@[simp] def q3_80 : SE := e1 q3_79
@[simp] def q3_81 : SE := ln q3_80
@[simp] def q3_82 : SE := bi .gtr (ln (.inp 0)) (zi 30)
@[simp] def q3_83 : SE := bi .gtr (ln (.inp 1)) (zi 20)
@[simp] def q3_84 : SE := pk q3_82 bT q3_83
@[simp] def q3_85 : SE := bi .gtr (ln (.inp 2)) (zi 20)
@[simp] def q3_86 : SE := pk q3_84 bT q3_85
@[simp] def q3_87 : SE := bi .gtr (ln (.inp 3)) (zi 30)
@[simp] def q3_90 : SE := bi .gtr (ln (.inp 4)) (zi 20)
@[simp] def q3_91 : SE := pk q3_87 bT q3_90
@[simp] def q3_92 : SE := bi .gtr (ln (.inp 5)) (zi 60)
def rt_pass_Stands : RT :=
 ck (.isAgg 11) [.agg (ipx 0 11)] <|
 ck (.isAgg 29) [.agg (ipx 11 29)] <|
 ck (.isAgg 23) [.agg (ipx 40 23)] <|
.seg [.call 63 [] 48 [.agg (ipx 40 23)] false] <|
 ck .len [.inp 63] <|
.loop 0 64 [zi 0] <|
 ck (.bin .lss) [.inp 64, ln (.inp 63)] <|
.cond (q3_0)
 (ck (.eidx 3) [.inp 63, .inp 64] <|
 ck (.eload 3 true) [q3_1] <|
 ck (.isAgg 3) [q3_2] <|
.seg [.call 65 [] 87 [.agg (ipx 0 11), .agg (ipx 11 29), pt 0 q3_2] false,
.chk [] (.bin .neq) [.inp 65, q3_3]] <|
.cond (bi .neq (.inp 65) q3_3)
 (ck (.bin .geq) [.inp 64, zi 0] <|
 ck (.un .not) [q3_4] <|
.ret (nt q3_4))
 (ck (.bin .add) [.inp 64, zi 1] <|
.again 0 [q3_5]))
 (ck (.bin .geq) [zi (-1), zi 0] <|
 ck (.un .not) [bF] <|
.ret (bT))
theorem run_pass_Stands : runF E 136 [.agg (ips 0 11), .agg (ips 11 29), .agg (ips 40 23)] 63 = rt_pass_Stands := by kernel_rfl
def rt_pass_asleep : RT :=
 ck (.isAgg 11) [.agg (ipx 0 11)] <|
 ck (.isAgg 29) [.agg (ipx 11 29)] <|
 ck (.isAgg 23) [.agg (ipx 40 23)] <|
.seg [.call 63 [] 81 [.agg (ipx 40 23)] false] <|
 ck (.un .not) [.inp 63] <|
.seg [.call 64 [(nt (.inp 63), false)] 43 [.agg (ipx 0 11), .agg (ipx 11 29)] false] <|
 ck .pick [nt (.inp 63), bT, .inp 64] <|
.ret (pk (nt (.inp 63)) bT (.inp 64))
theorem run_pass_asleep : runF E 135 [.agg (ips 0 11), .agg (ips 11 29), .agg (ips 40 23)] 63 = rt_pass_asleep := by kernel_rfl
def rt_pass_Run : RT :=
 ck (.isAgg 11) [.agg (ipx 0 11)] <|
 ck (.isAgg 29) [.agg (ipx 11 29)] <|
 ck (.isAgg 23) [.agg (ipx 40 23)] <|
.seg [.call 63 [] 78 [.agg (ipx 40 23)] false] <|
 ck (.isAgg 23) [.inp 63] <|
 ck .len [pt 3 (.inp 63)] <|
 ck (.bin .sub) [ln (pt 3 (.inp 63)), zi 1] <|
 ck (.isAgg 12) [q3_6] <|
.seg [.call 64 [] 135 [.agg (ipx 0 11), .agg (ipx 11 29), q3_7] false] <|
.cond (.inp 64)
 (ck (.isAgg 23) [q3_7] <|
.ret (q3_7))
 (ck (.isAgg 23) [q3_7] <|
.loop 0 65 (ptx (.inp 63) 7 13) <|
 ck .len [pt 3 (.inp 63)] <|
 ck (.bin .lss) [.inp 65, ln (pt 3 (.inp 63))] <|
.cond (bi .lss (.inp 65) (ln (pt 3 (.inp 63))))
 (ck (.eidx 3) [pt 3 (.inp 63), .inp 65] <|
 ck (.eoff 0) [q3_8] <|
 ck (.eload 1 false) [q3_9] <|
 ck (.inr 12) [.inp 65] <|
 ck (.aidx 12 1 0 1 false) [.agg (ipx 66 12), .inp 65] <|
.cond (.app (.aidx 12 1 0 1 false) [.agg (ipx 66 12), .inp 65])
 (ckg (.undef) true (.bin .eql) [.inp 65, zi 0] <|
.seg [.chk [(q3_10, false), (.undef, true)] (.bin .sub) [.inp 65, zi 1]] <|
.seg [.chk [(q3_10, false), (.undef, true)] (.inr 12) [q3_11]] <|
.seg [.chk [(q3_10, false), (.undef, true)] (.aidx 12 1 0 1 false) [.agg (ipx 66 12), q3_11]] <|
 ckg (.undef) true .pick [q3_10, bT, q3_12] <|
 ck (.inr 12) [.inp 65] <|
 ck (.inr 12) [.inp 65] <|
.seg [.bind 78 (q3_12),
.bind 79 (q3_13)] <|
 ck (.un .not) [bT] <|
 ck (.bin .add) [.inp 65, zi 1] <|
.again 0 [q3_14, .app (.cellset 0 12 1 0 1 0) [.inp 65, .inp 66, .agg [bT]], .app (.cellset 0 12 1 0 1 1) [.inp 65, .inp 67, .agg [bT]], .app (.cellset 0 12 1 0 1 2) [.inp 65, .inp 68, .agg [bT]], .app (.cellset 0 12 1 0 1 3) [.inp 65, .inp 69, .agg [bT]], .app (.cellset 0 12 1 0 1 4) [.inp 65, .inp 70, .agg [bT]], .app (.cellset 0 12 1 0 1 5) [.inp 65, .inp 71, .agg [bT]], .app (.cellset 0 12 1 0 1 6) [.inp 65, .inp 72, .agg [bT]], .app (.cellset 0 12 1 0 1 7) [.inp 65, .inp 73, .agg [bT]], .app (.cellset 0 12 1 0 1 8) [.inp 65, .inp 74, .agg [bT]], .app (.cellset 0 12 1 0 1 9) [.inp 65, .inp 75, .agg [bT]], .app (.cellset 0 12 1 0 1 10) [.inp 65, .inp 76, .agg [bT]], .app (.cellset 0 12 1 0 1 11) [.inp 65, .inp 77, .agg [bT]]])
 (.seg [.call 78 [] 137 [.agg (ipx 0 11), .agg (ipx 11 29), e1 q3_9] false] <|
 ckg (.inp 78) true (.bin .eql) [.inp 65, zi 0] <|
.seg [.chk [(q3_10, false), (.inp 78, true)] (.bin .sub) [.inp 65, zi 1]] <|
.seg [.chk [(q3_10, false), (.inp 78, true)] (.inr 12) [q3_11]] <|
.seg [.chk [(q3_10, false), (.inp 78, true)] (.aidx 12 1 0 1 false) [.agg (ipx 66 12), q3_11]] <|
 ckg (.inp 78) true .pick [q3_10, bT, q3_12] <|
 ck .pick [.inp 78, q3_13, bF] <|
 ck (.inr 12) [.inp 65] <|
.seg [.chk [] (.inr 12) [.inp 65],
.chk [] .isOne [q3_15]] <|
.seg [.bind 79 (q3_12),
.bind 80 (q3_13),
.bind 81 (q3_15),
.bind 82 (.app (.cellset 0 12 1 0 1 0) [.inp 65, .inp 66, q3_16]),
.bind 83 (.app (.cellset 0 12 1 0 1 1) [.inp 65, .inp 67, q3_16]),
.bind 84 (.app (.cellset 0 12 1 0 1 2) [.inp 65, .inp 68, q3_16]),
.bind 85 (.app (.cellset 0 12 1 0 1 3) [.inp 65, .inp 69, q3_16]),
.bind 86 (.app (.cellset 0 12 1 0 1 4) [.inp 65, .inp 70, q3_16]),
.bind 87 (.app (.cellset 0 12 1 0 1 5) [.inp 65, .inp 71, q3_16]),
.bind 88 (.app (.cellset 0 12 1 0 1 6) [.inp 65, .inp 72, q3_16]),
.bind 89 (.app (.cellset 0 12 1 0 1 7) [.inp 65, .inp 73, q3_16]),
.bind 90 (.app (.cellset 0 12 1 0 1 8) [.inp 65, .inp 74, q3_16]),
.bind 91 (.app (.cellset 0 12 1 0 1 9) [.inp 65, .inp 75, q3_16]),
.bind 92 (.app (.cellset 0 12 1 0 1 10) [.inp 65, .inp 76, q3_16]),
.bind 93 (.app (.cellset 0 12 1 0 1 11) [.inp 65, .inp 77, q3_16])] <|
 ck (.un .not) [bT] <|
 ck (.bin .add) [.inp 65, zi 1] <|
.again 0 (ap [q3_14] (ipx 82 12))))
 (ck (.eqa [ none, none, none, none, none, none, none, none, none, none, none, none] true) [.agg (ipx 66 12), q3_6] <|
.seg [.bind 78 (.app (.eqa [ none, none, none, none, none, none, none, none, none, none, none, none] true) [.agg (ipx 66 12), q3_6])] <|
.cond (.inp 78)
 (ck (.isAgg 12) [.agg (ipx 66 12)] <|
 ck (.bin .leq) [pt 7 (.inp 63), q3_17] <|
 ckg (q3_18) true (.inr 12) [pt 7 (.inp 63)] <|
 ckg (q3_18) true (.aidx 12 1 0 1 false) [.agg (ipx 66 12), pt 7 (.inp 63)] <|
 ck .pick [q3_18, q3_19, bF] <|
 ckg (q3_20) true (.bin .eql) [pt 7 (.inp 63), q3_17] <|
.seg [.chk [(q3_21, false), (q3_20, true)] (.bin .add) [pt 7 (.inp 63), zi 1]] <|
.seg [.chk [(q3_21, false), (q3_20, true)] (.inr 12) [q3_22]] <|
.seg [.chk [(q3_21, false), (q3_20, true)] (.aidx 12 1 0 1 false) [.agg (ipx 66 12), q3_22]] <|
 ckg (q3_20) true .pick [q3_21, bT, q3_23] <|
 ck .pick [q3_20, q3_24, bF] <|
 ckg (q3_25) true (.eidx 3) [pt 3 (.inp 63), pt 7 (.inp 63)] <|
 ckg (q3_25) true (.eoff 0) [q3_26] <|
 ckg (q3_25) true (.eload 1 false) [q3_27] <|
.cond (q3_25)
 (.seg [.call 79 [] 88 [.agg (ipx 0 11), .agg (ipx 11 29), q3_28] false] <|
 ck (.un .not) [.inp 79] <|
.seg [.bind 80 (q3_19),
.bind 81 (q3_20),
.bind 82 (q3_23),
.bind 83 (q3_24)] <|
.cond (.inp 79)
 (ck (.inr 12) [q3_17] <|
 ck (.aidx 12 1 0 1 false) [.agg (ipx 66 12), q3_17] <|
.seg [.bind 84 (q3_29)] <|
.cond (.inp 84)
 (.seg [.call 85 [] 172 [pt 21 (.inp 63)] false] <|
 ck .isOne [.inp 85] <|
 ckg (pt 20 (.inp 63)) false (.bin .geq) [.inp 85, .inp 8] <|
 ck .pick [pt 20 (.inp 63), bT, q3_30] <|
 ck .isOne [q3_31] <|
 ckg (q3_31) false (.bin .gtr) [pt 7 (.inp 63), q3_17] <|
 ck .pick [q3_31, bT, q3_32] <|
 ck .isOne [q3_33] <|
.seg [.bind 86 (q3_33)] <|
 ck (.isAgg 23) [q3_34] <|
.ret (q3_34))
 (ckg (pt 20 (.inp 63)) false (.bin .gtr) [pt 7 (.inp 63), q3_17] <|
 ck .pick [pt 20 (.inp 63), bT, q3_32] <|
 ck .isOne [q3_35] <|
.seg [.bind 85 (q3_35)] <|
 ck (.isAgg 23) [q3_36] <|
.ret (q3_36)))
 (ck (.bin .add) [pt 7 (.inp 63), zi 1] <|
 ck .isOne [q3_22] <|
.loop 0 84 [pt 7 (.inp 63), q3_18, q3_18, .inp 81, .inp 81, pt 7 (.inp 63), q3_26, q3_27, q3_28, pt 7 (.inp 63), q3_22, q3_22] <|
 ck (.bin .leq) [.inp 95, q3_17] <|
 ckg (q3_37) true (.inr 12) [.inp 95] <|
 ckg (q3_37) true (.aidx 12 1 0 1 false) [.agg (ipx 66 12), .inp 95] <|
 ck .pick [q3_37, q3_38, bF] <|
 ckg (q3_39) true (.bin .eql) [.inp 95, q3_17] <|
.seg [.chk [(q3_40, false), (q3_39, true)] (.bin .add) [.inp 95, zi 1]] <|
.seg [.chk [(q3_40, false), (q3_39, true)] (.inr 12) [q3_41]] <|
.seg [.chk [(q3_40, false), (q3_39, true)] (.aidx 12 1 0 1 false) [.agg (ipx 66 12), q3_41]] <|
 ckg (q3_39) true .pick [q3_40, bT, q3_42] <|
 ck .pick [q3_39, q3_43, bF] <|
 ckg (q3_44) true (.eidx 3) [pt 3 (.inp 63), .inp 95] <|
 ckg (q3_44) true (.eoff 0) [q3_45] <|
 ckg (q3_44) true (.eload 1 false) [q3_46] <|
.cond (q3_44)
 (.seg [.call 96 [] 88 [.agg (ipx 0 11), .agg (ipx 11 29), q3_47] false] <|
 ck (.un .not) [.inp 96] <|
.seg [.bind 97 (q3_38),
.bind 98 (q3_39),
.bind 99 (q3_42),
.bind 100 (q3_43)] <|
.cond (.inp 96)
 (ck (.inr 12) [q3_17] <|
 ck (.aidx 12 1 0 1 false) [.agg (ipx 66 12), q3_17] <|
.seg [.bind 101 (q3_29)] <|
.cond (.inp 101)
 (.seg [.call 102 [] 172 [pt 21 (.inp 63)] false] <|
 ck .isOne [.inp 102] <|
 ckg (pt 20 (.inp 63)) false (.bin .geq) [.inp 102, .inp 8] <|
 ck .pick [pt 20 (.inp 63), bT, q3_48] <|
 ck .isOne [q3_49] <|
 ckg (q3_49) false (.bin .gtr) [.inp 95, q3_17] <|
 ck .pick [q3_49, bT, q3_50] <|
 ck .isOne [q3_51] <|
.seg [.bind 103 (q3_51)] <|
 ck (.isAgg 23) [q3_52] <|
.ret (q3_52))
 (ckg (pt 20 (.inp 63)) false (.bin .gtr) [.inp 95, q3_17] <|
 ck .pick [pt 20 (.inp 63), bT, q3_50] <|
 ck .isOne [q3_53] <|
.seg [.bind 102 (q3_53)] <|
 ck (.isAgg 23) [q3_54] <|
.ret (q3_54)))
 (ck (.bin .add) [.inp 95, zi 1] <|
 ck .isOne [q3_41] <|
.again 0 [.inp 95, q3_37, q3_37, .inp 98, .inp 98, .inp 95, q3_45, q3_46, q3_47, .inp 95, q3_41, q3_41]))
 (.seg [.bind 96 (q3_38),
.bind 97 (q3_39),
.bind 98 (q3_42),
.bind 99 (q3_43)] <|
 ck (.inr 12) [q3_17] <|
 ck (.aidx 12 1 0 1 false) [.agg (ipx 66 12), q3_17] <|
.seg [.bind 100 (q3_29)] <|
.cond (.inp 100)
 (.seg [.call 101 [] 172 [pt 21 (.inp 63)] false] <|
 ck .isOne [.inp 101] <|
 ckg (pt 20 (.inp 63)) false (.bin .geq) [.inp 101, .inp 8] <|
 ck .pick [pt 20 (.inp 63), bT, q3_55] <|
 ck .isOne [q3_56] <|
 ckg (q3_56) false (.bin .gtr) [.inp 95, q3_17] <|
 ck .pick [q3_56, bT, q3_50] <|
 ck .isOne [q3_57] <|
.seg [.bind 102 (q3_57)] <|
 ck (.isAgg 23) [q3_58] <|
.ret (q3_58))
 (ckg (pt 20 (.inp 63)) false (.bin .gtr) [.inp 95, q3_17] <|
 ck .pick [pt 20 (.inp 63), bT, q3_50] <|
 ck .isOne [q3_53] <|
.seg [.bind 101 (q3_53)] <|
 ck (.isAgg 23) [q3_59] <|
.ret (q3_59)))))
 (.seg [.bind 79 (q3_19),
.bind 80 (q3_20),
.bind 81 (q3_23),
.bind 82 (q3_24)] <|
 ck (.inr 12) [q3_17] <|
 ck (.aidx 12 1 0 1 false) [.agg (ipx 66 12), q3_17] <|
.seg [.bind 83 (q3_29)] <|
.cond (.inp 83)
 (.seg [.call 84 [] 172 [pt 21 (.inp 63)] false] <|
 ck .isOne [.inp 84] <|
 ckg (pt 20 (.inp 63)) false (.bin .geq) [.inp 84, .inp 8] <|
 ck .pick [pt 20 (.inp 63), bT, q3_60] <|
 ck .isOne [q3_61] <|
 ckg (q3_61) false (.bin .gtr) [pt 7 (.inp 63), q3_17] <|
 ck .pick [q3_61, bT, q3_32] <|
 ck .isOne [q3_62] <|
.seg [.bind 85 (q3_62)] <|
 ck (.isAgg 23) [q3_63] <|
.ret (q3_63))
 (ckg (pt 20 (.inp 63)) false (.bin .gtr) [pt 7 (.inp 63), q3_17] <|
 ck .pick [pt 20 (.inp 63), bT, q3_32] <|
 ck .isOne [q3_35] <|
.seg [.bind 84 (q3_35)] <|
 ck (.isAgg 23) [q3_64] <|
.ret (q3_64))))
 (ck (.bin .leq) [pt 7 (.inp 63), q3_17] <|
 ckg (q3_18) true (.inr 12) [pt 7 (.inp 63)] <|
 ckg (q3_18) true (.aidx 12 1 0 1 false) [.agg (ipx 66 12), pt 7 (.inp 63)] <|
 ck .pick [q3_18, q3_19, bF] <|
 ckg (q3_20) true (.bin .eql) [pt 7 (.inp 63), q3_17] <|
.seg [.chk [(q3_21, false), (q3_20, true)] (.bin .add) [pt 7 (.inp 63), zi 1]] <|
.seg [.chk [(q3_21, false), (q3_20, true)] (.inr 12) [q3_22]] <|
.seg [.chk [(q3_21, false), (q3_20, true)] (.aidx 12 1 0 1 false) [.agg (ipx 66 12), q3_22]] <|
 ckg (q3_20) true .pick [q3_21, bT, q3_23] <|
 ck .pick [q3_20, q3_24, bF] <|
 ckg (q3_25) true (.eidx 3) [pt 3 (.inp 63), pt 7 (.inp 63)] <|
 ckg (q3_25) true (.eoff 0) [q3_26] <|
 ckg (q3_25) true (.eload 1 false) [q3_27] <|
.cond (q3_25)
 (.seg [.call 79 [] 88 [.agg (ipx 0 11), .agg (ipx 11 29), q3_28] false] <|
 ck (.un .not) [.inp 79] <|
.seg [.bind 80 (q3_19),
.bind 81 (q3_20),
.bind 82 (q3_23),
.bind 83 (q3_24)] <|
.cond (.inp 79)
 (ck (.inr 12) [q3_17] <|
 ck (.aidx 12 1 0 1 false) [.agg (ipx 66 12), q3_17] <|
.seg [.bind 84 (q3_29)] <|
.cond (.inp 84)
 (.seg [.call 85 [] 172 [pt 21 (.inp 63)] false] <|
 ck .isOne [.inp 85] <|
 ckg (pt 20 (.inp 63)) false (.bin .geq) [.inp 85, .inp 8] <|
 ck .pick [pt 20 (.inp 63), bT, q3_30] <|
 ck .isOne [q3_31] <|
 ckg (q3_31) false (.bin .gtr) [pt 7 (.inp 63), q3_17] <|
 ck .pick [q3_31, bT, q3_32] <|
 ck .isOne [q3_33] <|
.seg [.bind 86 (q3_33)] <|
 ck (.isAgg 23) [q3_65] <|
.ret (q3_65))
 (ckg (pt 20 (.inp 63)) false (.bin .gtr) [pt 7 (.inp 63), q3_17] <|
 ck .pick [pt 20 (.inp 63), bT, q3_32] <|
 ck .isOne [q3_35] <|
.seg [.bind 85 (q3_35)] <|
 ck (.isAgg 23) [q3_66] <|
.ret (q3_66)))
 (ck (.bin .add) [pt 7 (.inp 63), zi 1] <|
 ck .isOne [q3_22] <|
.loop 0 84 [pt 7 (.inp 63), q3_18, q3_18, .inp 81, .inp 81, pt 7 (.inp 63), q3_26, q3_27, q3_28, pt 7 (.inp 63), q3_22, q3_22] <|
 ck (.bin .leq) [.inp 95, q3_17] <|
 ckg (q3_37) true (.inr 12) [.inp 95] <|
 ckg (q3_37) true (.aidx 12 1 0 1 false) [.agg (ipx 66 12), .inp 95] <|
 ck .pick [q3_37, q3_38, bF] <|
 ckg (q3_39) true (.bin .eql) [.inp 95, q3_17] <|
.seg [.chk [(q3_40, false), (q3_39, true)] (.bin .add) [.inp 95, zi 1]] <|
.seg [.chk [(q3_40, false), (q3_39, true)] (.inr 12) [q3_41]] <|
.seg [.chk [(q3_40, false), (q3_39, true)] (.aidx 12 1 0 1 false) [.agg (ipx 66 12), q3_41]] <|
 ckg (q3_39) true .pick [q3_40, bT, q3_42] <|
 ck .pick [q3_39, q3_43, bF] <|
 ckg (q3_44) true (.eidx 3) [pt 3 (.inp 63), .inp 95] <|
 ckg (q3_44) true (.eoff 0) [q3_45] <|
 ckg (q3_44) true (.eload 1 false) [q3_46] <|
.cond (q3_44)
 (.seg [.call 96 [] 88 [.agg (ipx 0 11), .agg (ipx 11 29), q3_47] false] <|
 ck (.un .not) [.inp 96] <|
.seg [.bind 97 (q3_38),
.bind 98 (q3_39),
.bind 99 (q3_42),
.bind 100 (q3_43)] <|
.cond (.inp 96)
 (ck (.inr 12) [q3_17] <|
 ck (.aidx 12 1 0 1 false) [.agg (ipx 66 12), q3_17] <|
.seg [.bind 101 (q3_29)] <|
.cond (.inp 101)
 (.seg [.call 102 [] 172 [pt 21 (.inp 63)] false] <|
 ck .isOne [.inp 102] <|
 ckg (pt 20 (.inp 63)) false (.bin .geq) [.inp 102, .inp 8] <|
 ck .pick [pt 20 (.inp 63), bT, q3_48] <|
 ck .isOne [q3_49] <|
 ckg (q3_49) false (.bin .gtr) [.inp 95, q3_17] <|
 ck .pick [q3_49, bT, q3_50] <|
 ck .isOne [q3_51] <|
.seg [.bind 103 (q3_51)] <|
 ck (.isAgg 23) [q3_67] <|
.ret (q3_67))
 (ckg (pt 20 (.inp 63)) false (.bin .gtr) [.inp 95, q3_17] <|
 ck .pick [pt 20 (.inp 63), bT, q3_50] <|
 ck .isOne [q3_53] <|
.seg [.bind 102 (q3_53)] <|
 ck (.isAgg 23) [q3_68] <|
.ret (q3_68)))
 (ck (.bin .add) [.inp 95, zi 1] <|
 ck .isOne [q3_41] <|
.again 0 [.inp 95, q3_37, q3_37, .inp 98, .inp 98, .inp 95, q3_45, q3_46, q3_47, .inp 95, q3_41, q3_41]))
 (.seg [.bind 96 (q3_38),
.bind 97 (q3_39),
.bind 98 (q3_42),
.bind 99 (q3_43)] <|
 ck (.inr 12) [q3_17] <|
 ck (.aidx 12 1 0 1 false) [.agg (ipx 66 12), q3_17] <|
.seg [.bind 100 (q3_29)] <|
.cond (.inp 100)
 (.seg [.call 101 [] 172 [pt 21 (.inp 63)] false] <|
 ck .isOne [.inp 101] <|
 ckg (pt 20 (.inp 63)) false (.bin .geq) [.inp 101, .inp 8] <|
 ck .pick [pt 20 (.inp 63), bT, q3_55] <|
 ck .isOne [q3_56] <|
 ckg (q3_56) false (.bin .gtr) [.inp 95, q3_17] <|
 ck .pick [q3_56, bT, q3_50] <|
 ck .isOne [q3_57] <|
.seg [.bind 102 (q3_57)] <|
 ck (.isAgg 23) [q3_69] <|
.ret (q3_69))
 (ckg (pt 20 (.inp 63)) false (.bin .gtr) [.inp 95, q3_17] <|
 ck .pick [pt 20 (.inp 63), bT, q3_50] <|
 ck .isOne [q3_53] <|
.seg [.bind 101 (q3_53)] <|
 ck (.isAgg 23) [q3_70] <|
.ret (q3_70)))))
 (.seg [.bind 79 (q3_19),
.bind 80 (q3_20),
.bind 81 (q3_23),
.bind 82 (q3_24)] <|
 ck (.inr 12) [q3_17] <|
 ck (.aidx 12 1 0 1 false) [.agg (ipx 66 12), q3_17] <|
.seg [.bind 83 (q3_29)] <|
.cond (.inp 83)
 (.seg [.call 84 [] 172 [pt 21 (.inp 63)] false] <|
 ck .isOne [.inp 84] <|
 ckg (pt 20 (.inp 63)) false (.bin .geq) [.inp 84, .inp 8] <|
 ck .pick [pt 20 (.inp 63), bT, q3_60] <|
 ck .isOne [q3_61] <|
 ckg (q3_61) false (.bin .gtr) [pt 7 (.inp 63), q3_17] <|
 ck .pick [q3_61, bT, q3_32] <|
 ck .isOne [q3_62] <|
.seg [.bind 85 (q3_62)] <|
 ck (.isAgg 23) [q3_71] <|
.ret (q3_71))
 (ckg (pt 20 (.inp 63)) false (.bin .gtr) [pt 7 (.inp 63), q3_17] <|
 ck .pick [pt 20 (.inp 63), bT, q3_32] <|
 ck .isOne [q3_35] <|
.seg [.bind 84 (q3_35)] <|
 ck (.isAgg 23) [q3_72] <|
.ret (q3_72))))))
theorem run_pass_Run : runF E 138 [.agg (ips 0 11), .agg (ips 11 29), .agg (ips 40 23)] 63 = rt_pass_Run := by kernel_rfl
def rt_pass_Tick : RT :=
 ck (.isAgg 11) [.agg (ipx 0 11)] <|
 ck (.isAgg 29) [.agg (ipx 11 29)] <|
 ck (.isAgg 23) [.agg (ipx 40 23)] <|
.seg [.call 63 [] 135 [.agg (ipx 0 11), .agg (ipx 11 29), .agg (ipx 40 23)] false] <|
.cond (.inp 63)
 (.seg [.call 64 [] 78 [.agg (ipx 40 23)] false] <|
 ck (.isAgg 23) [.inp 64] <|
.ret (.agg (ptx (.inp 64) 0 23)))
 (ck (.bin .eql) [.inp 46, .int .u8 1] <|
.seg [.call 64 [(q3_73, true)] 136 [.agg (ipx 0 11), .agg (ipx 11 29), .agg (ipx 40 23)] false] <|
 ck .pick [q3_73, .inp 64, bF] <|
.cond (pk q3_73 (.inp 64) bF)
 (.seg [.call 65 [] 78 [.agg (ap (ipx 40 6) (ap [.int .u8 2] (ipx 47 16)))] false] <|
 ck (.isAgg 23) [.inp 65] <|
.ret (.agg (ptx (.inp 65) 0 23)))
 (.seg [.chk [] (.bin .eql) [.inp 46, .int .u8 2],
.chk [(q3_74, true)] (.eidx 3) [.inp 43, zi 0],
.chk [(q3_74, true)] (.eoff 0) [ei 3 (.inp 43) (zi 0)],
.chk [(q3_74, true)] (.eload 1 false) [q3_75],
.call 65 [(q3_74, true)] 137 [.agg (ipx 0 11), .agg (ipx 11 29), e1 q3_75] false,
.chk [] .pick [q3_74, .inp 65, bF]] <|
.cond (pk q3_74 (.inp 65) bF)
 (.seg [.call 66 [] 138 [.agg (ipx 0 11), .agg (ipx 11 29), .agg (ap (ipx 40 6) (ap [.int .u8 3] (ap (ipx 47 14) [zi 0, .inp 62])))] false] <|
 ck (.isAgg 23) [.inp 66] <|
.ret (q3_76))
 (ck (.bin .eql) [.inp 46, .int .u8 3] <|
.cond (bi .eql (.inp 46) (.int .u8 3))
 (.seg [.call 66 [] 138 [.agg (ipx 0 11), .agg (ipx 11 29), .agg (ipx 40 23)] false] <|
 ck (.isAgg 23) [.inp 66] <|
.ret (q3_76))
 (.seg [.call 66 [] 78 [.agg (ipx 40 23)] false] <|
 ck (.isAgg 23) [.inp 66] <|
.ret (q3_76)))))
theorem run_pass_Tick : runF E 95 [.agg (ips 0 11), .agg (ips 11 29), .agg (ips 40 23)] 63 = rt_pass_Tick := by kernel_rfl
def rt_lockbarref07_Great : RT :=
 ck (.isAgg 11) [.agg (ipx 0 11)] <|
.loop 0 11 [zi 0] <|
 ck .len [.inp 2] <|
 ck (.bin .lss) [.inp 11, ln (.inp 2)] <|
 ckg (q3_77) true (.bin .leq) [.inp 11, zi 20] <|
 ck .pick [q3_77, q3_78, bF] <|
.cond (pk q3_77 q3_78 bF)
 (ck (.eidx 3) [.inp 2, .inp 11] <|
 ck (.eoff 2) [ei 3 (.inp 2) (.inp 11)] <|
 ck (.eload 1 false) [q3_79] <|
 ck .len [q3_80] <|
 ck (.bin .gtr) [q3_81, zi 20] <|
.cond (bi .gtr q3_81 (zi 20))
 (.ret (bT))
 (ck (.bin .add) [.inp 11, zi 1] <|
.again 0 [bi .add (.inp 11) (zi 1)]))
 (ck .len [.inp 0] <|
 ck (.bin .gtr) [ln (.inp 0), zi 30] <|
 ckg (q3_82) false .len [.inp 1] <|
 ckg (q3_82) false (.bin .gtr) [ln (.inp 1), zi 20] <|
 ck .pick [q3_82, bT, q3_83] <|
 ckg (q3_84) false .len [.inp 2] <|
 ckg (q3_84) false (.bin .gtr) [ln (.inp 2), zi 20] <|
 ck .pick [q3_84, bT, q3_85] <|
 ckg (q3_86) false .len [.inp 3] <|
 ckg (q3_86) false (.bin .gtr) [ln (.inp 3), zi 30] <|
 ck .pick [q3_86, bT, q3_87] <|
.seg [.bind 12 (pk q3_86 bT q3_87),
.bind 13 (q3_84),
.bind 14 (q3_86)] <|
.ret (.inp 12))
theorem run_lockbarref07_Great : runF E 35 [.agg (ips 0 11)] 11 = rt_lockbarref07_Great := by kernel_rfl
def rt_lockbarref17_Great : RT :=
 ck (.isAgg 23) [.agg (ipx 0 23)] <|
 ck .len [.inp 3] <|
 ck (.bin .gtr) [ln (.inp 3), zi 30] <|
 ckg (q3_87) false .len [.inp 4] <|
 ckg (q3_87) false (.bin .gtr) [ln (.inp 4), zi 20] <|
 ck .pick [q3_87, bT, q3_90] <|
 ckg (q3_91) false .len [.inp 5] <|
 ckg (q3_91) false (.bin .gtr) [ln (.inp 5), zi 60] <|
 ck .pick [q3_91, bT, q3_92] <|
.seg [.bind 23 (pk q3_91 bT q3_92),
.bind 24 (q3_91)] <|
.ret (.inp 23)
theorem run_lockbarref17_Great : runF E 34 [.agg (ips 0 23)] 23 = rt_lockbarref17_Great := by kernel_rfl
end
end Go.Lb.LK
namespace Go.Lb.LK
open Go Go.Lb Go.Proofs
noncomputable section
@[simp] def q4_0 : SE := .agg (ptx (.inp 63) 0 23)
@[simp] def q4_38 : SE := .agg (ap (ptx (.inp 63) 0 6) (ap [.int .u8 3] (ap (ptx (.inp 63) 7 14) [zi 0, pt 22 (.inp 63)])))
@[simp] def q4_39 : SE := .agg (ptx (.inp 66) 0 23)
@[simp] def q4_40 : SE := .app (.mm true) [.inp 0, zi 1]
@[simp] def q4_41 : SE := bi .lss (.inp 63) (ln (.inp 43))
@[simp] def q4_42 : SE := ei 3 (.inp 43) (.inp 63)
@[simp] def q4_43 : SE := el 3 q4_42
@[simp] def q4_44 : SE := bi .geq (.inp 63) (.inp 47)
@[simp] def q4_45 : SE := pt 0 q4_43
@[simp] def q4_46 : SE := bi .add (.inp 63) (zi 1)
@[simp] def q4_47 : SE := bi .neq (pt 6 (.inp 63)) (.int .u8 4)
@[simp] def q4_48 : SE := pk q4_47 bT (.inp 64)
@[simp] def q4_49 : SE := .tup [q4_0, bF]
@[simp] def q4_50 : SE := .tup [q4_39, bF]
@[simp] def q4_51 : SE := .agg (ap (ptx (.inp 63) 0 21) [.inp 67, pt 22 (.inp 63)])
@[simp] def q4_52 : SE := .tup [q4_51, bi .eql (.inp 67) (zi 0)]
@[simp] def q4_56 : SE := .app (.mm true) [.inp 7, zi 0]
@[simp] def q4_57 : SE := bi .leq (ln (.inp 3)) q4_56
@[simp] def q4_58 : SE := .agg [.inp 0, .inp 1, .inp 2]
@[simp] def q4_59 : SE := bi .neq (.inp 0) (.inp 3)
@[simp] def q4_60 : SE := .agg [pt 0 (.inp 6), pt 1 (.inp 6), pt 2 (.inp 6)]
@[simp] def q4_61 : SE := .agg [pt 0 (.inp 5), pt 1 (.inp 5), pt 2 (.inp 5)]
@[simp] def q4_62 : SE := pk (.inp 4) bT (.inp 5)
@[simp] def q4_63 : SE := pk q4_62 bT (.inp 2)
@[simp] def q4_64 : SE := bi .eql (.inp 0) (.inp 3)
@[simp] def q4_65 : SE := pk q4_63 bT q4_64
@[simp] def q4_66 : SE := .agg [pt 0 (.inp 9), pt 1 (.inp 9), pt 2 (.inp 9)]
@[simp] def q4_67 : SE := .app (.mm false) [.inp 1, zi 999]
@[simp] def q4_68 : SE := bi .add q4_67 (zi 1)
@[simp] def q4_69 : SE := bi .leq (.inp 6) q4_68
@[simp] def q4_70 : SE := .agg [.inp 0, q4_68, q4_69]
@[simp] def q4_71 : SE := .agg [pt 0 (.inp 8), pt 1 (.inp 8), pt 2 (.inp 8)]
@[simp] def q4_72 : SE := .app (.mm false) [ln (.inp 0), zi 24]
@[simp] def q4_73 : SE := .app (.slice false true) [.inp 0, q4_72]
@[simp] def q4_74 : SE := ln q4_73
@[simp] def q4_75 : SE := ei 1 q4_73 (.inp 1)
@[simp] def q4_76 : SE := e1 q4_75
@[simp] def q4_77 : SE := bi .eql q4_76 (zi 0)
@[simp] def q4_78 : SE := bi .shl (.int .u32 1) (.inp 1)
@[simp] def q4_79 : SE := bi .or (.inp 2) q4_78
@[simp] def q4_80 : SE := ei 1 q4_73 (.inp 3)
@[simp] def q4_81 : SE := e1 q4_80
@[simp] def q4_82 : SE := bi .eql q4_81 (zi 1)
@[simp] def q4_83 : SE := bi .shl (.int .u32 1) (.inp 3)
@[simp] def q4_84 : SE := bi .or (.inp 4) q4_83
def rt_tick_Down : RT :=
 ck (.mm true) [.inp 0, zi 1] <|
 ck (.bin .sub) [q4_40, zi 1] <|
.ret (bi .sub q4_40 (zi 1))
theorem run_tick_Down : runF E 141 [.inp 0] 1 = rt_tick_Down := by kernel_rfl
def rt_back_In : RT :=
 ck (.isAgg 11) [.agg (ipx 0 11)] <|
 ck (.isAgg 29) [.agg (ipx 11 29)] <|
 ck (.isAgg 23) [.agg (ipx 40 23)] <|
 ck (.isAgg 11) [.agg (ipx 0 11)] <|
 ck (.isAgg 29) [.agg (ipx 11 29)] <|
 ck (.isAgg 23) [.agg (ipx 40 23)] <|
 ck (.isAgg 23) [.agg (ipx 40 23)] <|
 ck .len [.inp 43] <|
.loop 0 63 [zi 0] <|
 ck (.bin .lss) [.inp 63, ln (.inp 43)] <|
.cond (q4_41)
 (ck (.eidx 3) [.inp 43, .inp 63] <|
 ck (.eload 3 true) [q4_42] <|
 ck (.isAgg 3) [q4_43] <|
 ck (.bin .geq) [.inp 63, .inp 47] <|
.cond (q4_44)
 (.seg [.call 64 [] 88 [.agg (ipx 0 11), .agg (ipx 11 29), q4_45] false] <|
.cond (.inp 64)
 (ck (.un .not) [bF] <|
.ret (bT))
 (ck (.un .not) [bT] <|
 ck (.bin .add) [.inp 63, zi 1] <|
.again 0 [q4_46]))
 (ck (.bin .add) [.inp 63, zi 1] <|
.again 0 [q4_46]))
 (.ret (bF))
theorem run_back_In : runF E 140 [.agg (ips 0 11), .agg (ips 11 29), .agg (ips 40 23)] 63 = rt_back_In := by kernel_rfl
def rt_back_told : RT :=
 ck (.isAgg 11) [.agg (ipx 0 11)] <|
 ck (.isAgg 29) [.agg (ipx 11 29)] <|
 ck (.isAgg 23) [.agg (ipx 40 23)] <|
 ck (.isAgg 11) [.agg (ipx 0 11)] <|
 ck (.isAgg 29) [.agg (ipx 11 29)] <|
 ck (.isAgg 23) [.agg (ipx 40 23)] <|
 ck (.isAgg 23) [.agg (ipx 40 23)] <|
 ck .len [.inp 43] <|
.loop 0 63 [zi 0] <|
 ck (.bin .lss) [.inp 63, ln (.inp 43)] <|
.cond (q4_41)
 (ck (.eidx 3) [.inp 43, .inp 63] <|
 ck (.eload 3 true) [q4_42] <|
 ck (.isAgg 3) [q4_43] <|
 ck (.bin .geq) [.inp 63, .inp 47] <|
.cond (q4_44)
 (.seg [.call 64 [] 137 [.agg (ipx 0 11), .agg (ipx 11 29), q4_45] false] <|
.cond (.inp 64)
 (ck (.un .not) [bF] <|
.ret (bT))
 (ck (.un .not) [bT] <|
 ck (.bin .add) [.inp 63, zi 1] <|
.again 0 [q4_46]))
 (ck (.bin .add) [.inp 63, zi 1] <|
.again 0 [q4_46]))
 (.ret (bF))
theorem run_back_told : runF E 139 [.agg (ips 0 11), .agg (ips 11 29), .agg (ips 40 23)] 63 = rt_back_told := by kernel_rfl
def rt_back_Tick : RT :=
 ck (.isAgg 11) [.agg (ipx 0 11)] <|
 ck (.isAgg 29) [.agg (ipx 11 29)] <|
 ck (.isAgg 23) [.agg (ipx 40 23)] <|
.seg [.call 63 [] 78 [.agg (ipx 40 23)] false] <|
 ck (.isAgg 23) [.inp 63] <|
 ck (.bin .neq) [pt 6 (.inp 63), .int .u8 4] <|
.seg [.call 64 [(q4_47, false)] 43 [.agg (ipx 0 11), .agg (ipx 11 29)] false] <|
 ck .pick [q4_47, bT, .inp 64] <|
.cond (q4_48)
 (ck (.isAgg 23) [q4_0] <|
.ret (q4_49))
 (.seg [.call 65 [] 139 [.agg (ipx 0 11), .agg (ipx 11 29), q4_0] false] <|
.cond (.inp 65)
 (.seg [.call 66 [] 138 [.agg (ipx 0 11), .agg (ipx 11 29), q4_38] false] <|
 ck (.isAgg 23) [.inp 66] <|
 ck (.isAgg 23) [q4_39] <|
.ret (q4_50))
 (.seg [.call 66 [] 140 [.agg (ipx 0 11), .agg (ipx 11 29), q4_0] false] <|
.cond (.inp 66)
 (ck (.isAgg 23) [q4_0] <|
.ret (q4_49))
 (.seg [.call 67 [] 141 [pt 21 (.inp 63)] false] <|
 ck .isOne [.inp 67] <|
 ck (.bin .eql) [.inp 67, zi 0] <|
 ck (.isAgg 23) [q4_51] <|
.ret (q4_52))))
theorem run_back_Tick : runF E 100 [.agg (ips 0 11), .agg (ips 11 29), .agg (ips 40 23)] 63 = rt_back_Tick := by kernel_rfl
def rt_held_Over : RT :=
 ck (.isAgg 23) [.agg (ipx 0 23)] <|
 ckg (.inp 20) true .len [.inp 3] <|
 ckg (.inp 20) true (.mm true) [.inp 7, zi 0] <|
 ckg (.inp 20) true (.bin .leq) [ln (.inp 3), q4_56] <|
 ck .pick [.inp 20, q4_57, bF] <|
.ret (pk (.inp 20) q4_57 bF)
theorem run_held_Over : runF E 96 [.agg (ips 0 23)] 23 = rt_held_Over := by kernel_rfl
def rt_point_Call : RT :=
 ck (.isAgg 3) [q4_58] <|
 ck .isOne [.inp 3] <|
 ck (.isAgg 3) [q4_58] <|
.seg [.call 4 [] 84 [q4_58] false] <|
 ck (.un .not) [.inp 4] <|
.cond (.inp 4)
 (ck (.isAgg 3) [q4_58] <|
.seg [.call 5 [] 92 [.inp 3] false] <|
 ck (.un .not) [.inp 5] <|
.cond (.inp 5)
 (ck (.bin .neq) [.inp 0, .inp 3] <|
 ck .pick [q4_59, bT, .inp 2] <|
.cond (pk q4_59 bT (.inp 2))
 (ck .isOne [.inp 3] <|
 ck (.isAgg 3) [.agg [.inp 3, zi 0, bF]] <|
 ck (.isAgg 3) [.agg [.inp 3, zi 0, bF]] <|
 ck (.isAgg 3) [.agg [.inp 3, zi 0, bF]] <|
.ret (.agg [.inp 3, zi 0, bF]))
 (ck (.isAgg 3) [q4_58] <|
 ck (.isAgg 3) [q4_58] <|
 ck (.isAgg 3) [q4_58] <|
.ret (q4_58)))
 (.seg [.call 6 [] 93 [] false] <|
 ck (.isAgg 3) [.inp 6] <|
 ck (.isAgg 3) [q4_60] <|
 ck (.isAgg 3) [q4_60] <|
.ret (q4_60)))
 (.seg [.call 5 [] 93 [] false] <|
 ck (.isAgg 3) [.inp 5] <|
 ck (.isAgg 3) [q4_61] <|
.ret (q4_61))
theorem run_point_Call : runF E 49 [.agg [.inp 0, .inp 1, .inp 2], .inp 3] 4 = rt_point_Call := by kernel_rfl
def rt_point_Drives : RT :=
 ck (.isAgg 3) [q4_58] <|
 ck .pick [.inp 4, bT, .inp 5] <|
 ck .pick [q4_62, bT, .inp 2] <|
 ckg (q4_63) false (.bin .eql) [.inp 0, .inp 3] <|
 ck .pick [q4_63, bT, q4_64] <|
.seg [.call 6 [(q4_65, false)] 84 [q4_58] false] <|
 ckg (q4_65) false (.un .not) [.inp 6] <|
 ck .pick [q4_65, bT, nt (.inp 6)] <|
.seg [.bind 7 (q4_65),
.bind 8 (pk q4_65 bT (nt (.inp 6)))] <|
.cond (.inp 8)
 (.ret (zi (-1)))
 (.ret (.inp 0))
theorem run_point_Drives : runF E 61 [.agg [.inp 0, .inp 1, .inp 2], .inp 3, .inp 4, .inp 5] 6 = rt_point_Drives := by kernel_rfl
def rt_point_Pass : RT :=
 ck (.isAgg 3) [q4_58] <|
 ck .isOne [.inp 3] <|
 ck .isOne [.inp 4] <|
 ck .isOne [.inp 5] <|
 ck .isOne [.inp 6] <|
 ck (.isAgg 3) [q4_58] <|
.seg [.call 7 [] 84 [q4_58] false] <|
 ck (.un .not) [.inp 7] <|
.cond (.inp 7)
 (ck (.isAgg 3) [q4_58] <|
.seg [.call 8 [] 92 [.inp 0] false] <|
 ckg (.inp 8) true (.bin .eql) [.inp 0, .inp 3] <|
 ck .pick [.inp 8, q4_64, bF] <|
.cond (pk (.inp 8) q4_64 bF)
 (.seg [.call 9 [] 93 [] false] <|
 ck (.isAgg 3) [.inp 9] <|
 ck (.isAgg 3) [q4_66] <|
 ck (.isAgg 3) [q4_66] <|
.ret (q4_66))
 (.seg [.call 9 [] 61 [q4_58, .inp 3, .inp 4, .inp 5] false] <|
 ck (.bin .lss) [.inp 9, zi 0] <|
.cond (bi .lss (.inp 9) (zi 0))
 (ck (.isAgg 3) [q4_58] <|
 ck (.isAgg 3) [q4_58] <|
 ck (.isAgg 3) [q4_58] <|
.ret (q4_58))
 (ck (.mm false) [.inp 1, zi 999] <|
 ck (.bin .add) [q4_67, zi 1] <|
 ck .isOne [q4_68] <|
 ck (.bin .leq) [.inp 6, q4_68] <|
 ck .isOne [q4_69] <|
 ck (.isAgg 3) [q4_70] <|
 ck (.isAgg 3) [q4_70] <|
 ck (.isAgg 3) [q4_70] <|
.ret (q4_70))))
 (.seg [.call 8 [] 93 [] false] <|
 ck (.isAgg 3) [.inp 8] <|
 ck (.isAgg 3) [q4_71] <|
.ret (q4_71))
theorem run_point_Pass : runF E 45 (ap [.agg [.inp 0, .inp 1, .inp 2]] (ips 3 4)) 7 = rt_point_Pass := by kernel_rfl
def rt_point_Bits : RT :=
 ck .isOne [.inp 0] <|
 ck .len [.inp 0] <|
 ck (.mm false) [ln (.inp 0), zi 24] <|
.seg [.chk [] (.szs 1) [.inp 0],
.chk [] (.slice false true) [.inp 0, q4_72]] <|
 ck .len [q4_73] <|
.loop 0 1 [zi 0, .int .u32 0] <|
 ck (.bin .lss) [.inp 1, q4_74] <|
.cond (bi .lss (.inp 1) q4_74)
 (ck (.eidx 1) [q4_73, .inp 1] <|
 ck (.eload 1 false) [q4_75] <|
 ck (.bin .eql) [q4_76, zi 0] <|
 ckg (q4_77) true (.bin .shl) [.int .u32 1, .inp 1] <|
.cond (q4_77)
 (ck (.bin .or) [.inp 2, q4_78] <|
 ck .isOne [q4_79] <|
 ck (.un .not) [bT] <|
 ck (.bin .add) [.inp 1, zi 1] <|
.again 0 [bi .add (.inp 1) (zi 1), q4_79])
 (ck (.bin .add) [.inp 1, zi 1] <|
.again 0 [bi .add (.inp 1) (zi 1), .inp 2]))
 (ck .isOne [.inp 0] <|
 ck .len [.inp 0] <|
 ck (.mm false) [ln (.inp 0), zi 24] <|
.seg [.chk [] (.szs 1) [.inp 0],
.chk [] (.slice false true) [.inp 0, q4_72]] <|
 ck .len [q4_73] <|
.loop 0 3 [zi 0, .int .u32 0] <|
 ck (.bin .lss) [.inp 3, q4_74] <|
.cond (bi .lss (.inp 3) q4_74)
 (ck (.eidx 1) [q4_73, .inp 3] <|
 ck (.eload 1 false) [q4_80] <|
 ck (.bin .eql) [q4_81, zi 1] <|
 ckg (q4_82) true (.bin .shl) [.int .u32 1, .inp 3] <|
.cond (q4_82)
 (ck (.bin .or) [.inp 4, q4_83] <|
 ck .isOne [q4_84] <|
 ck (.un .not) [bT] <|
 ck (.bin .add) [.inp 3, zi 1] <|
.again 0 [bi .add (.inp 3) (zi 1), q4_84])
 (ck (.bin .add) [.inp 3, zi 1] <|
.again 0 [bi .add (.inp 3) (zi 1), .inp 4]))
 (.seg [.chk [] .isOne [.inp 2],
.chk [] .isOne [.inp 4]] <|
.ret (.tup [.inp 2, .inp 4])))
theorem run_point_Bits : runF E 62 [.inp 0] 1 = rt_point_Bits := by kernel_rfl
end
end Go.Lb.LK
namespace Go.Lb.LK
open Go Go.Lb Go.Proofs
noncomputable section
@[simp] def q5_0 : SE := ln (e1 (.ref [.inp 137] 0))
@[simp] def q5_1 : SE := ei 3 (e1 (.ref [.inp 137] 0)) (.inp 139)
@[simp] def q5_2 : SE := el 3 q5_1
@[simp] def q5_3 : SE := el 11 (.ref (ips 0 11) 0)
@[simp] def q5_4 : SE := el 29 (.ref (ips 11 29) 0)
@[simp] def q5_5 : SE := pt 0 q5_2
@[simp] def q5_6 : SE := pt 1 q5_2
@[simp] def q5_7 : SE := bi .add (.inp 139) (zi 1)
def rt_kernel_fails : RT :=
 ck (.isAgg 11) [.agg (ips 0 11)] <|
 ck (.isAgg 29) [.agg (ips 11 29)] <|
 ck (.isAgg 74) [.agg (ips 40 74)] <|
 ck (.isAgg 23) [.agg (ips 114 23)] <|
.seg [.call 137 [] 48 [.agg (ips 114 23)] false,
.call 138 [] 47 [.agg (ips 0 11), .agg (ips 11 29), .inp 137] false,
.same 138 [] (.clo 101 [] [.ref [.inp 137] 0, .ref (ips 0 11) 0, .ref (ips 11 29) 0])] <|
 ck (.eload 1 false) [.ref [.inp 137] 0] <|
 ck .len [e1 (.ref [.inp 137] 0)] <|
.loop 0 139 [zi 0] <|
 ck (.bin .lss) [.inp 139, q5_0] <|
.cond (bi .lss (.inp 139) q5_0)
 (ck (.eidx 3) [e1 (.ref [.inp 137] 0), .inp 139] <|
 ck (.eload 3 true) [q5_1] <|
 ck (.isAgg 3) [q5_2] <|
.seg [.chk [] (.eload 11 true) [.ref (ips 0 11) 0],
.chk [] (.eload 29 true) [.ref (ips 11 29) 0],
.call 140 [] 87 [q5_3, q5_4, q5_5] false,
.chk [] (.bin .neq) [.inp 140, q5_6]] <|
.cond (bi .neq (.inp 140) q5_6)
 (ck (.isAgg 3) [.agg [q5_5, q5_6, pt 2 q5_2]] <|
 ck (.inr 24) [q5_5] <|
 ck (.inr 24) [q5_5] <|
 ck (.aidx 24 3 4 1 false) [.agg (ips 40 74), q5_5] <|
.seg [.bind 141 (.app (.aidx 24 3 4 1 false) [.agg (ips 40 74), q5_5])] <|
.cond (.inp 141)
 (ck (.un .not) [bF] <|
.seg [.bind 142 (q5_3),
.bind 143 (q5_4)] <|
.ret (bT))
 (ck (.un .not) [bT] <|
.seg [.bind 142 (q5_3),
.bind 143 (q5_4)] <|
 ck (.bin .add) [.inp 139, zi 1] <|
.again 0 [q5_7]))
 (.seg [.bind 141 (q5_3),
.bind 142 (q5_4)] <|
 ck (.bin .add) [.inp 139, zi 1] <|
.again 0 [q5_7]))
 (.ret (bF))
theorem run_kernel_fails : runF E 98 [.agg (ips 0 11), .agg (ips 11 29), .agg (ips 40 74), .agg (ips 114 23)] 137 = rt_kernel_fails := by kernel_rfl
end
end Go.Lb.LK
