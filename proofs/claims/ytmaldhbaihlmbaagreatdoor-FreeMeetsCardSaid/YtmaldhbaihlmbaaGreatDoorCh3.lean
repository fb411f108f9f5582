/- What functions come to, printed by a program, checked by the kernel. -/
import Derived.Test.YtmaldhbaihlmbaaGreatDoorCh1
import Derived.Test.YtmaldhbaihlmbaaGreatDoorCh2
import Derived.Shelf.Small.Bits
import Derived.Shelf.Strconv.Itoa0
import Derived.Shelf.Sort.Plain
import Derived.Ground.Names2Prog
import Derived.Shelf.Slices.CompactI
import Derived.Test.YtmaldhbaihlmbaaGreatDoorProg
import Derived.Test.YtmaldhbaihlmbaaGreatDoorFw11
set_option linter.unusedSimpArgs false
set_option linter.unusedVariables false
namespace Go.Lb.LK
open Go Go.Lb Go.Proofs
noncomputable section
@[simp] def q3_35 : SE := .app (.eqa [ some .i64, some .i64] false) [.agg [.inp 0, .inp 1], .agg [zi (-1), zi 0]]
@[simp] def q3_36 : SE := bi .lss (.inp 0) (zi 24)
@[simp] def q3_37 : SE := pk (bi .geq (.inp 0) (zi 0)) q3_36 bF
@[simp] def q3_38 : SE := pk q3_37 (bi .geq (.inp 1) (zi 0)) bF
@[simp] def q3_39 : SE := pk q3_38 (bi .lss (.inp 1) (zi 4)) bF
@[simp] def q3_40 : SE := bi .lss (.inp 11) (.inp 12)
@[simp] def q3_41 : SE := .app (.aidx 4 2 1 2 true) [.agg (ipx 0 11), .inp 11]
@[simp] def q3_42 : SE := pk q3_40 (nt (.inp 13)) bF
@[simp] def q3_43 : SE := bi .geq (.inp 11) (.inp 14)
@[simp] def q3_44 : SE := .app (.eqa [ some .i64, some .i64] true) [q3_41, .agg [zi (-1), zi 0]]
@[simp] def q3_45 : SE := pk q3_43 q3_44 bF
@[simp] def q3_46 : SE := bi .add (.inp 11) (zi 1)
@[simp] def q3_47 : SE := .app (.aidx 2 1 9 1 false) [.agg (ipx 0 11), .inp 12]
@[simp] def q3_48 : SE := bi .lss q3_47 (zi 0)
@[simp] def q3_49 : SE := bi .gtr q3_47 (zi 3)
@[simp] def q3_50 : SE := pk q3_48 bT q3_49
@[simp] def q3_51 : SE := bi .geq (.inp 12) (.inp 13)
@[simp] def q3_52 : SE := bi .neq q3_47 (zi 0)
@[simp] def q3_53 : SE := pk q3_51 q3_52 bF
@[simp] def q3_54 : SE := bi .add (.inp 12) (zi 1)
@[simp] def q3_55 : SE := .app (.aidx 4 2 1 1 false) [.agg (ipx 11 11), .inp 22]
@[simp] def q3_56 : SE := bi .geq q3_55 (zi 0)
@[simp] def q3_57 : SE := .app (.aidx 4 2 1 2 true) [.agg (ipx 11 11), .inp 22]
@[simp] def q3_58 : SE := .agg [.inp 11, .inp 12, .inp 13]
@[simp] def q3_59 : SE := ei 3 (.inp 13) (.inp 14)
@[simp] def q3_60 : SE := bi .add (.inp 14) (zi 1)
@[simp] def q3_61 : SE := bi .leq (ln (.inp 13)) (zi 2)
@[simp] def q3_62 : SE := bi .lss (.inp 11) (zi 0)
@[simp] def q3_63 : SE := bi .geq (.inp 11) (ln (.inp 0))
@[simp] def q3_64 : SE := pk q3_62 bT q3_63
@[simp] def q3_65 : SE := bi .lss (.inp 13) (zi 0)
@[simp] def q3_66 : SE := pk q3_64 bT q3_65
@[simp] def q3_67 : SE := bi .geq (.inp 13) (ln (.inp 0))
@[simp] def q3_68 : SE := pk q3_66 bT q3_67
@[simp] def q3_69 : SE := bi .eql (.inp 11) (.inp 13)
@[simp] def q3_70 : SE := pk q3_68 bT q3_69
@[simp] def q3_71 : SE := bi .lss (.inp 14) (zi 0)
@[simp] def q3_72 : SE := pk q3_70 bT q3_71
@[simp] def q3_73 : SE := bi .gtr (.inp 14) (zi 1)
@[simp] def q3_74 : SE := bi .geq (.inp 12) (zi 0)
@[simp] def q3_75 : SE := ei 11 (.inp 0) (.inp 11)
@[simp] def q3_76 : SE := .app (.eoff 0) [q3_75]
@[simp] def q3_77 : SE := e1 q3_76
@[simp] def q3_78 : SE := bi .lss (.inp 12) (.inp 20)
@[simp] def q3_79 : SE := pk q3_74 q3_78 bF
@[simp] def q3_80 : SE := ei 11 (.inp 0) (.inp 13)
@[simp] def q3_81 : SE := .app (.eoff 0) [q3_80]
@[simp] def q3_82 : SE := e1 q3_81
@[simp] def q3_83 : SE := bi .eql q3_82 (.int .u8 2)
@[simp] def q3_84 : SE := .app (.aidx 7 1 0 1 false) [.agg (ipx 0 7), .inp 7]
@[simp] def q3_85 : SE := bi .lss q3_84 (zi 1)
@[simp] def q3_86 : SE := bi .gtr q3_84 (zi 1000)
@[simp] def q3_87 : SE := bi .lss (.inp 11) (ln (.inp 0))
@[simp] def q3_88 : SE := el 11 q3_75
@[simp] def q3_89 : SE := .app (.eoff 0) [ei 2 (.inp 1) (.inp 12)]
@[simp] def q3_90 : SE := el 2 q3_89
@[simp] def q3_91 : SE := bi .add (.inp 13) (zi 1)
@[simp] def q3_92 : SE := bi .leq (ln (.inp 0)) (zi 24)
@[simp] def q3_93 : SE := bi .leq (ln (.inp 1)) (zi 12)
@[simp] def q3_94 : SE := pk q3_92 q3_93 bF
@[simp] def q3_95 : SE := bi .leq (ln (.inp 2)) (zi 12)
@[simp] def q3_96 : SE := pk q3_94 q3_95 bF
@[simp] def q3_97 : SE := bi .leq (ln (.inp 3)) (zi 16)
@[simp] def q3_98 : SE := pk q3_96 q3_97 bF
@[simp] def q3_99 : SE := .app (.eoff 0) [ei 2 (.inp 1) (.inp 13)]
@[simp] def q3_100 : SE := el 2 q3_99
@[simp] def q3_101 : SE := bi .geq (.inp 11) (zi 0)
@[simp] def q3_102 : SE := pk q3_101 q3_87 bF
@[simp] def q3_103 : SE := pk q3_102 q3_74 bF
@[simp] def q3_104 : SE := bi .lss (.inp 12) (.inp 13)
@[simp] def q3_105 : SE := .app (.eoff 1) [q3_75]
@[simp] def q3_106 : SE := .app (.eaidx 4 2) [q3_105, .inp 12]
@[simp] def q3_107 : SE := el 2 q3_106
@[simp] def q3_108 : SE := bi .lss (.inp 11) (zi 24)
@[simp] def q3_109 : SE := .agg (ptx (q3_88) 0 11)
@[simp] def q3_110 : SE := .app (.aidx 4 2 1 2 true) [q3_109, .inp 13]
@[simp] def q3_111 : SE := .app (.eqa [ some .i64, some .i64] true) [.agg [.inp 16, .inp 17], .inp 18]
@[simp] def q3_112 : SE := bi .eql (.inp 16) (.inp 11)
@[simp] def q3_113 : SE := pk (nt (.inp 19)) bT q3_112
@[simp] def q3_114 : SE := .app (.eqa [ some .i64, some .i64] true) [.inp 20, .agg [.inp 11, .inp 13]]
@[simp] def q3_115 : SE := pk q3_113 bT q3_114
@[simp] def q3_116 : SE := bi .lss (.inp 12) (.inp 11)
@[simp] def q3_117 : SE := .app (.eoff 0) [ei 2 (.inp 1) (.inp 11)]
@[simp] def q3_118 : SE := el 2 q3_117
@[simp] def q3_119 : SE := bi .lss (.inp 11) (ln (.inp 2))
@[simp] def q3_120 : SE := .app (.eoff 0) [ei 3 (.inp 2) (.inp 12)]
@[simp] def q3_121 : SE := .app (.eoff 0) [ei 3 (.inp 2) (.inp 11)]
@[simp] def q3_122 : SE := el 2 q3_120
@[simp] def q3_123 : SE := el 2 q3_121
@[simp] def q3_124 : SE := pk (nt (.inp 12)) bT q3_62
@[simp] def q3_125 : SE := bi .geq (.inp 11) (ln (.inp 2))
@[simp] def q3_126 : SE := .app (.eoff 2) [ei 3 (.inp 2) (.inp 11)]
@[simp] def q3_127 : SE := e1 q3_126
@[simp] def q3_128 : SE := ln q3_127
@[simp] def q3_129 : SE := ei 3 q3_127 (.inp 14)
@[simp] def q3_130 : SE := .app (.eoff 0) [q3_129]
@[simp] def q3_131 : SE := .app (.eoff 1) [q3_129]
@[simp] def q3_132 : SE := e1 q3_130
@[simp] def q3_133 : SE := e1 q3_131
@[simp] def q3_134 : SE := .agg [q3_132, q3_133]
@[simp] def q3_135 : SE := .app (.eqa [ some .i64, some .i64] true) [.inp 17, q3_134]
@[simp] def q3_136 : SE := .app (.eoff 0) [q3_121]
@[simp] def q3_137 : SE := e1 q3_136
@[simp] def q3_138 : SE := bi .eql q3_132 q3_137
@[simp] def q3_139 : SE := ei 3 q3_127 (.inp 21)
@[simp] def q3_140 : SE := .app (.eoff 0) [q3_139]
@[simp] def q3_141 : SE := e1 q3_140
@[simp] def q3_142 : SE := .app (.eoff 2) [q3_129]
@[simp] def q3_143 : SE := e1 q3_142
@[simp] def q3_144 : SE := el 4 (ei 4 (.inp 3) (.inp 12))
@[simp] def q3_145 : SE := el 4 (ei 4 (.inp 3) (.inp 11))
@[simp] def q3_146 : SE := pt 0 q3_144
@[simp] def q3_147 : SE := pt 0 q3_145
@[simp] def q3_148 : SE := bi .eql q3_146 q3_147
@[simp] def q3_149 : SE := pt 1 q3_144
@[simp] def q3_150 : SE := pt 1 q3_145
@[simp] def q3_151 : SE := bi .eql q3_149 q3_150
@[simp] def q3_152 : SE := pk q3_148 q3_151 bF
@[simp] def q3_153 : SE := pt 2 q3_144
@[simp] def q3_154 : SE := pt 2 q3_145
@[simp] def q3_155 : SE := bi .eql q3_153 q3_154
@[simp] def q3_156 : SE := .app (.aidx 4 1 0 1 false) [.agg (ipx 13 4), .inp 17]
@[simp] def q3_157 : SE := ei 3 (.inp 11) (.inp 12)
@[simp] def q3_158 : SE := bi .gtr (.inp 12) (zi 0)
@[simp] def q3_159 : SE := bi .sub (.inp 12) (zi 1)
@[simp] def q3_160 : SE := ei 3 (.inp 11) q3_159
@[simp] def q3_161 : SE := .app (.eoff 0) [q3_160]
@[simp] def q3_162 : SE := .app (.eoff 2) [q3_160]
@[simp] def q3_163 : SE := e1 q3_161
@[simp] def q3_164 : SE := e1 q3_162
@[simp] def q3_165 : SE := .app (.eoff 0) [q3_157]
@[simp] def q3_166 : SE := .app (.eoff 1) [q3_157]
@[simp] def q3_167 : SE := e1 q3_165
@[simp] def q3_168 : SE := e1 q3_166
@[simp] def q3_169 : SE := .agg [q3_167, q3_168]
@[simp] def q3_170 : SE := .app (.eqa [ some .i64, some .i64] true) [.inp 14, q3_169]
@[simp] def q3_171 : SE := pk q3_158 q3_170 bF
@[simp] def q3_172 : SE := .app (.eoff 0) [ei 3 (.inp 0) (.inp 3)]
@[simp] def q3_173 : SE := .app (.eoff 0) [ei 3 (.inp 0) (.inp 2)]
@[simp] def q3_174 : SE := e1 q3_172
@[simp] def q3_175 : SE := e1 q3_173
@[simp] def q3_176 : SE := .app (.eoff 0) [ei 3 (.inp 1) (.inp 4)]
@[simp] def q3_177 : SE := e1 q3_176
@[simp] def q3_178 : SE := bi .lss (.inp 6) (ln (.inp 2))
@[simp] def q3_179 : SE := .app (.eoff 0) [ei 3 (.inp 2) (.inp 6)]
@[simp] def q3_180 : SE := e1 q3_179
@[simp] def q3_181 : SE := e1 (ei 1 (.inp 3) (.inp 5))
@[simp] def q3_182 : SE := bi .neq q3_180 q3_181
@[simp] def q3_183 : SE := pk (nt (.inp 15)) bT q3_62
@[simp] def q3_184 : SE := bi .geq (.inp 11) (ln (.inp 1))
@[simp] def q3_185 : SE := pk q3_183 bT q3_184
@[simp] def q3_186 : SE := bi .lss (.inp 12) (zi 0)
@[simp] def q3_187 : SE := pk q3_185 bT q3_186
@[simp] def q3_188 : SE := bi .geq (.inp 12) (ln (.inp 2))
@[simp] def q3_189 : SE := pk q3_187 bT q3_188
@[simp] def q3_190 : SE := bi .gtr (ln (.inp 14)) (zi 2)
@[simp] def q3_191 : SE := ei 1 (.inp 14) (.inp 20)
@[simp] def q3_192 : SE := e1 q3_191
@[simp] def q3_193 : SE := bi .lss q3_192 (zi 0)
@[simp] def q3_194 : SE := bi .geq q3_192 (ln (.inp 0))
@[simp] def q3_195 : SE := bi .lss (ln (.inp 13)) (zi 1)
@[simp] def q3_196 : SE := bi .gtr (ln (.inp 13)) (zi 12)
@[simp] def q3_197 : SE := pk q3_195 bT q3_196
@[simp] def q3_198 : SE := pk q3_197 bT (nt (.inp 21))
@[simp] def q3_199 : SE := .app (.eoff 2) [ei 3 (.inp 2) (.inp 12)]
@[simp] def q3_200 : SE := pk q3_198 bT (nt (.inp 22))
@[simp] def q3_201 : SE := .app (.eoff 0) [ei 3 (.inp 13) (zi 0)]
@[simp] def q3_202 : SE := .app (.eoff 1) [ei 3 (.inp 13) (zi 0)]
@[simp] def q3_203 : SE := e1 q3_201
@[simp] def q3_204 : SE := e1 q3_202
@[simp] def q3_205 : SE := .agg [q3_203, q3_204]
@[simp] def q3_206 : SE := .app (.eqa [ some .i64, some .i64] true) [q3_118, q3_205]
@[simp] def q3_207 : SE := bi .sub (ln (.inp 13)) (zi 1)
@[simp] def q3_208 : SE := ei 3 (.inp 13) q3_207
@[simp] def q3_209 : SE := .app (.eoff 0) [q3_208]
@[simp] def q3_210 : SE := .app (.eoff 2) [q3_208]
@[simp] def q3_211 : SE := e1 q3_209
@[simp] def q3_212 : SE := e1 q3_210
@[simp] def q3_213 : SE := .agg [q3_211, q3_212]
@[simp] def q3_214 : SE := .app (.eqa [ some .i64, some .i64] true) [q3_122, q3_213]
@[simp] def q3_215 : SE := ei 3 (.inp 13) (.inp 31)
@[simp] def q3_216 : SE := .app (.eoff 0) [q3_215]
@[simp] def q3_217 : SE := .app (.eoff 1) [q3_215]
@[simp] def q3_218 : SE := e1 q3_216
@[simp] def q3_219 : SE := e1 q3_217
def rt_lockbarref05_Ports : RT :=
 ck (.bin .eql) [.inp 0, .int .u8 1] <|
.cond (bi .eql (.inp 0) (.int .u8 1))
 (.ret (zi 2))
 (ck (.bin .eql) [.inp 0, .int .u8 2] <|
.cond (bi .eql (.inp 0) (.int .u8 2))
 (.ret (zi 3))
 (ck (.bin .eql) [.inp 0, .int .u8 3] <|
.cond (bi .eql (.inp 0) (.int .u8 3))
 (.ret (zi 4))
 (.ret (zi 0))))
theorem run_lockbarref05_Ports : runF E 176 [.inp 0] 1 = rt_lockbarref05_Ports := by kernel_rfl
def rt_lockbarref05_May : RT :=
 ck (.isAgg 2) [.agg [.inp 0, .inp 1]] <|
 ck (.eqa [ some .i64, some .i64] false) [.agg [.inp 0, .inp 1], .agg [zi (-1), zi 0]] <|
 ckg (q3_35) false (.bin .geq) [.inp 0, zi 0] <|
.seg [.chk [(bi .geq (.inp 0) (zi 0), true), (q3_35, false)] (.bin .lss) [.inp 0, zi 24]] <|
 ckg (q3_35) false .pick [bi .geq (.inp 0) (zi 0), q3_36, bF] <|
.seg [.chk [(q3_37, true), (q3_35, false)] (.bin .geq) [.inp 1, zi 0]] <|
 ckg (q3_35) false .pick [q3_37, bi .geq (.inp 1) (zi 0), bF] <|
.seg [.chk [(q3_38, true), (q3_35, false)] (.bin .lss) [.inp 1, zi 4]] <|
 ckg (q3_35) false .pick [q3_38, bi .lss (.inp 1) (zi 4), bF] <|
 ck .pick [q3_35, bT, q3_39] <|
.seg [.bind 2 (pk q3_35 bT q3_39),
.bind 3 (q3_38),
.bind 4 (q3_39)] <|
.ret (.inp 2)
theorem run_lockbarref05_May : runF E 182 [.agg [.inp 0, .inp 1]] 2 = rt_lockbarref05_May := by kernel_rfl
def rt_lockbarref05_Right : RT :=
 ck (.isAgg 11) [.agg (ipx 0 11)] <|
.loop 0 11 [zi 0] <|
 ck (.bin .lss) [.inp 11, zi 4] <|
.cond (bi .lss (.inp 11) (zi 4))
 (.seg [.call 12 [] 176 [.inp 0] false] <|
 ck (.bin .lss) [.inp 11, .inp 12] <|
 ckg (q3_40) true (.inr 4) [.inp 11] <|
 ckg (q3_40) true (.aidx 4 2 1 2 true) [.agg (ipx 0 11), .inp 11] <|
.seg [.call 13 [(q3_40, true)] 182 [q3_41] false] <|
 ckg (q3_40) true (.un .not) [.inp 13] <|
 ck .pick [q3_40, nt (.inp 13), bF] <|
.seg [.call 14 [(q3_42, false)] 176 [.inp 0] false] <|
 ckg (q3_42) false (.bin .geq) [.inp 11, .inp 14] <|
.seg [.chk [(q3_43, true), (q3_42, false)] (.inr 4) [.inp 11]] <|
.seg [.chk [(q3_43, true), (q3_42, false)] (.aidx 4 2 1 2 true) [.agg (ipx 0 11), .inp 11]] <|
.seg [.chk [(q3_43, true), (q3_42, false)] (.eqa [ some .i64, some .i64] true) [q3_41, .agg [zi (-1), zi 0]]] <|
 ckg (q3_42) false .pick [q3_43, q3_44, bF] <|
 ck .pick [q3_42, bT, q3_45] <|
.seg [.bind 15 (q3_41),
.bind 16 (q3_44),
.bind 17 (q3_45),
.bind 18 (pk q3_42 bT q3_45)] <|
.cond (.inp 18)
 (.ret (bF))
 (ck (.bin .add) [.inp 11, zi 1] <|
.again 0 [q3_46]))
 (.loop 0 12 [zi 0] <|
 ck (.bin .lss) [.inp 12, zi 2] <|
.cond (bi .lss (.inp 12) (zi 2))
 (ck (.inr 2) [.inp 12] <|
 ck (.aidx 2 1 9 1 false) [.agg (ipx 0 11), .inp 12] <|
 ck (.bin .lss) [q3_47, zi 0] <|
 ckg (q3_48) false (.inr 2) [.inp 12] <|
 ckg (q3_48) false (.aidx 2 1 9 1 false) [.agg (ipx 0 11), .inp 12] <|
 ckg (q3_48) false (.bin .gtr) [q3_47, zi 3] <|
 ck .pick [q3_48, bT, q3_49] <|
.seg [.call 13 [(q3_50, false)] 158 [.inp 0] false] <|
 ckg (q3_50) false (.bin .geq) [.inp 12, .inp 13] <|
.seg [.chk [(q3_51, true), (q3_50, false)] (.inr 2) [.inp 12]] <|
.seg [.chk [(q3_51, true), (q3_50, false)] (.aidx 2 1 9 1 false) [.agg (ipx 0 11), .inp 12]] <|
.seg [.chk [(q3_51, true), (q3_50, false)] (.bin .neq) [q3_47, zi 0]] <|
 ckg (q3_50) false .pick [q3_51, q3_52, bF] <|
 ck .pick [q3_50, bT, q3_53] <|
.seg [.bind 14 (q3_47),
.bind 15 (q3_48),
.bind 16 (q3_49),
.bind 17 (q3_50),
.bind 18 (q3_52),
.bind 19 (q3_53),
.bind 20 (pk q3_50 bT q3_53)] <|
.cond (.inp 20)
 (.ret (bF))
 (ck (.bin .add) [.inp 12, zi 1] <|
.again 0 [q3_54]))
 (.seg [.call 13 [] 176 [.inp 0] false] <|
 ck (.bin .gtr) [.inp 13, zi 0] <|
.ret (bi .gtr (.inp 13) (zi 0))))
theorem run_lockbarref05_Right : runF E 175 [.agg (ips 0 11)] 11 = rt_lockbarref05_Right := by kernel_rfl
def rt_lockbarref06_there : RT :=
 ck (.isAgg 11) [.agg (ipx 0 11)] <|
 ck (.isAgg 2) [.agg [.inp 11, .inp 12]] <|
.seg [.call 13 [] 181 [.agg (ipx 0 11), .agg [.inp 11, .inp 12]] false] <|
 ck (.tproj 0) [.inp 13] <|
 ck (.tproj 1) [.inp 13] <|
 ck (.isAgg 11) [tp 0 (.inp 13)] <|
.ret (tp 1 (.inp 13))
theorem run_lockbarref06_there : runF E 171 [.agg (ips 0 11), .agg [.inp 11, .inp 12]] 13 = rt_lockbarref06_there := by kernel_rfl
def rt_lockbarref06_section : RT :=
 ck (.isAgg 11) [.agg (ipx 0 11)] <|
 ck (.isAgg 11) [.agg (ipx 11 11)] <|
.loop 0 22 [zi 0] <|
 ck (.bin .lss) [.inp 22, zi 4] <|
.cond (bi .lss (.inp 22) (zi 4))
 (.seg [.chk [] (.inr 4) [.inp 22],
.chk [] (.inr 4) [.inp 22],
.chk [] (.aidx 4 2 1 1 false) [.agg (ipx 11 11), .inp 22],
.chk [] (.bin .geq) [q3_55, zi 0],
.chk [(q3_56, true)] (.inr 4) [.inp 22],
.chk [(q3_56, true)] (.aidx 4 2 1 2 true) [.agg (ipx 11 11), .inp 22],
.call 23 [(q3_56, true)] 171 [.agg (ipx 0 11), q3_57] false,
.chk [(q3_56, true)] (.un .not) [.inp 23],
.chk [] .pick [q3_56, nt (.inp 23), bF]] <|
.seg [.bind 24 (q3_55),
.bind 25 (q3_56),
.bind 26 (q3_57),
.bind 27 (pk q3_56 (nt (.inp 23)) bF)] <|
.cond (.inp 27)
 (.ret (bF))
 (ck (.bin .add) [.inp 22, zi 1] <|
.again 0 [bi .add (.inp 22) (zi 1)]))
 (.seg [.call 23 [] 175 [.agg (ipx 11 11)] false] <|
.ret (.inp 23))
theorem run_lockbarref06_section : runF E 170 [.agg (ips 0 11), .agg (ips 11 11)] 22 = rt_lockbarref06_section := by kernel_rfl
def rt_lockbarref06_exit : RT :=
 ck (.isAgg 11) [.agg (ipx 0 11)] <|
 ck (.isAgg 3) [q3_58] <|
.loop 0 14 [zi 0] <|
 ck .len [.inp 13] <|
 ck (.bin .lss) [.inp 14, ln (.inp 13)] <|
.cond (bi .lss (.inp 14) (ln (.inp 13)))
 (.seg [.chk [] (.eidx 3) [.inp 13, .inp 14],
.chk [] (.eload 3 true) [q3_59],
.call 15 [] 110 [.agg (ipx 0 11), el 3 q3_59] false,
.chk [] (.tproj 0) [.inp 15],
.chk [] (.tproj 1) [.inp 15]] <|
 ck (.un .not) [tp 1 (.inp 15)] <|
.cond (tp 1 (.inp 15))
 (ck (.bin .add) [.inp 14, zi 1] <|
.again 0 [q3_60])
 (.ret (bF)))
 (.seg [.call 15 [] 171 [.agg (ipx 0 11), .agg [.inp 11, .inp 12]] false] <|
 ckg (.inp 15) true .len [.inp 13] <|
 ckg (.inp 15) true (.bin .leq) [ln (.inp 13), zi 2] <|
 ck .pick [.inp 15, q3_61, bF] <|
.ret (pk (.inp 15) q3_61 bF))
theorem run_lockbarref06_exit : runF E 172 [.agg (ips 0 11), .agg [.inp 11, .inp 12, .inp 13]] 14 = rt_lockbarref06_exit := by kernel_rfl
def rt_lockbarref06_flank : RT :=
 ck (.isAgg 11) [.agg (ipx 0 11)] <|
 ck (.isAgg 4) [.agg (ipx 11 4)] <|
 ck .len [.inp 0] <|
 ck (.bin .lss) [.inp 11, zi 0] <|
 ckg (q3_62) false (.bin .geq) [.inp 11, ln (.inp 0)] <|
 ck .pick [q3_62, bT, q3_63] <|
 ckg (q3_64) false (.bin .lss) [.inp 13, zi 0] <|
 ck .pick [q3_64, bT, q3_65] <|
 ckg (q3_66) false (.bin .geq) [.inp 13, ln (.inp 0)] <|
 ck .pick [q3_66, bT, q3_67] <|
 ckg (q3_68) false (.bin .eql) [.inp 11, .inp 13] <|
 ck .pick [q3_68, bT, q3_69] <|
 ckg (q3_70) false (.bin .lss) [.inp 14, zi 0] <|
 ck .pick [q3_70, bT, q3_71] <|
 ckg (q3_72) false (.bin .gtr) [.inp 14, zi 1] <|
 ck .pick [q3_72, bT, q3_73] <|
.seg [.bind 15 (q3_66),
.bind 16 (q3_68),
.bind 17 (q3_70),
.bind 18 (q3_72),
.bind 19 (pk q3_72 bT q3_73)] <|
.cond (.inp 19)
 (.ret (bF))
 (.seg [.chk [] (.bin .geq) [.inp 12, zi 0],
.chk [(q3_74, true)] (.eidx 11) [.inp 0, .inp 11],
.chk [(q3_74, true)] (.eoff 0) [q3_75],
.chk [(q3_74, true)] (.eload 1 false) [q3_76],
.call 20 [(q3_74, true)] 158 [q3_77] false,
.chk [(q3_74, true)] (.bin .lss) [.inp 12, .inp 20],
.chk [] .pick [q3_74, q3_78, bF],
.chk [(q3_79, true)] (.eidx 11) [.inp 0, .inp 13],
.chk [(q3_79, true)] (.eoff 0) [q3_80],
.chk [(q3_79, true)] (.eload 1 false) [q3_81],
.chk [(q3_79, true)] (.bin .eql) [q3_82, .int .u8 2],
.chk [] .pick [q3_79, q3_83, bF]] <|
.seg [.bind 21 (pk q3_79 q3_83 bF)] <|
.ret (.inp 21))
theorem run_lockbarref06_flank : runF E 173 [.agg (ips 0 11), .agg (ips 11 4)] 15 = rt_lockbarref06_flank := by kernel_rfl
def rt_lockbarref06_times : RT :=
 ck (.isAgg 7) [.agg (ipx 0 7)] <|
.seg [.chk [] .isOne [.inp 0],
.chk [] .isOne [.inp 1],
.chk [] .isOne [.inp 2],
.chk [] .isOne [.inp 3],
.chk [] .isOne [.inp 4],
.chk [] .isOne [.inp 5],
.chk [] .isOne [.inp 6]] <|
 ck (.isAgg 7) [.agg (ipx 0 7)] <|
.loop 0 7 [zi 0] <|
 ck (.bin .lss) [.inp 7, zi 7] <|
.cond (bi .lss (.inp 7) (zi 7))
 (ck (.inr 7) [.inp 7] <|
 ck (.aidx 7 1 0 1 false) [.agg (ipx 0 7), .inp 7] <|
 ck (.bin .lss) [q3_84, zi 1] <|
 ckg (q3_85) false (.inr 7) [.inp 7] <|
 ckg (q3_85) false (.aidx 7 1 0 1 false) [.agg (ipx 0 7), .inp 7] <|
 ckg (q3_85) false (.bin .gtr) [q3_84, zi 1000] <|
 ck .pick [q3_85, bT, q3_86] <|
.seg [.bind 8 (q3_84),
.bind 9 (q3_85),
.bind 10 (q3_86),
.bind 11 (pk q3_85 bT q3_86)] <|
.cond (.inp 11)
 (.ret (bF))
 (ck (.bin .add) [.inp 7, zi 1] <|
.again 0 [bi .add (.inp 7) (zi 1)]))
 (.ret (bT))
theorem run_lockbarref06_times : runF E 174 [.agg (ips 0 7)] 7 = rt_lockbarref06_times := by kernel_rfl
def rt_lockbarref06_Right : RT :=
 ck (.isAgg 11) [.agg (ipx 0 11)] <|
.loop 0 11 [zi 0] <|
 ck .len [.inp 0] <|
 ck (.bin .lss) [.inp 11, ln (.inp 0)] <|
.cond (q3_87)
 (.seg [.chk [] (.eidx 11) [.inp 0, .inp 11],
.chk [] (.eload 11 true) [q3_75],
.call 12 [] 170 [.agg (ipx 0 11), q3_88] false,
.chk [] (.un .not) [.inp 12]] <|
.cond (.inp 12)
 (ck (.bin .add) [.inp 11, zi 1] <|
.again 0 [q3_46])
 (.ret (bF)))
 (.loop 0 12 [zi 0] <|
 ck .len [.inp 1] <|
 ck (.bin .lss) [.inp 12, ln (.inp 1)] <|
.cond (bi .lss (.inp 12) (ln (.inp 1)))
 (.seg [.chk [] (.eidx 2) [.inp 1, .inp 12],
.chk [] (.eoff 0) [ei 2 (.inp 1) (.inp 12)],
.chk [] (.eload 2 true) [q3_89],
.call 13 [] 171 [.agg (ipx 0 11), q3_90] false,
.chk [] (.un .not) [.inp 13]] <|
.cond (.inp 13)
 (ck (.bin .add) [.inp 12, zi 1] <|
.again 0 [q3_54])
 (.ret (bF)))
 (.loop 0 13 [zi 0] <|
 ck .len [.inp 2] <|
 ck (.bin .lss) [.inp 13, ln (.inp 2)] <|
.cond (bi .lss (.inp 13) (ln (.inp 2)))
 (.seg [.chk [] (.eidx 3) [.inp 2, .inp 13],
.chk [] (.eload 3 true) [ei 3 (.inp 2) (.inp 13)],
.call 14 [] 172 [.agg (ipx 0 11), el 3 (ei 3 (.inp 2) (.inp 13))] false,
.chk [] (.un .not) [.inp 14]] <|
.cond (.inp 14)
 (ck (.bin .add) [.inp 13, zi 1] <|
.again 0 [q3_91])
 (.ret (bF)))
 (.loop 0 14 [zi 0] <|
 ck .len [.inp 3] <|
 ck (.bin .lss) [.inp 14, ln (.inp 3)] <|
.cond (bi .lss (.inp 14) (ln (.inp 3)))
 (.seg [.chk [] (.eidx 4) [.inp 3, .inp 14],
.chk [] (.eload 4 true) [ei 4 (.inp 3) (.inp 14)],
.call 15 [] 173 [.agg (ipx 0 11), el 4 (ei 4 (.inp 3) (.inp 14))] false,
.chk [] (.un .not) [.inp 15]] <|
.cond (.inp 15)
 (ck (.bin .add) [.inp 14, zi 1] <|
.again 0 [q3_60])
 (.ret (bF)))
 (ck .len [.inp 0] <|
 ck (.bin .leq) [ln (.inp 0), zi 24] <|
 ckg (q3_92) true .len [.inp 1] <|
 ckg (q3_92) true (.bin .leq) [ln (.inp 1), zi 12] <|
 ck .pick [q3_92, q3_93, bF] <|
 ckg (q3_94) true .len [.inp 2] <|
 ckg (q3_94) true (.bin .leq) [ln (.inp 2), zi 12] <|
 ck .pick [q3_94, q3_95, bF] <|
 ckg (q3_96) true .len [.inp 3] <|
 ckg (q3_96) true (.bin .leq) [ln (.inp 3), zi 16] <|
 ck .pick [q3_96, q3_97, bF] <|
.seg [.call 15 [(q3_98, true)] 174 [.agg (ipx 4 7)] false] <|
 ck .pick [q3_98, .inp 15, bF] <|
.seg [.bind 16 (pk q3_98 (.inp 15) bF),
.bind 17 (q3_94),
.bind 18 (q3_96),
.bind 19 (q3_98)] <|
.ret (.inp 16)))))
theorem run_lockbarref06_Right : runF E 150 [.agg (ips 0 11)] 11 = rt_lockbarref06_Right := by kernel_rfl
def rt_lockbarref06_Signal : RT :=
 ck (.isAgg 11) [.agg (ipx 0 11)] <|
 ck (.isAgg 2) [.agg [.inp 11, .inp 12]] <|
.loop 0 13 [zi 0] <|
 ck .len [.inp 1] <|
 ck (.bin .lss) [.inp 13, ln (.inp 1)] <|
.cond (bi .lss (.inp 13) (ln (.inp 1)))
 (.seg [.chk [] (.eidx 2) [.inp 1, .inp 13],
.chk [] (.eoff 0) [ei 2 (.inp 1) (.inp 13)],
.chk [] (.eload 2 true) [q3_99],
.chk [] (.eqa [ some .i64, some .i64] false) [q3_100, .agg [.inp 11, .inp 12]]] <|
.cond (.app (.eqa [ some .i64, some .i64] false) [q3_100, .agg [.inp 11, .inp 12]])
 (.ret (.inp 13))
 (ck (.bin .add) [.inp 13, zi 1] <|
.again 0 [q3_91]))
 (.ret (zi (-1)))
theorem run_lockbarref06_Signal : runF E 108 [.agg (ips 0 11), .agg [.inp 11, .inp 12]] 13 = rt_lockbarref06_Signal := by kernel_rfl
def rt_lockbarref07_Has : RT :=
 ck (.isAgg 11) [.agg (ipx 0 11)] <|
 ck (.isAgg 2) [.agg [.inp 11, .inp 12]] <|
.seg [.chk [] (.bin .geq) [.inp 11, zi 0],
.chk [(q3_101, true)] .len [.inp 0],
.chk [(q3_101, true)] (.bin .lss) [.inp 11, ln (.inp 0)],
.chk [] .pick [q3_101, q3_87, bF],
.chk [(q3_102, true)] (.bin .geq) [.inp 12, zi 0],
.chk [] .pick [q3_102, q3_74, bF],
.chk [(q3_103, true)] (.eidx 11) [.inp 0, .inp 11],
.chk [(q3_103, true)] (.eoff 0) [q3_75],
.chk [(q3_103, true)] (.eload 1 false) [q3_76],
.call 13 [(q3_103, true)] 176 [q3_77] false,
.chk [(q3_103, true)] (.bin .lss) [.inp 12, .inp 13],
.chk [] .pick [q3_103, q3_104, bF]] <|
.seg [.bind 14 (pk q3_103 q3_104 bF),
.bind 15 (q3_103)] <|
.ret (.inp 14)
theorem run_lockbarref07_Has : runF E 156 [.agg (ips 0 11), .agg [.inp 11, .inp 12]] 13 = rt_lockbarref07_Has := by kernel_rfl
def rt_lockbarref07_none : RT :=
.ret (.agg [zi (-1), zi 0])
theorem run_lockbarref07_none : runF E 157 [] 0 = rt_lockbarref07_none := by kernel_rfl
def rt_lockbarref07_Beyond : RT :=
 ck (.isAgg 11) [.agg (ipx 0 11)] <|
 ck (.isAgg 2) [.agg [.inp 11, .inp 12]] <|
.seg [.call 13 [] 156 [.agg (ipx 0 11), .agg [.inp 11, .inp 12]] false] <|
 ck (.un .not) [.inp 13] <|
.cond (.inp 13)
 (.seg [.chk [] (.eidx 11) [.inp 0, .inp 11],
.chk [] (.eoff 1) [q3_75],
.chk [] (.eaidx 4 2) [q3_105, .inp 12],
.chk [] (.eload 2 true) [q3_106],
.chk [] (.isAgg 2) [q3_107]] <|
.ret (.agg [pt 0 q3_107, pt 1 q3_107]))
 (.seg [.call 14 [] 157 [] false] <|
 ck (.isAgg 2) [.inp 14] <|
.ret (.agg [pt 0 (.inp 14), pt 1 (.inp 14)]))
theorem run_lockbarref07_Beyond : runF E 129 [.agg (ips 0 11), .agg [.inp 11, .inp 12]] 13 = rt_lockbarref07_Beyond := by kernel_rfl
def rt_lockbarref07_Joined : RT :=
 ck (.isAgg 11) [.agg (ipx 0 11)] <|
.loop 0 11 [zi 0] <|
 ck .len [.inp 0] <|
 ck (.bin .lss) [.inp 11, ln (.inp 0)] <|
 ckg (q3_87) true (.bin .lss) [.inp 11, zi 24] <|
 ck .pick [q3_87, q3_108, bF] <|
.cond (pk q3_87 q3_108 bF)
 (ck (.eidx 11) [.inp 0, .inp 11] <|
 ck (.eload 11 true) [q3_75] <|
 ck (.isAgg 11) [q3_88] <|
.seg [.call 12 [] 175 [q3_109] false] <|
 ck (.un .not) [.inp 12] <|
.cond (.inp 12)
 (.loop 1 13 [zi 0] <|
.seg [.call 14 [] 176 [pt 0 q3_88] false] <|
 ck (.bin .lss) [.inp 13, .inp 14] <|
.cond (bi .lss (.inp 13) (.inp 14))
 (ck (.inr 4) [.inp 13] <|
 ck (.aidx 4 2 1 2 true) [q3_109, .inp 13] <|
 ck (.isAgg 2) [q3_110] <|
.seg [.bind 15 (q3_110),
.bind 16 (pt 0 q3_110),
.bind 17 (pt 1 q3_110)] <|
.seg [.call 18 [] 157 [] false,
.chk [] (.eqa [ some .i64, some .i64] true) [.agg [.inp 16, .inp 17], .inp 18],
.call 19 [(q3_111, true)] 156 [.agg (ipx 0 11), .agg [.inp 16, .inp 17]] false,
.chk [(q3_111, true)] (.un .not) [.inp 19],
.chk [(nt (.inp 19), false), (q3_111, true)] (.bin .eql) [.inp 16, .inp 11],
.chk [(q3_111, true)] .pick [nt (.inp 19), bT, q3_112],
.call 20 [(q3_113, false), (q3_111, true)] 129 [.agg (ipx 0 11), .agg [.inp 16, .inp 17]] false,
.chk [(q3_113, false), (q3_111, true)] .isOne [.inp 11],
.chk [(q3_113, false), (q3_111, true)] .isOne [.inp 13],
.chk [(q3_113, false), (q3_111, true)] (.eqa [ some .i64, some .i64] true) [.inp 20, .agg [.inp 11, .inp 13]],
.chk [(q3_111, true)] .pick [q3_113, bT, q3_114],
.chk [] .pick [q3_111, q3_115, bF]] <|
.seg [.bind 21 (q3_115),
.bind 22 (pk q3_111 q3_115 bF)] <|
.cond (.inp 22)
 (.ret (bF))
 (ck (.bin .add) [.inp 13, zi 1] <|
.again 1 [q3_91]))
 (ck (.bin .add) [.inp 11, zi 1] <|
.again 0 [q3_46]))
 (.ret (bF)))
 (ck .len [.inp 0] <|
 ck (.bin .leq) [ln (.inp 0), zi 24] <|
.ret (q3_92))
theorem run_lockbarref07_Joined : runF E 151 [.agg (ips 0 11)] 11 = rt_lockbarref07_Joined := by kernel_rfl
def rt_lockbarref09_signals : RT :=
 ck (.isAgg 11) [.agg (ipx 0 11)] <|
.loop 0 11 [zi 0] <|
 ck .len [.inp 1] <|
 ck (.bin .lss) [.inp 11, ln (.inp 1)] <|
.cond (bi .lss (.inp 11) (ln (.inp 1)))
 (.loop 1 12 [zi 0] <|
 ck (.bin .lss) [.inp 12, .inp 11] <|
.cond (q3_116)
 (.seg [.chk [] (.eidx 2) [.inp 1, .inp 12],
.chk [] (.eoff 0) [ei 2 (.inp 1) (.inp 12)],
.chk [] (.eload 2 true) [q3_89],
.chk [] (.eidx 2) [.inp 1, .inp 11],
.chk [] (.eoff 0) [ei 2 (.inp 1) (.inp 11)],
.chk [] (.eload 2 true) [q3_117],
.chk [] (.eqa [ some .i64, some .i64] false) [q3_90, q3_118]] <|
.seg [.bind 13 (.app (.eqa [ some .i64, some .i64] false) [q3_90, q3_118])] <|
.cond (.inp 13)
 (.ret (.inp 11))
 (ck (.bin .add) [.inp 12, zi 1] <|
.again 1 [q3_54]))
 (ck (.bin .add) [.inp 11, zi 1] <|
.again 0 [q3_46]))
 (.ret (zi (-1)))
theorem run_lockbarref09_signals : runF E 152 [.agg (ips 0 11)] 11 = rt_lockbarref09_signals := by kernel_rfl
def rt_lockbarref09_exits : RT :=
 ck (.isAgg 11) [.agg (ipx 0 11)] <|
.loop 0 11 [zi 0] <|
 ck .len [.inp 2] <|
 ck (.bin .lss) [.inp 11, ln (.inp 2)] <|
.cond (q3_119)
 (.loop 1 12 [zi 0] <|
 ck (.bin .lss) [.inp 12, .inp 11] <|
.cond (q3_116)
 (.seg [.chk [] (.eidx 3) [.inp 2, .inp 12],
.chk [] (.eoff 0) [ei 3 (.inp 2) (.inp 12)],
.chk [] (.eload 2 true) [q3_120],
.chk [] (.eidx 3) [.inp 2, .inp 11],
.chk [] (.eoff 0) [ei 3 (.inp 2) (.inp 11)],
.chk [] (.eload 2 true) [q3_121],
.chk [] (.eqa [ some .i64, some .i64] false) [q3_122, q3_123]] <|
.seg [.bind 13 (.app (.eqa [ some .i64, some .i64] false) [q3_122, q3_123])] <|
.cond (.inp 13)
 (.ret (.inp 11))
 (ck (.bin .add) [.inp 12, zi 1] <|
.again 1 [q3_54]))
 (ck (.bin .add) [.inp 11, zi 1] <|
.again 0 [q3_46]))
 (.ret (zi (-1)))
theorem run_lockbarref09_exits : runF E 153 [.agg (ips 0 11)] 11 = rt_lockbarref09_exits := by kernel_rfl
def rt_lockbarref09_Over : RT :=
 ck (.isAgg 11) [.agg (ipx 0 11)] <|
.seg [.call 12 [] 150 [.agg (ipx 0 11)] false] <|
 ck (.un .not) [.inp 12] <|
 ckg (nt (.inp 12)) false (.bin .lss) [.inp 11, zi 0] <|
 ck .pick [nt (.inp 12), bT, q3_62] <|
 ckg (q3_124) false .len [.inp 2] <|
 ckg (q3_124) false (.bin .geq) [.inp 11, ln (.inp 2)] <|
 ck .pick [q3_124, bT, q3_125] <|
.seg [.bind 13 (pk q3_124 bT q3_125)] <|
.cond (.inp 13)
 (.ret (bF))
 (ck (.eidx 3) [.inp 2, .inp 11] <|
 ck (.eoff 0) [ei 3 (.inp 2) (.inp 11)] <|
 ck (.eload 2 true) [q3_121] <|
 ck (.isAgg 2) [q3_123] <|
 ck (.eidx 3) [.inp 2, .inp 11] <|
 ck (.eoff 2) [ei 3 (.inp 2) (.inp 11)] <|
 ck (.eload 1 false) [q3_126] <|
.loop 0 14 [zi 0, pt 0 q3_123, pt 1 q3_123] <|
 ck .len [q3_127] <|
 ck (.bin .lss) [.inp 14, q3_128] <|
.cond (bi .lss (.inp 14) q3_128)
 (.seg [.call 17 [] 129 [.agg (ipx 0 11), .agg [.inp 15, .inp 16]] false,
.chk [] (.eidx 3) [q3_127, .inp 14],
.chk [] (.eoff 0) [q3_129],
.chk [] (.eload 1 false) [q3_130],
.chk [] (.eidx 3) [q3_127, .inp 14],
.chk [] (.eoff 1) [q3_129],
.chk [] (.eload 1 false) [q3_131],
.chk [] .isOne [q3_132],
.chk [] .isOne [q3_133],
.chk [] (.eqa [ some .i64, some .i64] true) [.inp 17, q3_134],
.chk [(q3_135, false)] (.eidx 3) [q3_127, .inp 14],
.chk [(q3_135, false)] (.eoff 0) [q3_129],
.chk [(q3_135, false)] (.eload 1 false) [q3_130],
.chk [(q3_135, false)] (.eidx 3) [.inp 2, .inp 11],
.chk [(q3_135, false)] (.eoff 0) [ei 3 (.inp 2) (.inp 11)],
.chk [(q3_135, false)] (.eoff 0) [q3_121],
.chk [(q3_135, false)] (.eload 1 false) [q3_136],
.chk [(q3_135, false)] (.bin .eql) [q3_132, q3_137],
.chk [] .pick [q3_135, bT, q3_138]] <|
.seg [.bind 18 (q3_135),
.bind 19 (q3_138),
.bind 20 (pk q3_135 bT q3_138)] <|
.cond (.inp 20)
 (.ret (bF))
 (.loop 1 21 [zi 0] <|
 ck (.bin .lss) [.inp 21, .inp 14] <|
.cond (bi .lss (.inp 21) (.inp 14))
 (.seg [.chk [] (.eidx 3) [q3_127, .inp 21],
.chk [] (.eoff 0) [q3_139],
.chk [] (.eload 1 false) [q3_140],
.chk [] (.eidx 3) [q3_127, .inp 14],
.chk [] (.eoff 0) [q3_129],
.chk [] (.eload 1 false) [q3_130],
.chk [] (.bin .eql) [q3_141, q3_132]] <|
.seg [.bind 22 (bi .eql q3_141 q3_132)] <|
.cond (.inp 22)
 (.ret (bF))
 (ck (.bin .add) [.inp 21, zi 1] <|
.again 1 [bi .add (.inp 21) (zi 1)]))
 (.seg [.chk [] (.eidx 3) [q3_127, .inp 14],
.chk [] (.eoff 0) [q3_129],
.chk [] (.eload 1 false) [q3_130],
.chk [] (.eidx 3) [q3_127, .inp 14],
.chk [] (.eoff 2) [q3_129],
.chk [] (.eload 1 false) [q3_142],
.chk [] .isOne [q3_132],
.chk [] .isOne [q3_143],
.chk [] (.isAgg 2) [.agg [q3_132, q3_143]]] <|
 ck (.bin .add) [.inp 14, zi 1] <|
.again 0 [q3_60, q3_132, q3_143])))
 (.ret (bT)))
theorem run_lockbarref09_Over : runF E 177 [.agg (ips 0 11), .inp 11] 12 = rt_lockbarref09_Over := by kernel_rfl
def rt_lockbarref09_overs : RT :=
 ck (.isAgg 11) [.agg (ipx 0 11)] <|
.loop 0 11 [zi 0] <|
 ck .len [.inp 2] <|
 ck (.bin .lss) [.inp 11, ln (.inp 2)] <|
.cond (q3_119)
 (.seg [.call 12 [] 177 [.agg (ipx 0 11), .inp 11] false] <|
 ck (.un .not) [.inp 12] <|
.cond (.inp 12)
 (ck (.bin .add) [.inp 11, zi 1] <|
.again 0 [q3_46])
 (.ret (.inp 11)))
 (.ret (zi (-1)))
theorem run_lockbarref09_overs : runF E 154 [.agg (ips 0 11)] 11 = rt_lockbarref09_overs := by kernel_rfl
def rt_lockbarref09_flanks : RT :=
 ck (.isAgg 11) [.agg (ipx 0 11)] <|
.loop 0 11 [zi 0] <|
 ck .len [.inp 3] <|
 ck (.bin .lss) [.inp 11, ln (.inp 3)] <|
.cond (bi .lss (.inp 11) (ln (.inp 3)))
 (.loop 1 12 [zi 0] <|
 ck (.bin .lss) [.inp 12, .inp 11] <|
.cond (q3_116)
 (.seg [.chk [] (.eidx 4) [.inp 3, .inp 12],
.chk [] (.eload 4 true) [ei 4 (.inp 3) (.inp 12)],
.chk [] (.eidx 4) [.inp 3, .inp 11],
.chk [] (.eload 4 true) [ei 4 (.inp 3) (.inp 11)],
.chk [] (.isAgg 4) [q3_144],
.chk [] (.isAgg 4) [q3_145]] <|
 ck (.bin .eql) [q3_146, q3_147] <|
 ckg (q3_148) true (.bin .eql) [q3_149, q3_150] <|
 ck .pick [q3_148, q3_151, bF] <|
 ckg (q3_152) true (.bin .eql) [q3_153, q3_154] <|
 ck .pick [q3_152, q3_155, bF] <|
.seg [.bind 13 (q3_148),
.bind 14 (q3_151),
.bind 15 (q3_152),
.bind 16 (q3_155),
.bind 17 (pk q3_152 q3_155 bF)] <|
.cond (.inp 17)
 (.ret (.inp 11))
 (ck (.bin .add) [.inp 12, zi 1] <|
.again 1 [q3_54]))
 (ck (.bin .add) [.inp 11, zi 1] <|
.again 0 [q3_46]))
 (.ret (zi (-1)))
theorem run_lockbarref09_flanks : runF E 155 [.agg (ips 0 11)] 11 = rt_lockbarref09_flanks := by kernel_rfl
def rt_lockbarref09_Check : RT :=
 ck (.isAgg 11) [.agg (ipx 0 11)] <|
.seg [.call 11 [] 150 [.agg (ipx 0 11)] false] <|
 ck (.un .not) [.inp 11] <|
.cond (.inp 11)
 (.seg [.call 12 [] 151 [.agg (ipx 0 11)] false] <|
 ck (.un .not) [.inp 12] <|
.cond (.inp 12)
 (.seg [.call 13 [] 152 [.agg (ipx 0 11)] false,
.call 14 [] 153 [.agg (ipx 0 11)] false,
.call 15 [] 154 [.agg (ipx 0 11)] false,
.call 16 [] 155 [.agg (ipx 0 11)] false,
.chk [] .isOne [.inp 13],
.chk [] .isOne [.inp 14],
.chk [] .isOne [.inp 15],
.chk [] .isOne [.inp 16],
.chk [] (.isAgg 4) [.agg (ipx 13 4)]] <|
.loop 0 17 [zi 0] <|
 ck (.bin .lss) [.inp 17, zi 4] <|
.cond (bi .lss (.inp 17) (zi 4))
 (ck (.inr 4) [.inp 17] <|
 ck (.aidx 4 1 0 1 false) [.agg (ipx 13 4), .inp 17] <|
 ck (.bin .geq) [q3_156, zi 0] <|
.cond (bi .geq q3_156 (zi 0))
 (.seg [.chk [] (.bin .add) [.inp 17, zi 2],
.chk [] (.inr 4) [.inp 17],
.chk [] (.aidx 4 1 0 1 false) [.agg (ipx 13 4), .inp 17]] <|
.ret (.tup [bi .add (.inp 17) (zi 2), q3_156, zi 90]))
 (ck (.bin .add) [.inp 17, zi 1] <|
.again 0 [bi .add (.inp 17) (zi 1)]))
 (.ret (.tup [zi 0, zi 0, zi 0])))
 (.ret (.tup [zi 1, zi 0, zi 90])))
 (.ret (.tup [zi 0, zi 0, zi 60]))
theorem run_lockbarref09_Check : runF E 128 [.agg (ips 0 11)] 11 = rt_lockbarref09_Check := by kernel_rfl
def rt_lockbarref09_Right : RT :=
 ck (.isAgg 11) [.agg (ipx 0 11)] <|
.seg [.call 11 [] 128 [.agg (ipx 0 11)] false] <|
 ck (.tproj 0) [.inp 11] <|
 ck (.tproj 1) [.inp 11] <|
 ck (.tproj 2) [.inp 11] <|
 ck (.bin .eql) [tp 2 (.inp 11), zi 0] <|
.ret (bi .eql (tp 2 (.inp 11)) (zi 0))
theorem run_lockbarref09_Right : runF E 104 [.agg (ips 0 11)] 11 = rt_lockbarref09_Right := by kernel_rfl
def rt_lockbarref11_Goes : RT :=
 ck (.isAgg 11) [.agg (ipx 0 11)] <|
.loop 0 12 [zi 0] <|
 ck .len [.inp 11] <|
 ck (.bin .lss) [.inp 12, ln (.inp 11)] <|
.cond (bi .lss (.inp 12) (ln (.inp 11)))
 (.seg [.chk [] (.eidx 3) [.inp 11, .inp 12],
.chk [] (.eload 3 true) [q3_157],
.call 13 [] 110 [.agg (ipx 0 11), el 3 q3_157] false,
.chk [] (.tproj 0) [.inp 13],
.chk [] (.tproj 1) [.inp 13]] <|
.seg [.chk [] (.un .not) [tp 1 (.inp 13)],
.chk [(nt (tp 1 (.inp 13)), false)] (.bin .gtr) [.inp 12, zi 0],
.chk [(q3_158, true), (nt (tp 1 (.inp 13)), false)] (.bin .sub) [.inp 12, zi 1],
.chk [(q3_158, true), (nt (tp 1 (.inp 13)), false)] (.eidx 3) [.inp 11, q3_159],
.chk [(q3_158, true), (nt (tp 1 (.inp 13)), false)] (.eoff 0) [q3_160],
.chk [(q3_158, true), (nt (tp 1 (.inp 13)), false)] (.eload 1 false) [q3_161],
.chk [(q3_158, true), (nt (tp 1 (.inp 13)), false)] (.bin .sub) [.inp 12, zi 1],
.chk [(q3_158, true), (nt (tp 1 (.inp 13)), false)] (.eidx 3) [.inp 11, q3_159],
.chk [(q3_158, true), (nt (tp 1 (.inp 13)), false)] (.eoff 2) [q3_160],
.chk [(q3_158, true), (nt (tp 1 (.inp 13)), false)] (.eload 1 false) [q3_162],
.chk [(q3_158, true), (nt (tp 1 (.inp 13)), false)] .isOne [q3_163],
.chk [(q3_158, true), (nt (tp 1 (.inp 13)), false)] .isOne [q3_164],
.call 14 [(q3_158, true), (nt (tp 1 (.inp 13)), false)] 129 [.agg (ipx 0 11), .agg [q3_163, q3_164]] false,
.chk [(q3_158, true), (nt (tp 1 (.inp 13)), false)] (.eidx 3) [.inp 11, .inp 12],
.chk [(q3_158, true), (nt (tp 1 (.inp 13)), false)] (.eoff 0) [q3_157],
.chk [(q3_158, true), (nt (tp 1 (.inp 13)), false)] (.eload 1 false) [q3_165],
.chk [(q3_158, true), (nt (tp 1 (.inp 13)), false)] (.eidx 3) [.inp 11, .inp 12],
.chk [(q3_158, true), (nt (tp 1 (.inp 13)), false)] (.eoff 1) [q3_157],
.chk [(q3_158, true), (nt (tp 1 (.inp 13)), false)] (.eload 1 false) [q3_166],
.chk [(q3_158, true), (nt (tp 1 (.inp 13)), false)] .isOne [q3_167],
.chk [(q3_158, true), (nt (tp 1 (.inp 13)), false)] .isOne [q3_168],
.chk [(q3_158, true), (nt (tp 1 (.inp 13)), false)] (.eqa [ some .i64, some .i64] true) [.inp 14, q3_169],
.chk [(nt (tp 1 (.inp 13)), false)] .pick [q3_158, q3_170, bF],
.chk [] .pick [nt (tp 1 (.inp 13)), bT, q3_171]] <|
.seg [.bind 15 (q3_170),
.bind 16 (q3_171),
.bind 17 (pk (nt (tp 1 (.inp 13))) bT q3_171)] <|
.cond (.inp 17)
 (.ret (bF))
 (ck (.bin .add) [.inp 12, zi 1] <|
.again 0 [q3_54]))
 (.ret (bT))
theorem run_lockbarref11_Goes : runF E 105 [.agg (ips 0 11), .inp 11] 12 = rt_lockbarref11_Goes := by kernel_rfl
def rt_lockbarref11_simple : RT :=
.loop 0 2 [zi 0] <|
 ck .len [.inp 0] <|
 ck (.bin .lss) [.inp 2, ln (.inp 0)] <|
.cond (bi .lss (.inp 2) (ln (.inp 0)))
 (.loop 1 3 [zi 0] <|
 ck (.bin .lss) [.inp 3, .inp 2] <|
.cond (bi .lss (.inp 3) (.inp 2))
 (.seg [.chk [] (.eidx 3) [.inp 0, .inp 3],
.chk [] (.eoff 0) [ei 3 (.inp 0) (.inp 3)],
.chk [] (.eload 1 false) [q3_172],
.chk [] (.eidx 3) [.inp 0, .inp 2],
.chk [] (.eoff 0) [ei 3 (.inp 0) (.inp 2)],
.chk [] (.eload 1 false) [q3_173],
.chk [] (.bin .eql) [q3_174, q3_175]] <|
.seg [.bind 4 (bi .eql q3_174 q3_175)] <|
.cond (.inp 4)
 (.ret (bF))
 (ck (.bin .add) [.inp 3, zi 1] <|
.again 1 [bi .add (.inp 3) (zi 1)]))
 (.loop 1 4 [zi 0] <|
 ck .len [.inp 1] <|
 ck (.bin .lss) [.inp 4, ln (.inp 1)] <|
.cond (bi .lss (.inp 4) (ln (.inp 1)))
 (.seg [.chk [] (.eidx 3) [.inp 1, .inp 4],
.chk [] (.eoff 0) [ei 3 (.inp 1) (.inp 4)],
.chk [] (.eload 1 false) [q3_176],
.chk [] (.eidx 3) [.inp 0, .inp 2],
.chk [] (.eoff 0) [ei 3 (.inp 0) (.inp 2)],
.chk [] (.eload 1 false) [q3_173],
.chk [] (.bin .eql) [q3_177, q3_175]] <|
.seg [.bind 5 (bi .eql q3_177 q3_175)] <|
.cond (.inp 5)
 (.ret (bF))
 (ck (.bin .add) [.inp 4, zi 1] <|
.again 1 [bi .add (.inp 4) (zi 1)]))
 (ck (.bin .add) [.inp 2, zi 1] <|
.again 0 [bi .add (.inp 2) (zi 1)])))
 (.ret (bT))
theorem run_lockbarref11_simple : runF E 106 [.inp 0, .inp 1] 2 = rt_lockbarref11_simple := by kernel_rfl
def rt_lockbarref11_Through : RT :=
 ck (.isAgg 3) [.agg [.inp 0, .inp 1, .inp 2]] <|
.loop 0 4 [zi 0, zi 0] <|
 ck .len [.inp 3] <|
 ck (.bin .lss) [.inp 5, ln (.inp 3)] <|
.cond (bi .lss (.inp 5) (ln (.inp 3)))
 (.loop 1 6 [.inp 4] <|
.seg [.chk [] .len [.inp 2],
.chk [] (.bin .lss) [.inp 6, ln (.inp 2)],
.chk [(q3_178, true)] (.eidx 3) [.inp 2, .inp 6],
.chk [(q3_178, true)] (.eoff 0) [ei 3 (.inp 2) (.inp 6)],
.chk [(q3_178, true)] (.eload 1 false) [q3_179],
.chk [(q3_178, true)] (.eidx 1) [.inp 3, .inp 5],
.chk [(q3_178, true)] (.eload 1 false) [ei 1 (.inp 3) (.inp 5)],
.chk [(q3_178, true)] (.bin .neq) [q3_180, q3_181],
.chk [] .pick [q3_178, q3_182, bF]] <|
.seg [.bind 7 (q3_182),
.bind 8 (pk q3_178 q3_182 bF)] <|
.cond (.inp 8)
 (ck (.bin .add) [.inp 6, zi 1] <|
.again 1 [bi .add (.inp 6) (zi 1)])
 (ck .len [.inp 2] <|
 ck (.bin .geq) [.inp 6, ln (.inp 2)] <|
.cond (bi .geq (.inp 6) (ln (.inp 2)))
 (.ret (bF))
 (ck (.bin .add) [.inp 6, zi 1] <|
 ck (.bin .add) [.inp 5, zi 1] <|
.again 0 [bi .add (.inp 6) (zi 1), bi .add (.inp 5) (zi 1)])))
 (.ret (bT))
theorem run_lockbarref11_Through : runF E 107 [.agg [.inp 0, .inp 1, .inp 2], .inp 3] 4 = rt_lockbarref11_Through := by kernel_rfl
def rt_lockbarref11_Check : RT :=
 ck (.isAgg 11) [.agg (ipx 0 11)] <|
 ck (.isAgg 3) [q3_58] <|
.seg [.call 15 [] 104 [.agg (ipx 0 11)] false] <|
 ck (.un .not) [.inp 15] <|
 ckg (nt (.inp 15)) false (.bin .lss) [.inp 11, zi 0] <|
 ck .pick [nt (.inp 15), bT, q3_62] <|
 ckg (q3_183) false .len [.inp 1] <|
 ckg (q3_183) false (.bin .geq) [.inp 11, ln (.inp 1)] <|
 ck .pick [q3_183, bT, q3_184] <|
 ckg (q3_185) false (.bin .lss) [.inp 12, zi 0] <|
 ck .pick [q3_185, bT, q3_186] <|
 ckg (q3_187) false .len [.inp 2] <|
 ckg (q3_187) false (.bin .geq) [.inp 12, ln (.inp 2)] <|
 ck .pick [q3_187, bT, q3_188] <|
 ckg (q3_189) false .len [.inp 14] <|
 ckg (q3_189) false (.bin .gtr) [ln (.inp 14), zi 2] <|
 ck .pick [q3_189, bT, q3_190] <|
.seg [.bind 16 (q3_185),
.bind 17 (q3_187),
.bind 18 (q3_189),
.bind 19 (pk q3_189 bT q3_190)] <|
.cond (.inp 19)
 (.ret (zi 2))
 (.loop 0 20 [zi 0] <|
 ck .len [.inp 14] <|
 ck (.bin .lss) [.inp 20, ln (.inp 14)] <|
.cond (bi .lss (.inp 20) (ln (.inp 14)))
 (.seg [.chk [] (.eidx 1) [.inp 14, .inp 20],
.chk [] (.eload 1 false) [q3_191],
.chk [] (.bin .lss) [q3_192, zi 0],
.chk [(q3_193, false)] (.eidx 1) [.inp 14, .inp 20],
.chk [(q3_193, false)] (.eload 1 false) [q3_191],
.chk [(q3_193, false)] .len [.inp 0],
.chk [(q3_193, false)] (.bin .geq) [q3_192, ln (.inp 0)],
.chk [] .pick [q3_193, bT, q3_194]] <|
.seg [.bind 21 (pk q3_193 bT q3_194)] <|
.cond (.inp 21)
 (.ret (zi 2))
 (ck (.bin .add) [.inp 20, zi 1] <|
.again 0 [bi .add (.inp 20) (zi 1)]))
 (ck .len [.inp 13] <|
.seg [.chk [] (.bin .lss) [ln (.inp 13), zi 1],
.chk [(q3_195, false)] (.bin .gtr) [ln (.inp 13), zi 12],
.chk [] .pick [q3_195, bT, q3_196],
.call 21 [(q3_197, false)] 105 [.agg (ipx 0 11), .inp 13] false,
.chk [(q3_197, false)] (.un .not) [.inp 21],
.chk [] .pick [q3_197, bT, nt (.inp 21)],
.chk [(q3_198, false)] (.eidx 3) [.inp 2, .inp 12],
.chk [(q3_198, false)] (.eoff 2) [ei 3 (.inp 2) (.inp 12)],
.chk [(q3_198, false)] (.eload 1 false) [q3_199],
.call 22 [(q3_198, false)] 106 [.inp 13, e1 q3_199] false,
.chk [(q3_198, false)] (.un .not) [.inp 22],
.chk [] .pick [q3_198, bT, nt (.inp 22)],
.call 23 [(q3_200, false)] 107 [q3_58, .inp 14] false,
.chk [(q3_200, false)] (.un .not) [.inp 23],
.chk [] .pick [q3_200, bT, nt (.inp 23)]] <|
.seg [.bind 24 (q3_197),
.bind 25 (q3_198),
.bind 26 (q3_200),
.bind 27 (pk q3_200 bT (nt (.inp 23)))] <|
.cond (.inp 27)
 (.ret (zi 110))
 (.seg [.chk [] (.eidx 2) [.inp 1, .inp 11],
.chk [] (.eoff 0) [ei 2 (.inp 1) (.inp 11)],
.chk [] (.eload 2 true) [q3_117],
.chk [] (.eidx 3) [.inp 13, zi 0],
.chk [] (.eoff 0) [ei 3 (.inp 13) (zi 0)],
.chk [] (.eload 1 false) [q3_201],
.chk [] (.eidx 3) [.inp 13, zi 0],
.chk [] (.eoff 1) [ei 3 (.inp 13) (zi 0)],
.chk [] (.eload 1 false) [q3_202],
.chk [] .isOne [q3_203],
.chk [] .isOne [q3_204],
.chk [] (.eqa [ some .i64, some .i64] true) [q3_118, q3_205],
.chk [(q3_206, false)] (.eidx 3) [.inp 2, .inp 12],
.chk [(q3_206, false)] (.eoff 0) [ei 3 (.inp 2) (.inp 12)],
.chk [(q3_206, false)] (.eload 2 true) [q3_120],
.chk [(q3_206, false)] (.bin .sub) [ln (.inp 13), zi 1],
.chk [(q3_206, false)] (.eidx 3) [.inp 13, q3_207],
.chk [(q3_206, false)] (.eoff 0) [q3_208],
.chk [(q3_206, false)] (.eload 1 false) [q3_209],
.chk [(q3_206, false)] (.bin .sub) [ln (.inp 13), zi 1],
.chk [(q3_206, false)] (.eidx 3) [.inp 13, q3_207],
.chk [(q3_206, false)] (.eoff 2) [q3_208],
.chk [(q3_206, false)] (.eload 1 false) [q3_210],
.chk [(q3_206, false)] .isOne [q3_211],
.chk [(q3_206, false)] .isOne [q3_212],
.chk [(q3_206, false)] (.eqa [ some .i64, some .i64] true) [q3_122, q3_213],
.chk [] .pick [q3_206, bT, q3_214]] <|
.seg [.bind 28 (q3_206),
.bind 29 (q3_214),
.bind 30 (pk q3_206 bT q3_214)] <|
.cond (.inp 30)
 (.ret (zi 110))
 (.loop 0 31 [zi 1] <|
 ck (.bin .lss) [.inp 31, ln (.inp 13)] <|
.cond (bi .lss (.inp 31) (ln (.inp 13)))
 (.seg [.chk [] (.eidx 3) [.inp 13, .inp 31],
.chk [] (.eoff 0) [q3_215],
.chk [] (.eload 1 false) [q3_216],
.chk [] (.eidx 3) [.inp 13, .inp 31],
.chk [] (.eoff 1) [q3_215],
.chk [] (.eload 1 false) [q3_217],
.chk [] .isOne [q3_218],
.chk [] .isOne [q3_219],
.call 32 [] 108 [.agg (ipx 0 11), .agg [q3_218, q3_219]] false,
.chk [] (.bin .geq) [.inp 32, zi 0]] <|
.cond (bi .geq (.inp 32) (zi 0))
 (.ret (zi 110))
 (ck (.bin .add) [.inp 31, zi 1] <|
.again 0 [bi .add (.inp 31) (zi 1)]))
 (.ret (zi 0))))))
theorem run_lockbarref11_Check : runF E 68 [.agg (ips 0 11), .agg [.inp 11, .inp 12, .inp 13], .inp 14] 15 = rt_lockbarref11_Check := by kernel_rfl
def rt_lockbarref11_Is : RT :=
 ck (.isAgg 11) [.agg (ipx 0 11)] <|
 ck (.isAgg 3) [q3_58] <|
.seg [.call 15 [] 68 [.agg (ipx 0 11), q3_58, .inp 14] false] <|
 ck (.bin .eql) [.inp 15, zi 0] <|
.ret (bi .eql (.inp 15) (zi 0))
theorem run_lockbarref11_Is : runF E 29 [.agg (ips 0 11), .agg [.inp 11, .inp 12, .inp 13], .inp 14] 15 = rt_lockbarref11_Is := by kernel_rfl
end
end Go.Lb.LK
namespace Go.Lb.LK
open Go Go.Lb Go.Proofs
noncomputable section
@[simp] def q4_0 : SE := .app .app [.app .lst [], .inp 0]
@[simp] def q4_1 : SE := .app .app [q4_0, .inp 1]
@[simp] def q4_2 : SE := ln q4_1
@[simp] def q4_3 : SE := .app (.rowget 3 0 1 false) [q4_1, .inp 2]
@[simp] def q4_4 : SE := .app (.rowget 3 0 1 false) [q4_1, .inp 3]
@[simp] def q4_5 : SE := bi .eql q4_3 q4_4
@[simp] def q4_6 : SE := .app (.rowget 3 1 1 false) [q4_1, .inp 2]
@[simp] def q4_7 : SE := .app (.rowget 3 1 1 false) [q4_1, .inp 3]
@[simp] def q4_8 : SE := bi .neq q4_6 q4_7
@[simp] def q4_9 : SE := .agg [.inp 11, .inp 12, .inp 13]
@[simp] def q4_10 : SE := .agg [zi 0, zi 1, .app .lst [.agg [zi 1, zi 0, zi 1]]]
@[simp] def q4_11 : SE := .agg [.inp 0, .app .lst [.agg [zi 0, zi 0]], .app .lst [q4_10], .nils, zi 1, zi 1, zi 9, zi 1, zi 1, zi 1, zi 1]
@[simp] def q4_12 : SE := .agg (ptx (tp 0 (.inp 0)) 0 11)
@[simp] def q4_13 : SE := .agg (ptx (tp 1 (.inp 0)) 0 29)
@[simp] def q4_14 : SE := .agg (ptx (.inp 1) 0 74)
@[simp] def q4_15 : SE := .app .lst [.agg [zi 0, zi 0, zi 1]]
@[simp] def q4_16 : SE := .agg [zi 0, zi 0, q4_15]
@[simp] def q4_17 : SE := ei 3 (pt 2 (tp 0 (.inp 0))) (zi 0)
@[simp] def q4_18 : SE := .app (.eoff 2) [q4_17]
@[simp] def q4_19 : SE := e1 q4_18
@[simp] def q4_20 : SE := .agg [zi 3, zi 0, zi 0, q4_15, q4_19, .app .lst [.agg [zi 7, zi 1, zi 0]], .int .u8 1, zi 0, bF, bF, bF, bF, bF, bF, bF, bF, bF, bF, bF, bF, bF, zi 0, bF]
@[simp] def q4_21 : SE := .agg (ap [zi 4, .inp 8] (ptx (.inp 1) 2 72))
@[simp] def q4_22 : SE := .agg (ap [zi 4, .app (.rowset 23 6 1) [.inp 8, zi 0, .agg [.int .u8 2]]] (ptx (.inp 1) 2 72))
@[simp] def q4_23 : SE := bi .eql (.inp 4) (zi 190)
@[simp] def q4_24 : SE := pk (bi .eql (.inp 2) (zi 0)) q4_23 bF
@[simp] def q4_25 : SE := pk q4_24 (.inp 5) bF
@[simp] def q4_26 : SE := pk q4_25 (nt (.inp 7)) bF
@[simp] def q4_27 : SE := bi .eql (tp 0 (.inp 9)) (zi 3)
@[simp] def q4_28 : SE := pk q4_26 q4_27 bF
@[simp] def q4_29 : SE := pk q4_28 (tp 1 (.inp 9)) bF
@[simp] def q4_30 : SE := pk q4_29 (nt (tp 1 (.inp 10))) bF
@[simp] def q4_31 : SE := bi .eql (tp 0 (.inp 11)) (zi 1)
@[simp] def q4_32 : SE := pk q4_30 q4_31 bF
@[simp] def q4_33 : SE := pk q4_32 (tp 1 (.inp 11)) bF
@[simp] def q4_34 : SE := pk q4_33 (nt (.inp 12)) bF
@[simp] def q4_35 : SE := pk q4_34 (.inp 14) bF
@[simp] def q4_36 : SE := bi .eql (.inp 13) (zi 190)
@[simp] def q4_37 : SE := pk q4_35 q4_36 bF
@[simp] def q4_38 : SE := pk q4_37 (nt (.inp 15)) bF
@[simp] def q4_39 : SE := pk q4_38 (nt (.inp 16)) bF
@[simp] def q4_40 : SE := pk q4_39 (.inp 17) bF
@[simp] def q4_41 : SE := pk q4_40 (.inp 19) bF
@[simp] def q4_42 : SE := pk q4_41 (nt (.inp 20)) bF
@[simp] def q4_43 : SE := pk q4_42 (.inp 22) bF
def rt_lockbarref13_Clash : RT :=
.seg [.chk [] (.szs 3) [.inp 0],
.chk [] .app [.app .lst [], .inp 0]] <|
.seg [.chk [] (.szs 3) [.inp 1],
.chk [] .app [q4_0, .inp 1]] <|
.loop 0 2 [zi 0] <|
 ck .len [q4_1] <|
 ck (.bin .lss) [.inp 2, q4_2] <|
.cond (bi .lss (.inp 2) q4_2)
 (.loop 1 3 [zi 0] <|
 ck (.bin .lss) [.inp 3, .inp 2] <|
.cond (bi .lss (.inp 3) (.inp 2))
 (.seg [.chk [] (.eidx 3) [q4_1, .inp 2],
.chk [] (.inr 4294967296) [.inp 2],
.chk [] (.rowget 3 0 1 false) [q4_1, .inp 2],
.chk [] (.eidx 3) [q4_1, .inp 3],
.chk [] (.inr 4294967296) [.inp 3],
.chk [] (.rowget 3 0 1 false) [q4_1, .inp 3],
.chk [] (.bin .eql) [q4_3, q4_4],
.chk [(q4_5, true)] (.eidx 3) [q4_1, .inp 2],
.chk [(q4_5, true)] (.inr 4294967296) [.inp 2],
.chk [(q4_5, true)] (.rowget 3 1 1 false) [q4_1, .inp 2],
.chk [(q4_5, true)] (.eidx 3) [q4_1, .inp 3],
.chk [(q4_5, true)] (.inr 4294967296) [.inp 3],
.chk [(q4_5, true)] (.rowget 3 1 1 false) [q4_1, .inp 3],
.chk [(q4_5, true)] (.bin .neq) [q4_6, q4_7],
.chk [] .pick [q4_5, q4_8, bF]] <|
.seg [.bind 4 (q4_5),
.bind 5 (q4_8),
.bind 6 (pk q4_5 q4_8 bF)] <|
.cond (.inp 6)
 (.ret (bT))
 (ck (.bin .add) [.inp 3, zi 1] <|
.again 1 [bi .add (.inp 3) (zi 1)]))
 (ck (.bin .add) [.inp 2, zi 1] <|
.again 0 [bi .add (.inp 2) (zi 1)]))
 (.ret (bF))
theorem run_lockbarref13_Clash : runF E 69 [.inp 0, .inp 1] 2 = rt_lockbarref13_Clash := by kernel_rfl
def rt_lockbarref13_Fine : RT :=
 ck (.isAgg 11) [.agg (ipx 0 11)] <|
 ck (.isAgg 3) [q4_9] <|
.seg [.call 14 [] 32 [.agg (ipx 0 11), q4_9] false] <|
.seg [.call 15 [] 69 [.inp 14, .nils] false] <|
 ck (.un .not) [.inp 15] <|
.ret (nt (.inp 15))
theorem run_lockbarref13_Fine : runF E 30 [.agg (ips 0 11), .agg [.inp 11, .inp 12, .inp 13]] 14 = rt_lockbarref13_Fine := by kernel_rfl
def rt_lockbarlaw18_rest : RT :=
.loop 0 0 [zi 0, zi 0, zi 0, bF, zi 0, zi 0, bF, zi 0, zi 0, bF, zi 0, zi 0, bF, zi 0, zi 0, bF, zi 0, zi 0, bF, zi 0, zi 0, bF, zi 0, zi 0, bF, zi 0, zi 0, bF, zi 0, zi 0, bF, zi 0, zi 0, bF, zi 0, zi 0, bF, zi 0, zi 0, bF, zi 0, zi 0, bF, zi 0, zi 0, bF, zi 0, zi 0, bF, zi 0, zi 0, bF, zi 0, zi 0, bF, zi 0, zi 0, bF, zi 0, zi 0, bF, zi 0, zi 0, bF, zi 0, zi 0, bF, zi 0, zi 0, bF, zi 0, zi 0, bF] <|
 ck (.bin .lss) [.inp 0, zi 24] <|
.cond (bi .lss (.inp 0) (zi 24))
 (ck (.inr 24) [.inp 0] <|
 ck (.inr 24) [.inp 0] <|
 ck (.inr 24) [.inp 0] <|
 ck (.bin .add) [.inp 0, zi 1] <|
.again 0 [bi .add (.inp 0) (zi 1), .app (.cellset 2 24 3 0 1 2) [.inp 0, .inp 1, .agg [zi (-1)]], .app (.cellset 2 24 3 0 1 3) [.inp 0, .inp 2, .agg [zi (-1)]], .app (.cellset 2 24 3 0 1 4) [.inp 0, .inp 3, .agg [zi (-1)]], .app (.cellset 2 24 3 0 1 5) [.inp 0, .inp 4, .agg [zi (-1)]], .app (.cellset 2 24 3 0 1 6) [.inp 0, .inp 5, .agg [zi (-1)]], .app (.cellset 2 24 3 0 1 7) [.inp 0, .inp 6, .agg [zi (-1)]], .app (.cellset 2 24 3 0 1 8) [.inp 0, .inp 7, .agg [zi (-1)]], .app (.cellset 2 24 3 0 1 9) [.inp 0, .inp 8, .agg [zi (-1)]], .app (.cellset 2 24 3 0 1 10) [.inp 0, .inp 9, .agg [zi (-1)]], .app (.cellset 2 24 3 0 1 11) [.inp 0, .inp 10, .agg [zi (-1)]], .app (.cellset 2 24 3 0 1 12) [.inp 0, .inp 11, .agg [zi (-1)]], .app (.cellset 2 24 3 0 1 13) [.inp 0, .inp 12, .agg [zi (-1)]], .app (.cellset 2 24 3 0 1 14) [.inp 0, .inp 13, .agg [zi (-1)]], .app (.cellset 2 24 3 0 1 15) [.inp 0, .inp 14, .agg [zi (-1)]], .app (.cellset 2 24 3 0 1 16) [.inp 0, .inp 15, .agg [zi (-1)]], .app (.cellset 2 24 3 0 1 17) [.inp 0, .inp 16, .agg [zi (-1)]], .app (.cellset 2 24 3 0 1 18) [.inp 0, .inp 17, .agg [zi (-1)]], .app (.cellset 2 24 3 0 1 19) [.inp 0, .inp 18, .agg [zi (-1)]], .app (.cellset 2 24 3 0 1 20) [.inp 0, .inp 19, .agg [zi (-1)]], .app (.cellset 2 24 3 0 1 21) [.inp 0, .inp 20, .agg [zi (-1)]], .app (.cellset 2 24 3 0 1 22) [.inp 0, .inp 21, .agg [zi (-1)]], .app (.cellset 2 24 3 0 1 23) [.inp 0, .inp 22, .agg [zi (-1)]], .app (.cellset 2 24 3 0 1 24) [.inp 0, .inp 23, .agg [zi (-1)]], .app (.cellset 2 24 3 0 1 25) [.inp 0, .inp 24, .agg [zi (-1)]], .app (.cellset 2 24 3 0 1 26) [.inp 0, .inp 25, .agg [zi (-1)]], .app (.cellset 2 24 3 0 1 27) [.inp 0, .inp 26, .agg [zi (-1)]], .app (.cellset 2 24 3 0 1 28) [.inp 0, .inp 27, .agg [zi (-1)]], .app (.cellset 2 24 3 0 1 29) [.inp 0, .inp 28, .agg [zi (-1)]], .app (.cellset 2 24 3 0 1 30) [.inp 0, .inp 29, .agg [zi (-1)]], .app (.cellset 2 24 3 0 1 31) [.inp 0, .inp 30, .agg [zi (-1)]], .app (.cellset 2 24 3 0 1 32) [.inp 0, .inp 31, .agg [zi (-1)]], .app (.cellset 2 24 3 0 1 33) [.inp 0, .inp 32, .agg [zi (-1)]], .app (.cellset 2 24 3 0 1 34) [.inp 0, .inp 33, .agg [zi (-1)]], .app (.cellset 2 24 3 0 1 35) [.inp 0, .inp 34, .agg [zi (-1)]], .app (.cellset 2 24 3 0 1 36) [.inp 0, .inp 35, .agg [zi (-1)]], .app (.cellset 2 24 3 0 1 37) [.inp 0, .inp 36, .agg [zi (-1)]], .app (.cellset 2 24 3 0 1 38) [.inp 0, .inp 37, .agg [zi (-1)]], .app (.cellset 2 24 3 0 1 39) [.inp 0, .inp 38, .agg [zi (-1)]], .app (.cellset 2 24 3 0 1 40) [.inp 0, .inp 39, .agg [zi (-1)]], .app (.cellset 2 24 3 0 1 41) [.inp 0, .inp 40, .agg [zi (-1)]], .app (.cellset 2 24 3 0 1 42) [.inp 0, .inp 41, .agg [zi (-1)]], .app (.cellset 2 24 3 0 1 43) [.inp 0, .inp 42, .agg [zi (-1)]], .app (.cellset 2 24 3 0 1 44) [.inp 0, .inp 43, .agg [zi (-1)]], .app (.cellset 2 24 3 0 1 45) [.inp 0, .inp 44, .agg [zi (-1)]], .app (.cellset 2 24 3 0 1 46) [.inp 0, .inp 45, .agg [zi (-1)]], .app (.cellset 2 24 3 0 1 47) [.inp 0, .inp 46, .agg [zi (-1)]], .app (.cellset 2 24 3 0 1 48) [.inp 0, .inp 47, .agg [zi (-1)]], .app (.cellset 2 24 3 0 1 49) [.inp 0, .inp 48, .agg [zi (-1)]], .app (.cellset 2 24 3 0 1 50) [.inp 0, .inp 49, .agg [zi (-1)]], .app (.cellset 2 24 3 0 1 51) [.inp 0, .inp 50, .agg [zi (-1)]], .app (.cellset 2 24 3 0 1 52) [.inp 0, .inp 51, .agg [zi (-1)]], .app (.cellset 2 24 3 0 1 53) [.inp 0, .inp 52, .agg [zi (-1)]], .app (.cellset 2 24 3 0 1 54) [.inp 0, .inp 53, .agg [zi (-1)]], .app (.cellset 2 24 3 0 1 55) [.inp 0, .inp 54, .agg [zi (-1)]], .app (.cellset 2 24 3 0 1 56) [.inp 0, .inp 55, .agg [zi (-1)]], .app (.cellset 2 24 3 0 1 57) [.inp 0, .inp 56, .agg [zi (-1)]], .app (.cellset 2 24 3 0 1 58) [.inp 0, .inp 57, .agg [zi (-1)]], .app (.cellset 2 24 3 0 1 59) [.inp 0, .inp 58, .agg [zi (-1)]], .app (.cellset 2 24 3 0 1 60) [.inp 0, .inp 59, .agg [zi (-1)]], .app (.cellset 2 24 3 0 1 61) [.inp 0, .inp 60, .agg [zi (-1)]], .app (.cellset 2 24 3 0 1 62) [.inp 0, .inp 61, .agg [zi (-1)]], .app (.cellset 2 24 3 0 1 63) [.inp 0, .inp 62, .agg [zi (-1)]], .app (.cellset 2 24 3 0 1 64) [.inp 0, .inp 63, .agg [zi (-1)]], .app (.cellset 2 24 3 0 1 65) [.inp 0, .inp 64, .agg [zi (-1)]], .app (.cellset 2 24 3 0 1 66) [.inp 0, .inp 65, .agg [zi (-1)]], .app (.cellset 2 24 3 0 1 67) [.inp 0, .inp 66, .agg [zi (-1)]], .app (.cellset 2 24 3 0 1 68) [.inp 0, .inp 67, .agg [zi (-1)]], .app (.cellset 2 24 3 0 1 69) [.inp 0, .inp 68, .agg [zi (-1)]], .app (.cellset 2 24 3 0 1 70) [.inp 0, .inp 69, .agg [zi (-1)]], .app (.cellset 2 24 3 0 1 71) [.inp 0, .inp 70, .agg [zi (-1)]], .app (.cellset 2 24 3 0 1 72) [.inp 0, .inp 71, .agg [zi (-1)]], .app (.cellset 2 24 3 0 1 73) [.inp 0, .inp 72, .agg [zi (-1)]]])
 (ck (.isAgg 74) [.agg (ap [zi 1, .enil] (ipx 1 72))] <|
.ret (.agg (ap [zi 1, .nils] (ipx 1 72))))
theorem run_lockbarlaw18_rest : runF E 40 [] 0 = rt_lockbarlaw18_rest := by kernel_rfl
def rt_lockbarlaw18_two : RT :=
.seg [.bind 0 (.app .lst [.agg [.int .u8 1, zi (-1), zi 0, zi 1, zi 0, zi (-1), zi 0, zi (-1), zi 0, zi 0, zi 0], .agg [.int .u8 1, zi 0, zi 1, zi (-1), zi 0, zi (-1), zi 0, zi (-1), zi 0, zi 0, zi 0]])] <|
 ck (.isAgg 3) [q4_10] <|
.seg [.call 1 [] 41 [] false,
.call 2 [] 76 [q4_11, .inp 1, .agg [.int .u32 0, .int .u32 0, .int .u32 0, .int .u32 0]] true,
.chk [] (.isAgg 29) [.inp 2]] <|
.ret (.tup [q4_11, .agg (ptx (.inp 2) 0 29)])
theorem run_lockbarlaw18_two : runF E 39 [] 0 = rt_lockbarlaw18_two := by kernel_rfl
def rt_lockbarlaw18_wakes : RT :=
.seg [.call 0 [] 39 [] false] <|
 ck (.tproj 0) [.inp 0] <|
 ck (.tproj 1) [.inp 0] <|
 ck (.isAgg 11) [tp 0 (.inp 0)] <|
 ck (.isAgg 29) [tp 1 (.inp 0)] <|
.seg [.call 1 [] 40 [] false] <|
 ck (.isAgg 74) [.inp 1] <|
.seg [.call 2 [] 22 [q4_12, q4_13, q4_14, q4_16] true] <|
.seg [.call 3 [] 41 [] false,
.call 4 [] 22 [q4_12, .inp 3, q4_14, q4_16] true] <|
.seg [.call 5 [] 18 [q4_12, q4_13, q4_14, zi 1] false,
.call 6 [] 41 [] false,
.call 7 [] 18 [q4_12, .inp 6, q4_14, zi 1] false] <|
.seg [.chk [] (.eidx 3) [pt 2 (tp 0 (.inp 0)), zi 0],
.chk [] (.eoff 2) [q4_17],
.chk [] (.eload 1 false) [q4_18],
.chk [] .isOne [q4_19],
.chk [] (.isAgg 23) [q4_20]] <|
.seg [.bind 8 (.app .lst [q4_20])] <|
.seg [.call 9 [] 12 [q4_21, zi 1] true] <|
 ck (.tproj 0) [.inp 9] <|
 ck (.tproj 1) [.inp 9] <|
.seg [.call 10 [] 12 [q4_21, zi 2] true] <|
 ck (.tproj 0) [.inp 10] <|
 ck (.tproj 1) [.inp 10] <|
.seg [.call 11 [] 14 [q4_21, zi 7] true] <|
 ck (.tproj 0) [.inp 11] <|
 ck (.tproj 1) [.inp 11] <|
.seg [.call 12 [] 16 [q4_21, zi 7] true] <|
 ck (.eidx 23) [.inp 8, zi 0] <|
 ck (.inr 4294967296) [zi 0] <|
 ck (.rowset 23 6 1) [.inp 8, zi 0, .agg [.int .u8 2]] <|
.seg [.call 13 [] 22 [q4_12, q4_13, q4_22, .agg [zi 5, zi 0, .app .lst [.agg [zi 1, zi 0, zi 0]]]] true] <|
.seg [.chk [] (.bin .eql) [.inp 2, zi 0],
.chk [(bi .eql (.inp 2) (zi 0), true)] (.bin .eql) [.inp 4, zi 190],
.chk [] .pick [bi .eql (.inp 2) (zi 0), q4_23, bF],
.chk [] .pick [q4_24, .inp 5, bF],
.chk [(q4_25, true)] (.un .not) [.inp 7],
.chk [] .pick [q4_25, nt (.inp 7), bF],
.chk [(q4_26, true)] (.bin .eql) [tp 0 (.inp 9), zi 3],
.chk [] .pick [q4_26, q4_27, bF],
.chk [] .pick [q4_28, tp 1 (.inp 9), bF],
.chk [(q4_29, true)] (.un .not) [tp 1 (.inp 10)],
.chk [] .pick [q4_29, nt (tp 1 (.inp 10)), bF],
.chk [(q4_30, true)] (.bin .eql) [tp 0 (.inp 11), zi 1],
.chk [] .pick [q4_30, q4_31, bF],
.chk [] .pick [q4_32, tp 1 (.inp 11), bF],
.chk [(q4_33, true)] (.un .not) [.inp 12],
.chk [] .pick [q4_33, nt (.inp 12), bF],
.call 14 [(q4_34, true)] 16 [q4_22, zi 7] true,
.chk [] .pick [q4_34, .inp 14, bF],
.chk [(q4_35, true)] (.bin .eql) [.inp 13, zi 190],
.chk [] .pick [q4_35, q4_36, bF],
.call 15 [(q4_37, true)] 20 [q4_12, q4_13, q4_22, .agg [zi 7, zi 0, zi 0]] true,
.chk [(q4_37, true)] (.un .not) [.inp 15],
.chk [] .pick [q4_37, nt (.inp 15), bF],
.call 16 [(q4_38, true)] 20 [q4_12, q4_13, q4_22, .agg [zi (-1), zi 0, zi 0]] true,
.chk [(q4_38, true)] (.un .not) [.inp 16],
.chk [] .pick [q4_38, nt (.inp 16), bF],
.call 17 [(q4_39, true)] 24 [q4_22] true,
.chk [] .pick [q4_39, .inp 17, bF],
.call 18 [(q4_40, true)] 40 [] false,
.call 19 [(q4_40, true)] 24 [.inp 18] false,
.chk [] .pick [q4_40, .inp 19, bF],
.call 20 [(q4_41, true)] 24 [.agg [zi 0, .nils, zi 0, zi 0, bF, zi 0, zi 0, bF, zi 0, zi 0, bF, zi 0, zi 0, bF, zi 0, zi 0, bF, zi 0, zi 0, bF, zi 0, zi 0, bF, zi 0, zi 0, bF, zi 0, zi 0, bF, zi 0, zi 0, bF, zi 0, zi 0, bF, zi 0, zi 0, bF, zi 0, zi 0, bF, zi 0, zi 0, bF, zi 0, zi 0, bF, zi 0, zi 0, bF, zi 0, zi 0, bF, zi 0, zi 0, bF, zi 0, zi 0, bF, zi 0, zi 0, bF, zi 0, zi 0, bF, zi 0, zi 0, bF, zi 0, zi 0, bF, zi 0, zi 0, bF]] false,
.chk [(q4_41, true)] (.un .not) [.inp 20],
.chk [] .pick [q4_41, nt (.inp 20), bF],
.call 21 [(q4_42, true)] 28 [q4_22] false,
.call 22 [(q4_42, true)] 26 [.inp 21, q4_22] false,
.chk [] .pick [q4_42, .inp 22, bF],
.call 23 [(q4_43, true)] 40 [] false,
.call 24 [(q4_43, true)] 26 [q4_22, .inp 23] false,
.chk [(q4_43, true)] (.un .not) [.inp 24],
.chk [] .pick [q4_43, nt (.inp 24), bF]] <|
.seg [.bind 25 (pk q4_43 (nt (.inp 24)) bF),
.bind 26 (q4_25),
.bind 27 (q4_26),
.bind 28 (q4_28),
.bind 29 (q4_29),
.bind 30 (q4_30),
.bind 31 (q4_32),
.bind 32 (q4_33),
.bind 33 (q4_34),
.bind 34 (q4_35),
.bind 35 (q4_37),
.bind 36 (q4_38),
.bind 37 (q4_39),
.bind 38 (q4_40),
.bind 39 (q4_41),
.bind 40 (q4_42),
.bind 41 (q4_43)] <|
.ret (.inp 25)
theorem run_lockbarlaw18_wakes : runF E 11 [] 0 = rt_lockbarlaw18_wakes := by kernel_rfl
end
end Go.Lb.LK
namespace Go.Proofs
open Go.Shelf
def Tryz.lays125_ren : Go.Shelf.Ren := ⟨fun | 125 => 127 | 128 => 148 | 129 => 149 | n => n, fun | 46 => 134 | 3 => 3 | 51 => 31 | 53 => 177 | 4 => 4 | 5 => 5 | 9 => 9 | n => n, fun | n => n⟩
theorem Tryz.lays125 : Go.Proofs.Lays.n125 Tryz.prog Tryz.lays125_ren := {
 mixed := by kernel_rfl
 f125 := Tryz.func127.trans (congrArg some (by kernel_rfl))
 f128 := Tryz.func148.trans (congrArg some (by kernel_rfl))
 f129 := Tryz.func149.trans (congrArg some (by kernel_rfl))
 t3 := Tryz.underlying3
 a3 := Tryz.isAgg3
 z3 := Tryz.sizeOf3
 v3 := Tryz.zeroValue3
 t4 := Tryz.underlying4
 a4 := Tryz.isAgg4
 z4 := Tryz.sizeOf4
 v4 := Tryz.zeroValue4
 t5 := Tryz.underlying5
 a5 := Tryz.isAgg5
 z5 := Tryz.sizeOf5
 v5 := Tryz.zeroValue5
 t9 := Tryz.underlying9
 a9 := Tryz.isAgg9
 z9 := Tryz.sizeOf9
 v9 := Tryz.zeroValue9
 t46 := Tryz.underlying134
 a46 := Tryz.isAgg134
 z46 := Tryz.sizeOf134
 v46 := Tryz.zeroValue134
 t51 := Tryz.underlying31
 a51 := Tryz.isAgg31
 z51 := Tryz.sizeOf31
 v51 := Tryz.zeroValue31
 t53 := Tryz.underlying177
 a53 := Tryz.isAgg177
 z53 := Tryz.sizeOf177
 v53 := Tryz.zeroValue177 }
theorem Tryz.bits_Len (x : Int) (w : World) (h0 : 0 ≤ x) (h1 : x ≤ 18446744073709551615) :
  Calls Tryz.prog 127 #[.int .u64 x] w fun e w' => e = .returned (.int .i64 (Lib.bitLen x.toNat)) ∧ w' = w := Any.bits_Len Tryz.lays125 x w h0 h1
def Tryz.lays189_ren : Go.Shelf.Ren := ⟨fun | 189 => 91 | 125 => 127 | 257 => 126 | 128 => 148 | 129 => 149 | 294 => 139 | 295 => 140 | 296 => 141 | 297 => 142 | 298 => 143 | 299 => 144 | 216 => 145 | 300 => 146 | 301 => 147 | 328 => 164 | 329 => 165 | 330 => 166 | 331 => 167 | 332 => 168 | 215 => 169 | 343 => 180 | n => n, fun | 28 => 102 | 3 => 3 | 46 => 134 | 0 => 0 | 51 => 31 | 53 => 177 | 4 => 4 | 183 => 170 | 182 => 169 | 131 => 51 | 5 => 5 | 9 => 9 | 218 => 192 | 222 => 196 | 228 => 208 | 229 => 209 | n => n, fun | n => n⟩
theorem Tryz.lays189 : Go.Proofs.Lays.n189 Tryz.prog Tryz.lays189_ren := {
 mixed := by kernel_rfl
 f125 := Tryz.func127.trans (congrArg some (by kernel_rfl))
 f128 := Tryz.func148.trans (congrArg some (by kernel_rfl))
 f129 := Tryz.func149.trans (congrArg some (by kernel_rfl))
 f189 := Tryz.func91.trans (congrArg some (by kernel_rfl))
 f215 := Tryz.func169.trans (congrArg some (by kernel_rfl))
 f216 := Tryz.func145.trans (congrArg some (by kernel_rfl))
 f257 := Tryz.func126.trans (congrArg some (by kernel_rfl))
 f294 := Tryz.func139.trans (congrArg some (by kernel_rfl))
 f295 := Tryz.func140.trans (congrArg some (by kernel_rfl))
 f296 := Tryz.func141.trans (congrArg some (by kernel_rfl))
 f297 := Tryz.func142.trans (congrArg some (by kernel_rfl))
 f298 := Tryz.func143.trans (congrArg some (by kernel_rfl))
 f299 := Tryz.func144.trans (congrArg some (by kernel_rfl))
 f300 := Tryz.func146.trans (congrArg some (by kernel_rfl))
 f301 := Tryz.func147.trans (congrArg some (by kernel_rfl))
 f328 := Tryz.func164.trans (congrArg some (by kernel_rfl))
 f329 := Tryz.func165.trans (congrArg some (by kernel_rfl))
 f330 := Tryz.func166.trans (congrArg some (by kernel_rfl))
 f331 := Tryz.func167.trans (congrArg some (by kernel_rfl))
 f332 := Tryz.func168.trans (congrArg some (by kernel_rfl))
 f343 := Tryz.func180.trans (congrArg some (by kernel_rfl))
 t0 := Tryz.underlying0
 a0 := Tryz.isAgg0
 z0 := Tryz.sizeOf0
 v0 := Tryz.zeroValue0
 t3 := Tryz.underlying3
 a3 := Tryz.isAgg3
 z3 := Tryz.sizeOf3
 v3 := Tryz.zeroValue3
 t4 := Tryz.underlying4
 a4 := Tryz.isAgg4
 z4 := Tryz.sizeOf4
 v4 := Tryz.zeroValue4
 t5 := Tryz.underlying5
 a5 := Tryz.isAgg5
 z5 := Tryz.sizeOf5
 v5 := Tryz.zeroValue5
 t9 := Tryz.underlying9
 a9 := Tryz.isAgg9
 z9 := Tryz.sizeOf9
 v9 := Tryz.zeroValue9
 t28 := Tryz.underlying102
 a28 := Tryz.isAgg102
 z28 := Tryz.sizeOf102
 v28 := Tryz.zeroValue102
 t46 := Tryz.underlying134
 a46 := Tryz.isAgg134
 z46 := Tryz.sizeOf134
 v46 := Tryz.zeroValue134
 t51 := Tryz.underlying31
 a51 := Tryz.isAgg31
 z51 := Tryz.sizeOf31
 v51 := Tryz.zeroValue31
 t53 := Tryz.underlying177
 a53 := Tryz.isAgg177
 z53 := Tryz.sizeOf177
 v53 := Tryz.zeroValue177
 t131 := Tryz.underlying51
 a131 := Tryz.isAgg51
 z131 := Tryz.sizeOf51
 v131 := Tryz.zeroValue51
 t182 := Tryz.underlying169
 a182 := Tryz.isAgg169
 z182 := Tryz.sizeOf169
 v182 := Tryz.zeroValue169
 t183 := Tryz.underlying170
 a183 := Tryz.isAgg170
 z183 := Tryz.sizeOf170
 v183 := Tryz.zeroValue170
 t218 := Tryz.underlying192
 a218 := Tryz.isAgg192
 z218 := Tryz.sizeOf192
 v218 := Tryz.zeroValue192
 t222 := Tryz.underlying196
 a222 := Tryz.isAgg196
 z222 := Tryz.sizeOf196
 v222 := Tryz.zeroValue196
 t228 := Tryz.underlying208
 a228 := Tryz.isAgg208
 z228 := Tryz.sizeOf208
 v228 := Tryz.zeroValue208
 t229 := Tryz.underlying209
 a229 := Tryz.isAgg209
 z229 := Tryz.sizeOf209
 v229 := Tryz.zeroValue209 }
open Go.Sort Go.RowKit in
theorem Tryz.slices_Sort_int (blk off cap : Nat) (zs : List Int) (w : World) (hH : Holds (Value.int .i64) w blk off zs.toArray) (hblk : blk < w.heap.size) (hsz : zs.length < 4611686018427387904) :
  Calls Tryz.prog 91 #[.slice (some ⟨blk, off, none⟩) zs.length cap] w fun e w' =>
   e = .returned (.tuple #[]) ∧ ∃ n os, w' = grow (putRow (Value.int .i64) (Sort.ahead w n) blk off (zs.mergeSort fun x y => decide (x ≤ y)).toArray) os := Any.slices_Sort_int Tryz.lays189 blk off cap zs w hH hblk hsz
def Tryz.laysNm220_ren : Go.Shelf.Ren := ⟨fun | 20 => 92 | n => n, fun | 22 => 102 | 3 => 3 | 4 => 4 | 0 => 0 | n => n, fun | n => n⟩
theorem Tryz.laysNm220 : Go.Proofs.Lays2.n20 Tryz.prog Tryz.laysNm220_ren := {
 mixed := by kernel_rfl
 f20 := Tryz.func92.trans (congrArg some (by kernel_rfl))
 t0 := Tryz.underlying0
 a0 := Tryz.isAgg0
 z0 := Tryz.sizeOf0
 v0 := Tryz.zeroValue0
 t3 := Tryz.underlying3
 a3 := Tryz.isAgg3
 z3 := Tryz.sizeOf3
 v3 := Tryz.zeroValue3
 t4 := Tryz.underlying4
 a4 := Tryz.isAgg4
 z4 := Tryz.sizeOf4
 v4 := Tryz.zeroValue4
 t22 := Tryz.underlying102
 a22 := Tryz.isAgg102
 z22 := Tryz.sizeOf102
 v22 := Tryz.zeroValue102
 i3 := by kernel_rfl }
open Go.RowKit Go.Lib Go.Sort in
theorem Tryz.slices_Compact_int (blk off cap : Nat) (zs : List Int) (w : World) (hH : Holds (Value.int .i64) w blk off zs.toArray) (hsz : zs.length ≤ 9223372036854775807) (hcap : zs.length ≤ cap) :
  Calls Tryz.prog 92 #[.slice (some ⟨blk, off, none⟩) zs.length cap] w fun e w' => e = .returned (.slice (some ⟨blk, off, none⟩) (Lib.compact zs).length cap) ∧ ∃ q, w' = putRow (Value.int .i64) (Sort.ahead w q) blk off (Lib.compact zs ++ List.replicate (zs.length - (Lib.compact zs).length) 0).toArray := Any.slices_Compact_int Tryz.laysNm220 blk off cap zs w hH hsz hcap
open Go.RowKit Go.Lib Go.Sort in
theorem Tryz.slices_Compact_int_empty (a : Option Addr) (cap : Nat) (w : World) :
  Calls Tryz.prog 92 #[.slice a 0 cap] w fun e w' => e = .returned (.slice a 0 cap) ∧ w' = w := Any.slices_Compact_int_empty Tryz.laysNm220 a cap w
end Go.Proofs
namespace Go.Lb.LK
open Go Go.Lb
structure Port where
 s : Int
 p : Int
 deriving DecidableEq
def Port.cells (x : Port) : List AV := [I x.s, I x.p]
abbrev Port.av (x : Port) : AV := .agg x.cells
structure Sec where
 kind : Int
 j0 : Port
 j1 : Port
 j2 : Port
 j3 : Port
 c0 : Int
 c1 : Int
 deriving DecidableEq
def Sec.cells (x : Sec) : List AV := [U x.kind, I x.j0.s, I x.j0.p, I x.j1.s, I x.j1.p, I x.j2.s, I x.j2.p, I x.j3.s, I x.j3.p, I x.c0, I x.c1]
abbrev Sec.av (x : Sec) : AV := .agg x.cells
structure Step where
 s : Int
 i : Int
 o : Int
 deriving DecidableEq
def Step.cells (x : Step) : List AV := [I x.s, I x.i, I x.o]
abbrev Step.av (x : Step) : AV := .agg x.cells
structure Exi where
 a : Port
 over : List Step
 deriving DecidableEq
def Exi.cells (x : Exi) : List AV := [I x.a.s, I x.a.p, .sl (x.over.map Step.av)]
abbrev Exi.av (x : Exi) : AV := .agg x.cells
structure Flank where
 s : Int
 way : Int
 point : Int
 pos : Int
 deriving DecidableEq
def Flank.cells (x : Flank) : List AV := [I x.s, I x.way, I x.point, I x.pos]
abbrev Flank.av (x : Flank) : AV := .agg x.cells
structure Lay where
 secs : List Sec
 sigs : List Port
 exits : List Exi
 flanks : List Flank
 clear : Int
 drive : Int
 stale : Int
 approach : Int
 over : Int
 press : Int
 link : Int
 deriving DecidableEq
def Lay.cells (l : Lay) : List AV := [.sl (l.secs.map Sec.av), .sl (l.sigs.map Port.av), .sl (l.exits.map Exi.av), .sl (l.flanks.map Flank.av), I l.clear, I l.drive, I l.stale, I l.approach, I l.over, I l.press, I l.link]
abbrev Lay.av (l : Lay) : AV := .agg l.cells
structure Path where
 sig : Int
 exit : Int
 steps : List Step
 deriving DecidableEq
def Path.cells (x : Path) : List AV := [I x.sig, I x.exit, .sl (x.steps.map Step.av)]
abbrev Path.av (x : Path) : AV := .agg x.cells
structure Need where
 p : Int
 pos : Int
 k : Int
 deriving DecidableEq
def Need.cells (x : Need) : List AV := [I x.p, I x.pos, I x.k]
abbrev Need.av (x : Need) : AV := .agg x.cells
abbrev needs (l : List Need) : AV := .sl (l.map Need.av)
abbrev steps (l : List Step) : AV := .sl (l.map Step.av)
@[simp] theorem Port.pure (x : Port) : AV.pureAll x.cells = true := by simp [Port.cells, AV.pureAll, AV.pure]
@[simp] theorem Sec.pure (x : Sec) : AV.pureAll x.cells = true := by simp [Sec.cells, AV.pureAll, AV.pure]
@[simp] theorem Step.pure (x : Step) : AV.pureAll x.cells = true := by simp [Step.cells, AV.pureAll, AV.pure]
@[simp] theorem zlM (l : List Step) : AV.pureAll (l.map Step.av) = true := zbn _ (fun x => by simp [AV.pure]) l
@[simp] theorem Exi.pure (x : Exi) : AV.pureAll x.cells = true := by simp [Exi.cells, AV.pureAll, AV.pure]
@[simp] theorem Flank.pure (x : Flank) : AV.pureAll x.cells = true := by simp [Flank.cells, AV.pureAll, AV.pure]
@[simp] theorem Path.pure (x : Path) : AV.pureAll x.cells = true := by simp [Path.cells, AV.pureAll, AV.pure]
@[simp] theorem Need.pure (x : Need) : AV.pureAll x.cells = true := by simp [Need.cells, AV.pureAll, AV.pure]
@[simp] theorem zpb (l : List Need) : AV.pureAll (l.map Need.av) = true := zbn _ (fun x => by simp [AV.pure]) l
@[simp] theorem Lay.pure (l : Lay) : AV.pureAll l.cells = true := by
 simp [Lay.cells, AV.pureAll, AV.pure, zbn Sec.av (fun x => by simp [AV.pure]), zbn Port.av (fun x => by simp [AV.pure]), zbn Exi.av (fun x => by simp [AV.pure]), zbn Flank.av (fun x => by simp [AV.pure])]
def iT : TS := .int .i64
def zim : TS := .agg [iT, iT]
def secT : TS := .agg [.int .u8, .agg [zim, zim, zim, zim], .agg [iT, iT]]
def sigT : TS := .agg [zim]
def zm2 : TS := .agg [iT, iT, iT]
def zou : TS := .agg [zim, .sl true zm2]
def zmn : TS := .agg [iT, iT, iT, iT]
def zn8 : TS := .agg [iT, iT, iT, iT, iT, iT, iT]
def layT : TS := .agg [.sl true secT, .sl true sigT, .sl true zou, .sl true zmn, zn8]
def zlD : TS := .agg [iT, iT, .sl true zm2]
def zmK : TS := .agg [iT, iT, iT]
theorem zp1 {cs : List AV} (h : secT.fits cs) : ∃ s : Sec, AV.agg cs = s.av ∧ 0 ≤ s.kind ∧ s.kind ≤ 255 := by
 simp only [secT, zim, iT, zbw, zaG, zaF, zaH, List.append_nil, List.cons_append, List.nil_append] at h
 obtain ⟨m, q, rfl, hm, a0, q, rfl, _, a1, q, rfl, _, a2, q, rfl, _, a3, q, rfl, _, a4, q, rfl, _, a5, q, rfl, _, a6, q, rfl, _, a7, q, rfl, _, a8, q, rfl, _, a9, q, rfl, _, rfl⟩ := h
 exact ⟨⟨m, ⟨a0, a1⟩, ⟨a2, a3⟩, ⟨a4, a5⟩, ⟨a6, a7⟩, a8, a9⟩, rfl, by simpa using hm⟩
theorem zp2 {cs : List AV} (h : sigT.fits cs) : ∃ s : Port, AV.agg cs = s.av := by
 simp only [sigT, zim, iT, zbw, zaG, zaF, zbq, zaH, List.append_nil, List.cons_append, List.nil_append] at h
 obtain ⟨a0, q, rfl, _, a1, q, rfl, _, rfl⟩ := h
 exact ⟨⟨a0, a1⟩, rfl⟩
theorem ziz {cs : List AV} (h : zm2.fits cs) : ∃ s : Step, AV.agg cs = s.av := by
 simp only [zm2, iT, zbw, zaG, zaF, zbq, zaH, List.append_nil, List.cons_append, List.nil_append] at h
 obtain ⟨a0, q, rfl, _, a1, q, rfl, _, a2, q, rfl, _, rfl⟩ := h
 exact ⟨⟨a0, a1, a2⟩, rfl⟩
theorem znu {cs : List AV} (h : zmn.fits cs) : ∃ s : Flank, AV.agg cs = s.av := by
 simp only [zmn, iT, zbw, zaG, zaF, zbq, zaH, List.append_nil, List.cons_append, List.nil_append] at h
 obtain ⟨a0, q, rfl, _, a1, q, rfl, _, a2, q, rfl, _, a3, q, rfl, _, rfl⟩ := h
 exact ⟨⟨a0, a1, a2, a3⟩, rfl⟩
theorem zmL {cs : List AV} (h : zmK.fits cs) : ∃ s : Need, AV.agg cs = s.av := by
 simp only [zmK, iT, zbw, zaG, zaF, zbq, zaH, List.append_nil, List.cons_append, List.nil_append] at h
 obtain ⟨a0, q, rfl, _, a1, q, rfl, _, a2, q, rfl, _, rfl⟩ := h
 exact ⟨⟨a0, a1, a2⟩, rfl⟩
theorem zov {cs : List AV} (h : zou.fits cs) : ∃ s : Exi, AV.agg cs = s.av := by
 simp only [zou, zim, iT, zbw, zaG, zaF, zbq, zaH, List.append_nil, List.cons_append, List.nil_append] at h
 obtain ⟨a0, q, rfl, _, a1, q, rfl, _, es, q, rfl, hs, rfl⟩ := h
 obtain ⟨ov, rfl⟩ := zeU (g := Step.av) (fun cs h => ziz h) es hs.2
 exact ⟨⟨⟨a0, a1⟩, ov⟩, rfl⟩
def Lay.ok (l : Lay) : Prop := ∀ s ∈ l.secs, 0 ≤ s.kind ∧ s.kind ≤ 255
theorem zpJ {cs : List AV} (h : layT.fits cs) : ∃ l : Lay, AV.agg cs = l.av ∧ l.ok := by
 simp only [layT, zn8, iT, zbw, zaG, zaF, zbq, zaH, List.append_nil, List.cons_append, List.nil_append] at h
 obtain ⟨s1, q, rfl, h1, s2, q, rfl, h2, s3, q, rfl, h3, s4, q, rfl, h4, a0, q, rfl, _, a1, q, rfl, _, a2, q, rfl, _, a3, q, rfl, _, a4, q, rfl, _, a5, q, rfl, _, a6, q, rfl, _, rfl⟩ := h
 obtain ⟨secs, rfl, hs⟩ := zkw (g := Sec.av) (Q := fun s => 0 ≤ s.kind ∧ s.kind ≤ 255) (fun cs h => zp1 h) s1 h1.2
 obtain ⟨sigs, rfl⟩ := zeU (g := Port.av) (fun cs h => zp2 h) s2 h2.2
 obtain ⟨exits, rfl⟩ := zeU (g := Exi.av) (fun cs h => zov h) s3 h3.2
 obtain ⟨fls, rfl⟩ := zeU (g := Flank.av) (fun cs h => znu h) s4 h4.2
 exact ⟨⟨secs, sigs, exits, fls, a0, a1, a2, a3, a4, a5, a6⟩, rfl, hs⟩
theorem zoJ {cs : List AV} (h : zlD.fits cs) : ∃ l : Path, AV.agg cs = l.av := by
 simp only [zlD, iT, zbw, zaG, zaF, zbq, zaH, List.append_nil, List.cons_append, List.nil_append] at h
 obtain ⟨a0, q, rfl, _, a1, q, rfl, _, es, q, rfl, hs, rfl⟩ := h
 obtain ⟨ov, rfl⟩ := zeU (g := Step.av) (fun cs h => ziz h) es hs.2
 exact ⟨⟨a0, a1, ov⟩, rfl⟩
theorem zmD {x : AV} (h : layT.fits x.cells) (h2 : ze1 true x) : ∃ l : Lay, x = l.av ∧ l.ok := by
 obtain ⟨cs, rfl⟩ := h2.1 rfl
 exact zpJ h
theorem znQ {x : AV} (h : zlD.fits x.cells) (h2 : ze1 true x) : ∃ l : Path, x = l.av := by
 obtain ⟨cs, rfl⟩ := h2.1 rfl
 exact zoJ h
theorem znK {x : AV} (h : zmK.fits x.cells) (h2 : ze1 true x) : ∃ l : Need, x = l.av := by
 obtain ⟨cs, rfl⟩ := h2.1 rfl
 exact zmL h
theorem zoB {x : AV} (h : iT.fits x.cells) (h2 : ze1 false x) : ∃ n, x = I n := by
 obtain ⟨n, h1, _⟩ := zh7.1 h
 have : x = I n := by
  cases x <;> simp_all [AV.cells, ze1]
 exact ⟨n, this⟩
end Go.Lb.LK
namespace Go.Lb.LK
open Go Go.Lb
abbrev W (n : Int) : AV := .int .u32 n
abbrev B (b : Bool) : AV := .bool b
structure Img where
 age : Int
 free : Nat → Int
 occ : Int
 nor : Int
 rev : Int
 lamp : Int
def Img.cells (x : Img) : List AV := [I x.age, I (x.free 0), I (x.free 1), I (x.free 2), I (x.free 3), I (x.free 4), I (x.free 5), I (x.free 6), I (x.free 7), I (x.free 8), I (x.free 9), I (x.free 10), I (x.free 11), I (x.free 12), I (x.free 13), I (x.free 14), I (x.free 15), I (x.free 16), I (x.free 17), I (x.free 18), I (x.free 19), I (x.free 20), I (x.free 21), I (x.free 22), I (x.free 23), W x.occ, W x.nor, W x.rev, W x.lamp]
abbrev Img.av (x : Img) : AV := .agg x.cells
def Img.ok (x : Img) : Prop := (0 ≤ x.occ ∧ x.occ ≤ 4294967295) ∧ (0 ≤ x.nor ∧ x.nor ≤ 4294967295) ∧ (0 ≤ x.rev ∧ x.rev ≤ 4294967295) ∧ (0 ≤ x.lamp ∧ x.lamp ≤ 4294967295)
structure Hd where
 id : Int
 path : Path
 over : List Step
 needs : List Need
 stage : Int
 gone : Int
 was : Nat → Bool
 opn : Bool
 timer : Int
 shown : Bool
def Hd.cells (x : Hd) : List AV := [I x.id, I x.path.sig, I x.path.exit, steps x.path.steps, steps x.over, Go.Lb.LK.needs x.needs, U x.stage, I x.gone, .bool (x.was 0), .bool (x.was 1), .bool (x.was 2), .bool (x.was 3), .bool (x.was 4), .bool (x.was 5), .bool (x.was 6), .bool (x.was 7), .bool (x.was 8), .bool (x.was 9), .bool (x.was 10), .bool (x.was 11), .bool x.opn, I x.timer, .bool x.shown]
abbrev Hd.av (x : Hd) : AV := .agg x.cells
@[simp] theorem Img.pure (x : Img) : AV.pureAll x.cells = true := by simp [Img.cells, AV.pureAll, AV.pure]
@[simp] theorem Hd.pure (x : Hd) : AV.pureAll x.cells = true := by simp [Hd.cells, AV.pureAll, AV.pure]
@[simp] theorem zpi (b len n j : Nat) (k : IntKind) (u v : AV) : pv (.cellset b len 1 0 1 j) [.int k (n : Nat), u, .agg [v]] = if j = b + n then v else u := by
 simp only [pv, AV.cells, Int.toNat_natCast, Nat.mul_one, Nat.add_zero]
 by_cases h : j = b + n
 ·subst h; simp
 ·have : ¬ (b + n ≤ j ∧ j < b + n + 1) := by omega
  simp [this, h]
@[simp] theorem zoL (b len n j : Nat) (k : IntKind) (i : Int) (u v : AV) : pok (.cellset b len 1 0 n j) [.int k i, u, v] = (0 ≤ i ∧ i < len ∧ v.cells.length = n ∧ AV.ones v.cells = true ∧ j < b + len * 1 ∧ 0 + n ≤ 1) := rfl
theorem zny (x : Img) {i : Nat} (h : i < 24) (d : AV) : x.cells.getD (i + 1) d = I (x.free i) := by
 match i, h with
 | 0, _ => rfl
 | 1, _ => rfl
 | 2, _ => rfl
 | 3, _ => rfl
 | 4, _ => rfl
 | 5, _ => rfl
 | 6, _ => rfl
 | 7, _ => rfl
 | 8, _ => rfl
 | 9, _ => rfl
 | 10, _ => rfl
 | 11, _ => rfl
 | 12, _ => rfl
 | 13, _ => rfl
 | 14, _ => rfl
 | 15, _ => rfl
 | 16, _ => rfl
 | 17, _ => rfl
 | 18, _ => rfl
 | 19, _ => rfl
 | 20, _ => rfl
 | 21, _ => rfl
 | 22, _ => rfl
 | 23, _ => rfl
 | n + 24, h => exact absurd h (by omega)
theorem zo0 (x : Hd) {i : Nat} (h : i < 12) (d : AV) : x.cells.getD (i + 8) d = .bool (x.was i) := by
 match i, h with
 | 0, _ => rfl
 | 1, _ => rfl
 | 2, _ => rfl
 | 3, _ => rfl
 | 4, _ => rfl
 | 5, _ => rfl
 | 6, _ => rfl
 | 7, _ => rfl
 | 8, _ => rfl
 | 9, _ => rfl
 | 10, _ => rfl
 | 11, _ => rfl
def zhI (w : Nat → Bool) : List AV := [.bool (w 0), .bool (w 1), .bool (w 2), .bool (w 3), .bool (w 4), .bool (w 5), .bool (w 6), .bool (w 7), .bool (w 8), .bool (w 9), .bool (w 10), .bool (w 11)]
theorem wget (w : Nat → Bool) {i : Nat} (h : i < 12) (d : AV) : (zhI w).getD i d = .bool (w i) := by
 match i, h with
 | 0, _ => rfl
 | 1, _ => rfl
 | 2, _ => rfl
 | 3, _ => rfl
 | 4, _ => rfl
 | 5, _ => rfl
 | 6, _ => rfl
 | 7, _ => rfl
 | 8, _ => rfl
 | 9, _ => rfl
 | 10, _ => rfl
 | 11, _ => rfl
def upd {α : Type} (w : Nat → α) (k : Nat) (v : α) : Nat → α := fun j => if j = k then v else w j
def uT : TS := .int .u32
def inT : TS := .agg [uT, uT, uT, uT]
def imgT : TS := .agg [iT, .agg [iT, iT, iT, iT, iT, iT, iT, iT, iT, iT, iT, iT, iT, iT, iT, iT, iT, iT, iT, iT, iT, iT, iT, iT], inT]
def zoy : TS := .agg [iT, zlD, .sl true zm2, .sl true zmK, .int .u8, iT, .agg [.bool, .bool, .bool, .bool, .bool, .bool, .bool, .bool, .bool, .bool, .bool, .bool], .bool, iT, .bool]
end Go.Lb.LK
namespace Go.Lb.LK
open Go Go.Lb
theorem delOk : ∀ f, 0 < E.del f → zob E.P f (E.del f) := fun f h => by simp [E] at h
end Go.Lb.LK
namespace Go.Lb.LK
open Go Go.Lb Go.Proofs Go.RowKit
theorem ze8 {P : Program} {f : FuncId} {avs : List AV} {vs : List Value} {r : AV} {v : Value} (hr : r.pure = true) (ha : ∀ c us, Rvs c avs us → us = vs) (hv : ∀ c, Rv c r v) (h : ∀ w, Calls P f ⟨vs⟩ w fun e w' => e = .returned v ∧ w' = w) : zbp P [] f avs r := by
 refine ⟨hr, fun w c us _ him _ hvs => ?_⟩
 rw [ha c us hvs]
 refine (h w).mono ?_
 rintro e w' ⟨rfl, rfl⟩
 exact ⟨v, c, rfl, Cx.Le.refl c, by assumption, him, fun _ _ => ⟨fun _ _ h => h, fun _ h => h⟩, hv c, Below.refl _ _⟩
theorem EOkS : EnvOk ES := ⟨fun f h => by simp [ES] at h, fun f h => by simp [ES] at h, fun f h => by simp [ES] at h, fun g es h => by simp [ES] at h⟩
theorem bits0 : zbp PR [] f_mathbits_Len [.int .u64 0] (.int .i64 0) := by
 refine ze8 (vs := [.int .u64 0]) (v := .int .i64 0) rfl (fun c us h => ?_) (fun c => .int _ _) (fun w => Tryz.bits_Len 0 w (by omega) (by omega))
 cases h with
 | cons _ v _ vs h1 h2 => cases h1; cases h2; rfl
theorem sort0 : zbp PR [] f_slices_Sort_int [.sl []] (.tup []) := by
 refine zgl EOkS EmixS [] run_slices_Sort_int rfl rfl rfl ?_ rfl
 unfold rt_slices_Sort_int
 refine zkF.2 ⟨fun _ => by simp, ?_⟩
 refine zkG.2 (zkF.2 ⟨fun _ => by simp, zkG.2 ?_⟩)
 refine zdP (r := .int .i64 0) bits0 (by simp) ?_
 simp
 refine zaa rfl (fun vs => vs = []) (fun _ => 0) rfl ?_
 rintro vs - rfl
 simp
 refine zaa rfl (fun vs => vs = []) (fun _ => 0) rfl ?_
 rintro vs - rfl
 simp
theorem srtOk : zoe PR f_slices_Sort_int := ⟨fun blk off cap zs w h1 h2 h3 => Tryz.slices_Sort_int blk off cap zs w h1 h2 h3, sort0⟩
theorem cptOk : zoa PR f_slices_Compact_int := ⟨fun blk off cap zs w h1 h2 h3 => Tryz.slices_Compact_int blk off cap zs w h1 h2 h3, fun a cap w => Tryz.slices_Compact_int_empty a cap w⟩
theorem EOk : EnvOk E := by
 refine ⟨fun f h => ?_, fun f h => ?_, delOk, fun g es h => ?_⟩
 ·have : f = f_slices_Compact_int := by simpa [E, cptF] using h
  rw [this]; exact cptOk
 ·have : f = f_slices_Sort_int := by simpa [E, srtF] using h
  rw [this]; exact srtOk
 ·have hall : (GL.all fun es => SE.wfs 0 (fun _ => false) es) = true := by kernel_rfl
  have hm : es ∈ GL := by
   have h : GL[g]? = some es := h
   exact List.mem_of_getElem? h
  exact List.all_eq_true.1 hall es hm
abbrev C (f : Nat) (avs : List AV) (r : AV) : Prop := zbp PR GL f avs r
theorem ctr {f n : Nat} {args : List SE} (vs : List AV) {rt : RT} (hrun : runF E f args n = rt) (hw : SE.wfs n (fun _ => false) args = true)
  (hp : AV.pureAll vs = true) {r : AV} (hr : r.pure = true) (h : RTwp PR GL (fun x => x = r) rt (fun _ _ => False) (zc5 vs)) {avs : List AV} (ha : dens (zc5 vs) args = avs) : C f avs r :=
 zgl EOk Emix vs hrun hw hp hr h ha
theorem zcw {α : Type} (p : α → Bool) (l : List α) {i : Nat} (h : i < l.length) : (l.take (i + 1)).filter p = (l.take i).filter p ++ (if p l[i] = true then [l[i]] else []) := by
 rw [List.take_add_one, List.getElem?_eq_getElem h, List.filter_append]
 congr 1
 simp only [Option.toList_some, List.filter_cons, List.filter_nil]
theorem zdy {α : Type} (p : α → Bool) (l : List α) (i : Nat) : ((l.take i).filter p).length ≤ l.length := by
 have := List.length_filter_le p (l.take i)
 have : (l.take i).length ≤ l.length := by simp; omega
 omega
theorem zcH {α β : Type} (f : α → List β) (l : List α) {i : Nat} (h : i < l.length) : (l.take (i + 1)).flatMap f = (l.take i).flatMap f ++ f l[i] := by
 rw [List.take_add_one, List.getElem?_eq_getElem h, List.flatMap_append]
 simp
theorem map_take {α β : Type} (f : α → β) (l : List α) {i : Nat} (h : i < l.length) : (l.take (i + 1)).map f = (l.take i).map f ++ [f l[i]] := by
 rw [List.take_add_one, List.getElem?_eq_getElem h, List.map_append]
 simp
@[simp] theorem zpa (c : Prop) [Decidable c] (a b : Bool) : (if c then AV.bool a else AV.bool b) = AV.bool (if c then a else b) := by split <;> rfl
@[simp] theorem zpG (c : Prop) [Decidable c] (k : IntKind) (a b : Int) : (if c then AV.int k a else AV.int k b) = AV.int k (if c then a else b) := by split <;> rfl
theorem call {ρ : Nat → AV} {R : AV → Prop} {L : Nat → List AV → Prop} {n f : Nat} {args : List SE} {bo : Bool} {ns : List Nd} {k : RT} {r : AV} {avs : List AV} (hc : C f avs r) (ha : dens ρ args = avs) (hb : bo = true → r.scalar = true)
  (h : RTwp PR GL R (.seg ns k) L (zaL ρ n r)) : RTwp PR GL R (.seg (.call n [] f args bo :: ns) k) L ρ := zdP (by rw [ha]; exact hc) hb h
theorem zai {ρ : Nat → AV} {R : AV → Prop} {L : Nat → List AV → Prop} {pcs : List (SE × Bool)} {n f : Nat} {args : List SE} {bo : Bool} {ns : List Nd} {k : RT} {avs : List AV} (r : AV) (hr : r.pure = true) (hc : Holds ρ pcs → dens ρ args = avs ∧ C f avs r) (hb : bo = true → r.scalar = true)
  (h : RTwp PR GL R (.seg ns k) L (zaL ρ n r)) : RTwp PR GL R (.seg (.call n pcs f args bo :: ns) k) L ρ := ziH r hr (fun hp => ⟨by rw [(hc hp).1]; exact (hc hp).2, hb⟩) h
end Go.Lb.LK
namespace Go.Lb.LK
open Go Go.Lb Go.Proofs Go.RowKit
def stale (l : Lay) (im : Img) : Bool := decide (l.stale < im.age)
def zb5 (x n : Int) : Bool := decide (0 ≤ n) && (decide (n < 32) && x.toNat.testBit n.toNat)
theorem zm7 {n : Int} (h0 : 0 ≤ n) (h1 : n ≤ 4294967295) : IntKind.u32.wrap n = n := by
 simp only [IntKind.wrap, IntKind.signed, IntKind.bits]
 simp
 omega
theorem zoZ {n : Int} (h0 : 0 ≤ n) (h1 : n ≤ 4294967295) : IntKind.u64.wrap n = n := by
 simp only [IntKind.wrap, IntKind.signed, IntKind.bits]
 simp
 omega
theorem zpS (n : Nat) : (2 : Int) ^ n = ((2 ^ n : Nat) : Int) := by simp
theorem zoi (x n : Nat) : (((x &&& 2 ^ n : Nat) : Int) != 0) = x.testBit n := by
 cases h : x.testBit n
 ·have : x &&& 2 ^ n = 0 := by
   apply Nat.eq_of_testBit_eq
   intro i
   rw [Nat.testBit_and, Nat.testBit_two_pow, Nat.zero_testBit]
   by_cases hi : n = i
   ·subst hi; simp [h]
   ·simp [hi]
  rw [this]; rfl
 ·have : x &&& 2 ^ n ≠ 0 := by
   intro h0
   have := congrArg (Nat.testBit · n) h0
   simp [Nat.testBit_and, h] at this
  simpa using this
theorem g1 (x n : Nat) (hx : x ≤ 4294967295) (hn : n < 32) : (IntKind.u32.wrap ((x % 2 ^ IntKind.u32.bits &&& (IntKind.u32.wrap (2 ^ min n IntKind.u32.bits) % 2 ^ IntKind.u32.bits).toNat : Nat) : Int) != 0) = x.testBit n := by
 have hb : IntKind.u32.bits = 32 := rfl
 have h2 : 2 ^ n ≤ 2 ^ 31 := Nat.pow_le_pow_right (by omega) (by omega)
 have h1 : min n 32 = n := by omega
 have h4 : 2 ^ n ≤ 4294967295 := by omega
 generalize hp : 2 ^ n = p at h4
 rw [hb, h1, zpS, hp, zm7 (n := (p : Int)) (by omega) (by omega)]
 have e1 : ((p : Int) % 2 ^ 32).toNat = p := by omega
 have e2 : x % 2 ^ 32 = x := by omega
 have e3 : x &&& p ≤ x := Nat.and_le_left
 rw [e1, e2, zm7 (by omega) (by omega), ← hp]
 exact zoi x n
theorem g2 (x n : Nat) (hx : x ≤ 4294967295) (hn : n < 32) : (IntKind.u32.wrap ((((x : Int).fdiv (2 ^ min n IntKind.u32.bits) % 2 ^ IntKind.u32.bits).toNat &&& 1 % 2 ^ IntKind.u32.bits : Nat) : Int) == 1) = x.testBit n := by
 have hb : IntKind.u32.bits = 32 := rfl
 have h1 : min n 32 = n := by omega
 have e4 : Int.fdiv (x : Int) (2 ^ n) = ((x / 2 ^ n : Nat) : Int) := by
  rw [zpS]
  exact (Int.ofNat_fdiv x (2 ^ n)).symm
 have h6 : x / 2 ^ n ≤ x := Nat.div_le_self _ _
 rw [hb, h1, e4]
 have e1 : (((x / 2 ^ n : Nat) : Int) % 2 ^ 32).toNat = x / 2 ^ n := by generalize x / 2 ^ n = q at h6; omega
 have e2 : 1 % 2 ^ 32 = 1 := rfl
 rw [e1, e2, Nat.and_one_is_mod, Nat.testBit_eq_decide_div_mod_eq]
 have := Nat.mod_two_eq_zero_or_one (x / 2 ^ n)
 rcases this with h | h <;> simp [h] <;> decide
theorem zoj (x : Int) : C f_image_bit [W x] (.clo f_image_bit_1 [] [.ref [W x] 0]) := by
 refine ctr [W x] run_image_bit rfl rfl rfl ?_ rfl
 unfold rt_image_bit
 simp
theorem zlX (x n : Int) (h0 : 0 ≤ x) (h1 : x ≤ 4294967295) : C f_image_bit_1 [I n, .ref [W x] 0] (.bool (zb5 x n)) := by
 refine ctr [I n, W x] run_image_bit_1 rfl rfl rfl ?_ rfl
 unfold rt_image_bit_1
 obtain ⟨x, rfl⟩ : ∃ k : Nat, x = k := ⟨x.toNat, by omega⟩
 by_cases hn : 0 ≤ n
 ·obtain ⟨n, rfl⟩ : ∃ k : Nat, n = k := ⟨n.toNat, by omega⟩
  by_cases hn2 : n < 32
  ·have h3 : ((n : Nat) : Int) < 32 := by omega
   simp [zb5, h3]
   exact g1 x n (by omega) hn2
  ·have h3 : ¬ ((n : Nat) : Int) < 32 := by omega
   simp [zb5, h3]
 ·have h3 : ¬ (n ≥ 0) := by omega
  simp [zb5, hn, h3]
theorem zf1 (x n : Int) (h0 : 0 ≤ x) (h1 : x ≤ 4294967295) : C f_lockbarref15_bit [W x, I n] (.bool (zb5 x n)) := by
 refine ctr [W x, I n] run_lockbarref15_bit rfl rfl rfl ?_ rfl
 unfold rt_lockbarref15_bit
 obtain ⟨x, rfl⟩ : ∃ k : Nat, x = k := ⟨x.toNat, by omega⟩
 by_cases hn : 0 ≤ n
 ·obtain ⟨n, rfl⟩ : ∃ k : Nat, n = k := ⟨n.toNat, by omega⟩
  by_cases hn2 : n < 32
  ·have h3 : ((n : Nat) : Int) < 32 := by omega
   have e1 : IntKind.u64.wrap (n : Int) = n := zoZ (by omega) (by omega)
   simp [zb5, h3, e1]
   exact g2 x n (by omega) hn2
  ·have h3 : ¬ ((n : Nat) : Int) < 32 := by omega
   simp [zb5, h3]
 ·have h3 : ¬ (n ≥ 0) := by omega
  simp [zb5, hn, h3]
end Go.Lb.LK
