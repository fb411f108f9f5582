/- What functions come to, printed by a program, checked by the kernel. -/
import Derived.Test.YtmaldhbaihlmbaaGreatDoorCh1
set_option linter.unusedSimpArgs false
set_option linter.unusedVariables false
namespace Go.Lb.LK
open Go Go.Lb Go.Proofs
@[simp] noncomputable def qka3_0 : SE := .agg [.inp 0, .inp 1, .inp 2, .inp 3, .inp 4, .inp 5, .inp 6, .inp 7, .inp 8, .inp 9, .inp 10]
@[simp] noncomputable def qka3_38 : SE := .agg [.int .i64 (-1), .int .i64 0]
@[simp] noncomputable def qka3_39 : SE := .app (.eqa [ some .i64, some .i64] false) [.agg [.inp 0, .inp 1], qka3_38]
@[simp] noncomputable def qka3_40 : SE := .app (.bin .geq) [.inp 0, .int .i64 0]
@[simp] noncomputable def qka3_41 : SE := .app (.bin .lss) [.inp 0, .int .i64 24]
@[simp] noncomputable def qka3_42 : SE := .app .pick [qka3_40, qka3_41, .bool false]
@[simp] noncomputable def qka3_43 : SE := .app (.bin .geq) [.inp 1, .int .i64 0]
@[simp] noncomputable def qka3_44 : SE := .app .pick [qka3_42, qka3_43, .bool false]
@[simp] noncomputable def qka3_45 : SE := .app (.bin .lss) [.inp 1, .int .i64 4]
@[simp] noncomputable def qka3_46 : SE := .app .pick [qka3_44, qka3_45, .bool false]
@[simp] noncomputable def qka3_47 : SE := .app (.bin .lss) [.inp 11, .inp 12]
@[simp] noncomputable def qka3_48 : SE := .app (.aidx 4 2 1 2 true) [qka3_0, .inp 11]
@[simp] noncomputable def qka3_49 : SE := .app .pick [qka3_47, .app (.un .not) [.inp 13], .bool false]
@[simp] noncomputable def qka3_50 : SE := .app (.bin .geq) [.inp 11, .inp 14]
@[simp] noncomputable def qka3_51 : SE := .app (.eqa [ some .i64, some .i64] true) [qka3_48, qka3_38]
@[simp] noncomputable def qka3_52 : SE := .app .pick [qka3_50, qka3_51, .bool false]
@[simp] noncomputable def qka3_53 : SE := .app (.bin .add) [.inp 11, .int .i64 1]
@[simp] noncomputable def qka3_54 : SE := .app (.aidx 2 1 9 1 false) [qka3_0, .inp 12]
@[simp] noncomputable def qka3_55 : SE := .app (.bin .lss) [qka3_54, .int .i64 0]
@[simp] noncomputable def qka3_56 : SE := .app (.bin .gtr) [qka3_54, .int .i64 3]
@[simp] noncomputable def qka3_57 : SE := .app .pick [qka3_55, .bool true, qka3_56]
@[simp] noncomputable def qka3_58 : SE := .app (.bin .geq) [.inp 12, .inp 13]
@[simp] noncomputable def qka3_59 : SE := .app (.bin .neq) [qka3_54, .int .i64 0]
@[simp] noncomputable def qka3_60 : SE := .app .pick [qka3_58, qka3_59, .bool false]
@[simp] noncomputable def qka3_61 : SE := .app (.bin .add) [.inp 12, .int .i64 1]
@[simp] noncomputable def qka3_62 : SE := .agg [.inp 11, .inp 12, .inp 13, .inp 14, .inp 15, .inp 16, .inp 17, .inp 18, .inp 19, .inp 20, .inp 21]
@[simp] noncomputable def qka3_63 : SE := .app (.aidx 4 2 1 1 false) [qka3_62, .inp 22]
@[simp] noncomputable def qka3_64 : SE := .app (.bin .geq) [qka3_63, .int .i64 0]
@[simp] noncomputable def qka3_65 : SE := .app (.aidx 4 2 1 2 true) [qka3_62, .inp 22]
@[simp] noncomputable def qka3_66 : SE := .agg [.inp 11, .inp 12, .inp 13]
@[simp] noncomputable def qka3_67 : SE := .app (.eidx 3) [.inp 13, .inp 14]
@[simp] noncomputable def qka3_68 : SE := .app (.bin .add) [.inp 14, .int .i64 1]
@[simp] noncomputable def qka3_69 : SE := .app (.bin .leq) [.app .len [.inp 13], .int .i64 2]
@[simp] noncomputable def qka3_70 : SE := .app (.bin .lss) [.inp 11, .int .i64 0]
@[simp] noncomputable def qka3_71 : SE := .app (.bin .geq) [.inp 11, .app .len [.inp 0]]
@[simp] noncomputable def qka3_72 : SE := .app .pick [qka3_70, .bool true, qka3_71]
@[simp] noncomputable def qka3_73 : SE := .app (.bin .lss) [.inp 13, .int .i64 0]
@[simp] noncomputable def qka3_74 : SE := .app .pick [qka3_72, .bool true, qka3_73]
@[simp] noncomputable def qka3_75 : SE := .app (.bin .geq) [.inp 13, .app .len [.inp 0]]
@[simp] noncomputable def qka3_76 : SE := .app .pick [qka3_74, .bool true, qka3_75]
@[simp] noncomputable def qka3_77 : SE := .app (.bin .eql) [.inp 11, .inp 13]
@[simp] noncomputable def qka3_78 : SE := .app .pick [qka3_76, .bool true, qka3_77]
@[simp] noncomputable def qka3_79 : SE := .app (.bin .lss) [.inp 14, .int .i64 0]
@[simp] noncomputable def qka3_80 : SE := .app .pick [qka3_78, .bool true, qka3_79]
@[simp] noncomputable def qka3_81 : SE := .app (.bin .gtr) [.inp 14, .int .i64 1]
@[simp] noncomputable def qka3_82 : SE := .app (.bin .geq) [.inp 12, .int .i64 0]
@[simp] noncomputable def qka3_83 : SE := .app (.eidx 11) [.inp 0, .inp 11]
@[simp] noncomputable def qka3_84 : SE := .app (.eoff 0) [qka3_83]
@[simp] noncomputable def qka3_85 : SE := .app (.eload 1 false) [qka3_84]
@[simp] noncomputable def qka3_86 : SE := .app (.bin .lss) [.inp 12, .inp 20]
@[simp] noncomputable def qka3_87 : SE := .app .pick [qka3_82, qka3_86, .bool false]
@[simp] noncomputable def qka3_88 : SE := .app (.eidx 11) [.inp 0, .inp 13]
@[simp] noncomputable def qka3_89 : SE := .app (.eoff 0) [qka3_88]
@[simp] noncomputable def qka3_90 : SE := .app (.eload 1 false) [qka3_89]
@[simp] noncomputable def qka3_91 : SE := .app (.bin .eql) [qka3_90, .int .u8 2]
@[simp] noncomputable def qka3_92 : SE := .agg [.inp 0, .inp 1, .inp 2, .inp 3, .inp 4, .inp 5, .inp 6]
@[simp] noncomputable def qka3_93 : SE := .app (.aidx 7 1 0 1 false) [qka3_92, .inp 7]
@[simp] noncomputable def qka3_94 : SE := .app (.bin .lss) [qka3_93, .int .i64 1]
@[simp] noncomputable def qka3_95 : SE := .app (.bin .gtr) [qka3_93, .int .i64 1000]
@[simp] noncomputable def qka3_96 : SE := .app (.bin .lss) [.inp 11, .app .len [.inp 0]]
@[simp] noncomputable def qka3_97 : SE := .app (.eload 11 true) [qka3_83]
@[simp] noncomputable def qka3_98 : SE := .app (.eidx 2) [.inp 1, .inp 12]
@[simp] noncomputable def qka3_99 : SE := .app (.eoff 0) [qka3_98]
@[simp] noncomputable def qka3_100 : SE := .app (.eload 2 true) [qka3_99]
@[simp] noncomputable def qka3_101 : SE := .app (.eidx 3) [.inp 2, .inp 13]
@[simp] noncomputable def qka3_102 : SE := .app (.bin .add) [.inp 13, .int .i64 1]
@[simp] noncomputable def qka3_103 : SE := .app (.eidx 4) [.inp 3, .inp 14]
@[simp] noncomputable def qka3_104 : SE := .app (.bin .leq) [.app .len [.inp 0], .int .i64 24]
@[simp] noncomputable def qka3_105 : SE := .app (.bin .leq) [.app .len [.inp 1], .int .i64 12]
@[simp] noncomputable def qka3_106 : SE := .app .pick [qka3_104, qka3_105, .bool false]
@[simp] noncomputable def qka3_107 : SE := .app (.bin .leq) [.app .len [.inp 2], .int .i64 12]
@[simp] noncomputable def qka3_108 : SE := .app .pick [qka3_106, qka3_107, .bool false]
@[simp] noncomputable def qka3_109 : SE := .app (.bin .leq) [.app .len [.inp 3], .int .i64 16]
@[simp] noncomputable def qka3_110 : SE := .app .pick [qka3_108, qka3_109, .bool false]
@[simp] noncomputable def qka3_111 : SE := .app (.eidx 2) [.inp 1, .inp 13]
@[simp] noncomputable def qka3_112 : SE := .app (.eoff 0) [qka3_111]
@[simp] noncomputable def qka3_113 : SE := .app (.eload 2 true) [qka3_112]
@[simp] noncomputable def qka3_114 : SE := .app (.bin .geq) [.inp 11, .int .i64 0]
@[simp] noncomputable def qka3_115 : SE := .app .pick [qka3_114, qka3_96, .bool false]
@[simp] noncomputable def qka3_116 : SE := .app .pick [qka3_115, qka3_82, .bool false]
@[simp] noncomputable def qka3_117 : SE := .app (.bin .lss) [.inp 12, .inp 13]
@[simp] noncomputable def qka3_118 : SE := .app (.eoff 1) [qka3_83]
@[simp] noncomputable def qka3_119 : SE := .app (.eaidx 4 2) [qka3_118, .inp 12]
@[simp] noncomputable def qka3_120 : SE := .app (.eload 2 true) [qka3_119]
@[simp] noncomputable def qka3_121 : SE := .app (.bin .lss) [.inp 11, .int .i64 24]
@[simp] noncomputable def qka3_122 : SE := .app (.part 0 1 false) [qka3_97]
@[simp] noncomputable def qka3_123 : SE := .agg [qka3_122, .app (.part 1 1 false) [qka3_97], .app (.part 2 1 false) [qka3_97], .app (.part 3 1 false) [qka3_97], .app (.part 4 1 false) [qka3_97], .app (.part 5 1 false) [qka3_97], .app (.part 6 1 false) [qka3_97], .app (.part 7 1 false) [qka3_97], .app (.part 8 1 false) [qka3_97], .app (.part 9 1 false) [qka3_97], .app (.part 10 1 false) [qka3_97]]
@[simp] noncomputable def qka3_124 : SE := .app (.aidx 4 2 1 2 true) [qka3_123, .inp 13]
@[simp] noncomputable def qka3_125 : SE := .app (.eqa [ some .i64, some .i64] true) [.agg [.inp 16, .inp 17], .inp 18]
@[simp] noncomputable def qka3_126 : SE := .app (.bin .eql) [.inp 16, .inp 11]
@[simp] noncomputable def qka3_127 : SE := .app .pick [.app (.un .not) [.inp 19], .bool true, qka3_126]
@[simp] noncomputable def qka3_128 : SE := .app (.eqa [ some .i64, some .i64] true) [.inp 20, .agg [.inp 11, .inp 13]]
@[simp] noncomputable def qka3_129 : SE := .app .pick [qka3_127, .bool true, qka3_128]
@[simp] noncomputable def qka3_130 : SE := .app (.bin .lss) [.inp 12, .inp 11]
@[simp] noncomputable def qka3_131 : SE := .app (.eidx 2) [.inp 1, .inp 11]
@[simp] noncomputable def qka3_132 : SE := .app (.eoff 0) [qka3_131]
@[simp] noncomputable def qka3_133 : SE := .app (.eload 2 true) [qka3_132]
@[simp] noncomputable def qka3_134 : SE := .app (.bin .lss) [.inp 11, .app .len [.inp 2]]
@[simp] noncomputable def qka3_135 : SE := .app (.eidx 3) [.inp 2, .inp 12]
@[simp] noncomputable def qka3_136 : SE := .app (.eoff 0) [qka3_135]
@[simp] noncomputable def qka3_137 : SE := .app (.eidx 3) [.inp 2, .inp 11]
@[simp] noncomputable def qka3_138 : SE := .app (.eoff 0) [qka3_137]
@[simp] noncomputable def qka3_139 : SE := .app (.eload 2 true) [qka3_136]
@[simp] noncomputable def qka3_140 : SE := .app (.eload 2 true) [qka3_138]
@[simp] noncomputable def qka3_141 : SE := .app .pick [.app (.un .not) [.inp 12], .bool true, qka3_70]
@[simp] noncomputable def qka3_142 : SE := .app (.bin .geq) [.inp 11, .app .len [.inp 2]]
@[simp] noncomputable def qka3_143 : SE := .app (.eoff 2) [qka3_137]
@[simp] noncomputable def qka3_144 : SE := .app (.eload 1 false) [qka3_143]
@[simp] noncomputable def qka3_145 : SE := .app .len [qka3_144]
@[simp] noncomputable def qka3_146 : SE := .app (.eidx 3) [qka3_144, .inp 14]
@[simp] noncomputable def qka3_147 : SE := .app (.eoff 0) [qka3_146]
@[simp] noncomputable def qka3_148 : SE := .app (.eoff 1) [qka3_146]
@[simp] noncomputable def qka3_149 : SE := .app (.eload 1 false) [qka3_147]
@[simp] noncomputable def qka3_150 : SE := .app (.eload 1 false) [qka3_148]
@[simp] noncomputable def qka3_151 : SE := .agg [qka3_149, qka3_150]
@[simp] noncomputable def qka3_152 : SE := .app (.eqa [ some .i64, some .i64] true) [.inp 17, qka3_151]
@[simp] noncomputable def qka3_153 : SE := .app (.eoff 0) [qka3_138]
@[simp] noncomputable def qka3_154 : SE := .app (.eload 1 false) [qka3_153]
@[simp] noncomputable def qka3_155 : SE := .app (.bin .eql) [qka3_149, qka3_154]
@[simp] noncomputable def qka3_156 : SE := .app (.eidx 3) [qka3_144, .inp 21]
@[simp] noncomputable def qka3_157 : SE := .app (.eoff 0) [qka3_156]
@[simp] noncomputable def qka3_158 : SE := .app (.eload 1 false) [qka3_157]
@[simp] noncomputable def qka3_159 : SE := .app (.eoff 2) [qka3_146]
@[simp] noncomputable def qka3_160 : SE := .app (.eload 1 false) [qka3_159]
@[simp] noncomputable def qka3_161 : SE := .app (.eidx 4) [.inp 3, .inp 12]
@[simp] noncomputable def qka3_162 : SE := .app (.eidx 4) [.inp 3, .inp 11]
@[simp] noncomputable def qka3_163 : SE := .app (.eload 4 true) [qka3_161]
@[simp] noncomputable def qka3_164 : SE := .app (.eload 4 true) [qka3_162]
@[simp] noncomputable def qka3_165 : SE := .app (.part 0 1 false) [qka3_163]
@[simp] noncomputable def qka3_166 : SE := .app (.part 0 1 false) [qka3_164]
@[simp] noncomputable def qka3_167 : SE := .app (.bin .eql) [qka3_165, qka3_166]
@[simp] noncomputable def qka3_168 : SE := .app (.part 1 1 false) [qka3_163]
@[simp] noncomputable def qka3_169 : SE := .app (.part 1 1 false) [qka3_164]
@[simp] noncomputable def qka3_170 : SE := .app (.bin .eql) [qka3_168, qka3_169]
@[simp] noncomputable def qka3_171 : SE := .app .pick [qka3_167, qka3_170, .bool false]
@[simp] noncomputable def qka3_172 : SE := .app (.part 2 1 false) [qka3_163]
@[simp] noncomputable def qka3_173 : SE := .app (.part 2 1 false) [qka3_164]
@[simp] noncomputable def qka3_174 : SE := .app (.bin .eql) [qka3_172, qka3_173]
@[simp] noncomputable def qka3_175 : SE := .agg [.inp 13, .inp 14, .inp 15, .inp 16]
@[simp] noncomputable def qka3_176 : SE := .app (.aidx 4 1 0 1 false) [qka3_175, .inp 17]
@[simp] noncomputable def qka3_177 : SE := .app (.eidx 3) [.inp 11, .inp 12]
@[simp] noncomputable def qka3_178 : SE := .app (.un .not) [.app (.tproj 1) [.inp 13]]
@[simp] noncomputable def qka3_179 : SE := .app (.bin .gtr) [.inp 12, .int .i64 0]
@[simp] noncomputable def qka3_180 : SE := .app (.bin .sub) [.inp 12, .int .i64 1]
@[simp] noncomputable def qka3_181 : SE := .app (.eidx 3) [.inp 11, qka3_180]
@[simp] noncomputable def qka3_182 : SE := .app (.eoff 0) [qka3_181]
@[simp] noncomputable def qka3_183 : SE := .app (.eoff 2) [qka3_181]
@[simp] noncomputable def qka3_184 : SE := .app (.eload 1 false) [qka3_182]
@[simp] noncomputable def qka3_185 : SE := .app (.eload 1 false) [qka3_183]
@[simp] noncomputable def qka3_186 : SE := .app (.eoff 0) [qka3_177]
@[simp] noncomputable def qka3_187 : SE := .app (.eoff 1) [qka3_177]
@[simp] noncomputable def qka3_188 : SE := .app (.eload 1 false) [qka3_186]
@[simp] noncomputable def qka3_189 : SE := .app (.eload 1 false) [qka3_187]
@[simp] noncomputable def qka3_190 : SE := .agg [qka3_188, qka3_189]
@[simp] noncomputable def qka3_191 : SE := .app (.eqa [ some .i64, some .i64] true) [.inp 14, qka3_190]
@[simp] noncomputable def qka3_192 : SE := .app .pick [qka3_179, qka3_191, .bool false]
@[simp] noncomputable def qka3_193 : SE := .app (.eidx 3) [.inp 0, .inp 3]
@[simp] noncomputable def qka3_194 : SE := .app (.eoff 0) [qka3_193]
@[simp] noncomputable def qka3_195 : SE := .app (.eidx 3) [.inp 0, .inp 2]
@[simp] noncomputable def qka3_196 : SE := .app (.eoff 0) [qka3_195]
@[simp] noncomputable def qka3_197 : SE := .app (.eload 1 false) [qka3_194]
@[simp] noncomputable def qka3_198 : SE := .app (.eload 1 false) [qka3_196]
@[simp] noncomputable def qka3_199 : SE := .app (.eidx 3) [.inp 1, .inp 4]
@[simp] noncomputable def qka3_200 : SE := .app (.eoff 0) [qka3_199]
@[simp] noncomputable def qka3_201 : SE := .app (.eload 1 false) [qka3_200]
@[simp] noncomputable def qka3_202 : SE := .app (.bin .lss) [.inp 6, .app .len [.inp 2]]
@[simp] noncomputable def qka3_203 : SE := .app (.eidx 3) [.inp 2, .inp 6]
@[simp] noncomputable def qka3_204 : SE := .app (.eoff 0) [qka3_203]
@[simp] noncomputable def qka3_205 : SE := .app (.eidx 1) [.inp 3, .inp 5]
@[simp] noncomputable def qka3_206 : SE := .app (.eload 1 false) [qka3_204]
@[simp] noncomputable def qka3_207 : SE := .app (.eload 1 false) [qka3_205]
@[simp] noncomputable def qka3_208 : SE := .app (.bin .neq) [qka3_206, qka3_207]
@[simp] noncomputable def qka3_209 : SE := .app (.bin .add) [.inp 6, .int .i64 1]
@[simp] noncomputable def qka3_210 : SE := .app .pick [.app (.un .not) [.inp 15], .bool true, qka3_70]
@[simp] noncomputable def qka3_211 : SE := .app (.bin .geq) [.inp 11, .app .len [.inp 1]]
@[simp] noncomputable def qka3_212 : SE := .app .pick [qka3_210, .bool true, qka3_211]
@[simp] noncomputable def qka3_213 : SE := .app (.bin .lss) [.inp 12, .int .i64 0]
@[simp] noncomputable def qka3_214 : SE := .app .pick [qka3_212, .bool true, qka3_213]
@[simp] noncomputable def qka3_215 : SE := .app (.bin .geq) [.inp 12, .app .len [.inp 2]]
@[simp] noncomputable def qka3_216 : SE := .app .pick [qka3_214, .bool true, qka3_215]
@[simp] noncomputable def qka3_217 : SE := .app (.bin .gtr) [.app .len [.inp 14], .int .i64 2]
@[simp] noncomputable def qka3_218 : SE := .app (.eidx 1) [.inp 14, .inp 20]
@[simp] noncomputable def qka3_219 : SE := .app (.eload 1 false) [qka3_218]
@[simp] noncomputable def qka3_220 : SE := .app (.bin .lss) [qka3_219, .int .i64 0]
@[simp] noncomputable def qka3_221 : SE := .app (.bin .geq) [qka3_219, .app .len [.inp 0]]
@[simp] noncomputable def qka3_222 : SE := .app (.bin .lss) [.app .len [.inp 13], .int .i64 1]
@[simp] noncomputable def qka3_223 : SE := .app (.bin .gtr) [.app .len [.inp 13], .int .i64 12]
@[simp] noncomputable def qka3_224 : SE := .app .pick [qka3_222, .bool true, qka3_223]
@[simp] noncomputable def qka3_225 : SE := .app .pick [qka3_224, .bool true, .app (.un .not) [.inp 21]]
@[simp] noncomputable def qka3_226 : SE := .app (.eoff 2) [qka3_135]
@[simp] noncomputable def qka3_227 : SE := .app .pick [qka3_225, .bool true, .app (.un .not) [.inp 22]]
@[simp] noncomputable def qka3_228 : SE := .app (.eidx 3) [.inp 13, .int .i64 0]
@[simp] noncomputable def qka3_229 : SE := .app (.eoff 0) [qka3_228]
@[simp] noncomputable def qka3_230 : SE := .app (.eoff 1) [qka3_228]
@[simp] noncomputable def qka3_231 : SE := .app (.eload 1 false) [qka3_229]
@[simp] noncomputable def qka3_232 : SE := .app (.eload 1 false) [qka3_230]
@[simp] noncomputable def qka3_233 : SE := .agg [qka3_231, qka3_232]
@[simp] noncomputable def qka3_234 : SE := .app (.eqa [ some .i64, some .i64] true) [qka3_133, qka3_233]
@[simp] noncomputable def qka3_235 : SE := .app (.bin .sub) [.app .len [.inp 13], .int .i64 1]
@[simp] noncomputable def qka3_236 : SE := .app (.eidx 3) [.inp 13, qka3_235]
@[simp] noncomputable def qka3_237 : SE := .app (.eoff 0) [qka3_236]
@[simp] noncomputable def qka3_238 : SE := .app (.eoff 2) [qka3_236]
@[simp] noncomputable def qka3_239 : SE := .app (.eload 1 false) [qka3_237]
@[simp] noncomputable def qka3_240 : SE := .app (.eload 1 false) [qka3_238]
@[simp] noncomputable def qka3_241 : SE := .agg [qka3_239, qka3_240]
@[simp] noncomputable def qka3_242 : SE := .app (.eqa [ some .i64, some .i64] true) [qka3_139, qka3_241]
@[simp] noncomputable def qka3_243 : SE := .app (.eidx 3) [.inp 13, .inp 31]
@[simp] noncomputable def qka3_244 : SE := .app (.eoff 0) [qka3_243]
@[simp] noncomputable def qka3_245 : SE := .app (.eoff 1) [qka3_243]
@[simp] noncomputable def qka3_246 : SE := .app (.eload 1 false) [qka3_244]
@[simp] noncomputable def qka3_247 : SE := .app (.eload 1 false) [qka3_245]
noncomputable def rt_lockbarref05_Ports : RT :=
.seg [.chk [] (.bin .eql) [.inp 0, .int .u8 1]] <|
.cond (.app (.bin .eql) [.inp 0, .int .u8 1])
 (.ret (.int .i64 2))
 (.seg [.chk [] (.bin .eql) [.inp 0, .int .u8 2]] <|
.cond (.app (.bin .eql) [.inp 0, .int .u8 2])
 (.ret (.int .i64 3))
 (.seg [.chk [] (.bin .eql) [.inp 0, .int .u8 3]] <|
.cond (.app (.bin .eql) [.inp 0, .int .u8 3])
 (.ret (.int .i64 4))
 (.ret (.int .i64 0))))
theorem run_lockbarref05_Ports : runF E 176 [.inp 0] 1 = rt_lockbarref05_Ports := by kernel_rfl

noncomputable def rt_lockbarref05_May : RT :=
.seg [.chk [] (.isAgg 2) [.agg [.inp 0, .inp 1]]] <|
.seg [.chk [] (.eqa [ some .i64, some .i64] false) [.agg [.inp 0, .inp 1], qka3_38]] <|
.seg [.chk [(qka3_39, false)] (.bin .geq) [.inp 0, .int .i64 0]] <|
.seg [.chk [(qka3_40, true), (qka3_39, false)] (.bin .lss) [.inp 0, .int .i64 24]] <|
.seg [.chk [(qka3_39, false)] .pick [qka3_40, qka3_41, .bool false]] <|
.seg [.chk [(qka3_42, true), (qka3_39, false)] (.bin .geq) [.inp 1, .int .i64 0]] <|
.seg [.chk [(qka3_39, false)] .pick [qka3_42, qka3_43, .bool false]] <|
.seg [.chk [(qka3_44, true), (qka3_39, false)] (.bin .lss) [.inp 1, .int .i64 4]] <|
.seg [.chk [(qka3_39, false)] .pick [qka3_44, qka3_45, .bool false]] <|
.seg [.chk [] .pick [qka3_39, .bool true, qka3_46]] <|
.seg [.bind 2 (.app .pick [qka3_39, .bool true, qka3_46]),
.bind 3 (qka3_44),
.bind 4 (qka3_46)] <|
.ret (.inp 2)
theorem run_lockbarref05_May : runF E 182 [.agg [.inp 0, .inp 1]] 2 = rt_lockbarref05_May := by kernel_rfl

noncomputable def rt_lockbarref05_Right : RT :=
.seg [.chk [] (.isAgg 11) [qka3_0]] <|
.loop 0 11 [.int .i64 0] <|
.seg [.chk [] (.bin .lss) [.inp 11, .int .i64 4]] <|
.cond (.app (.bin .lss) [.inp 11, .int .i64 4])
 (.seg [.call 12 [] 176 [.inp 0] false] <|
.seg [.chk [] (.bin .lss) [.inp 11, .inp 12]] <|
.seg [.chk [(qka3_47, true)] (.inr 4) [.inp 11]] <|
.seg [.chk [(qka3_47, true)] (.aidx 4 2 1 2 true) [qka3_0, .inp 11]] <|
.seg [.call 13 [(qka3_47, true)] 182 [qka3_48] false] <|
.seg [.chk [(qka3_47, true)] (.un .not) [.inp 13]] <|
.seg [.chk [] .pick [qka3_47, .app (.un .not) [.inp 13], .bool false]] <|
.seg [.call 14 [(qka3_49, false)] 176 [.inp 0] false] <|
.seg [.chk [(qka3_49, false)] (.bin .geq) [.inp 11, .inp 14]] <|
.seg [.chk [(qka3_50, true), (qka3_49, false)] (.inr 4) [.inp 11]] <|
.seg [.chk [(qka3_50, true), (qka3_49, false)] (.aidx 4 2 1 2 true) [qka3_0, .inp 11]] <|
.seg [.chk [(qka3_50, true), (qka3_49, false)] (.eqa [ some .i64, some .i64] true) [qka3_48, qka3_38]] <|
.seg [.chk [(qka3_49, false)] .pick [qka3_50, qka3_51, .bool false]] <|
.seg [.chk [] .pick [qka3_49, .bool true, qka3_52]] <|
.seg [.bind 15 (qka3_48),
.bind 16 (qka3_51),
.bind 17 (qka3_52),
.bind 18 (.app .pick [qka3_49, .bool true, qka3_52])] <|
.cond (.inp 18)
 (.ret (.bool false))
 (.seg [.chk [] (.bin .add) [.inp 11, .int .i64 1]] <|
.again 0 [qka3_53]))
 (.loop 0 12 [.int .i64 0] <|
.seg [.chk [] (.bin .lss) [.inp 12, .int .i64 2]] <|
.cond (.app (.bin .lss) [.inp 12, .int .i64 2])
 (.seg [.chk [] (.inr 2) [.inp 12]] <|
.seg [.chk [] (.aidx 2 1 9 1 false) [qka3_0, .inp 12]] <|
.seg [.chk [] (.bin .lss) [qka3_54, .int .i64 0]] <|
.seg [.chk [(qka3_55, false)] (.inr 2) [.inp 12]] <|
.seg [.chk [(qka3_55, false)] (.aidx 2 1 9 1 false) [qka3_0, .inp 12]] <|
.seg [.chk [(qka3_55, false)] (.bin .gtr) [qka3_54, .int .i64 3]] <|
.seg [.chk [] .pick [qka3_55, .bool true, qka3_56]] <|
.seg [.call 13 [(qka3_57, false)] 158 [.inp 0] false] <|
.seg [.chk [(qka3_57, false)] (.bin .geq) [.inp 12, .inp 13]] <|
.seg [.chk [(qka3_58, true), (qka3_57, false)] (.inr 2) [.inp 12]] <|
.seg [.chk [(qka3_58, true), (qka3_57, false)] (.aidx 2 1 9 1 false) [qka3_0, .inp 12]] <|
.seg [.chk [(qka3_58, true), (qka3_57, false)] (.bin .neq) [qka3_54, .int .i64 0]] <|
.seg [.chk [(qka3_57, false)] .pick [qka3_58, qka3_59, .bool false]] <|
.seg [.chk [] .pick [qka3_57, .bool true, qka3_60]] <|
.seg [.bind 14 (qka3_54),
.bind 15 (qka3_55),
.bind 16 (qka3_56),
.bind 17 (qka3_57),
.bind 18 (qka3_59),
.bind 19 (qka3_60),
.bind 20 (.app .pick [qka3_57, .bool true, qka3_60])] <|
.cond (.inp 20)
 (.ret (.bool false))
 (.seg [.chk [] (.bin .add) [.inp 12, .int .i64 1]] <|
.again 0 [qka3_61]))
 (.seg [.call 13 [] 176 [.inp 0] false] <|
.seg [.chk [] (.bin .gtr) [.inp 13, .int .i64 0]] <|
.ret (.app (.bin .gtr) [.inp 13, .int .i64 0])))
theorem run_lockbarref05_Right : runF E 175 [.agg [.inp 0, .inp 1, .inp 2, .inp 3, .inp 4, .inp 5, .inp 6, .inp 7, .inp 8, .inp 9, .inp 10]] 11 = rt_lockbarref05_Right := by kernel_rfl

noncomputable def rt_lockbarref06_there : RT :=
.seg [.chk [] (.isAgg 11) [qka3_0]] <|
.seg [.chk [] (.isAgg 2) [.agg [.inp 11, .inp 12]]] <|
.seg [.call 13 [] 181 [qka3_0, .agg [.inp 11, .inp 12]] false] <|
.seg [.chk [] (.tproj 0) [.inp 13]] <|
.seg [.chk [] (.tproj 1) [.inp 13]] <|
.seg [.chk [] (.isAgg 11) [.app (.tproj 0) [.inp 13]]] <|
.ret (.app (.tproj 1) [.inp 13])
theorem run_lockbarref06_there : runF E 171 [.agg [.inp 0, .inp 1, .inp 2, .inp 3, .inp 4, .inp 5, .inp 6, .inp 7, .inp 8, .inp 9, .inp 10], .agg [.inp 11, .inp 12]] 13 = rt_lockbarref06_there := by kernel_rfl

noncomputable def rt_lockbarref06_section : RT :=
.seg [.chk [] (.isAgg 11) [qka3_0]] <|
.seg [.chk [] (.isAgg 11) [qka3_62]] <|
.loop 0 22 [.int .i64 0] <|
.seg [.chk [] (.bin .lss) [.inp 22, .int .i64 4]] <|
.cond (.app (.bin .lss) [.inp 22, .int .i64 4])
 (.seg [.chk [] (.inr 4) [.inp 22],
.chk [] (.inr 4) [.inp 22],
.chk [] (.aidx 4 2 1 1 false) [qka3_62, .inp 22],
.chk [] (.bin .geq) [qka3_63, .int .i64 0],
.chk [(qka3_64, true)] (.inr 4) [.inp 22],
.chk [(qka3_64, true)] (.aidx 4 2 1 2 true) [qka3_62, .inp 22],
.call 23 [(qka3_64, true)] 171 [qka3_0, qka3_65] false,
.chk [(qka3_64, true)] (.un .not) [.inp 23],
.chk [] .pick [qka3_64, .app (.un .not) [.inp 23], .bool false]] <|
.seg [.bind 24 (qka3_63),
.bind 25 (qka3_64),
.bind 26 (qka3_65),
.bind 27 (.app .pick [qka3_64, .app (.un .not) [.inp 23], .bool false])] <|
.cond (.inp 27)
 (.ret (.bool false))
 (.seg [.chk [] (.bin .add) [.inp 22, .int .i64 1]] <|
.again 0 [.app (.bin .add) [.inp 22, .int .i64 1]]))
 (.seg [.call 23 [] 175 [qka3_62] false] <|
.ret (.inp 23))
theorem run_lockbarref06_section : runF E 170 [.agg [.inp 0, .inp 1, .inp 2, .inp 3, .inp 4, .inp 5, .inp 6, .inp 7, .inp 8, .inp 9, .inp 10], .agg [.inp 11, .inp 12, .inp 13, .inp 14, .inp 15, .inp 16, .inp 17, .inp 18, .inp 19, .inp 20, .inp 21]] 22 = rt_lockbarref06_section := by kernel_rfl

noncomputable def rt_lockbarref06_exit : RT :=
.seg [.chk [] (.isAgg 11) [qka3_0]] <|
.seg [.chk [] (.isAgg 3) [qka3_66]] <|
.loop 0 14 [.int .i64 0] <|
.seg [.chk [] .len [.inp 13]] <|
.seg [.chk [] (.bin .lss) [.inp 14, .app .len [.inp 13]]] <|
.cond (.app (.bin .lss) [.inp 14, .app .len [.inp 13]])
 (.seg [.chk [] (.eidx 3) [.inp 13, .inp 14],
.chk [] (.eload 3 true) [qka3_67],
.call 15 [] 110 [qka3_0, .app (.eload 3 true) [qka3_67]] false,
.chk [] (.tproj 0) [.inp 15],
.chk [] (.tproj 1) [.inp 15]] <|
.seg [.chk [] (.un .not) [.app (.tproj 1) [.inp 15]]] <|
.cond (.app (.tproj 1) [.inp 15])
 (.seg [.chk [] (.bin .add) [.inp 14, .int .i64 1]] <|
.again 0 [qka3_68])
 (.ret (.bool false)))
 (.seg [.call 15 [] 171 [qka3_0, .agg [.inp 11, .inp 12]] false] <|
.seg [.chk [(.inp 15, true)] .len [.inp 13]] <|
.seg [.chk [(.inp 15, true)] (.bin .leq) [.app .len [.inp 13], .int .i64 2]] <|
.seg [.chk [] .pick [.inp 15, qka3_69, .bool false]] <|
.ret (.app .pick [.inp 15, qka3_69, .bool false]))
theorem run_lockbarref06_exit : runF E 172 [.agg [.inp 0, .inp 1, .inp 2, .inp 3, .inp 4, .inp 5, .inp 6, .inp 7, .inp 8, .inp 9, .inp 10], .agg [.inp 11, .inp 12, .inp 13]] 14 = rt_lockbarref06_exit := by kernel_rfl

noncomputable def rt_lockbarref06_flank : RT :=
.seg [.chk [] (.isAgg 11) [qka3_0]] <|
.seg [.chk [] (.isAgg 4) [.agg [.inp 11, .inp 12, .inp 13, .inp 14]]] <|
.seg [.chk [] .len [.inp 0]] <|
.seg [.chk [] (.bin .lss) [.inp 11, .int .i64 0]] <|
.seg [.chk [(qka3_70, false)] (.bin .geq) [.inp 11, .app .len [.inp 0]]] <|
.seg [.chk [] .pick [qka3_70, .bool true, qka3_71]] <|
.seg [.chk [(qka3_72, false)] (.bin .lss) [.inp 13, .int .i64 0]] <|
.seg [.chk [] .pick [qka3_72, .bool true, qka3_73]] <|
.seg [.chk [(qka3_74, false)] (.bin .geq) [.inp 13, .app .len [.inp 0]]] <|
.seg [.chk [] .pick [qka3_74, .bool true, qka3_75]] <|
.seg [.chk [(qka3_76, false)] (.bin .eql) [.inp 11, .inp 13]] <|
.seg [.chk [] .pick [qka3_76, .bool true, qka3_77]] <|
.seg [.chk [(qka3_78, false)] (.bin .lss) [.inp 14, .int .i64 0]] <|
.seg [.chk [] .pick [qka3_78, .bool true, qka3_79]] <|
.seg [.chk [(qka3_80, false)] (.bin .gtr) [.inp 14, .int .i64 1]] <|
.seg [.chk [] .pick [qka3_80, .bool true, qka3_81]] <|
.seg [.bind 15 (qka3_74),
.bind 16 (qka3_76),
.bind 17 (qka3_78),
.bind 18 (qka3_80),
.bind 19 (.app .pick [qka3_80, .bool true, qka3_81])] <|
.cond (.inp 19)
 (.ret (.bool false))
 (.seg [.chk [] (.bin .geq) [.inp 12, .int .i64 0],
.chk [(qka3_82, true)] (.eidx 11) [.inp 0, .inp 11],
.chk [(qka3_82, true)] (.eoff 0) [qka3_83],
.chk [(qka3_82, true)] (.eload 1 false) [qka3_84],
.call 20 [(qka3_82, true)] 158 [qka3_85] false,
.chk [(qka3_82, true)] (.bin .lss) [.inp 12, .inp 20],
.chk [] .pick [qka3_82, qka3_86, .bool false],
.chk [(qka3_87, true)] (.eidx 11) [.inp 0, .inp 13],
.chk [(qka3_87, true)] (.eoff 0) [qka3_88],
.chk [(qka3_87, true)] (.eload 1 false) [qka3_89],
.chk [(qka3_87, true)] (.bin .eql) [qka3_90, .int .u8 2],
.chk [] .pick [qka3_87, qka3_91, .bool false]] <|
.seg [.bind 21 (.app .pick [qka3_87, qka3_91, .bool false])] <|
.ret (.inp 21))
theorem run_lockbarref06_flank : runF E 173 [.agg [.inp 0, .inp 1, .inp 2, .inp 3, .inp 4, .inp 5, .inp 6, .inp 7, .inp 8, .inp 9, .inp 10], .agg [.inp 11, .inp 12, .inp 13, .inp 14]] 15 = rt_lockbarref06_flank := by kernel_rfl

noncomputable def rt_lockbarref06_times : RT :=
.seg [.chk [] (.isAgg 7) [qka3_92]] <|
.seg [.chk [] .isOne [.inp 0],
.chk [] .isOne [.inp 1],
.chk [] .isOne [.inp 2],
.chk [] .isOne [.inp 3],
.chk [] .isOne [.inp 4],
.chk [] .isOne [.inp 5],
.chk [] .isOne [.inp 6]] <|
.seg [.chk [] (.isAgg 7) [qka3_92]] <|
.loop 0 7 [.int .i64 0] <|
.seg [.chk [] (.bin .lss) [.inp 7, .int .i64 7]] <|
.cond (.app (.bin .lss) [.inp 7, .int .i64 7])
 (.seg [.chk [] (.inr 7) [.inp 7]] <|
.seg [.chk [] (.aidx 7 1 0 1 false) [qka3_92, .inp 7]] <|
.seg [.chk [] (.bin .lss) [qka3_93, .int .i64 1]] <|
.seg [.chk [(qka3_94, false)] (.inr 7) [.inp 7]] <|
.seg [.chk [(qka3_94, false)] (.aidx 7 1 0 1 false) [qka3_92, .inp 7]] <|
.seg [.chk [(qka3_94, false)] (.bin .gtr) [qka3_93, .int .i64 1000]] <|
.seg [.chk [] .pick [qka3_94, .bool true, qka3_95]] <|
.seg [.bind 8 (qka3_93),
.bind 9 (qka3_94),
.bind 10 (qka3_95),
.bind 11 (.app .pick [qka3_94, .bool true, qka3_95])] <|
.cond (.inp 11)
 (.ret (.bool false))
 (.seg [.chk [] (.bin .add) [.inp 7, .int .i64 1]] <|
.again 0 [.app (.bin .add) [.inp 7, .int .i64 1]]))
 (.ret (.bool true))
theorem run_lockbarref06_times : runF E 174 [.agg [.inp 0, .inp 1, .inp 2, .inp 3, .inp 4, .inp 5, .inp 6]] 7 = rt_lockbarref06_times := by kernel_rfl

noncomputable def rt_lockbarref06_Right : RT :=
.seg [.chk [] (.isAgg 11) [qka3_0]] <|
.loop 0 11 [.int .i64 0] <|
.seg [.chk [] .len [.inp 0]] <|
.seg [.chk [] (.bin .lss) [.inp 11, .app .len [.inp 0]]] <|
.cond (qka3_96)
 (.seg [.chk [] (.eidx 11) [.inp 0, .inp 11],
.chk [] (.eload 11 true) [qka3_83],
.call 12 [] 170 [qka3_0, qka3_97] false,
.chk [] (.un .not) [.inp 12]] <|
.cond (.inp 12)
 (.seg [.chk [] (.bin .add) [.inp 11, .int .i64 1]] <|
.again 0 [qka3_53])
 (.ret (.bool false)))
 (.loop 0 12 [.int .i64 0] <|
.seg [.chk [] .len [.inp 1]] <|
.seg [.chk [] (.bin .lss) [.inp 12, .app .len [.inp 1]]] <|
.cond (.app (.bin .lss) [.inp 12, .app .len [.inp 1]])
 (.seg [.chk [] (.eidx 2) [.inp 1, .inp 12],
.chk [] (.eoff 0) [qka3_98],
.chk [] (.eload 2 true) [qka3_99],
.call 13 [] 171 [qka3_0, qka3_100] false,
.chk [] (.un .not) [.inp 13]] <|
.cond (.inp 13)
 (.seg [.chk [] (.bin .add) [.inp 12, .int .i64 1]] <|
.again 0 [qka3_61])
 (.ret (.bool false)))
 (.loop 0 13 [.int .i64 0] <|
.seg [.chk [] .len [.inp 2]] <|
.seg [.chk [] (.bin .lss) [.inp 13, .app .len [.inp 2]]] <|
.cond (.app (.bin .lss) [.inp 13, .app .len [.inp 2]])
 (.seg [.chk [] (.eidx 3) [.inp 2, .inp 13],
.chk [] (.eload 3 true) [qka3_101],
.call 14 [] 172 [qka3_0, .app (.eload 3 true) [qka3_101]] false,
.chk [] (.un .not) [.inp 14]] <|
.cond (.inp 14)
 (.seg [.chk [] (.bin .add) [.inp 13, .int .i64 1]] <|
.again 0 [qka3_102])
 (.ret (.bool false)))
 (.loop 0 14 [.int .i64 0] <|
.seg [.chk [] .len [.inp 3]] <|
.seg [.chk [] (.bin .lss) [.inp 14, .app .len [.inp 3]]] <|
.cond (.app (.bin .lss) [.inp 14, .app .len [.inp 3]])
 (.seg [.chk [] (.eidx 4) [.inp 3, .inp 14],
.chk [] (.eload 4 true) [qka3_103],
.call 15 [] 173 [qka3_0, .app (.eload 4 true) [qka3_103]] false,
.chk [] (.un .not) [.inp 15]] <|
.cond (.inp 15)
 (.seg [.chk [] (.bin .add) [.inp 14, .int .i64 1]] <|
.again 0 [qka3_68])
 (.ret (.bool false)))
 (.seg [.chk [] .len [.inp 0]] <|
.seg [.chk [] (.bin .leq) [.app .len [.inp 0], .int .i64 24]] <|
.seg [.chk [(qka3_104, true)] .len [.inp 1]] <|
.seg [.chk [(qka3_104, true)] (.bin .leq) [.app .len [.inp 1], .int .i64 12]] <|
.seg [.chk [] .pick [qka3_104, qka3_105, .bool false]] <|
.seg [.chk [(qka3_106, true)] .len [.inp 2]] <|
.seg [.chk [(qka3_106, true)] (.bin .leq) [.app .len [.inp 2], .int .i64 12]] <|
.seg [.chk [] .pick [qka3_106, qka3_107, .bool false]] <|
.seg [.chk [(qka3_108, true)] .len [.inp 3]] <|
.seg [.chk [(qka3_108, true)] (.bin .leq) [.app .len [.inp 3], .int .i64 16]] <|
.seg [.chk [] .pick [qka3_108, qka3_109, .bool false]] <|
.seg [.call 15 [(qka3_110, true)] 174 [.agg [.inp 4, .inp 5, .inp 6, .inp 7, .inp 8, .inp 9, .inp 10]] false] <|
.seg [.chk [] .pick [qka3_110, .inp 15, .bool false]] <|
.seg [.bind 16 (.app .pick [qka3_110, .inp 15, .bool false]),
.bind 17 (qka3_106),
.bind 18 (qka3_108),
.bind 19 (qka3_110)] <|
.ret (.inp 16)))))
theorem run_lockbarref06_Right : runF E 150 [.agg [.inp 0, .inp 1, .inp 2, .inp 3, .inp 4, .inp 5, .inp 6, .inp 7, .inp 8, .inp 9, .inp 10]] 11 = rt_lockbarref06_Right := by kernel_rfl

noncomputable def rt_lockbarref06_Signal : RT :=
.seg [.chk [] (.isAgg 11) [qka3_0]] <|
.seg [.chk [] (.isAgg 2) [.agg [.inp 11, .inp 12]]] <|
.loop 0 13 [.int .i64 0] <|
.seg [.chk [] .len [.inp 1]] <|
.seg [.chk [] (.bin .lss) [.inp 13, .app .len [.inp 1]]] <|
.cond (.app (.bin .lss) [.inp 13, .app .len [.inp 1]])
 (.seg [.chk [] (.eidx 2) [.inp 1, .inp 13],
.chk [] (.eoff 0) [qka3_111],
.chk [] (.eload 2 true) [qka3_112],
.chk [] (.eqa [ some .i64, some .i64] false) [qka3_113, .agg [.inp 11, .inp 12]]] <|
.cond (.app (.eqa [ some .i64, some .i64] false) [qka3_113, .agg [.inp 11, .inp 12]])
 (.ret (.inp 13))
 (.seg [.chk [] (.bin .add) [.inp 13, .int .i64 1]] <|
.again 0 [qka3_102]))
 (.ret (.int .i64 (-1)))
theorem run_lockbarref06_Signal : runF E 108 [.agg [.inp 0, .inp 1, .inp 2, .inp 3, .inp 4, .inp 5, .inp 6, .inp 7, .inp 8, .inp 9, .inp 10], .agg [.inp 11, .inp 12]] 13 = rt_lockbarref06_Signal := by kernel_rfl

noncomputable def rt_lockbarref07_Has : RT :=
.seg [.chk [] (.isAgg 11) [qka3_0]] <|
.seg [.chk [] (.isAgg 2) [.agg [.inp 11, .inp 12]]] <|
.seg [.chk [] (.bin .geq) [.inp 11, .int .i64 0],
.chk [(qka3_114, true)] .len [.inp 0],
.chk [(qka3_114, true)] (.bin .lss) [.inp 11, .app .len [.inp 0]],
.chk [] .pick [qka3_114, qka3_96, .bool false],
.chk [(qka3_115, true)] (.bin .geq) [.inp 12, .int .i64 0],
.chk [] .pick [qka3_115, qka3_82, .bool false],
.chk [(qka3_116, true)] (.eidx 11) [.inp 0, .inp 11],
.chk [(qka3_116, true)] (.eoff 0) [qka3_83],
.chk [(qka3_116, true)] (.eload 1 false) [qka3_84],
.call 13 [(qka3_116, true)] 176 [qka3_85] false,
.chk [(qka3_116, true)] (.bin .lss) [.inp 12, .inp 13],
.chk [] .pick [qka3_116, qka3_117, .bool false]] <|
.seg [.bind 14 (.app .pick [qka3_116, qka3_117, .bool false]),
.bind 15 (qka3_116)] <|
.ret (.inp 14)
theorem run_lockbarref07_Has : runF E 156 [.agg [.inp 0, .inp 1, .inp 2, .inp 3, .inp 4, .inp 5, .inp 6, .inp 7, .inp 8, .inp 9, .inp 10], .agg [.inp 11, .inp 12]] 13 = rt_lockbarref07_Has := by kernel_rfl

noncomputable def rt_lockbarref07_none : RT :=
.ret (qka3_38)
theorem run_lockbarref07_none : runF E 157 [] 0 = rt_lockbarref07_none := by kernel_rfl

noncomputable def rt_lockbarref07_Beyond : RT :=
.seg [.chk [] (.isAgg 11) [qka3_0]] <|
.seg [.chk [] (.isAgg 2) [.agg [.inp 11, .inp 12]]] <|
.seg [.call 13 [] 156 [qka3_0, .agg [.inp 11, .inp 12]] false] <|
.seg [.chk [] (.un .not) [.inp 13]] <|
.cond (.inp 13)
 (.seg [.chk [] (.eidx 11) [.inp 0, .inp 11],
.chk [] (.eoff 1) [qka3_83],
.chk [] (.eaidx 4 2) [qka3_118, .inp 12],
.chk [] (.eload 2 true) [qka3_119],
.chk [] (.isAgg 2) [qka3_120]] <|
.ret (.agg [.app (.part 0 1 false) [qka3_120], .app (.part 1 1 false) [qka3_120]]))
 (.seg [.call 14 [] 157 [] false] <|
.seg [.chk [] (.isAgg 2) [.inp 14]] <|
.ret (.agg [.app (.part 0 1 false) [.inp 14], .app (.part 1 1 false) [.inp 14]]))
theorem run_lockbarref07_Beyond : runF E 129 [.agg [.inp 0, .inp 1, .inp 2, .inp 3, .inp 4, .inp 5, .inp 6, .inp 7, .inp 8, .inp 9, .inp 10], .agg [.inp 11, .inp 12]] 13 = rt_lockbarref07_Beyond := by kernel_rfl

noncomputable def rt_lockbarref07_Joined : RT :=
.seg [.chk [] (.isAgg 11) [qka3_0]] <|
.loop 0 11 [.int .i64 0] <|
.seg [.chk [] .len [.inp 0]] <|
.seg [.chk [] (.bin .lss) [.inp 11, .app .len [.inp 0]]] <|
.seg [.chk [(qka3_96, true)] (.bin .lss) [.inp 11, .int .i64 24]] <|
.seg [.chk [] .pick [qka3_96, qka3_121, .bool false]] <|
.cond (.app .pick [qka3_96, qka3_121, .bool false])
 (.seg [.chk [] (.eidx 11) [.inp 0, .inp 11]] <|
.seg [.chk [] (.eload 11 true) [qka3_83]] <|
.seg [.chk [] (.isAgg 11) [qka3_97]] <|
.seg [.call 12 [] 175 [qka3_123] false] <|
.seg [.chk [] (.un .not) [.inp 12]] <|
.cond (.inp 12)
 (.loop 1 13 [.int .i64 0] <|
.seg [.call 14 [] 176 [qka3_122] false] <|
.seg [.chk [] (.bin .lss) [.inp 13, .inp 14]] <|
.cond (.app (.bin .lss) [.inp 13, .inp 14])
 (.seg [.chk [] (.inr 4) [.inp 13]] <|
.seg [.chk [] (.aidx 4 2 1 2 true) [qka3_123, .inp 13]] <|
.seg [.chk [] (.isAgg 2) [qka3_124]] <|
.seg [.bind 15 (qka3_124),
.bind 16 (.app (.part 0 1 false) [qka3_124]),
.bind 17 (.app (.part 1 1 false) [qka3_124])] <|
.seg [.call 18 [] 157 [] false,
.chk [] (.eqa [ some .i64, some .i64] true) [.agg [.inp 16, .inp 17], .inp 18],
.call 19 [(qka3_125, true)] 156 [qka3_0, .agg [.inp 16, .inp 17]] false,
.chk [(qka3_125, true)] (.un .not) [.inp 19],
.chk [(.app (.un .not) [.inp 19], false), (qka3_125, true)] (.bin .eql) [.inp 16, .inp 11],
.chk [(qka3_125, true)] .pick [.app (.un .not) [.inp 19], .bool true, qka3_126],
.call 20 [(qka3_127, false), (qka3_125, true)] 129 [qka3_0, .agg [.inp 16, .inp 17]] false,
.chk [(qka3_127, false), (qka3_125, true)] .isOne [.inp 11],
.chk [(qka3_127, false), (qka3_125, true)] .isOne [.inp 13],
.chk [(qka3_127, false), (qka3_125, true)] (.eqa [ some .i64, some .i64] true) [.inp 20, .agg [.inp 11, .inp 13]],
.chk [(qka3_125, true)] .pick [qka3_127, .bool true, qka3_128],
.chk [] .pick [qka3_125, qka3_129, .bool false]] <|
.seg [.bind 21 (qka3_129),
.bind 22 (.app .pick [qka3_125, qka3_129, .bool false])] <|
.cond (.inp 22)
 (.ret (.bool false))
 (.seg [.chk [] (.bin .add) [.inp 13, .int .i64 1]] <|
.again 1 [qka3_102]))
 (.seg [.chk [] (.bin .add) [.inp 11, .int .i64 1]] <|
.again 0 [qka3_53]))
 (.ret (.bool false)))
 (.seg [.chk [] .len [.inp 0]] <|
.seg [.chk [] (.bin .leq) [.app .len [.inp 0], .int .i64 24]] <|
.ret (qka3_104))
theorem run_lockbarref07_Joined : runF E 151 [.agg [.inp 0, .inp 1, .inp 2, .inp 3, .inp 4, .inp 5, .inp 6, .inp 7, .inp 8, .inp 9, .inp 10]] 11 = rt_lockbarref07_Joined := by kernel_rfl

noncomputable def rt_lockbarref09_signals : RT :=
.seg [.chk [] (.isAgg 11) [qka3_0]] <|
.loop 0 11 [.int .i64 0] <|
.seg [.chk [] .len [.inp 1]] <|
.seg [.chk [] (.bin .lss) [.inp 11, .app .len [.inp 1]]] <|
.cond (.app (.bin .lss) [.inp 11, .app .len [.inp 1]])
 (.loop 1 12 [.int .i64 0] <|
.seg [.chk [] (.bin .lss) [.inp 12, .inp 11]] <|
.cond (qka3_130)
 (.seg [.chk [] (.eidx 2) [.inp 1, .inp 12],
.chk [] (.eoff 0) [qka3_98],
.chk [] (.eload 2 true) [qka3_99],
.chk [] (.eidx 2) [.inp 1, .inp 11],
.chk [] (.eoff 0) [qka3_131],
.chk [] (.eload 2 true) [qka3_132],
.chk [] (.eqa [ some .i64, some .i64] false) [qka3_100, qka3_133]] <|
.seg [.bind 13 (.app (.eqa [ some .i64, some .i64] false) [qka3_100, qka3_133])] <|
.cond (.inp 13)
 (.ret (.inp 11))
 (.seg [.chk [] (.bin .add) [.inp 12, .int .i64 1]] <|
.again 1 [qka3_61]))
 (.seg [.chk [] (.bin .add) [.inp 11, .int .i64 1]] <|
.again 0 [qka3_53]))
 (.ret (.int .i64 (-1)))
theorem run_lockbarref09_signals : runF E 152 [.agg [.inp 0, .inp 1, .inp 2, .inp 3, .inp 4, .inp 5, .inp 6, .inp 7, .inp 8, .inp 9, .inp 10]] 11 = rt_lockbarref09_signals := by kernel_rfl

noncomputable def rt_lockbarref09_exits : RT :=
.seg [.chk [] (.isAgg 11) [qka3_0]] <|
.loop 0 11 [.int .i64 0] <|
.seg [.chk [] .len [.inp 2]] <|
.seg [.chk [] (.bin .lss) [.inp 11, .app .len [.inp 2]]] <|
.cond (qka3_134)
 (.loop 1 12 [.int .i64 0] <|
.seg [.chk [] (.bin .lss) [.inp 12, .inp 11]] <|
.cond (qka3_130)
 (.seg [.chk [] (.eidx 3) [.inp 2, .inp 12],
.chk [] (.eoff 0) [qka3_135],
.chk [] (.eload 2 true) [qka3_136],
.chk [] (.eidx 3) [.inp 2, .inp 11],
.chk [] (.eoff 0) [qka3_137],
.chk [] (.eload 2 true) [qka3_138],
.chk [] (.eqa [ some .i64, some .i64] false) [qka3_139, qka3_140]] <|
.seg [.bind 13 (.app (.eqa [ some .i64, some .i64] false) [qka3_139, qka3_140])] <|
.cond (.inp 13)
 (.ret (.inp 11))
 (.seg [.chk [] (.bin .add) [.inp 12, .int .i64 1]] <|
.again 1 [qka3_61]))
 (.seg [.chk [] (.bin .add) [.inp 11, .int .i64 1]] <|
.again 0 [qka3_53]))
 (.ret (.int .i64 (-1)))
theorem run_lockbarref09_exits : runF E 153 [.agg [.inp 0, .inp 1, .inp 2, .inp 3, .inp 4, .inp 5, .inp 6, .inp 7, .inp 8, .inp 9, .inp 10]] 11 = rt_lockbarref09_exits := by kernel_rfl

noncomputable def rt_lockbarref09_Over : RT :=
.seg [.chk [] (.isAgg 11) [qka3_0]] <|
.seg [.call 12 [] 150 [qka3_0] false] <|
.seg [.chk [] (.un .not) [.inp 12]] <|
.seg [.chk [(.app (.un .not) [.inp 12], false)] (.bin .lss) [.inp 11, .int .i64 0]] <|
.seg [.chk [] .pick [.app (.un .not) [.inp 12], .bool true, qka3_70]] <|
.seg [.chk [(qka3_141, false)] .len [.inp 2]] <|
.seg [.chk [(qka3_141, false)] (.bin .geq) [.inp 11, .app .len [.inp 2]]] <|
.seg [.chk [] .pick [qka3_141, .bool true, qka3_142]] <|
.seg [.bind 13 (.app .pick [qka3_141, .bool true, qka3_142])] <|
.cond (.inp 13)
 (.ret (.bool false))
 (.seg [.chk [] (.eidx 3) [.inp 2, .inp 11]] <|
.seg [.chk [] (.eoff 0) [qka3_137]] <|
.seg [.chk [] (.eload 2 true) [qka3_138]] <|
.seg [.chk [] (.isAgg 2) [qka3_140]] <|
.seg [.chk [] (.eidx 3) [.inp 2, .inp 11]] <|
.seg [.chk [] (.eoff 2) [qka3_137]] <|
.seg [.chk [] (.eload 1 false) [qka3_143]] <|
.loop 0 14 [.int .i64 0, .app (.part 0 1 false) [qka3_140], .app (.part 1 1 false) [qka3_140]] <|
.seg [.chk [] .len [qka3_144]] <|
.seg [.chk [] (.bin .lss) [.inp 14, qka3_145]] <|
.cond (.app (.bin .lss) [.inp 14, qka3_145])
 (.seg [.call 17 [] 129 [qka3_0, .agg [.inp 15, .inp 16]] false,
.chk [] (.eidx 3) [qka3_144, .inp 14],
.chk [] (.eoff 0) [qka3_146],
.chk [] (.eload 1 false) [qka3_147],
.chk [] (.eidx 3) [qka3_144, .inp 14],
.chk [] (.eoff 1) [qka3_146],
.chk [] (.eload 1 false) [qka3_148],
.chk [] .isOne [qka3_149],
.chk [] .isOne [qka3_150],
.chk [] (.eqa [ some .i64, some .i64] true) [.inp 17, qka3_151],
.chk [(qka3_152, false)] (.eidx 3) [qka3_144, .inp 14],
.chk [(qka3_152, false)] (.eoff 0) [qka3_146],
.chk [(qka3_152, false)] (.eload 1 false) [qka3_147],
.chk [(qka3_152, false)] (.eidx 3) [.inp 2, .inp 11],
.chk [(qka3_152, false)] (.eoff 0) [qka3_137],
.chk [(qka3_152, false)] (.eoff 0) [qka3_138],
.chk [(qka3_152, false)] (.eload 1 false) [qka3_153],
.chk [(qka3_152, false)] (.bin .eql) [qka3_149, qka3_154],
.chk [] .pick [qka3_152, .bool true, qka3_155]] <|
.seg [.bind 18 (qka3_152),
.bind 19 (qka3_155),
.bind 20 (.app .pick [qka3_152, .bool true, qka3_155])] <|
.cond (.inp 20)
 (.ret (.bool false))
 (.loop 1 21 [.int .i64 0] <|
.seg [.chk [] (.bin .lss) [.inp 21, .inp 14]] <|
.cond (.app (.bin .lss) [.inp 21, .inp 14])
 (.seg [.chk [] (.eidx 3) [qka3_144, .inp 21],
.chk [] (.eoff 0) [qka3_156],
.chk [] (.eload 1 false) [qka3_157],
.chk [] (.eidx 3) [qka3_144, .inp 14],
.chk [] (.eoff 0) [qka3_146],
.chk [] (.eload 1 false) [qka3_147],
.chk [] (.bin .eql) [qka3_158, qka3_149]] <|
.seg [.bind 22 (.app (.bin .eql) [qka3_158, qka3_149])] <|
.cond (.inp 22)
 (.ret (.bool false))
 (.seg [.chk [] (.bin .add) [.inp 21, .int .i64 1]] <|
.again 1 [.app (.bin .add) [.inp 21, .int .i64 1]]))
 (.seg [.chk [] (.eidx 3) [qka3_144, .inp 14],
.chk [] (.eoff 0) [qka3_146],
.chk [] (.eload 1 false) [qka3_147],
.chk [] (.eidx 3) [qka3_144, .inp 14],
.chk [] (.eoff 2) [qka3_146],
.chk [] (.eload 1 false) [qka3_159],
.chk [] .isOne [qka3_149],
.chk [] .isOne [qka3_160],
.chk [] (.isAgg 2) [.agg [qka3_149, qka3_160]]] <|
.seg [.chk [] (.bin .add) [.inp 14, .int .i64 1]] <|
.again 0 [qka3_68, qka3_149, qka3_160])))
 (.ret (.bool true)))
theorem run_lockbarref09_Over : runF E 177 [.agg [.inp 0, .inp 1, .inp 2, .inp 3, .inp 4, .inp 5, .inp 6, .inp 7, .inp 8, .inp 9, .inp 10], .inp 11] 12 = rt_lockbarref09_Over := by kernel_rfl

noncomputable def rt_lockbarref09_overs : RT :=
.seg [.chk [] (.isAgg 11) [qka3_0]] <|
.loop 0 11 [.int .i64 0] <|
.seg [.chk [] .len [.inp 2]] <|
.seg [.chk [] (.bin .lss) [.inp 11, .app .len [.inp 2]]] <|
.cond (qka3_134)
 (.seg [.call 12 [] 177 [qka3_0, .inp 11] false] <|
.seg [.chk [] (.un .not) [.inp 12]] <|
.cond (.inp 12)
 (.seg [.chk [] (.bin .add) [.inp 11, .int .i64 1]] <|
.again 0 [qka3_53])
 (.ret (.inp 11)))
 (.ret (.int .i64 (-1)))
theorem run_lockbarref09_overs : runF E 154 [.agg [.inp 0, .inp 1, .inp 2, .inp 3, .inp 4, .inp 5, .inp 6, .inp 7, .inp 8, .inp 9, .inp 10]] 11 = rt_lockbarref09_overs := by kernel_rfl

noncomputable def rt_lockbarref09_flanks : RT :=
.seg [.chk [] (.isAgg 11) [qka3_0]] <|
.loop 0 11 [.int .i64 0] <|
.seg [.chk [] .len [.inp 3]] <|
.seg [.chk [] (.bin .lss) [.inp 11, .app .len [.inp 3]]] <|
.cond (.app (.bin .lss) [.inp 11, .app .len [.inp 3]])
 (.loop 1 12 [.int .i64 0] <|
.seg [.chk [] (.bin .lss) [.inp 12, .inp 11]] <|
.cond (qka3_130)
 (.seg [.chk [] (.eidx 4) [.inp 3, .inp 12],
.chk [] (.eload 4 true) [qka3_161],
.chk [] (.eidx 4) [.inp 3, .inp 11],
.chk [] (.eload 4 true) [qka3_162],
.chk [] (.isAgg 4) [qka3_163],
.chk [] (.isAgg 4) [qka3_164]] <|
.seg [.chk [] (.bin .eql) [qka3_165, qka3_166]] <|
.seg [.chk [(qka3_167, true)] (.bin .eql) [qka3_168, qka3_169]] <|
.seg [.chk [] .pick [qka3_167, qka3_170, .bool false]] <|
.seg [.chk [(qka3_171, true)] (.bin .eql) [qka3_172, qka3_173]] <|
.seg [.chk [] .pick [qka3_171, qka3_174, .bool false]] <|
.seg [.bind 13 (qka3_167),
.bind 14 (qka3_170),
.bind 15 (qka3_171),
.bind 16 (qka3_174),
.bind 17 (.app .pick [qka3_171, qka3_174, .bool false])] <|
.cond (.inp 17)
 (.ret (.inp 11))
 (.seg [.chk [] (.bin .add) [.inp 12, .int .i64 1]] <|
.again 1 [qka3_61]))
 (.seg [.chk [] (.bin .add) [.inp 11, .int .i64 1]] <|
.again 0 [qka3_53]))
 (.ret (.int .i64 (-1)))
theorem run_lockbarref09_flanks : runF E 155 [.agg [.inp 0, .inp 1, .inp 2, .inp 3, .inp 4, .inp 5, .inp 6, .inp 7, .inp 8, .inp 9, .inp 10]] 11 = rt_lockbarref09_flanks := by kernel_rfl

noncomputable def rt_lockbarref09_Check : RT :=
.seg [.chk [] (.isAgg 11) [qka3_0]] <|
.seg [.call 11 [] 150 [qka3_0] false] <|
.seg [.chk [] (.un .not) [.inp 11]] <|
.cond (.inp 11)
 (.seg [.call 12 [] 151 [qka3_0] false] <|
.seg [.chk [] (.un .not) [.inp 12]] <|
.cond (.inp 12)
 (.seg [.call 13 [] 152 [qka3_0] false,
.call 14 [] 153 [qka3_0] false,
.call 15 [] 154 [qka3_0] false,
.call 16 [] 155 [qka3_0] false,
.chk [] .isOne [.inp 13],
.chk [] .isOne [.inp 14],
.chk [] .isOne [.inp 15],
.chk [] .isOne [.inp 16],
.chk [] (.isAgg 4) [qka3_175]] <|
.loop 0 17 [.int .i64 0] <|
.seg [.chk [] (.bin .lss) [.inp 17, .int .i64 4]] <|
.cond (.app (.bin .lss) [.inp 17, .int .i64 4])
 (.seg [.chk [] (.inr 4) [.inp 17]] <|
.seg [.chk [] (.aidx 4 1 0 1 false) [qka3_175, .inp 17]] <|
.seg [.chk [] (.bin .geq) [qka3_176, .int .i64 0]] <|
.cond (.app (.bin .geq) [qka3_176, .int .i64 0])
 (.seg [.chk [] (.bin .add) [.inp 17, .int .i64 2],
.chk [] (.inr 4) [.inp 17],
.chk [] (.aidx 4 1 0 1 false) [qka3_175, .inp 17]] <|
.ret (.tup [.app (.bin .add) [.inp 17, .int .i64 2], qka3_176, .int .i64 90]))
 (.seg [.chk [] (.bin .add) [.inp 17, .int .i64 1]] <|
.again 0 [.app (.bin .add) [.inp 17, .int .i64 1]]))
 (.ret (.tup [.int .i64 0, .int .i64 0, .int .i64 0])))
 (.ret (.tup [.int .i64 1, .int .i64 0, .int .i64 90])))
 (.ret (.tup [.int .i64 0, .int .i64 0, .int .i64 60]))
theorem run_lockbarref09_Check : runF E 128 [.agg [.inp 0, .inp 1, .inp 2, .inp 3, .inp 4, .inp 5, .inp 6, .inp 7, .inp 8, .inp 9, .inp 10]] 11 = rt_lockbarref09_Check := by kernel_rfl

noncomputable def rt_lockbarref09_Right : RT :=
.seg [.chk [] (.isAgg 11) [qka3_0]] <|
.seg [.call 11 [] 128 [qka3_0] false] <|
.seg [.chk [] (.tproj 0) [.inp 11]] <|
.seg [.chk [] (.tproj 1) [.inp 11]] <|
.seg [.chk [] (.tproj 2) [.inp 11]] <|
.seg [.chk [] (.bin .eql) [.app (.tproj 2) [.inp 11], .int .i64 0]] <|
.ret (.app (.bin .eql) [.app (.tproj 2) [.inp 11], .int .i64 0])
theorem run_lockbarref09_Right : runF E 104 [.agg [.inp 0, .inp 1, .inp 2, .inp 3, .inp 4, .inp 5, .inp 6, .inp 7, .inp 8, .inp 9, .inp 10]] 11 = rt_lockbarref09_Right := by kernel_rfl

noncomputable def rt_lockbarref11_Goes : RT :=
.seg [.chk [] (.isAgg 11) [qka3_0]] <|
.loop 0 12 [.int .i64 0] <|
.seg [.chk [] .len [.inp 11]] <|
.seg [.chk [] (.bin .lss) [.inp 12, .app .len [.inp 11]]] <|
.cond (.app (.bin .lss) [.inp 12, .app .len [.inp 11]])
 (.seg [.chk [] (.eidx 3) [.inp 11, .inp 12],
.chk [] (.eload 3 true) [qka3_177],
.call 13 [] 110 [qka3_0, .app (.eload 3 true) [qka3_177]] false,
.chk [] (.tproj 0) [.inp 13],
.chk [] (.tproj 1) [.inp 13]] <|
.seg [.chk [] (.un .not) [.app (.tproj 1) [.inp 13]],
.chk [(qka3_178, false)] (.bin .gtr) [.inp 12, .int .i64 0],
.chk [(qka3_179, true), (qka3_178, false)] (.bin .sub) [.inp 12, .int .i64 1],
.chk [(qka3_179, true), (qka3_178, false)] (.eidx 3) [.inp 11, qka3_180],
.chk [(qka3_179, true), (qka3_178, false)] (.eoff 0) [qka3_181],
.chk [(qka3_179, true), (qka3_178, false)] (.eload 1 false) [qka3_182],
.chk [(qka3_179, true), (qka3_178, false)] (.bin .sub) [.inp 12, .int .i64 1],
.chk [(qka3_179, true), (qka3_178, false)] (.eidx 3) [.inp 11, qka3_180],
.chk [(qka3_179, true), (qka3_178, false)] (.eoff 2) [qka3_181],
.chk [(qka3_179, true), (qka3_178, false)] (.eload 1 false) [qka3_183],
.chk [(qka3_179, true), (qka3_178, false)] .isOne [qka3_184],
.chk [(qka3_179, true), (qka3_178, false)] .isOne [qka3_185],
.call 14 [(qka3_179, true), (qka3_178, false)] 129 [qka3_0, .agg [qka3_184, qka3_185]] false,
.chk [(qka3_179, true), (qka3_178, false)] (.eidx 3) [.inp 11, .inp 12],
.chk [(qka3_179, true), (qka3_178, false)] (.eoff 0) [qka3_177],
.chk [(qka3_179, true), (qka3_178, false)] (.eload 1 false) [qka3_186],
.chk [(qka3_179, true), (qka3_178, false)] (.eidx 3) [.inp 11, .inp 12],
.chk [(qka3_179, true), (qka3_178, false)] (.eoff 1) [qka3_177],
.chk [(qka3_179, true), (qka3_178, false)] (.eload 1 false) [qka3_187],
.chk [(qka3_179, true), (qka3_178, false)] .isOne [qka3_188],
.chk [(qka3_179, true), (qka3_178, false)] .isOne [qka3_189],
.chk [(qka3_179, true), (qka3_178, false)] (.eqa [ some .i64, some .i64] true) [.inp 14, qka3_190],
.chk [(qka3_178, false)] .pick [qka3_179, qka3_191, .bool false],
.chk [] .pick [qka3_178, .bool true, qka3_192]] <|
.seg [.bind 15 (qka3_191),
.bind 16 (qka3_192),
.bind 17 (.app .pick [qka3_178, .bool true, qka3_192])] <|
.cond (.inp 17)
 (.ret (.bool false))
 (.seg [.chk [] (.bin .add) [.inp 12, .int .i64 1]] <|
.again 0 [qka3_61]))
 (.ret (.bool true))
theorem run_lockbarref11_Goes : runF E 105 [.agg [.inp 0, .inp 1, .inp 2, .inp 3, .inp 4, .inp 5, .inp 6, .inp 7, .inp 8, .inp 9, .inp 10], .inp 11] 12 = rt_lockbarref11_Goes := by kernel_rfl

noncomputable def rt_lockbarref11_simple : RT :=
.loop 0 2 [.int .i64 0] <|
.seg [.chk [] .len [.inp 0]] <|
.seg [.chk [] (.bin .lss) [.inp 2, .app .len [.inp 0]]] <|
.cond (.app (.bin .lss) [.inp 2, .app .len [.inp 0]])
 (.loop 1 3 [.int .i64 0] <|
.seg [.chk [] (.bin .lss) [.inp 3, .inp 2]] <|
.cond (.app (.bin .lss) [.inp 3, .inp 2])
 (.seg [.chk [] (.eidx 3) [.inp 0, .inp 3],
.chk [] (.eoff 0) [qka3_193],
.chk [] (.eload 1 false) [qka3_194],
.chk [] (.eidx 3) [.inp 0, .inp 2],
.chk [] (.eoff 0) [qka3_195],
.chk [] (.eload 1 false) [qka3_196],
.chk [] (.bin .eql) [qka3_197, qka3_198]] <|
.seg [.bind 4 (.app (.bin .eql) [qka3_197, qka3_198])] <|
.cond (.inp 4)
 (.ret (.bool false))
 (.seg [.chk [] (.bin .add) [.inp 3, .int .i64 1]] <|
.again 1 [.app (.bin .add) [.inp 3, .int .i64 1]]))
 (.loop 1 4 [.int .i64 0] <|
.seg [.chk [] .len [.inp 1]] <|
.seg [.chk [] (.bin .lss) [.inp 4, .app .len [.inp 1]]] <|
.cond (.app (.bin .lss) [.inp 4, .app .len [.inp 1]])
 (.seg [.chk [] (.eidx 3) [.inp 1, .inp 4],
.chk [] (.eoff 0) [qka3_199],
.chk [] (.eload 1 false) [qka3_200],
.chk [] (.eidx 3) [.inp 0, .inp 2],
.chk [] (.eoff 0) [qka3_195],
.chk [] (.eload 1 false) [qka3_196],
.chk [] (.bin .eql) [qka3_201, qka3_198]] <|
.seg [.bind 5 (.app (.bin .eql) [qka3_201, qka3_198])] <|
.cond (.inp 5)
 (.ret (.bool false))
 (.seg [.chk [] (.bin .add) [.inp 4, .int .i64 1]] <|
.again 1 [.app (.bin .add) [.inp 4, .int .i64 1]]))
 (.seg [.chk [] (.bin .add) [.inp 2, .int .i64 1]] <|
.again 0 [.app (.bin .add) [.inp 2, .int .i64 1]])))
 (.ret (.bool true))
theorem run_lockbarref11_simple : runF E 106 [.inp 0, .inp 1] 2 = rt_lockbarref11_simple := by kernel_rfl

noncomputable def rt_lockbarref11_Through : RT :=
.seg [.chk [] (.isAgg 3) [.agg [.inp 0, .inp 1, .inp 2]]] <|
.loop 0 4 [.int .i64 0, .int .i64 0] <|
.seg [.chk [] .len [.inp 3]] <|
.seg [.chk [] (.bin .lss) [.inp 5, .app .len [.inp 3]]] <|
.cond (.app (.bin .lss) [.inp 5, .app .len [.inp 3]])
 (.loop 1 6 [.inp 4] <|
.seg [.chk [] .len [.inp 2],
.chk [] (.bin .lss) [.inp 6, .app .len [.inp 2]],
.chk [(qka3_202, true)] (.eidx 3) [.inp 2, .inp 6],
.chk [(qka3_202, true)] (.eoff 0) [qka3_203],
.chk [(qka3_202, true)] (.eload 1 false) [qka3_204],
.chk [(qka3_202, true)] (.eidx 1) [.inp 3, .inp 5],
.chk [(qka3_202, true)] (.eload 1 false) [qka3_205],
.chk [(qka3_202, true)] (.bin .neq) [qka3_206, qka3_207],
.chk [] .pick [qka3_202, qka3_208, .bool false]] <|
.seg [.bind 7 (qka3_208),
.bind 8 (.app .pick [qka3_202, qka3_208, .bool false])] <|
.cond (.inp 8)
 (.seg [.chk [] (.bin .add) [.inp 6, .int .i64 1]] <|
.again 1 [qka3_209])
 (.seg [.chk [] .len [.inp 2]] <|
.seg [.chk [] (.bin .geq) [.inp 6, .app .len [.inp 2]]] <|
.cond (.app (.bin .geq) [.inp 6, .app .len [.inp 2]])
 (.ret (.bool false))
 (.seg [.chk [] (.bin .add) [.inp 6, .int .i64 1]] <|
.seg [.chk [] (.bin .add) [.inp 5, .int .i64 1]] <|
.again 0 [qka3_209, .app (.bin .add) [.inp 5, .int .i64 1]])))
 (.ret (.bool true))
theorem run_lockbarref11_Through : runF E 107 [.agg [.inp 0, .inp 1, .inp 2], .inp 3] 4 = rt_lockbarref11_Through := by kernel_rfl

noncomputable def rt_lockbarref11_Check : RT :=
.seg [.chk [] (.isAgg 11) [qka3_0]] <|
.seg [.chk [] (.isAgg 3) [qka3_66]] <|
.seg [.call 15 [] 104 [qka3_0] false] <|
.seg [.chk [] (.un .not) [.inp 15]] <|
.seg [.chk [(.app (.un .not) [.inp 15], false)] (.bin .lss) [.inp 11, .int .i64 0]] <|
.seg [.chk [] .pick [.app (.un .not) [.inp 15], .bool true, qka3_70]] <|
.seg [.chk [(qka3_210, false)] .len [.inp 1]] <|
.seg [.chk [(qka3_210, false)] (.bin .geq) [.inp 11, .app .len [.inp 1]]] <|
.seg [.chk [] .pick [qka3_210, .bool true, qka3_211]] <|
.seg [.chk [(qka3_212, false)] (.bin .lss) [.inp 12, .int .i64 0]] <|
.seg [.chk [] .pick [qka3_212, .bool true, qka3_213]] <|
.seg [.chk [(qka3_214, false)] .len [.inp 2]] <|
.seg [.chk [(qka3_214, false)] (.bin .geq) [.inp 12, .app .len [.inp 2]]] <|
.seg [.chk [] .pick [qka3_214, .bool true, qka3_215]] <|
.seg [.chk [(qka3_216, false)] .len [.inp 14]] <|
.seg [.chk [(qka3_216, false)] (.bin .gtr) [.app .len [.inp 14], .int .i64 2]] <|
.seg [.chk [] .pick [qka3_216, .bool true, qka3_217]] <|
.seg [.bind 16 (qka3_212),
.bind 17 (qka3_214),
.bind 18 (qka3_216),
.bind 19 (.app .pick [qka3_216, .bool true, qka3_217])] <|
.cond (.inp 19)
 (.ret (.int .i64 2))
 (.loop 0 20 [.int .i64 0] <|
.seg [.chk [] .len [.inp 14]] <|
.seg [.chk [] (.bin .lss) [.inp 20, .app .len [.inp 14]]] <|
.cond (.app (.bin .lss) [.inp 20, .app .len [.inp 14]])
 (.seg [.chk [] (.eidx 1) [.inp 14, .inp 20],
.chk [] (.eload 1 false) [qka3_218],
.chk [] (.bin .lss) [qka3_219, .int .i64 0],
.chk [(qka3_220, false)] (.eidx 1) [.inp 14, .inp 20],
.chk [(qka3_220, false)] (.eload 1 false) [qka3_218],
.chk [(qka3_220, false)] .len [.inp 0],
.chk [(qka3_220, false)] (.bin .geq) [qka3_219, .app .len [.inp 0]],
.chk [] .pick [qka3_220, .bool true, qka3_221]] <|
.seg [.bind 21 (.app .pick [qka3_220, .bool true, qka3_221])] <|
.cond (.inp 21)
 (.ret (.int .i64 2))
 (.seg [.chk [] (.bin .add) [.inp 20, .int .i64 1]] <|
.again 0 [.app (.bin .add) [.inp 20, .int .i64 1]]))
 (.seg [.chk [] .len [.inp 13]] <|
.seg [.chk [] (.bin .lss) [.app .len [.inp 13], .int .i64 1],
.chk [(qka3_222, false)] (.bin .gtr) [.app .len [.inp 13], .int .i64 12],
.chk [] .pick [qka3_222, .bool true, qka3_223],
.call 21 [(qka3_224, false)] 105 [qka3_0, .inp 13] false,
.chk [(qka3_224, false)] (.un .not) [.inp 21],
.chk [] .pick [qka3_224, .bool true, .app (.un .not) [.inp 21]],
.chk [(qka3_225, false)] (.eidx 3) [.inp 2, .inp 12],
.chk [(qka3_225, false)] (.eoff 2) [qka3_135],
.chk [(qka3_225, false)] (.eload 1 false) [qka3_226],
.call 22 [(qka3_225, false)] 106 [.inp 13, .app (.eload 1 false) [qka3_226]] false,
.chk [(qka3_225, false)] (.un .not) [.inp 22],
.chk [] .pick [qka3_225, .bool true, .app (.un .not) [.inp 22]],
.call 23 [(qka3_227, false)] 107 [qka3_66, .inp 14] false,
.chk [(qka3_227, false)] (.un .not) [.inp 23],
.chk [] .pick [qka3_227, .bool true, .app (.un .not) [.inp 23]]] <|
.seg [.bind 24 (qka3_224),
.bind 25 (qka3_225),
.bind 26 (qka3_227),
.bind 27 (.app .pick [qka3_227, .bool true, .app (.un .not) [.inp 23]])] <|
.cond (.inp 27)
 (.ret (.int .i64 110))
 (.seg [.chk [] (.eidx 2) [.inp 1, .inp 11],
.chk [] (.eoff 0) [qka3_131],
.chk [] (.eload 2 true) [qka3_132],
.chk [] (.eidx 3) [.inp 13, .int .i64 0],
.chk [] (.eoff 0) [qka3_228],
.chk [] (.eload 1 false) [qka3_229],
.chk [] (.eidx 3) [.inp 13, .int .i64 0],
.chk [] (.eoff 1) [qka3_228],
.chk [] (.eload 1 false) [qka3_230],
.chk [] .isOne [qka3_231],
.chk [] .isOne [qka3_232],
.chk [] (.eqa [ some .i64, some .i64] true) [qka3_133, qka3_233],
.chk [(qka3_234, false)] (.eidx 3) [.inp 2, .inp 12],
.chk [(qka3_234, false)] (.eoff 0) [qka3_135],
.chk [(qka3_234, false)] (.eload 2 true) [qka3_136],
.chk [(qka3_234, false)] (.bin .sub) [.app .len [.inp 13], .int .i64 1],
.chk [(qka3_234, false)] (.eidx 3) [.inp 13, qka3_235],
.chk [(qka3_234, false)] (.eoff 0) [qka3_236],
.chk [(qka3_234, false)] (.eload 1 false) [qka3_237],
.chk [(qka3_234, false)] (.bin .sub) [.app .len [.inp 13], .int .i64 1],
.chk [(qka3_234, false)] (.eidx 3) [.inp 13, qka3_235],
.chk [(qka3_234, false)] (.eoff 2) [qka3_236],
.chk [(qka3_234, false)] (.eload 1 false) [qka3_238],
.chk [(qka3_234, false)] .isOne [qka3_239],
.chk [(qka3_234, false)] .isOne [qka3_240],
.chk [(qka3_234, false)] (.eqa [ some .i64, some .i64] true) [qka3_139, qka3_241],
.chk [] .pick [qka3_234, .bool true, qka3_242]] <|
.seg [.bind 28 (qka3_234),
.bind 29 (qka3_242),
.bind 30 (.app .pick [qka3_234, .bool true, qka3_242])] <|
.cond (.inp 30)
 (.ret (.int .i64 110))
 (.loop 0 31 [.int .i64 1] <|
.seg [.chk [] (.bin .lss) [.inp 31, .app .len [.inp 13]]] <|
.cond (.app (.bin .lss) [.inp 31, .app .len [.inp 13]])
 (.seg [.chk [] (.eidx 3) [.inp 13, .inp 31],
.chk [] (.eoff 0) [qka3_243],
.chk [] (.eload 1 false) [qka3_244],
.chk [] (.eidx 3) [.inp 13, .inp 31],
.chk [] (.eoff 1) [qka3_243],
.chk [] (.eload 1 false) [qka3_245],
.chk [] .isOne [qka3_246],
.chk [] .isOne [qka3_247],
.call 32 [] 108 [qka3_0, .agg [qka3_246, qka3_247]] false,
.chk [] (.bin .geq) [.inp 32, .int .i64 0]] <|
.cond (.app (.bin .geq) [.inp 32, .int .i64 0])
 (.ret (.int .i64 110))
 (.seg [.chk [] (.bin .add) [.inp 31, .int .i64 1]] <|
.again 0 [.app (.bin .add) [.inp 31, .int .i64 1]]))
 (.ret (.int .i64 0))))))
theorem run_lockbarref11_Check : runF E 68 [.agg [.inp 0, .inp 1, .inp 2, .inp 3, .inp 4, .inp 5, .inp 6, .inp 7, .inp 8, .inp 9, .inp 10], .agg [.inp 11, .inp 12, .inp 13], .inp 14] 15 = rt_lockbarref11_Check := by kernel_rfl

noncomputable def rt_lockbarref11_Is : RT :=
.seg [.chk [] (.isAgg 11) [qka3_0]] <|
.seg [.chk [] (.isAgg 3) [qka3_66]] <|
.seg [.call 15 [] 68 [qka3_0, qka3_66, .inp 14] false] <|
.seg [.chk [] (.bin .eql) [.inp 15, .int .i64 0]] <|
.ret (.app (.bin .eql) [.inp 15, .int .i64 0])
theorem run_lockbarref11_Is : runF E 29 [.agg [.inp 0, .inp 1, .inp 2, .inp 3, .inp 4, .inp 5, .inp 6, .inp 7, .inp 8, .inp 9, .inp 10], .agg [.inp 11, .inp 12, .inp 13], .inp 14] 15 = rt_lockbarref11_Is := by kernel_rfl

end Go.Lb.LK
