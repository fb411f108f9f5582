/- What functions come to, printed by a program, checked by the kernel. -/
import Derived.Test.YtmaldhbaihlmbaaGreatDoorCh1
set_option linter.unusedSimpArgs false
set_option linter.unusedVariables false
namespace Go.Lb.LK
open Go Go.Lb Go.Proofs
@[simp] noncomputable def qka2_0 : SE := .agg [.inp 0, .inp 1, .inp 2, .inp 3, .inp 4, .inp 5, .inp 6, .inp 7, .inp 8, .inp 9, .inp 10]
@[simp] noncomputable def qka2_1 : SE := .agg [.inp 11, .inp 12, .inp 13]
@[simp] noncomputable def qka2_2 : SE := .agg [.app (.tproj 0) [.inp 15], .app (.tproj 1) [.inp 15], .inp 14]
@[simp] noncomputable def qka2_3 : SE := .app .lst [qka2_2]
@[simp] noncomputable def qka2_4 : SE := .app (.bin .lss) [.inp 18, .app .len [.inp 3]]
@[simp] noncomputable def qka2_5 : SE := .app .pick [qka2_4, .app (.tproj 1) [.inp 16], .bool false]
@[simp] noncomputable def qka2_6 : SE := .app (.eidx 4) [.inp 3, .inp 18]
@[simp] noncomputable def qka2_7 : SE := .app (.eload 4 true) [qka2_6]
@[simp] noncomputable def qka2_8 : SE := .app (.part 0 1 false) [qka2_7]
@[simp] noncomputable def qka2_9 : SE := .app (.bin .eql) [qka2_8, .inp 11]
@[simp] noncomputable def qka2_10 : SE := .app (.part 1 1 false) [qka2_7]
@[simp] noncomputable def qka2_11 : SE := .app (.bin .eql) [qka2_10, .app (.tproj 0) [.inp 16]]
@[simp] noncomputable def qka2_12 : SE := .app .pick [qka2_9, qka2_11, .bool false]
@[simp] noncomputable def qka2_13 : SE := .app (.part 2 1 false) [qka2_7]
@[simp] noncomputable def qka2_14 : SE := .app (.part 3 1 false) [qka2_7]
@[simp] noncomputable def qka2_15 : SE := .agg [qka2_13, qka2_14, .inp 14]
@[simp] noncomputable def qka2_16 : SE := .app .lst [qka2_15]
@[simp] noncomputable def qka2_17 : SE := .app .app [.inp 17, qka2_16]
@[simp] noncomputable def qka2_18 : SE := .app (.bin .add) [.inp 18, .int .i64 1]
@[simp] noncomputable def qka2_20 : SE := .app (.bin .lss) [.inp 2, .app .len [.inp 0]]
@[simp] noncomputable def qka2_21 : SE := .app (.eidx 3) [.inp 0, .inp 2]
@[simp] noncomputable def qka2_26 : SE := .app (.bin .add) [.inp 2, .int .i64 1]
@[simp] noncomputable def qka2_27 : SE := .agg [.inp 0, .inp 1, .inp 2]
@[simp] noncomputable def qka2_37 : SE := .app (.eidx 3) [.inp 13, .inp 15]
@[simp] noncomputable def qka2_38 : SE := .app (.eidx 3) [.inp 16, .inp 18]
@[simp] noncomputable def qka2_39 : SE := .app (.bin .geq) [.inp 1, .int .i64 0]
@[simp] noncomputable def qka2_40 : SE := .app (.bin .lss) [.inp 1, .int .i64 32]
@[simp] noncomputable def qka2_41 : SE := .app .pick [qka2_39, qka2_40, .bool false]
@[simp] noncomputable def qka2_42 : SE := .app (.bin .shr) [.inp 0, .app (.conv .u64) [.inp 1]]
@[simp] noncomputable def qka2_43 : SE := .app (.bin .and) [qka2_42, .int .u32 1]
@[simp] noncomputable def qka2_44 : SE := .app (.bin .eql) [qka2_43, .int .u32 1]
@[simp] noncomputable def qka2_45 : SE := .agg [.inp 11, .inp 12, .inp 13, .inp 14, .inp 15, .inp 16, .inp 17, .inp 18, .inp 19, .inp 20, .inp 21, .inp 22, .inp 23, .inp 24, .inp 25, .inp 26, .inp 27, .inp 28, .inp 29, .inp 30, .inp 31, .inp 32, .inp 33, .inp 34, .inp 35, .inp 36, .inp 37, .inp 38, .inp 39]
@[simp] noncomputable def qka2_46 : SE := .agg [.inp 11, .inp 41, .inp 42, .inp 43, .inp 44, .inp 45, .inp 46, .inp 47, .inp 48, .inp 49, .inp 50, .inp 51, .inp 52, .inp 53, .inp 54, .inp 55, .inp 56, .inp 57, .inp 58, .inp 59, .inp 60, .inp 61, .inp 62, .inp 63, .inp 64, .inp 36, .inp 37, .inp 38, .inp 39]
@[simp] noncomputable def qka2_47 : SE := .app (.aidx 24 1 1 1 false) [qka2_46, .inp 40]
@[simp] noncomputable def qka2_48 : SE := .agg [.inp 40, .inp 41, .inp 42, .inp 43]
@[simp] noncomputable def qka2_49 : SE := .app (.bin .lss) [.inp 40, .int .i64 0]
@[simp] noncomputable def qka2_50 : SE := .app (.bin .geq) [.inp 40, .app .len [.inp 0]]
@[simp] noncomputable def qka2_51 : SE := .app .pick [qka2_49, .bool true, qka2_50]
@[simp] noncomputable def qka2_52 : SE := .app (.bin .geq) [.inp 40, .int .i64 24]
@[simp] noncomputable def qka2_53 : SE := .app .pick [.inp 42, .bool true, .inp 43]
@[simp] noncomputable def qka2_54 : SE := .app (.aidx 24 1 1 1 false) [qka2_45, .inp 40]
@[simp] noncomputable def qka2_55 : SE := .app (.bin .lss) [qka2_54, .inp 4]
@[simp] noncomputable def qka2_56 : SE := .app (.eidx 11) [.inp 0, .inp 40]
@[simp] noncomputable def qka2_57 : SE := .app (.eoff 0) [qka2_56]
@[simp] noncomputable def qka2_58 : SE := .app (.eload 1 false) [qka2_57]
@[simp] noncomputable def qka2_59 : SE := .app (.bin .neq) [qka2_58, .int .u8 2]
@[simp] noncomputable def qka2_60 : SE := .app .pick [qka2_51, .bool true, qka2_59]
@[simp] noncomputable def qka2_61 : SE := .app (.bin .lss) [.inp 0, .int .i64 (-1)]
@[simp] noncomputable def qka2_62 : SE := .app (.bin .gtr) [.inp 0, .int .i64 1]
@[simp] noncomputable def qka2_63 : SE := .app .pick [qka2_61, .bool true, qka2_62]
@[simp] noncomputable def qka2_64 : SE := .app (.bin .lss) [.inp 1, .int .i64 0]
@[simp] noncomputable def qka2_65 : SE := .app .pick [qka2_63, .bool true, qka2_64]
@[simp] noncomputable def qka2_66 : SE := .app (.bin .gtr) [.inp 1, .int .i64 1000]
@[simp] noncomputable def qka2_67 : SE := .app (.bin .geq) [.inp 0, .int .i64 0]
@[simp] noncomputable def qka2_68 : SE := .app (.eqa [ some .i64, some .i64, none] false) [qka2_27, .inp 5]
@[simp] noncomputable def qka2_69 : SE := .app (.eoff 0) [qka2_21]
@[simp] noncomputable def qka2_70 : SE := .app (.eidx 3) [.inp 1, .inp 3]
@[simp] noncomputable def qka2_71 : SE := .app (.eoff 0) [qka2_70]
@[simp] noncomputable def qka2_72 : SE := .app (.eload 1 false) [qka2_69]
@[simp] noncomputable def qka2_73 : SE := .app (.eload 1 false) [qka2_71]
@[simp] noncomputable def qka2_74 : SE := .app (.bin .eql) [qka2_72, qka2_73]
@[simp] noncomputable def qka2_75 : SE := .app (.eoff 1) [qka2_21]
@[simp] noncomputable def qka2_76 : SE := .app (.eoff 1) [qka2_70]
@[simp] noncomputable def qka2_77 : SE := .app (.eload 1 false) [qka2_75]
@[simp] noncomputable def qka2_78 : SE := .app (.eload 1 false) [qka2_76]
@[simp] noncomputable def qka2_79 : SE := .app (.bin .neq) [qka2_77, qka2_78]
@[simp] noncomputable def qka2_80 : SE := .agg [.inp 0, .inp 1, .inp 2, .inp 3, .inp 4, .inp 5, .inp 6, .inp 7, .inp 8, .inp 9, .inp 10, .inp 11, .inp 12, .inp 13, .inp 14, .inp 15, .inp 16, .inp 17, .inp 18, .inp 19, .inp 20, .inp 21, .inp 22]
@[simp] noncomputable def qka2_81 : SE := .app (.bin .lss) [.inp 0, .int .i64 1]
@[simp] noncomputable def qka2_82 : SE := .app (.bin .gtr) [.inp 0, .int .i64 1073741824]
@[simp] noncomputable def qka2_83 : SE := .app .pick [qka2_81, .bool true, qka2_82]
@[simp] noncomputable def qka2_84 : SE := .app (.bin .lss) [.app .len [.inp 3], .int .i64 1]
@[simp] noncomputable def qka2_85 : SE := .app .pick [qka2_83, .bool true, qka2_84]
@[simp] noncomputable def qka2_86 : SE := .app (.bin .gtr) [.app .len [.inp 3], .int .i64 12]
@[simp] noncomputable def qka2_87 : SE := .app .pick [qka2_85, .bool true, qka2_86]
@[simp] noncomputable def qka2_88 : SE := .app (.bin .gtr) [.app .len [.inp 4], .int .i64 2]
@[simp] noncomputable def qka2_89 : SE := .app .pick [qka2_87, .bool true, qka2_88]
@[simp] noncomputable def qka2_90 : SE := .app (.bin .lss) [.inp 6, .int .u8 1]
@[simp] noncomputable def qka2_91 : SE := .app .pick [qka2_89, .bool true, qka2_90]
@[simp] noncomputable def qka2_92 : SE := .app (.bin .geq) [.inp 6, .int .u8 5]
@[simp] noncomputable def qka2_93 : SE := .app .pick [qka2_91, .bool true, qka2_92]
@[simp] noncomputable def qka2_94 : SE := .app (.bin .lss) [.inp 7, .int .i64 0]
@[simp] noncomputable def qka2_95 : SE := .app .pick [qka2_93, .bool true, qka2_94]
@[simp] noncomputable def qka2_96 : SE := .app (.bin .gtr) [.inp 7, .app .len [.inp 3]]
@[simp] noncomputable def qka2_97 : SE := .app .pick [qka2_95, .bool true, qka2_96]
@[simp] noncomputable def qka2_98 : SE := .app (.bin .lss) [.inp 21, .int .i64 0]
@[simp] noncomputable def qka2_99 : SE := .app .pick [qka2_97, .bool true, qka2_98]
@[simp] noncomputable def qka2_100 : SE := .app (.bin .gtr) [.inp 21, .int .i64 1073741824]
@[simp] noncomputable def qka2_101 : SE := .app .pick [qka2_99, .bool true, qka2_100]
@[simp] noncomputable def qka2_102 : SE := .app .app [.app .lst [], .inp 3]
@[simp] noncomputable def qka2_103 : SE := .app .app [qka2_102, .inp 4]
@[simp] noncomputable def qka2_104 : SE := .app .len [qka2_103]
@[simp] noncomputable def qka2_105 : SE := .app (.rowget 3 0 1 false) [qka2_103, .inp 35]
@[simp] noncomputable def qka2_106 : SE := .app (.rowget 3 0 1 false) [qka2_103, .inp 34]
@[simp] noncomputable def qka2_107 : SE := .app (.bin .add) [.inp 35, .int .i64 1]
@[simp] noncomputable def qka2_108 : SE := .app (.eidx 3) [.inp 5, .inp 36]
@[simp] noncomputable def qka2_109 : SE := .app (.eload 3 true) [qka2_108]
@[simp] noncomputable def qka2_110 : SE := .app (.part 2 1 false) [qka2_109]
@[simp] noncomputable def qka2_111 : SE := .app (.bin .lss) [qka2_110, .int .i64 0]
@[simp] noncomputable def qka2_112 : SE := .app (.bin .gtr) [qka2_110, .app .len [.inp 3]]
@[simp] noncomputable def qka2_113 : SE := .app .pick [qka2_111, .bool true, qka2_112]
@[simp] noncomputable def qka2_114 : SE := .app (.part 0 1 false) [qka2_109]
@[simp] noncomputable def qka2_115 : SE := .app (.bin .lss) [qka2_114, .int .i64 0]
@[simp] noncomputable def qka2_116 : SE := .app .pick [qka2_113, .bool true, qka2_115]
@[simp] noncomputable def qka2_117 : SE := .app (.bin .geq) [qka2_114, .int .i64 24]
@[simp] noncomputable def qka2_118 : SE := .app .pick [qka2_116, .bool true, qka2_117]
@[simp] noncomputable def qka2_119 : SE := .app (.part 1 1 false) [qka2_109]
@[simp] noncomputable def qka2_120 : SE := .app (.bin .lss) [qka2_119, .int .i64 0]
@[simp] noncomputable def qka2_121 : SE := .app .pick [qka2_118, .bool true, qka2_120]
@[simp] noncomputable def qka2_122 : SE := .app (.bin .gtr) [qka2_119, .int .i64 1]
@[simp] noncomputable def qka2_123 : SE := .app (.mm true) [.inp 7, .int .i64 0]
@[simp] noncomputable def qka2_124 : SE := .app (.eidx 3) [.inp 3, .inp 24]
@[simp] noncomputable def qka2_125 : SE := .app (.eoff 0) [qka2_124]
@[simp] noncomputable def qka2_126 : SE := .app (.eload 1 false) [qka2_125]
@[simp] noncomputable def qka2_127 : SE := .app .lst [qka2_126]
@[simp] noncomputable def qka2_128 : SE := .app (.bin .add) [.inp 24, .int .i64 1]
@[simp] noncomputable def qka2_129 : SE := .app (.bin .lss) [.inp 26, .app .len [.inp 4]]
@[simp] noncomputable def qka2_130 : SE := .app (.eidx 3) [.inp 4, .inp 26]
@[simp] noncomputable def qka2_131 : SE := .app (.eoff 0) [qka2_130]
@[simp] noncomputable def qka2_132 : SE := .app (.eload 1 false) [qka2_131]
@[simp] noncomputable def qka2_133 : SE := .app .lst [qka2_132]
@[simp] noncomputable def qka2_134 : SE := .app (.bin .lss) [.inp 25, .app .len [.inp 24]]
@[simp] noncomputable def qka2_135 : SE := .app (.eidx 1) [.inp 24, .inp 25]
@[simp] noncomputable def qka2_136 : SE := .app (.eload 1 false) [qka2_135]
@[simp] noncomputable def qka2_137 : SE := .app (.bin .add) [.inp 25, .int .i64 1]
@[simp] noncomputable def qka2_138 : SE := .app (.eidx 3) [.inp 5, .inp 24]
@[simp] noncomputable def qka2_139 : SE := .app (.eload 3 true) [qka2_138]
@[simp] noncomputable def qka2_140 : SE := .app (.part 2 1 false) [qka2_139]
@[simp] noncomputable def qka2_141 : SE := .app (.bin .geq) [qka2_140, qka2_123]
@[simp] noncomputable def qka2_142 : SE := .app (.bin .eql) [qka2_140, .app .len [.inp 3]]
@[simp] noncomputable def qka2_143 : SE := .app .pick [qka2_142, .inp 20, .bool false]
@[simp] noncomputable def qka2_144 : SE := .app (.un .not) [qka2_143]
@[simp] noncomputable def qka2_145 : SE := .agg [.app (.part 0 1 false) [qka2_139], .app (.part 1 1 false) [qka2_139], qka2_140]
@[simp] noncomputable def qka2_146 : SE := .app .lst [qka2_145]
@[simp] noncomputable def qka2_147 : SE := .app (.eidx 3) [.inp 24, .inp 25]
@[simp] noncomputable def qka2_148 : SE := .app (.eoff 0) [qka2_147]
@[simp] noncomputable def qka2_149 : SE := .app (.eload 1 false) [qka2_148]
@[simp] noncomputable def qka2_150 : SE := .app (.eoff 1) [qka2_147]
@[simp] noncomputable def qka2_151 : SE := .tup [.int .i64 0, .bool false]
@[simp] noncomputable def qka2_152 : SE := .agg [.inp 23, .inp 24, .inp 25, .inp 26, .inp 27, .inp 28, .inp 29, .inp 30, .inp 31, .inp 32, .inp 33, .inp 34, .inp 35, .inp 36, .inp 37, .inp 38, .inp 39, .inp 40, .inp 41, .inp 42, .inp 43, .inp 44, .inp 45]
@[simp] noncomputable def qka2_153 : SE := .app (.eidx 1) [.inp 46, .inp 47]
@[simp] noncomputable def qka2_171 : SE := .agg [.inp 0, .inp 1, .inp 2, .inp 3, .inp 4, .inp 5, .inp 6, .inp 7, .inp 8, .inp 9, .inp 10, .inp 11, .inp 12, .inp 13, .inp 14, .inp 15, .inp 16, .inp 17, .inp 18, .inp 19, .inp 20, .inp 21, .inp 22, .inp 23, .inp 24, .inp 25, .inp 26, .inp 27, .inp 28, .inp 29, .inp 30, .inp 31, .inp 32, .inp 33, .inp 34, .inp 35, .inp 36, .inp 37, .inp 38, .inp 39, .inp 40, .inp 41, .inp 42, .inp 43, .inp 44, .inp 45, .inp 46, .inp 47, .inp 48, .inp 49, .inp 50, .inp 51, .inp 52, .inp 53, .inp 54, .inp 55, .inp 56, .inp 57, .inp 58, .inp 59, .inp 60, .inp 61, .inp 62, .inp 63, .inp 64, .inp 65, .inp 66, .inp 67, .inp 68, .inp 69, .inp 70, .inp 71, .inp 72, .inp 73]
@[simp] noncomputable def qka2_178 : SE := .app (.bin .gtr) [.app .len [.inp 1], .int .i64 6]
@[simp] noncomputable def qka2_179 : SE := .app .pick [qka2_178, .bool true, qka2_81]
@[simp] noncomputable def qka2_180 : SE := .app (.bin .lss) [.inp 75, .app .len [.inp 1]]
@[simp] noncomputable def qka2_181 : SE := .app (.eidx 23) [.inp 1, .inp 75]
@[simp] noncomputable def qka2_182 : SE := .app (.eload 23 true) [qka2_181]
@[simp] noncomputable def qka2_183 : SE := .app (.part 0 1 false) [qka2_182]
@[simp] noncomputable def qka2_184 : SE := .agg [qka2_183, .app (.part 1 1 false) [qka2_182], .app (.part 2 1 false) [qka2_182], .app (.part 3 1 false) [qka2_182], .app (.part 4 1 false) [qka2_182], .app (.part 5 1 false) [qka2_182], .app (.part 6 1 false) [qka2_182], .app (.part 7 1 false) [qka2_182], .app (.part 8 1 false) [qka2_182], .app (.part 9 1 false) [qka2_182], .app (.part 10 1 false) [qka2_182], .app (.part 11 1 false) [qka2_182], .app (.part 12 1 false) [qka2_182], .app (.part 13 1 false) [qka2_182], .app (.part 14 1 false) [qka2_182], .app (.part 15 1 false) [qka2_182], .app (.part 16 1 false) [qka2_182], .app (.part 17 1 false) [qka2_182], .app (.part 18 1 false) [qka2_182], .app (.part 19 1 false) [qka2_182], .app (.part 20 1 false) [qka2_182], .app (.part 21 1 false) [qka2_182], .app (.part 22 1 false) [qka2_182]]
@[simp] noncomputable def qka2_185 : SE := .app (.bin .geq) [qka2_183, .inp 0]
@[simp] noncomputable def qka2_186 : SE := .app .pick [.app (.un .not) [.inp 76], .bool true, qka2_185]
@[simp] noncomputable def qka2_187 : SE := .app (.bin .gtr) [.inp 75, .int .i64 0]
@[simp] noncomputable def qka2_188 : SE := .app (.bin .sub) [.inp 75, .int .i64 1]
@[simp] noncomputable def qka2_189 : SE := .app (.eidx 23) [.inp 1, qka2_188]
@[simp] noncomputable def qka2_190 : SE := .app (.eoff 0) [qka2_189]
@[simp] noncomputable def qka2_191 : SE := .app (.eload 1 false) [qka2_190]
@[simp] noncomputable def qka2_192 : SE := .app (.bin .leq) [qka2_183, qka2_191]
@[simp] noncomputable def qka2_193 : SE := .app .pick [qka2_187, qka2_192, .bool false]
@[simp] noncomputable def qka2_194 : SE := .app (.eidx 23) [.inp 1, .inp 81]
@[simp] noncomputable def qka2_195 : SE := .app (.bin .add) [.inp 75, .int .i64 1]
@[simp] noncomputable def qka2_196 : SE := .app (.aidx 24 3 2 3 true) [qka2_171, .inp 76]
noncomputable def rt_lockbarref10_Wants : RT :=
.seg [.chk [] (.isAgg 11) [qka2_0]] <|
.seg [.chk [] (.isAgg 3) [qka2_1]] <|
.seg [.call 15 [] 109 [qka2_0, qka2_1] false] <|
.seg [.chk [] (.tproj 0) [.inp 15]] <|
.seg [.chk [] (.tproj 1) [.inp 15]] <|
.seg [.chk [] (.tproj 2) [.inp 15]] <|
.cond (.app (.tproj 2) [.inp 15])
 (.seg [.chk [] .isOne [.app (.tproj 0) [.inp 15]],
.chk [] .isOne [.app (.tproj 1) [.inp 15]],
.chk [] .isOne [.inp 14]] <|
.seg [.chk [] (.isAgg 3) [qka2_2]] <|
.seg [.chk [] (.szs 3) [qka2_3],
.chk [] .app [.nils, qka2_3]] <|
.seg [.call 16 [] 110 [qka2_0, qka2_1] false] <|
.seg [.chk [] (.tproj 0) [.inp 16]] <|
.seg [.chk [] (.tproj 1) [.inp 16]] <|
.loop 0 17 [.app .app [.nils, qka2_3], .int .i64 0] <|
.seg [.chk [] .len [.inp 3]] <|
.seg [.chk [] (.bin .lss) [.inp 18, .app .len [.inp 3]]] <|
.seg [.chk [] .pick [qka2_4, .app (.tproj 1) [.inp 16], .bool false]] <|
.cond (qka2_5)
 (.seg [.chk [] (.eidx 4) [.inp 3, .inp 18]] <|
.seg [.chk [] (.eload 4 true) [qka2_6]] <|
.seg [.chk [] (.isAgg 4) [qka2_7]] <|
.seg [.chk [] (.bin .eql) [qka2_8, .inp 11]] <|
.seg [.chk [(qka2_9, true)] (.bin .eql) [qka2_10, .app (.tproj 0) [.inp 16]]] <|
.seg [.chk [] .pick [qka2_9, qka2_11, .bool false]] <|
.seg [.bind 19 (qka2_12)] <|
.cond (.inp 19)
 (.seg [.chk [] .isOne [qka2_13],
.chk [] .isOne [qka2_14],
.chk [] .isOne [.inp 14]] <|
.seg [.chk [] (.isAgg 3) [qka2_15]] <|
.seg [.chk [] (.szs 3) [qka2_16],
.chk [] .app [.inp 17, qka2_16]] <|
.seg [.bind 20 (qka2_16),
.bind 21 (qka2_17)] <|
.seg [.chk [] (.bin .add) [.inp 18, .int .i64 1]] <|
.again 0 [.inp 21, qka2_18])
 (.seg [.chk [] (.bin .add) [.inp 18, .int .i64 1]] <|
.again 0 [.inp 17, qka2_18]))
 (.ret (.inp 17)))
 (.seg [.call 16 [] 110 [qka2_0, qka2_1] false] <|
.seg [.chk [] (.tproj 0) [.inp 16]] <|
.seg [.chk [] (.tproj 1) [.inp 16]] <|
.loop 0 17 [.nils, .int .i64 0] <|
.seg [.chk [] .len [.inp 3]] <|
.seg [.chk [] (.bin .lss) [.inp 18, .app .len [.inp 3]]] <|
.seg [.chk [] .pick [qka2_4, .app (.tproj 1) [.inp 16], .bool false]] <|
.cond (qka2_5)
 (.seg [.chk [] (.eidx 4) [.inp 3, .inp 18]] <|
.seg [.chk [] (.eload 4 true) [qka2_6]] <|
.seg [.chk [] (.isAgg 4) [qka2_7]] <|
.seg [.chk [] (.bin .eql) [qka2_8, .inp 11]] <|
.seg [.chk [(qka2_9, true)] (.bin .eql) [qka2_10, .app (.tproj 0) [.inp 16]]] <|
.seg [.chk [] .pick [qka2_9, qka2_11, .bool false]] <|
.seg [.bind 19 (qka2_12)] <|
.cond (.inp 19)
 (.seg [.chk [] .isOne [qka2_13],
.chk [] .isOne [qka2_14],
.chk [] .isOne [.inp 14]] <|
.seg [.chk [] (.isAgg 3) [qka2_15]] <|
.seg [.chk [] (.szs 3) [qka2_16],
.chk [] .app [.inp 17, qka2_16]] <|
.seg [.bind 20 (qka2_16),
.bind 21 (qka2_17)] <|
.seg [.chk [] (.bin .add) [.inp 18, .int .i64 1]] <|
.again 0 [.inp 21, qka2_18])
 (.seg [.chk [] (.bin .add) [.inp 18, .int .i64 1]] <|
.again 0 [.inp 17, qka2_18]))
 (.ret (.inp 17)))
theorem run_lockbarref10_Wants : runF E 70 [.agg [.inp 0, .inp 1, .inp 2, .inp 3, .inp 4, .inp 5, .inp 6, .inp 7, .inp 8, .inp 9, .inp 10], .agg [.inp 11, .inp 12, .inp 13], .inp 14] 15 = rt_lockbarref10_Wants := by kernel_rfl

noncomputable def rt_lockbarref13_Of : RT :=
.seg [.chk [] (.isAgg 11) [qka2_0]] <|
.seg [.chk [] (.isAgg 3) [qka2_1]] <|
.seg [.chk [] .len [.inp 13]] <|
.loop 0 14 [.nils, .int .i64 0] <|
.seg [.chk [] (.bin .lss) [.inp 15, .app .len [.inp 13]]] <|
.cond (.app (.bin .lss) [.inp 15, .app .len [.inp 13]])
 (.seg [.chk [] (.eidx 3) [.inp 13, .inp 15],
.chk [] (.eload 3 true) [qka2_37],
.call 16 [] 70 [qka2_0, .app (.eload 3 true) [qka2_37], .inp 15] false,
.chk [] (.szs 3) [.inp 16],
.chk [] .app [.inp 14, .inp 16]] <|
.seg [.chk [] (.bin .add) [.inp 15, .int .i64 1]] <|
.again 0 [.app .app [.inp 14, .inp 16], .app (.bin .add) [.inp 15, .int .i64 1]])
 (.seg [.call 16 [] 31 [qka2_0, .inp 12] false] <|
.loop 0 17 [.inp 14, .int .i64 0] <|
.seg [.chk [] .len [.inp 16]] <|
.seg [.chk [] (.bin .lss) [.inp 18, .app .len [.inp 16]]] <|
.cond (.app (.bin .lss) [.inp 18, .app .len [.inp 16]])
 (.seg [.chk [] (.eidx 3) [.inp 16, .inp 18],
.chk [] (.eload 3 true) [qka2_38],
.call 19 [] 70 [qka2_0, .app (.eload 3 true) [qka2_38], .app .len [.inp 13]] false,
.chk [] (.szs 3) [.inp 19],
.chk [] .app [.inp 17, .inp 19]] <|
.seg [.chk [] (.bin .add) [.inp 18, .int .i64 1]] <|
.again 0 [.app .app [.inp 17, .inp 19], qka2_18])
 (.ret (.inp 17)))
theorem run_lockbarref13_Of : runF E 32 [.agg [.inp 0, .inp 1, .inp 2, .inp 3, .inp 4, .inp 5, .inp 6, .inp 7, .inp 8, .inp 9, .inp 10], .agg [.inp 11, .inp 12, .inp 13]] 14 = rt_lockbarref13_Of := by kernel_rfl

noncomputable def rt_lockbarref15_New : RT :=
.ret (.agg [.int .i64 65535, .int .i64 0, .int .i64 0, .int .i64 0, .int .i64 0, .int .i64 0, .int .i64 0, .int .i64 0, .int .i64 0, .int .i64 0, .int .i64 0, .int .i64 0, .int .i64 0, .int .i64 0, .int .i64 0, .int .i64 0, .int .i64 0, .int .i64 0, .int .i64 0, .int .i64 0, .int .i64 0, .int .i64 0, .int .i64 0, .int .i64 0, .int .i64 0, .int .u32 0, .int .u32 0, .int .u32 0, .int .u32 0])
theorem run_lockbarref15_New : runF E 41 [] 0 = rt_lockbarref15_New := by kernel_rfl

noncomputable def rt_lockbarref15_bit : RT :=
.seg [.chk [] (.bin .geq) [.inp 1, .int .i64 0]] <|
.seg [.chk [(qka2_39, true)] (.bin .lss) [.inp 1, .int .i64 32]] <|
.seg [.chk [] .pick [qka2_39, qka2_40, .bool false]] <|
.seg [.chk [(qka2_41, true)] (.conv .u64) [.inp 1]] <|
.seg [.chk [(qka2_41, true)] (.bin .shr) [.inp 0, .app (.conv .u64) [.inp 1]]] <|
.seg [.chk [(qka2_41, true)] (.bin .and) [qka2_42, .int .u32 1]] <|
.seg [.chk [(qka2_41, true)] (.bin .eql) [qka2_43, .int .u32 1]] <|
.seg [.chk [] .pick [qka2_41, qka2_44, .bool false]] <|
.seg [.bind 2 (.app .pick [qka2_41, qka2_44, .bool false])] <|
.ret (.inp 2)
theorem run_lockbarref15_bit : runF E 74 [.inp 0, .inp 1] 2 = rt_lockbarref15_bit := by kernel_rfl

noncomputable def rt_lockbarref15_Stale : RT :=
.seg [.chk [] (.isAgg 11) [qka2_0]] <|
.seg [.chk [] (.isAgg 29) [qka2_45]] <|
.seg [.call 40 [] 75 [.inp 11, .inp 6] false] <|
.ret (.inp 40)
theorem run_lockbarref15_Stale : runF E 35 [.agg [.inp 0, .inp 1, .inp 2, .inp 3, .inp 4, .inp 5, .inp 6, .inp 7, .inp 8, .inp 9, .inp 10], .agg [.inp 11, .inp 12, .inp 13, .inp 14, .inp 15, .inp 16, .inp 17, .inp 18, .inp 19, .inp 20, .inp 21, .inp 22, .inp 23, .inp 24, .inp 25, .inp 26, .inp 27, .inp 28, .inp 29, .inp 30, .inp 31, .inp 32, .inp 33, .inp 34, .inp 35, .inp 36, .inp 37, .inp 38, .inp 39]] 40 = rt_lockbarref15_Stale := by kernel_rfl

noncomputable def rt_lockbarref15_rows : RT :=
.seg [.chk [] (.isAgg 11) [qka2_0]] <|
.seg [.chk [] (.isAgg 29) [qka2_45]] <|
.loop 0 40 [.int .i64 0, .inp 12, .inp 13, .inp 14, .inp 15, .inp 16, .inp 17, .inp 18, .inp 19, .inp 20, .inp 21, .inp 22, .inp 23, .inp 24, .inp 25, .inp 26, .inp 27, .inp 28, .inp 29, .inp 30, .inp 31, .inp 32, .inp 33, .inp 34, .inp 35] <|
.seg [.chk [] (.bin .lss) [.inp 40, .int .i64 24]] <|
.cond (.app (.bin .lss) [.inp 40, .int .i64 24])
 (.seg [.call 65 [] 35 [qka2_0, qka2_46] false,
.chk [] (.un .not) [.inp 65],
.call 66 [(.app (.un .not) [.inp 65], true)] 74 [.inp 36, .inp 40] false,
.chk [(.app (.un .not) [.inp 65], true)] (.un .not) [.inp 66],
.chk [] .pick [.app (.un .not) [.inp 65], .app (.un .not) [.inp 66], .bool false],
.chk [] (.inr 24) [.inp 40],
.chk [] (.aidx 24 1 1 1 false) [qka2_46, .inp 40],
.call 67 [] 133 [.app .pick [.app (.un .not) [.inp 65], .app (.un .not) [.inp 66], .bool false], qka2_47] false,
.chk [] (.inr 24) [.inp 40],
.chk [] (.inr 24) [.inp 40],
.chk [] .isOne [.inp 67]] <|
.seg [.bind 68 (qka2_47)] <|
.seg [.chk [] (.bin .add) [.inp 40, .int .i64 1]] <|
.again 0 [.app (.bin .add) [.inp 40, .int .i64 1], .app (.cellset 1 24 1 0 1 1) [.inp 40, .inp 41, .agg [.inp 67]], .app (.cellset 1 24 1 0 1 2) [.inp 40, .inp 42, .agg [.inp 67]], .app (.cellset 1 24 1 0 1 3) [.inp 40, .inp 43, .agg [.inp 67]], .app (.cellset 1 24 1 0 1 4) [.inp 40, .inp 44, .agg [.inp 67]], .app (.cellset 1 24 1 0 1 5) [.inp 40, .inp 45, .agg [.inp 67]], .app (.cellset 1 24 1 0 1 6) [.inp 40, .inp 46, .agg [.inp 67]], .app (.cellset 1 24 1 0 1 7) [.inp 40, .inp 47, .agg [.inp 67]], .app (.cellset 1 24 1 0 1 8) [.inp 40, .inp 48, .agg [.inp 67]], .app (.cellset 1 24 1 0 1 9) [.inp 40, .inp 49, .agg [.inp 67]], .app (.cellset 1 24 1 0 1 10) [.inp 40, .inp 50, .agg [.inp 67]], .app (.cellset 1 24 1 0 1 11) [.inp 40, .inp 51, .agg [.inp 67]], .app (.cellset 1 24 1 0 1 12) [.inp 40, .inp 52, .agg [.inp 67]], .app (.cellset 1 24 1 0 1 13) [.inp 40, .inp 53, .agg [.inp 67]], .app (.cellset 1 24 1 0 1 14) [.inp 40, .inp 54, .agg [.inp 67]], .app (.cellset 1 24 1 0 1 15) [.inp 40, .inp 55, .agg [.inp 67]], .app (.cellset 1 24 1 0 1 16) [.inp 40, .inp 56, .agg [.inp 67]], .app (.cellset 1 24 1 0 1 17) [.inp 40, .inp 57, .agg [.inp 67]], .app (.cellset 1 24 1 0 1 18) [.inp 40, .inp 58, .agg [.inp 67]], .app (.cellset 1 24 1 0 1 19) [.inp 40, .inp 59, .agg [.inp 67]], .app (.cellset 1 24 1 0 1 20) [.inp 40, .inp 60, .agg [.inp 67]], .app (.cellset 1 24 1 0 1 21) [.inp 40, .inp 61, .agg [.inp 67]], .app (.cellset 1 24 1 0 1 22) [.inp 40, .inp 62, .agg [.inp 67]], .app (.cellset 1 24 1 0 1 23) [.inp 40, .inp 63, .agg [.inp 67]], .app (.cellset 1 24 1 0 1 24) [.inp 40, .inp 64, .agg [.inp 67]]])
 (.seg [.chk [] (.isAgg 29) [qka2_46]] <|
.ret (qka2_46))
theorem run_lockbarref15_rows : runF E 111 [.agg [.inp 0, .inp 1, .inp 2, .inp 3, .inp 4, .inp 5, .inp 6, .inp 7, .inp 8, .inp 9, .inp 10], .agg [.inp 11, .inp 12, .inp 13, .inp 14, .inp 15, .inp 16, .inp 17, .inp 18, .inp 19, .inp 20, .inp 21, .inp 22, .inp 23, .inp 24, .inp 25, .inp 26, .inp 27, .inp 28, .inp 29, .inp 30, .inp 31, .inp 32, .inp 33, .inp 34, .inp 35, .inp 36, .inp 37, .inp 38, .inp 39]] 40 = rt_lockbarref15_rows := by kernel_rfl

noncomputable def rt_lockbarref15_Take : RT :=
.seg [.chk [] (.isAgg 11) [qka2_0]] <|
.seg [.chk [] (.isAgg 29) [qka2_45]] <|
.seg [.chk [] (.isAgg 4) [qka2_48]] <|
.seg [.chk [] (.isAgg 4) [qka2_48]] <|
.seg [.call 44 [] 111 [qka2_0, .agg [.int .i64 0, .inp 12, .inp 13, .inp 14, .inp 15, .inp 16, .inp 17, .inp 18, .inp 19, .inp 20, .inp 21, .inp 22, .inp 23, .inp 24, .inp 25, .inp 26, .inp 27, .inp 28, .inp 29, .inp 30, .inp 31, .inp 32, .inp 33, .inp 34, .inp 35, .inp 40, .inp 41, .inp 42, .inp 43]] false] <|
.seg [.chk [] (.isAgg 29) [.inp 44]] <|
.ret (.agg [.app (.part 0 1 false) [.inp 44], .app (.part 1 1 false) [.inp 44], .app (.part 2 1 false) [.inp 44], .app (.part 3 1 false) [.inp 44], .app (.part 4 1 false) [.inp 44], .app (.part 5 1 false) [.inp 44], .app (.part 6 1 false) [.inp 44], .app (.part 7 1 false) [.inp 44], .app (.part 8 1 false) [.inp 44], .app (.part 9 1 false) [.inp 44], .app (.part 10 1 false) [.inp 44], .app (.part 11 1 false) [.inp 44], .app (.part 12 1 false) [.inp 44], .app (.part 13 1 false) [.inp 44], .app (.part 14 1 false) [.inp 44], .app (.part 15 1 false) [.inp 44], .app (.part 16 1 false) [.inp 44], .app (.part 17 1 false) [.inp 44], .app (.part 18 1 false) [.inp 44], .app (.part 19 1 false) [.inp 44], .app (.part 20 1 false) [.inp 44], .app (.part 21 1 false) [.inp 44], .app (.part 22 1 false) [.inp 44], .app (.part 23 1 false) [.inp 44], .app (.part 24 1 false) [.inp 44], .app (.part 25 1 false) [.inp 44], .app (.part 26 1 false) [.inp 44], .app (.part 27 1 false) [.inp 44], .app (.part 28 1 false) [.inp 44]])
theorem run_lockbarref15_Take : runF E 76 [.agg [.inp 0, .inp 1, .inp 2, .inp 3, .inp 4, .inp 5, .inp 6, .inp 7, .inp 8, .inp 9, .inp 10], .agg [.inp 11, .inp 12, .inp 13, .inp 14, .inp 15, .inp 16, .inp 17, .inp 18, .inp 19, .inp 20, .inp 21, .inp 22, .inp 23, .inp 24, .inp 25, .inp 26, .inp 27, .inp 28, .inp 29, .inp 30, .inp 31, .inp 32, .inp 33, .inp 34, .inp 35, .inp 36, .inp 37, .inp 38, .inp 39], .agg [.inp 40, .inp 41, .inp 42, .inp 43]] 44 = rt_lockbarref15_Take := by kernel_rfl

noncomputable def rt_lockbarref15_Occupied : RT :=
.seg [.chk [] (.isAgg 11) [qka2_0]] <|
.seg [.chk [] (.isAgg 29) [qka2_45]] <|
.seg [.chk [] (.bin .lss) [.inp 40, .int .i64 0]] <|
.seg [.chk [(qka2_49, false)] .len [.inp 0]] <|
.seg [.chk [(qka2_49, false)] (.bin .geq) [.inp 40, .app .len [.inp 0]]] <|
.seg [.chk [] .pick [qka2_49, .bool true, qka2_50]] <|
.seg [.chk [(qka2_51, false)] (.bin .geq) [.inp 40, .int .i64 24]] <|
.seg [.chk [] .pick [qka2_51, .bool true, qka2_52]] <|
.seg [.bind 41 (.app .pick [qka2_51, .bool true, qka2_52])] <|
.cond (.inp 41)
 (.ret (.bool true))
 (.seg [.call 42 [] 35 [qka2_0, qka2_45] false,
.call 43 [(.inp 42, false)] 74 [.inp 36, .inp 40] false,
.chk [] .pick [.inp 42, .bool true, .inp 43],
.chk [(qka2_53, false)] (.inr 24) [.inp 40],
.chk [(qka2_53, false)] (.aidx 24 1 1 1 false) [qka2_45, .inp 40],
.chk [(qka2_53, false)] (.bin .lss) [qka2_54, .inp 4],
.chk [] .pick [qka2_53, .bool true, qka2_55]] <|
.seg [.bind 44 (.app .pick [qka2_53, .bool true, qka2_55]),
.bind 45 (qka2_54),
.bind 46 (qka2_55)] <|
.ret (.inp 44))
theorem run_lockbarref15_Occupied : runF E 34 [.agg [.inp 0, .inp 1, .inp 2, .inp 3, .inp 4, .inp 5, .inp 6, .inp 7, .inp 8, .inp 9, .inp 10], .agg [.inp 11, .inp 12, .inp 13, .inp 14, .inp 15, .inp 16, .inp 17, .inp 18, .inp 19, .inp 20, .inp 21, .inp 22, .inp 23, .inp 24, .inp 25, .inp 26, .inp 27, .inp 28, .inp 29, .inp 30, .inp 31, .inp 32, .inp 33, .inp 34, .inp 35, .inp 36, .inp 37, .inp 38, .inp 39], .inp 40] 41 = rt_lockbarref15_Occupied := by kernel_rfl

noncomputable def rt_lockbarref15_At : RT :=
.seg [.chk [] (.isAgg 11) [qka2_0]] <|
.seg [.chk [] (.isAgg 29) [qka2_45]] <|
.seg [.chk [] (.bin .lss) [.inp 40, .int .i64 0]] <|
.seg [.chk [(qka2_49, false)] .len [.inp 0]] <|
.seg [.chk [(qka2_49, false)] (.bin .geq) [.inp 40, .app .len [.inp 0]]] <|
.seg [.chk [] .pick [qka2_49, .bool true, qka2_50]] <|
.seg [.chk [(qka2_51, false)] (.eidx 11) [.inp 0, .inp 40]] <|
.seg [.chk [(qka2_51, false)] (.eoff 0) [qka2_56]] <|
.seg [.chk [(qka2_51, false)] (.eload 1 false) [qka2_57]] <|
.seg [.chk [(qka2_51, false)] (.bin .neq) [qka2_58, .int .u8 2]] <|
.seg [.chk [] .pick [qka2_51, .bool true, qka2_59]] <|
.seg [.call 41 [(qka2_60, false)] 35 [qka2_0, qka2_45] false] <|
.seg [.chk [] .pick [qka2_60, .bool true, .inp 41]] <|
.seg [.bind 42 (qka2_60),
.bind 43 (.app .pick [qka2_60, .bool true, .inp 41])] <|
.cond (.inp 43)
 (.ret (.int .i64 (-1)))
 (.seg [.call 44 [] 74 [.inp 37, .inp 40] false,
.call 45 [] 74 [.inp 38, .inp 40] false] <|
.seg [.chk [] (.eqb false) [.inp 44, .inp 45]] <|
.cond (.app (.eqb false) [.inp 44, .inp 45])
 (.ret (.int .i64 (-1)))
 (.cond (.inp 44)
 (.ret (.int .i64 0))
 (.ret (.int .i64 1))))
theorem run_lockbarref15_At : runF E 38 [.agg [.inp 0, .inp 1, .inp 2, .inp 3, .inp 4, .inp 5, .inp 6, .inp 7, .inp 8, .inp 9, .inp 10], .agg [.inp 11, .inp 12, .inp 13, .inp 14, .inp 15, .inp 16, .inp 17, .inp 18, .inp 19, .inp 20, .inp 21, .inp 22, .inp 23, .inp 24, .inp 25, .inp 26, .inp 27, .inp 28, .inp 29, .inp 30, .inp 31, .inp 32, .inp 33, .inp 34, .inp 35, .inp 36, .inp 37, .inp 38, .inp 39], .inp 40] 41 = rt_lockbarref15_At := by kernel_rfl

noncomputable def rt_lockbarref16_Rest : RT :=
.ret (.agg [.int .i64 (-1), .int .i64 0, .bool false])
theorem run_lockbarref16_Rest : runF E 95 [] 0 = rt_lockbarref16_Rest := by kernel_rfl

noncomputable def rt_lockbarref16_Right : RT :=
.seg [.chk [] (.isAgg 3) [qka2_27]] <|
.seg [.chk [] (.bin .lss) [.inp 0, .int .i64 (-1)]] <|
.seg [.chk [(qka2_61, false)] (.bin .gtr) [.inp 0, .int .i64 1]] <|
.seg [.chk [] .pick [qka2_61, .bool true, qka2_62]] <|
.seg [.chk [(qka2_63, false)] (.bin .lss) [.inp 1, .int .i64 0]] <|
.seg [.chk [] .pick [qka2_63, .bool true, qka2_64]] <|
.seg [.chk [(qka2_65, false)] (.bin .gtr) [.inp 1, .int .i64 1000]] <|
.seg [.chk [] .pick [qka2_65, .bool true, qka2_66]] <|
.seg [.bind 3 (qka2_65),
.bind 4 (.app .pick [qka2_65, .bool true, qka2_66])] <|
.cond (.inp 4)
 (.ret (.bool false))
 (.seg [.chk [] (.bin .geq) [.inp 0, .int .i64 0],
.call 5 [(qka2_67, false)] 95 [] false,
.chk [(qka2_67, false)] (.eqa [ some .i64, some .i64, none] false) [qka2_27, .inp 5],
.chk [] .pick [qka2_67, .bool true, qka2_68]] <|
.seg [.bind 6 (.app .pick [qka2_67, .bool true, qka2_68])] <|
.ret (.inp 6))
theorem run_lockbarref16_Right : runF E 62 [.agg [.inp 0, .inp 1, .inp 2]] 3 = rt_lockbarref16_Right := by kernel_rfl

noncomputable def rt_lockbarref17_clash : RT :=
.loop 0 2 [.int .i64 0] <|
.seg [.chk [] .len [.inp 0]] <|
.seg [.chk [] (.bin .lss) [.inp 2, .app .len [.inp 0]]] <|
.cond (qka2_20)
 (.loop 1 3 [.int .i64 0] <|
.seg [.chk [] .len [.inp 1]] <|
.seg [.chk [] (.bin .lss) [.inp 3, .app .len [.inp 1]]] <|
.cond (.app (.bin .lss) [.inp 3, .app .len [.inp 1]])
 (.seg [.chk [] (.eidx 3) [.inp 0, .inp 2],
.chk [] (.eoff 0) [qka2_21],
.chk [] (.eload 1 false) [qka2_69],
.chk [] (.eidx 3) [.inp 1, .inp 3],
.chk [] (.eoff 0) [qka2_70],
.chk [] (.eload 1 false) [qka2_71],
.chk [] (.bin .eql) [qka2_72, qka2_73],
.chk [(qka2_74, true)] (.eidx 3) [.inp 0, .inp 2],
.chk [(qka2_74, true)] (.eoff 1) [qka2_21],
.chk [(qka2_74, true)] (.eload 1 false) [qka2_75],
.chk [(qka2_74, true)] (.eidx 3) [.inp 1, .inp 3],
.chk [(qka2_74, true)] (.eoff 1) [qka2_70],
.chk [(qka2_74, true)] (.eload 1 false) [qka2_76],
.chk [(qka2_74, true)] (.bin .neq) [qka2_77, qka2_78],
.chk [] .pick [qka2_74, qka2_79, .bool false]] <|
.seg [.bind 4 (qka2_74),
.bind 5 (qka2_79),
.bind 6 (.app .pick [qka2_74, qka2_79, .bool false])] <|
.cond (.inp 6)
 (.ret (.bool true))
 (.seg [.chk [] (.bin .add) [.inp 3, .int .i64 1]] <|
.again 1 [.app (.bin .add) [.inp 3, .int .i64 1]]))
 (.seg [.chk [] (.bin .add) [.inp 2, .int .i64 1]] <|
.again 0 [qka2_26]))
 (.ret (.bool false))
theorem run_lockbarref17_clash : runF E 72 [.inp 0, .inp 1] 2 = rt_lockbarref17_clash := by kernel_rfl

noncomputable def rt_lockbarref17_Right : RT :=
.seg [.chk [] (.isAgg 23) [qka2_80]] <|
.seg [.chk [] .len [.inp 3]] <|
.seg [.chk [] (.bin .lss) [.inp 0, .int .i64 1]] <|
.seg [.chk [(qka2_81, false)] (.bin .gtr) [.inp 0, .int .i64 1073741824]] <|
.seg [.chk [] .pick [qka2_81, .bool true, qka2_82]] <|
.seg [.chk [(qka2_83, false)] (.bin .lss) [.app .len [.inp 3], .int .i64 1]] <|
.seg [.chk [] .pick [qka2_83, .bool true, qka2_84]] <|
.seg [.chk [(qka2_85, false)] (.bin .gtr) [.app .len [.inp 3], .int .i64 12]] <|
.seg [.chk [] .pick [qka2_85, .bool true, qka2_86]] <|
.seg [.chk [(qka2_87, false)] .len [.inp 4]] <|
.seg [.chk [(qka2_87, false)] (.bin .gtr) [.app .len [.inp 4], .int .i64 2]] <|
.seg [.chk [] .pick [qka2_87, .bool true, qka2_88]] <|
.seg [.chk [(qka2_89, false)] (.bin .lss) [.inp 6, .int .u8 1]] <|
.seg [.chk [] .pick [qka2_89, .bool true, qka2_90]] <|
.seg [.chk [(qka2_91, false)] (.bin .geq) [.inp 6, .int .u8 5]] <|
.seg [.chk [] .pick [qka2_91, .bool true, qka2_92]] <|
.seg [.chk [(qka2_93, false)] (.bin .lss) [.inp 7, .int .i64 0]] <|
.seg [.chk [] .pick [qka2_93, .bool true, qka2_94]] <|
.seg [.chk [(qka2_95, false)] (.bin .gtr) [.inp 7, .app .len [.inp 3]]] <|
.seg [.chk [] .pick [qka2_95, .bool true, qka2_96]] <|
.seg [.chk [(qka2_97, false)] (.bin .lss) [.inp 21, .int .i64 0]] <|
.seg [.chk [] .pick [qka2_97, .bool true, qka2_98]] <|
.seg [.chk [(qka2_99, false)] (.bin .gtr) [.inp 21, .int .i64 1073741824]] <|
.seg [.chk [] .pick [qka2_99, .bool true, qka2_100]] <|
.seg [.call 23 [(qka2_101, false)] 72 [.inp 5, .inp 5] false] <|
.seg [.chk [] .pick [qka2_101, .bool true, .inp 23]] <|
.seg [.bind 24 (qka2_85),
.bind 25 (qka2_87),
.bind 26 (qka2_89),
.bind 27 (qka2_91),
.bind 28 (qka2_93),
.bind 29 (qka2_95),
.bind 30 (qka2_97),
.bind 31 (qka2_99),
.bind 32 (qka2_101),
.bind 33 (.app .pick [qka2_101, .bool true, .inp 23])] <|
.cond (.inp 33)
 (.ret (.bool false))
 (.seg [.chk [] (.szs 3) [.inp 3],
.chk [] .app [.app .lst [], .inp 3],
.chk [] (.szs 3) [.inp 4],
.chk [] .app [qka2_102, .inp 4]] <|
.loop 0 34 [.int .i64 0] <|
.seg [.chk [] .len [qka2_103]] <|
.seg [.chk [] (.bin .lss) [.inp 34, qka2_104]] <|
.cond (.app (.bin .lss) [.inp 34, qka2_104])
 (.loop 1 35 [.int .i64 0] <|
.seg [.chk [] (.bin .lss) [.inp 35, .inp 34]] <|
.cond (.app (.bin .lss) [.inp 35, .inp 34])
 (.seg [.chk [] (.eidx 3) [qka2_103, .inp 35],
.chk [] (.inr 4294967296) [.inp 35],
.chk [] (.rowget 3 0 1 false) [qka2_103, .inp 35],
.chk [] (.eidx 3) [qka2_103, .inp 34],
.chk [] (.inr 4294967296) [.inp 34],
.chk [] (.rowget 3 0 1 false) [qka2_103, .inp 34],
.chk [] (.bin .eql) [qka2_105, qka2_106]] <|
.seg [.bind 36 (.app (.bin .eql) [qka2_105, qka2_106])] <|
.cond (.inp 36)
 (.ret (.bool false))
 (.seg [.chk [] (.bin .add) [.inp 35, .int .i64 1]] <|
.again 1 [qka2_107]))
 (.seg [.chk [] (.bin .add) [.inp 34, .int .i64 1]] <|
.again 0 [.app (.bin .add) [.inp 34, .int .i64 1]]))
 (.loop 0 35 [.app .len [.inp 3]] <|
.seg [.chk [] (.bin .lss) [.inp 35, .int .i64 12]] <|
.cond (.app (.bin .lss) [.inp 35, .int .i64 12])
 (.seg [.chk [] (.inr 12) [.inp 35]] <|
.seg [.chk [] (.aidx 12 1 8 1 false) [qka2_80, .inp 35]] <|
.seg [.bind 36 (.app (.aidx 12 1 8 1 false) [qka2_80, .inp 35])] <|
.cond (.inp 36)
 (.ret (.bool false))
 (.seg [.chk [] (.bin .add) [.inp 35, .int .i64 1]] <|
.again 0 [qka2_107]))
 (.loop 0 36 [.int .i64 0] <|
.seg [.chk [] .len [.inp 5]] <|
.seg [.chk [] (.bin .lss) [.inp 36, .app .len [.inp 5]]] <|
.cond (.app (.bin .lss) [.inp 36, .app .len [.inp 5]])
 (.seg [.chk [] (.eidx 3) [.inp 5, .inp 36]] <|
.seg [.chk [] (.eload 3 true) [qka2_108]] <|
.seg [.chk [] (.isAgg 3) [qka2_109]] <|
.seg [.chk [] (.bin .lss) [qka2_110, .int .i64 0]] <|
.seg [.chk [(qka2_111, false)] (.bin .gtr) [qka2_110, .app .len [.inp 3]]] <|
.seg [.chk [] .pick [qka2_111, .bool true, qka2_112]] <|
.seg [.chk [(qka2_113, false)] (.bin .lss) [qka2_114, .int .i64 0]] <|
.seg [.chk [] .pick [qka2_113, .bool true, qka2_115]] <|
.seg [.chk [(qka2_116, false)] (.bin .geq) [qka2_114, .int .i64 24]] <|
.seg [.chk [] .pick [qka2_116, .bool true, qka2_117]] <|
.seg [.chk [(qka2_118, false)] (.bin .lss) [qka2_119, .int .i64 0]] <|
.seg [.chk [] .pick [qka2_118, .bool true, qka2_120]] <|
.seg [.chk [(qka2_121, false)] (.bin .gtr) [qka2_119, .int .i64 1]] <|
.seg [.chk [] .pick [qka2_121, .bool true, qka2_122]] <|
.seg [.bind 37 (qka2_113),
.bind 38 (qka2_116),
.bind 39 (qka2_118),
.bind 40 (qka2_121),
.bind 41 (.app .pick [qka2_121, .bool true, qka2_122])] <|
.cond (.inp 41)
 (.ret (.bool false))
 (.seg [.chk [] (.bin .add) [.inp 36, .int .i64 1]] <|
.again 0 [.app (.bin .add) [.inp 36, .int .i64 1]]))
 (.ret (.bool true)))))
theorem run_lockbarref17_Right : runF E 61 [.agg [.inp 0, .inp 1, .inp 2, .inp 3, .inp 4, .inp 5, .inp 6, .inp 7, .inp 8, .inp 9, .inp 10, .inp 11, .inp 12, .inp 13, .inp 14, .inp 15, .inp 16, .inp 17, .inp 18, .inp 19, .inp 20, .inp 21, .inp 22]] 23 = rt_lockbarref17_Right := by kernel_rfl

noncomputable def rt_lockbarref17_Sections : RT :=
.seg [.chk [] (.isAgg 23) [qka2_80]] <|
.seg [.chk [] (.mm true) [.inp 7, .int .i64 0]] <|
.loop 0 23 [.nils, qka2_123] <|
.seg [.chk [] .len [.inp 3]] <|
.seg [.chk [] (.bin .lss) [.inp 24, .app .len [.inp 3]]] <|
.cond (.app (.bin .lss) [.inp 24, .app .len [.inp 3]])
 (.seg [.chk [] (.eidx 3) [.inp 3, .inp 24]] <|
.seg [.chk [] (.eoff 0) [qka2_124]] <|
.seg [.chk [] (.eload 1 false) [qka2_125]] <|
.seg [.chk [] .isOne [qka2_126],
.chk [] .isOne [qka2_126]] <|
.seg [.chk [] (.szs 1) [qka2_127],
.chk [] .app [.inp 23, qka2_127]] <|
.seg [.chk [] (.bin .add) [.inp 24, .int .i64 1]] <|
.again 0 [.app .app [.inp 23, qka2_127], qka2_128])
 (.loop 0 25 [.inp 23, .int .i64 0] <|
.seg [.chk [] .len [.inp 4]] <|
.seg [.chk [] (.bin .lss) [.inp 26, .app .len [.inp 4]]] <|
.seg [.chk [(qka2_129, true)] (.un .not) [.inp 20]] <|
.seg [.chk [] .pick [qka2_129, .app (.un .not) [.inp 20], .bool false]] <|
.cond (.app .pick [qka2_129, .app (.un .not) [.inp 20], .bool false])
 (.seg [.chk [] (.eidx 3) [.inp 4, .inp 26]] <|
.seg [.chk [] (.eoff 0) [qka2_130]] <|
.seg [.chk [] (.eload 1 false) [qka2_131]] <|
.seg [.chk [] .isOne [qka2_132],
.chk [] .isOne [qka2_132]] <|
.seg [.chk [] (.szs 1) [qka2_133],
.chk [] .app [.inp 25, qka2_133]] <|
.seg [.chk [] (.bin .add) [.inp 26, .int .i64 1]] <|
.again 0 [.app .app [.inp 25, qka2_133], .app (.bin .add) [.inp 26, .int .i64 1]])
 (.ret (.inp 25)))
theorem run_lockbarref17_Sections : runF E 71 [.agg [.inp 0, .inp 1, .inp 2, .inp 3, .inp 4, .inp 5, .inp 6, .inp 7, .inp 8, .inp 9, .inp 10, .inp 11, .inp 12, .inp 13, .inp 14, .inp 15, .inp 16, .inp 17, .inp 18, .inp 19, .inp 20, .inp 21, .inp 22]] 23 = rt_lockbarref17_Sections := by kernel_rfl

noncomputable def rt_lockbarref17_Has : RT :=
.seg [.chk [] (.isAgg 23) [qka2_80]] <|
.seg [.call 24 [] 71 [qka2_80] false] <|
.loop 0 25 [.int .i64 0] <|
.seg [.chk [] .len [.inp 24]] <|
.seg [.chk [] (.bin .lss) [.inp 25, .app .len [.inp 24]]] <|
.cond (qka2_134)
 (.seg [.chk [] (.eidx 1) [.inp 24, .inp 25]] <|
.seg [.chk [] (.eload 1 false) [qka2_135]] <|
.seg [.chk [] (.bin .eql) [qka2_136, .inp 23]] <|
.cond (.app (.bin .eql) [qka2_136, .inp 23])
 (.ret (.bool true))
 (.seg [.chk [] (.bin .add) [.inp 25, .int .i64 1]] <|
.again 0 [qka2_137]))
 (.ret (.bool false))
theorem run_lockbarref17_Has : runF E 36 [.agg [.inp 0, .inp 1, .inp 2, .inp 3, .inp 4, .inp 5, .inp 6, .inp 7, .inp 8, .inp 9, .inp 10, .inp 11, .inp 12, .inp 13, .inp 14, .inp 15, .inp 16, .inp 17, .inp 18, .inp 19, .inp 20, .inp 21, .inp 22], .inp 23] 24 = rt_lockbarref17_Has := by kernel_rfl

noncomputable def rt_lockbarref17_Needs : RT :=
.seg [.chk [] (.isAgg 23) [qka2_80]] <|
.loop 0 23 [.nils, .int .i64 0] <|
.seg [.chk [] .len [.inp 5]] <|
.seg [.chk [] (.bin .lss) [.inp 24, .app .len [.inp 5]]] <|
.cond (.app (.bin .lss) [.inp 24, .app .len [.inp 5]])
 (.seg [.chk [] (.eidx 3) [.inp 5, .inp 24]] <|
.seg [.chk [] (.eload 3 true) [qka2_138]] <|
.seg [.chk [] (.isAgg 3) [qka2_139]] <|
.seg [.chk [] (.mm true) [.inp 7, .int .i64 0]] <|
.seg [.chk [] (.bin .geq) [qka2_140, qka2_123]] <|
.seg [.chk [(qka2_141, true)] .len [.inp 3]] <|
.seg [.chk [(qka2_141, true)] (.bin .eql) [qka2_140, .app .len [.inp 3]]] <|
.seg [.chk [(qka2_141, true)] .pick [qka2_142, .inp 20, .bool false]] <|
.seg [.chk [(qka2_141, true)] (.un .not) [qka2_143]] <|
.seg [.chk [] .pick [qka2_141, qka2_144, .bool false]] <|
.seg [.bind 25 (qka2_143),
.bind 26 (qka2_144),
.bind 27 (.app .pick [qka2_141, qka2_144, .bool false])] <|
.cond (.inp 27)
 (.seg [.chk [] (.isAgg 3) [qka2_145]] <|
.seg [.chk [] (.szs 3) [qka2_146],
.chk [] .app [.inp 23, qka2_146]] <|
.seg [.bind 28 (qka2_146),
.bind 29 (.app .app [.inp 23, qka2_146])] <|
.seg [.chk [] (.bin .add) [.inp 24, .int .i64 1]] <|
.again 0 [.inp 29, qka2_128])
 (.seg [.chk [] (.bin .add) [.inp 24, .int .i64 1]] <|
.again 0 [.inp 23, qka2_128]))
 (.ret (.inp 23))
theorem run_lockbarref17_Needs : runF E 73 [.agg [.inp 0, .inp 1, .inp 2, .inp 3, .inp 4, .inp 5, .inp 6, .inp 7, .inp 8, .inp 9, .inp 10, .inp 11, .inp 12, .inp 13, .inp 14, .inp 15, .inp 16, .inp 17, .inp 18, .inp 19, .inp 20, .inp 21, .inp 22]] 23 = rt_lockbarref17_Needs := by kernel_rfl

noncomputable def rt_lockbarref17_Wants : RT :=
.seg [.chk [] (.isAgg 23) [qka2_80]] <|
.seg [.call 24 [] 73 [qka2_80] false] <|
.loop 0 25 [.int .i64 0] <|
.seg [.chk [] .len [.inp 24]] <|
.seg [.chk [] (.bin .lss) [.inp 25, .app .len [.inp 24]]] <|
.cond (qka2_134)
 (.seg [.chk [] (.eidx 3) [.inp 24, .inp 25]] <|
.seg [.chk [] (.eoff 0) [qka2_147]] <|
.seg [.chk [] (.eload 1 false) [qka2_148]] <|
.seg [.chk [] (.bin .eql) [qka2_149, .inp 23]] <|
.cond (.app (.bin .eql) [qka2_149, .inp 23])
 (.seg [.chk [] (.eidx 3) [.inp 24, .inp 25]] <|
.seg [.chk [] (.eoff 1) [qka2_147]] <|
.seg [.chk [] (.eload 1 false) [qka2_150]] <|
.ret (.tup [.app (.eload 1 false) [qka2_150], .bool true]))
 (.seg [.chk [] (.bin .add) [.inp 25, .int .i64 1]] <|
.again 0 [qka2_137]))
 (.ret (qka2_151))
theorem run_lockbarref17_Wants : runF E 37 [.agg [.inp 0, .inp 1, .inp 2, .inp 3, .inp 4, .inp 5, .inp 6, .inp 7, .inp 8, .inp 9, .inp 10, .inp 11, .inp 12, .inp 13, .inp 14, .inp 15, .inp 16, .inp 17, .inp 18, .inp 19, .inp 20, .inp 21, .inp 22], .inp 23] 24 = rt_lockbarref17_Wants := by kernel_rfl

noncomputable def rt_lockbarref17_Apart : RT :=
.seg [.chk [] (.isAgg 23) [qka2_80]] <|
.seg [.chk [] (.isAgg 23) [qka2_152]] <|
.seg [.call 46 [] 71 [qka2_80] false] <|
.loop 0 47 [.int .i64 0] <|
.seg [.chk [] .len [.inp 46]] <|
.seg [.chk [] (.bin .lss) [.inp 47, .app .len [.inp 46]]] <|
.cond (.app (.bin .lss) [.inp 47, .app .len [.inp 46]])
 (.seg [.chk [] (.eidx 1) [.inp 46, .inp 47],
.chk [] (.eload 1 false) [qka2_153],
.call 48 [] 36 [qka2_152, .app (.eload 1 false) [qka2_153]] false] <|
.cond (.inp 48)
 (.ret (.bool false))
 (.seg [.chk [] (.bin .add) [.inp 47, .int .i64 1]] <|
.again 0 [.app (.bin .add) [.inp 47, .int .i64 1]]))
 (.seg [.call 48 [] 73 [qka2_80] false,
.call 49 [] 73 [qka2_152] false,
.call 50 [] 72 [.inp 48, .inp 49] false,
.chk [] (.un .not) [.inp 50]] <|
.ret (.app (.un .not) [.inp 50]))
theorem run_lockbarref17_Apart : runF E 33 [.agg [.inp 0, .inp 1, .inp 2, .inp 3, .inp 4, .inp 5, .inp 6, .inp 7, .inp 8, .inp 9, .inp 10, .inp 11, .inp 12, .inp 13, .inp 14, .inp 15, .inp 16, .inp 17, .inp 18, .inp 19, .inp 20, .inp 21, .inp 22], .agg [.inp 23, .inp 24, .inp 25, .inp 26, .inp 27, .inp 28, .inp 29, .inp 30, .inp 31, .inp 32, .inp 33, .inp 34, .inp 35, .inp 36, .inp 37, .inp 38, .inp 39, .inp 40, .inp 41, .inp 42, .inp 43, .inp 44, .inp 45]] 46 = rt_lockbarref17_Apart := by kernel_rfl

noncomputable def rt_lockbarref18_Right : RT :=
.seg [.chk [] (.isAgg 74) [qka2_171]] <|
.seg [.chk [] .len [.inp 1]] <|
.seg [.chk [] (.bin .gtr) [.app .len [.inp 1], .int .i64 6]] <|
.seg [.chk [(qka2_178, false)] (.bin .lss) [.inp 0, .int .i64 1]] <|
.seg [.chk [] .pick [qka2_178, .bool true, qka2_81]] <|
.seg [.chk [(qka2_179, false)] (.bin .gtr) [.inp 0, .int .i64 1073741824]] <|
.seg [.chk [] .pick [qka2_179, .bool true, qka2_82]] <|
.seg [.bind 74 (.app .pick [qka2_179, .bool true, qka2_82])] <|
.cond (.inp 74)
 (.ret (.bool false))
 (.loop 0 75 [.int .i64 0] <|
.seg [.chk [] .len [.inp 1]] <|
.seg [.chk [] (.bin .lss) [.inp 75, .app .len [.inp 1]]] <|
.cond (qka2_180)
 (.seg [.chk [] (.eidx 23) [.inp 1, .inp 75]] <|
.seg [.chk [] (.eload 23 true) [qka2_181]] <|
.seg [.chk [] (.isAgg 23) [qka2_182]] <|
.seg [.call 76 [] 61 [qka2_184] false,
.chk [] (.un .not) [.inp 76],
.chk [(.app (.un .not) [.inp 76], false)] (.bin .geq) [qka2_183, .inp 0],
.chk [] .pick [.app (.un .not) [.inp 76], .bool true, qka2_185],
.chk [(qka2_186, false)] (.bin .gtr) [.inp 75, .int .i64 0],
.chk [(qka2_187, true), (qka2_186, false)] (.bin .sub) [.inp 75, .int .i64 1],
.chk [(qka2_187, true), (qka2_186, false)] (.eidx 23) [.inp 1, qka2_188],
.chk [(qka2_187, true), (qka2_186, false)] (.eoff 0) [qka2_189],
.chk [(qka2_187, true), (qka2_186, false)] (.eload 1 false) [qka2_190],
.chk [(qka2_187, true), (qka2_186, false)] (.bin .leq) [qka2_183, qka2_191],
.chk [(qka2_186, false)] .pick [qka2_187, qka2_192, .bool false],
.chk [] .pick [qka2_186, .bool true, qka2_193]] <|
.seg [.bind 77 (qka2_186),
.bind 78 (qka2_192),
.bind 79 (qka2_193),
.bind 80 (.app .pick [qka2_186, .bool true, qka2_193])] <|
.cond (.inp 80)
 (.ret (.bool false))
 (.loop 1 81 [.int .i64 0] <|
.seg [.chk [] (.bin .lss) [.inp 81, .inp 75]] <|
.cond (.app (.bin .lss) [.inp 81, .inp 75])
 (.seg [.chk [] (.eidx 23) [.inp 1, .inp 81],
.chk [] (.eload 23 true) [qka2_194],
.call 82 [] 33 [qka2_184, .app (.eload 23 true) [qka2_194]] false,
.chk [] (.un .not) [.inp 82]] <|
.cond (.inp 82)
 (.seg [.chk [] (.bin .add) [.inp 81, .int .i64 1]] <|
.again 1 [.app (.bin .add) [.inp 81, .int .i64 1]])
 (.ret (.bool false)))
 (.seg [.chk [] (.bin .add) [.inp 75, .int .i64 1]] <|
.again 0 [qka2_195])))
 (.loop 0 76 [.int .i64 0] <|
.seg [.chk [] (.bin .lss) [.inp 76, .int .i64 24]] <|
.cond (.app (.bin .lss) [.inp 76, .int .i64 24])
 (.seg [.chk [] (.inr 24) [.inp 76]] <|
.seg [.chk [] (.aidx 24 3 2 3 true) [qka2_171, .inp 76]] <|
.seg [.call 77 [] 62 [qka2_196] false] <|
.seg [.chk [] (.un .not) [.inp 77]] <|
.seg [.bind 78 (qka2_196)] <|
.cond (.inp 77)
 (.seg [.chk [] (.bin .add) [.inp 76, .int .i64 1]] <|
.again 0 [.app (.bin .add) [.inp 76, .int .i64 1]])
 (.ret (.bool false)))
 (.ret (.bool true))))
theorem run_lockbarref18_Right : runF E 25 [.agg [.inp 0, .inp 1, .inp 2, .inp 3, .inp 4, .inp 5, .inp 6, .inp 7, .inp 8, .inp 9, .inp 10, .inp 11, .inp 12, .inp 13, .inp 14, .inp 15, .inp 16, .inp 17, .inp 18, .inp 19, .inp 20, .inp 21, .inp 22, .inp 23, .inp 24, .inp 25, .inp 26, .inp 27, .inp 28, .inp 29, .inp 30, .inp 31, .inp 32, .inp 33, .inp 34, .inp 35, .inp 36, .inp 37, .inp 38, .inp 39, .inp 40, .inp 41, .inp 42, .inp 43, .inp 44, .inp 45, .inp 46, .inp 47, .inp 48, .inp 49, .inp 50, .inp 51, .inp 52, .inp 53, .inp 54, .inp 55, .inp 56, .inp 57, .inp 58, .inp 59, .inp 60, .inp 61, .inp 62, .inp 63, .inp 64, .inp 65, .inp 66, .inp 67, .inp 68, .inp 69, .inp 70, .inp 71, .inp 72, .inp 73]] 74 = rt_lockbarref18_Right := by kernel_rfl

end Go.Lb.LK
