/- What functions come to, printed by a program, checked by the kernel. -/
import Derived.Test.YtkcpgfjlmicnnaaGreatDoorCh1
set_option linter.unusedSimpArgs false
set_option linter.unusedVariables false
namespace Go.Lb.LK
open Go Go.Lb Go.Proofs
@[simp] noncomputable def qka2_0 : SE := .agg [.inp 0, .inp 1, .inp 2, .inp 3, .inp 4, .inp 5, .inp 6, .inp 7, .inp 8, .inp 9, .inp 10, .inp 11, .inp 12, .inp 13, .inp 14, .inp 15, .inp 16, .inp 17, .inp 18, .inp 19, .inp 20, .inp 21, .inp 22]
@[simp] noncomputable def qka2_1 : SE := .app (.bin .lss) [.inp 0, .int .i64 1]
@[simp] noncomputable def qka2_2 : SE := .app (.bin .gtr) [.inp 0, .int .i64 1073741824]
@[simp] noncomputable def qka2_3 : SE := .app .pick [qka2_1, .bool true, qka2_2]
@[simp] noncomputable def qka2_4 : SE := .app (.bin .lss) [.app .len [.inp 3], .int .i64 1]
@[simp] noncomputable def qka2_5 : SE := .app .pick [qka2_3, .bool true, qka2_4]
@[simp] noncomputable def qka2_6 : SE := .app (.bin .gtr) [.app .len [.inp 3], .int .i64 12]
@[simp] noncomputable def qka2_7 : SE := .app .pick [qka2_5, .bool true, qka2_6]
@[simp] noncomputable def qka2_8 : SE := .app (.bin .gtr) [.app .len [.inp 4], .int .i64 2]
@[simp] noncomputable def qka2_9 : SE := .app .pick [qka2_7, .bool true, qka2_8]
@[simp] noncomputable def qka2_10 : SE := .app (.bin .lss) [.inp 6, .int .u8 1]
@[simp] noncomputable def qka2_11 : SE := .app .pick [qka2_9, .bool true, qka2_10]
@[simp] noncomputable def qka2_12 : SE := .app (.bin .geq) [.inp 6, .int .u8 5]
@[simp] noncomputable def qka2_13 : SE := .app .pick [qka2_11, .bool true, qka2_12]
@[simp] noncomputable def qka2_14 : SE := .app (.bin .lss) [.inp 7, .int .i64 0]
@[simp] noncomputable def qka2_15 : SE := .app .pick [qka2_13, .bool true, qka2_14]
@[simp] noncomputable def qka2_16 : SE := .app (.bin .gtr) [.inp 7, .app .len [.inp 3]]
@[simp] noncomputable def qka2_17 : SE := .app .pick [qka2_15, .bool true, qka2_16]
@[simp] noncomputable def qka2_18 : SE := .app (.bin .lss) [.inp 21, .int .i64 0]
@[simp] noncomputable def qka2_19 : SE := .app .pick [qka2_17, .bool true, qka2_18]
@[simp] noncomputable def qka2_20 : SE := .app (.bin .gtr) [.inp 21, .int .i64 1073741824]
@[simp] noncomputable def qka2_21 : SE := .app .pick [qka2_19, .bool true, qka2_20]
@[simp] noncomputable def qka2_22 : SE := .app .app [.app .lst [], .inp 3]
@[simp] noncomputable def qka2_23 : SE := .app .app [qka2_22, .inp 4]
@[simp] noncomputable def qka2_24 : SE := .app .len [qka2_23]
@[simp] noncomputable def qka2_25 : SE := .app (.rowget 3 0 1 false) [qka2_23, .inp 35]
@[simp] noncomputable def qka2_26 : SE := .app (.rowget 3 0 1 false) [qka2_23, .inp 34]
@[simp] noncomputable def qka2_27 : SE := .app (.bin .add) [.inp 35, .int .i64 1]
@[simp] noncomputable def qka2_28 : SE := .app (.eidx 3) [.inp 5, .inp 36]
@[simp] noncomputable def qka2_29 : SE := .app (.eload 3 true) [qka2_28]
@[simp] noncomputable def qka2_30 : SE := .app (.part 2 1 false) [qka2_29]
@[simp] noncomputable def qka2_31 : SE := .app (.bin .lss) [qka2_30, .int .i64 0]
@[simp] noncomputable def qka2_32 : SE := .app (.bin .gtr) [qka2_30, .app .len [.inp 3]]
@[simp] noncomputable def qka2_33 : SE := .app .pick [qka2_31, .bool true, qka2_32]
@[simp] noncomputable def qka2_34 : SE := .app (.part 0 1 false) [qka2_29]
@[simp] noncomputable def qka2_35 : SE := .app (.bin .lss) [qka2_34, .int .i64 0]
@[simp] noncomputable def qka2_36 : SE := .app .pick [qka2_33, .bool true, qka2_35]
@[simp] noncomputable def qka2_37 : SE := .app (.bin .geq) [qka2_34, .int .i64 24]
@[simp] noncomputable def qka2_38 : SE := .app .pick [qka2_36, .bool true, qka2_37]
@[simp] noncomputable def qka2_39 : SE := .app (.part 1 1 false) [qka2_29]
@[simp] noncomputable def qka2_40 : SE := .app (.bin .lss) [qka2_39, .int .i64 0]
@[simp] noncomputable def qka2_41 : SE := .app .pick [qka2_38, .bool true, qka2_40]
@[simp] noncomputable def qka2_42 : SE := .app (.bin .gtr) [qka2_39, .int .i64 1]
@[simp] noncomputable def qka2_43 : SE := .app (.mm true) [.inp 7, .int .i64 0]
@[simp] noncomputable def qka2_44 : SE := .app (.eidx 3) [.inp 3, .inp 24]
@[simp] noncomputable def qka2_45 : SE := .app (.eoff 0) [qka2_44]
@[simp] noncomputable def qka2_46 : SE := .app (.eload 1 false) [qka2_45]
@[simp] noncomputable def qka2_47 : SE := .app .lst [qka2_46]
@[simp] noncomputable def qka2_48 : SE := .app (.bin .add) [.inp 24, .int .i64 1]
@[simp] noncomputable def qka2_49 : SE := .app (.bin .lss) [.inp 26, .app .len [.inp 4]]
@[simp] noncomputable def qka2_50 : SE := .app (.eidx 3) [.inp 4, .inp 26]
@[simp] noncomputable def qka2_51 : SE := .app (.eoff 0) [qka2_50]
@[simp] noncomputable def qka2_52 : SE := .app (.eload 1 false) [qka2_51]
@[simp] noncomputable def qka2_53 : SE := .app .lst [qka2_52]
@[simp] noncomputable def qka2_54 : SE := .app (.eidx 1) [.inp 24, .inp 25]
@[simp] noncomputable def qka2_55 : SE := .app (.eload 1 false) [qka2_54]
@[simp] noncomputable def qka2_56 : SE := .app (.eidx 3) [.inp 5, .inp 24]
@[simp] noncomputable def qka2_57 : SE := .app (.eload 3 true) [qka2_56]
@[simp] noncomputable def qka2_58 : SE := .app (.part 2 1 false) [qka2_57]
@[simp] noncomputable def qka2_59 : SE := .app (.bin .geq) [qka2_58, qka2_43]
@[simp] noncomputable def qka2_60 : SE := .app (.bin .eql) [qka2_58, .app .len [.inp 3]]
@[simp] noncomputable def qka2_61 : SE := .app .pick [qka2_60, .inp 20, .bool false]
@[simp] noncomputable def qka2_62 : SE := .app (.un .not) [qka2_61]
@[simp] noncomputable def qka2_63 : SE := .agg [.app (.part 0 1 false) [qka2_57], .app (.part 1 1 false) [qka2_57], qka2_58]
@[simp] noncomputable def qka2_64 : SE := .app .lst [qka2_63]
@[simp] noncomputable def qka2_65 : SE := .agg [.inp 1, .inp 2, .inp 3]
@[simp] noncomputable def qka2_66 : SE := .app (.part 0 1 false) [.inp 23]
@[simp] noncomputable def qka2_67 : SE := .app (.part 1 1 false) [.inp 23]
@[simp] noncomputable def qka2_68 : SE := .app (.part 2 1 false) [.inp 23]
@[simp] noncomputable def qka2_69 : SE := .app (.eidx 3) [.inp 0, .inp 2]
@[simp] noncomputable def qka2_70 : SE := .app (.eidx 3) [.inp 1, .inp 2]
@[simp] noncomputable def qka2_71 : SE := .app (.eload 3 true) [qka2_69]
@[simp] noncomputable def qka2_72 : SE := .app (.eload 3 true) [qka2_70]
@[simp] noncomputable def qka2_73 : SE := .app (.bin .eql) [.inp 0, .inp 23]
@[simp] noncomputable def qka2_74 : SE := .app .pick [qka2_73, .inp 46, .bool false]
@[simp] noncomputable def qka2_75 : SE := .app .pick [qka2_74, .inp 47, .bool false]
@[simp] noncomputable def qka2_76 : SE := .app .pick [qka2_75, .inp 48, .bool false]
@[simp] noncomputable def qka2_77 : SE := .app (.bin .eql) [.inp 6, .inp 29]
@[simp] noncomputable def qka2_78 : SE := .app .pick [qka2_76, qka2_77, .bool false]
@[simp] noncomputable def qka2_79 : SE := .app (.bin .eql) [.inp 7, .inp 30]
@[simp] noncomputable def qka2_80 : SE := .app .pick [qka2_78, qka2_79, .bool false]
@[simp] noncomputable def qka2_81 : SE := .agg [.inp 8, .inp 9, .inp 10, .inp 11, .inp 12, .inp 13, .inp 14, .inp 15, .inp 16, .inp 17, .inp 18, .inp 19]
@[simp] noncomputable def qka2_82 : SE := .agg [.inp 31, .inp 32, .inp 33, .inp 34, .inp 35, .inp 36, .inp 37, .inp 38, .inp 39, .inp 40, .inp 41, .inp 42]
@[simp] noncomputable def qka2_83 : SE := .app (.eqa [ none, none, none, none, none, none, none, none, none, none, none, none] false) [qka2_81, qka2_82]
@[simp] noncomputable def qka2_84 : SE := .app .pick [qka2_80, qka2_83, .bool false]
@[simp] noncomputable def qka2_85 : SE := .app (.eqb false) [.inp 20, .inp 43]
@[simp] noncomputable def qka2_86 : SE := .app .pick [qka2_84, qka2_85, .bool false]
@[simp] noncomputable def qka2_87 : SE := .app (.bin .eql) [.inp 21, .inp 44]
@[simp] noncomputable def qka2_88 : SE := .app .pick [qka2_86, qka2_87, .bool false]
@[simp] noncomputable def qka2_89 : SE := .app (.eqb false) [.inp 22, .inp 45]
@[simp] noncomputable def qka2_90 : SE := .agg [.inp 0, .inp 1, .inp 2, .inp 3, .inp 4, .inp 5, .inp 6, .inp 7, .inp 8, .inp 9, .inp 10]
@[simp] noncomputable def qka2_91 : SE := .agg [.inp 11, .inp 12, .inp 13, .inp 14, .inp 15, .inp 16, .inp 17, .inp 18, .inp 19, .inp 20, .inp 21, .inp 22, .inp 23, .inp 24, .inp 25, .inp 26, .inp 27, .inp 28, .inp 29, .inp 30, .inp 31, .inp 32, .inp 33, .inp 34, .inp 35, .inp 36, .inp 37, .inp 38, .inp 39]
@[simp] noncomputable def qka2_92 : SE := .agg [.inp 40, .inp 41, .inp 42, .inp 43, .inp 44, .inp 45, .inp 46, .inp 47, .inp 48, .inp 49, .inp 50, .inp 51, .inp 52, .inp 53, .inp 54, .inp 55, .inp 56, .inp 57, .inp 58, .inp 59, .inp 60, .inp 61, .inp 62]
@[simp] noncomputable def qka2_93 : SE := .app (.part 0 1 false) [.inp 63]
@[simp] noncomputable def qka2_94 : SE := .app (.part 1 1 false) [.inp 63]
@[simp] noncomputable def qka2_95 : SE := .app (.part 2 1 false) [.inp 63]
@[simp] noncomputable def qka2_96 : SE := .app (.part 3 1 false) [.inp 63]
@[simp] noncomputable def qka2_97 : SE := .app (.part 4 1 false) [.inp 63]
@[simp] noncomputable def qka2_98 : SE := .app (.part 5 1 false) [.inp 63]
@[simp] noncomputable def qka2_99 : SE := .app (.part 6 1 false) [.inp 63]
@[simp] noncomputable def qka2_100 : SE := .app (.part 7 1 false) [.inp 63]
@[simp] noncomputable def qka2_101 : SE := .app (.part 8 1 false) [.inp 63]
@[simp] noncomputable def qka2_102 : SE := .app (.part 9 1 false) [.inp 63]
@[simp] noncomputable def qka2_103 : SE := .app (.part 10 1 false) [.inp 63]
@[simp] noncomputable def qka2_104 : SE := .app (.part 11 1 false) [.inp 63]
@[simp] noncomputable def qka2_105 : SE := .app (.part 12 1 false) [.inp 63]
@[simp] noncomputable def qka2_106 : SE := .app (.part 13 1 false) [.inp 63]
@[simp] noncomputable def qka2_107 : SE := .app (.part 14 1 false) [.inp 63]
@[simp] noncomputable def qka2_108 : SE := .app (.part 15 1 false) [.inp 63]
@[simp] noncomputable def qka2_109 : SE := .app (.part 16 1 false) [.inp 63]
@[simp] noncomputable def qka2_110 : SE := .app (.part 17 1 false) [.inp 63]
@[simp] noncomputable def qka2_111 : SE := .app (.part 18 1 false) [.inp 63]
@[simp] noncomputable def qka2_112 : SE := .app (.part 19 1 false) [.inp 63]
@[simp] noncomputable def qka2_113 : SE := .app (.part 20 1 false) [.inp 63]
@[simp] noncomputable def qka2_114 : SE := .app (.part 21 1 false) [.inp 63]
@[simp] noncomputable def qka2_115 : SE := .app (.part 22 1 false) [.inp 63]
@[simp] noncomputable def qka2_116 : SE := .agg [qka2_93, qka2_94, qka2_95, qka2_96, qka2_97, qka2_98, qka2_99, qka2_100, qka2_101, qka2_102, qka2_103, qka2_104, qka2_105, qka2_106, qka2_107, qka2_108, qka2_109, qka2_110, qka2_111, qka2_112, qka2_113, qka2_114, qka2_115]
@[simp] noncomputable def qka2_117 : SE := .app .len [qka2_96]
@[simp] noncomputable def qka2_118 : SE := .app (.eidx 3) [qka2_96, .inp 66]
@[simp] noncomputable def qka2_119 : SE := .app (.eoff 0) [qka2_118]
@[simp] noncomputable def qka2_120 : SE := .app (.bin .eql) [.inp 66, .int .i64 0]
@[simp] noncomputable def qka2_121 : SE := .app (.bin .sub) [.inp 66, .int .i64 1]
@[simp] noncomputable def qka2_122 : SE := .agg [qka2_93, qka2_94, qka2_95, qka2_96, qka2_97, qka2_98, qka2_99, qka2_100, .inp 67, .inp 68, .inp 69, .inp 70, .inp 71, .inp 72, .inp 73, .inp 74, .inp 75, .inp 76, .inp 77, .inp 78, qka2_113, qka2_114, qka2_115]
@[simp] noncomputable def qka2_123 : SE := .app (.aidx 12 1 8 1 false) [qka2_122, qka2_121]
@[simp] noncomputable def qka2_124 : SE := .app .pick [qka2_120, .bool true, qka2_123]
@[simp] noncomputable def qka2_125 : SE := .app (.bin .add) [.inp 66, .int .i64 1]
@[simp] noncomputable def qka2_126 : SE := .app (.bin .lss) [.inp 79, qka2_117]
@[simp] noncomputable def qka2_127 : SE := .agg [qka2_93, qka2_94, qka2_95, qka2_96, qka2_97, qka2_98, qka2_99, .inp 79, .inp 67, .inp 68, .inp 69, .inp 70, .inp 71, .inp 72, .inp 73, .inp 74, .inp 75, .inp 76, .inp 77, .inp 78, qka2_113, qka2_114, qka2_115]
@[simp] noncomputable def qka2_128 : SE := .app (.aidx 12 1 8 1 false) [qka2_127, .inp 79]
@[simp] noncomputable def qka2_129 : SE := .app .pick [qka2_126, qka2_128, .bool false]
@[simp] noncomputable def qka2_130 : SE := .app (.eidx 3) [qka2_96, .inp 79]
@[simp] noncomputable def qka2_131 : SE := .app (.eoff 0) [qka2_130]
@[simp] noncomputable def qka2_132 : SE := .app .pick [qka2_129, .app (.un .not) [.inp 80], .bool false]
@[simp] noncomputable def qka2_133 : SE := .app (.bin .sub) [qka2_117, .int .i64 1]
@[simp] noncomputable def qka2_134 : SE := .app (.bin .eql) [.inp 79, qka2_133]
@[simp] noncomputable def qka2_135 : SE := .app (.bin .add) [.inp 79, .int .i64 1]
@[simp] noncomputable def qka2_136 : SE := .app (.aidx 12 1 8 1 false) [qka2_127, qka2_135]
@[simp] noncomputable def qka2_137 : SE := .app .pick [qka2_134, .bool true, qka2_136]
@[simp] noncomputable def qka2_138 : SE := .app (.aidx 12 1 8 1 false) [qka2_127, qka2_133]
@[simp] noncomputable def qka2_139 : SE := .app (.bin .eql) [.inp 79, qka2_117]
@[simp] noncomputable def qka2_140 : SE := .app .pick [qka2_113, .bool true, qka2_139]
@[simp] noncomputable def qka2_141 : SE := .agg [qka2_93, qka2_94, qka2_95, qka2_96, qka2_97, qka2_98, qka2_99, .inp 79, .inp 67, .inp 68, .inp 69, .inp 70, .inp 71, .inp 72, .inp 73, .inp 74, .inp 75, .inp 76, .inp 77, .inp 78, qka2_113, .inp 88, qka2_115]
@[simp] noncomputable def qka2_142 : SE := .app (.aidx 12 1 8 1 false) [qka2_141, qka2_133]
@[simp] noncomputable def qka2_143 : SE := .app (.bin .geq) [.inp 88, .inp 8]
@[simp] noncomputable def qka2_144 : SE := .app .pick [qka2_142, qka2_143, .bool false]
@[simp] noncomputable def qka2_145 : SE := .app .pick [qka2_140, .bool true, qka2_144]
@[simp] noncomputable def qka2_146 : SE := .agg [qka2_93, qka2_94, qka2_95, qka2_96, qka2_97, qka2_98, qka2_99, .inp 79, .inp 67, .inp 68, .inp 69, .inp 70, .inp 71, .inp 72, .inp 73, .inp 74, .inp 75, .inp 76, .inp 77, .inp 78, .inp 91, .inp 88, qka2_115]
@[simp] noncomputable def qka2_147 : SE := .app (.bin .geq) [qka2_114, .inp 8]
@[simp] noncomputable def qka2_148 : SE := .app .pick [qka2_138, qka2_147, .bool false]
@[simp] noncomputable def qka2_149 : SE := .app .pick [qka2_140, .bool true, qka2_148]
@[simp] noncomputable def qka2_150 : SE := .agg [qka2_93, qka2_94, qka2_95, qka2_96, qka2_97, qka2_98, qka2_99, .inp 79, .inp 67, .inp 68, .inp 69, .inp 70, .inp 71, .inp 72, .inp 73, .inp 74, .inp 75, .inp 76, .inp 77, .inp 78, .inp 90, qka2_114, qka2_115]
@[simp] noncomputable def qka2_151 : SE := .app (.mm true) [.inp 0, .int .i64 1]
@[simp] noncomputable def qka2_152 : SE := .app (.bin .lss) [.inp 63, .app .len [.inp 43]]
@[simp] noncomputable def qka2_153 : SE := .app (.eidx 3) [.inp 43, .inp 63]
@[simp] noncomputable def qka2_154 : SE := .app (.eload 3 true) [qka2_153]
@[simp] noncomputable def qka2_155 : SE := .app (.bin .geq) [.inp 63, .inp 47]
@[simp] noncomputable def qka2_156 : SE := .app (.part 0 1 false) [qka2_154]
@[simp] noncomputable def qka2_157 : SE := .app (.bin .add) [.inp 63, .int .i64 1]
@[simp] noncomputable def qka2_158 : SE := .app (.part 0 1 false) [.inp 41]
@[simp] noncomputable def qka2_159 : SE := .app (.bin .geq) [qka2_158, .int .i64 0]
@[simp] noncomputable def qka2_160 : SE := .ref [.inp 23, .inp 24, .inp 25, .inp 26, .inp 27, .inp 28, .inp 29, .inp 30, .inp 31, .inp 32, .inp 33] 0
@[simp] noncomputable def qka2_161 : SE := .ref [.inp 34, .inp 35, .inp 36, .inp 37, .inp 38, .inp 39, .inp 40, .inp 41, .inp 42, .inp 43, .inp 44, .inp 45, .inp 46, .inp 47, .inp 48, .inp 49, .inp 50, .inp 51, .inp 52, .inp 53, .inp 54, .inp 55, .inp 56, .inp 57, .inp 58, .inp 59, .inp 60, .inp 61, .inp 62] 0
@[simp] noncomputable def qka2_162 : SE := .app (.eload 11 true) [qka2_160]
@[simp] noncomputable def qka2_163 : SE := .app (.eload 29 true) [qka2_161]
noncomputable def rt_lockbarref17_Right : RT :=
.seg [.chk [] (.isAgg 23) [qka2_0]] <|
.seg [.chk [] .len [.inp 3]] <|
.seg [.chk [] (.bin .lss) [.inp 0, .int .i64 1]] <|
.seg [.chk [(qka2_1, false)] (.bin .gtr) [.inp 0, .int .i64 1073741824]] <|
.seg [.chk [] .pick [qka2_1, .bool true, qka2_2]] <|
.seg [.chk [(qka2_3, false)] (.bin .lss) [.app .len [.inp 3], .int .i64 1]] <|
.seg [.chk [] .pick [qka2_3, .bool true, qka2_4]] <|
.seg [.chk [(qka2_5, false)] (.bin .gtr) [.app .len [.inp 3], .int .i64 12]] <|
.seg [.chk [] .pick [qka2_5, .bool true, qka2_6]] <|
.seg [.chk [(qka2_7, false)] .len [.inp 4]] <|
.seg [.chk [(qka2_7, false)] (.bin .gtr) [.app .len [.inp 4], .int .i64 2]] <|
.seg [.chk [] .pick [qka2_7, .bool true, qka2_8]] <|
.seg [.chk [(qka2_9, false)] (.bin .lss) [.inp 6, .int .u8 1]] <|
.seg [.chk [] .pick [qka2_9, .bool true, qka2_10]] <|
.seg [.chk [(qka2_11, false)] (.bin .geq) [.inp 6, .int .u8 5]] <|
.seg [.chk [] .pick [qka2_11, .bool true, qka2_12]] <|
.seg [.chk [(qka2_13, false)] (.bin .lss) [.inp 7, .int .i64 0]] <|
.seg [.chk [] .pick [qka2_13, .bool true, qka2_14]] <|
.seg [.chk [(qka2_15, false)] (.bin .gtr) [.inp 7, .app .len [.inp 3]]] <|
.seg [.chk [] .pick [qka2_15, .bool true, qka2_16]] <|
.seg [.chk [(qka2_17, false)] (.bin .lss) [.inp 21, .int .i64 0]] <|
.seg [.chk [] .pick [qka2_17, .bool true, qka2_18]] <|
.seg [.chk [(qka2_19, false)] (.bin .gtr) [.inp 21, .int .i64 1073741824]] <|
.seg [.chk [] .pick [qka2_19, .bool true, qka2_20]] <|
.seg [.call 23 [(qka2_21, false)] 75 [.inp 5, .inp 5] false] <|
.seg [.chk [] .pick [qka2_21, .bool true, .inp 23]] <|
.seg [.bind 24 (qka2_5),
.bind 25 (qka2_7),
.bind 26 (qka2_9),
.bind 27 (qka2_11),
.bind 28 (qka2_13),
.bind 29 (qka2_15),
.bind 30 (qka2_17),
.bind 31 (qka2_19),
.bind 32 (qka2_21),
.bind 33 (.app .pick [qka2_21, .bool true, .inp 23])] <|
.cond (.inp 33)
 (.ret (.bool false))
 (.seg [.chk [] (.szs 3) [.inp 3],
.chk [] .app [.app .lst [], .inp 3],
.chk [] (.szs 3) [.inp 4],
.chk [] .app [qka2_22, .inp 4]] <|
.loop 0 34 [.int .i64 0] <|
.seg [.chk [] .len [qka2_23]] <|
.seg [.chk [] (.bin .lss) [.inp 34, qka2_24]] <|
.cond (.app (.bin .lss) [.inp 34, qka2_24])
 (.loop 1 35 [.int .i64 0] <|
.seg [.chk [] (.bin .lss) [.inp 35, .inp 34]] <|
.cond (.app (.bin .lss) [.inp 35, .inp 34])
 (.seg [.chk [] (.eidx 3) [qka2_23, .inp 35],
.chk [] (.inr 4294967296) [.inp 35],
.chk [] (.rowget 3 0 1 false) [qka2_23, .inp 35],
.chk [] (.eidx 3) [qka2_23, .inp 34],
.chk [] (.inr 4294967296) [.inp 34],
.chk [] (.rowget 3 0 1 false) [qka2_23, .inp 34],
.chk [] (.bin .eql) [qka2_25, qka2_26]] <|
.seg [.bind 36 (.app (.bin .eql) [qka2_25, qka2_26])] <|
.cond (.inp 36)
 (.ret (.bool false))
 (.seg [.chk [] (.bin .add) [.inp 35, .int .i64 1]] <|
.again 1 [qka2_27]))
 (.seg [.chk [] (.bin .add) [.inp 34, .int .i64 1]] <|
.again 0 [.app (.bin .add) [.inp 34, .int .i64 1]]))
 (.loop 0 35 [.app .len [.inp 3]] <|
.seg [.chk [] (.bin .lss) [.inp 35, .int .i64 12]] <|
.cond (.app (.bin .lss) [.inp 35, .int .i64 12])
 (.seg [.chk [] (.inr 12) [.inp 35]] <|
.seg [.chk [] (.aidx 12 1 8 1 false) [qka2_0, .inp 35]] <|
.seg [.bind 36 (.app (.aidx 12 1 8 1 false) [qka2_0, .inp 35])] <|
.cond (.inp 36)
 (.ret (.bool false))
 (.seg [.chk [] (.bin .add) [.inp 35, .int .i64 1]] <|
.again 0 [qka2_27]))
 (.loop 0 36 [.int .i64 0] <|
.seg [.chk [] .len [.inp 5]] <|
.seg [.chk [] (.bin .lss) [.inp 36, .app .len [.inp 5]]] <|
.cond (.app (.bin .lss) [.inp 36, .app .len [.inp 5]])
 (.seg [.chk [] (.eidx 3) [.inp 5, .inp 36]] <|
.seg [.chk [] (.eload 3 true) [qka2_28]] <|
.seg [.chk [] (.isAgg 3) [qka2_29]] <|
.seg [.chk [] (.bin .lss) [qka2_30, .int .i64 0]] <|
.seg [.chk [(qka2_31, false)] (.bin .gtr) [qka2_30, .app .len [.inp 3]]] <|
.seg [.chk [] .pick [qka2_31, .bool true, qka2_32]] <|
.seg [.chk [(qka2_33, false)] (.bin .lss) [qka2_34, .int .i64 0]] <|
.seg [.chk [] .pick [qka2_33, .bool true, qka2_35]] <|
.seg [.chk [(qka2_36, false)] (.bin .geq) [qka2_34, .int .i64 24]] <|
.seg [.chk [] .pick [qka2_36, .bool true, qka2_37]] <|
.seg [.chk [(qka2_38, false)] (.bin .lss) [qka2_39, .int .i64 0]] <|
.seg [.chk [] .pick [qka2_38, .bool true, qka2_40]] <|
.seg [.chk [(qka2_41, false)] (.bin .gtr) [qka2_39, .int .i64 1]] <|
.seg [.chk [] .pick [qka2_41, .bool true, qka2_42]] <|
.seg [.bind 37 (qka2_33),
.bind 38 (qka2_36),
.bind 39 (qka2_38),
.bind 40 (qka2_41),
.bind 41 (.app .pick [qka2_41, .bool true, qka2_42])] <|
.cond (.inp 41)
 (.ret (.bool false))
 (.seg [.chk [] (.bin .add) [.inp 36, .int .i64 1]] <|
.again 0 [.app (.bin .add) [.inp 36, .int .i64 1]]))
 (.ret (.bool true)))))
theorem run_lockbarref17_Right : runF E 48 [.agg [.inp 0, .inp 1, .inp 2, .inp 3, .inp 4, .inp 5, .inp 6, .inp 7, .inp 8, .inp 9, .inp 10, .inp 11, .inp 12, .inp 13, .inp 14, .inp 15, .inp 16, .inp 17, .inp 18, .inp 19, .inp 20, .inp 21, .inp 22]] 23 = rt_lockbarref17_Right := by kernel_rfl

noncomputable def rt_lockbarref17_Sections : RT :=
.seg [.chk [] (.isAgg 23) [qka2_0]] <|
.seg [.chk [] (.mm true) [.inp 7, .int .i64 0]] <|
.loop 0 23 [.nils, qka2_43] <|
.seg [.chk [] .len [.inp 3]] <|
.seg [.chk [] (.bin .lss) [.inp 24, .app .len [.inp 3]]] <|
.cond (.app (.bin .lss) [.inp 24, .app .len [.inp 3]])
 (.seg [.chk [] (.eidx 3) [.inp 3, .inp 24]] <|
.seg [.chk [] (.eoff 0) [qka2_44]] <|
.seg [.chk [] (.eload 1 false) [qka2_45]] <|
.seg [.chk [] .isOne [qka2_46],
.chk [] .isOne [qka2_46]] <|
.seg [.chk [] (.szs 1) [qka2_47],
.chk [] .app [.inp 23, qka2_47]] <|
.seg [.chk [] (.bin .add) [.inp 24, .int .i64 1]] <|
.again 0 [.app .app [.inp 23, qka2_47], qka2_48])
 (.loop 0 25 [.inp 23, .int .i64 0] <|
.seg [.chk [] .len [.inp 4]] <|
.seg [.chk [] (.bin .lss) [.inp 26, .app .len [.inp 4]]] <|
.seg [.chk [(qka2_49, true)] (.un .not) [.inp 20]] <|
.seg [.chk [] .pick [qka2_49, .app (.un .not) [.inp 20], .bool false]] <|
.cond (.app .pick [qka2_49, .app (.un .not) [.inp 20], .bool false])
 (.seg [.chk [] (.eidx 3) [.inp 4, .inp 26]] <|
.seg [.chk [] (.eoff 0) [qka2_50]] <|
.seg [.chk [] (.eload 1 false) [qka2_51]] <|
.seg [.chk [] .isOne [qka2_52],
.chk [] .isOne [qka2_52]] <|
.seg [.chk [] (.szs 1) [qka2_53],
.chk [] .app [.inp 25, qka2_53]] <|
.seg [.chk [] (.bin .add) [.inp 26, .int .i64 1]] <|
.again 0 [.app .app [.inp 25, qka2_53], .app (.bin .add) [.inp 26, .int .i64 1]])
 (.ret (.inp 25)))
theorem run_lockbarref17_Sections : runF E 76 [.agg [.inp 0, .inp 1, .inp 2, .inp 3, .inp 4, .inp 5, .inp 6, .inp 7, .inp 8, .inp 9, .inp 10, .inp 11, .inp 12, .inp 13, .inp 14, .inp 15, .inp 16, .inp 17, .inp 18, .inp 19, .inp 20, .inp 21, .inp 22]] 23 = rt_lockbarref17_Sections := by kernel_rfl

noncomputable def rt_lockbarref17_Has : RT :=
.seg [.chk [] (.isAgg 23) [qka2_0]] <|
.seg [.call 24 [] 76 [qka2_0] false] <|
.loop 0 25 [.int .i64 0] <|
.seg [.chk [] .len [.inp 24]] <|
.seg [.chk [] (.bin .lss) [.inp 25, .app .len [.inp 24]]] <|
.cond (.app (.bin .lss) [.inp 25, .app .len [.inp 24]])
 (.seg [.chk [] (.eidx 1) [.inp 24, .inp 25]] <|
.seg [.chk [] (.eload 1 false) [qka2_54]] <|
.seg [.chk [] (.bin .eql) [qka2_55, .inp 23]] <|
.cond (.app (.bin .eql) [qka2_55, .inp 23])
 (.ret (.bool true))
 (.seg [.chk [] (.bin .add) [.inp 25, .int .i64 1]] <|
.again 0 [.app (.bin .add) [.inp 25, .int .i64 1]]))
 (.ret (.bool false))
theorem run_lockbarref17_Has : runF E 77 [.agg [.inp 0, .inp 1, .inp 2, .inp 3, .inp 4, .inp 5, .inp 6, .inp 7, .inp 8, .inp 9, .inp 10, .inp 11, .inp 12, .inp 13, .inp 14, .inp 15, .inp 16, .inp 17, .inp 18, .inp 19, .inp 20, .inp 21, .inp 22], .inp 23] 24 = rt_lockbarref17_Has := by kernel_rfl

noncomputable def rt_lockbarref17_Needs : RT :=
.seg [.chk [] (.isAgg 23) [qka2_0]] <|
.loop 0 23 [.nils, .int .i64 0] <|
.seg [.chk [] .len [.inp 5]] <|
.seg [.chk [] (.bin .lss) [.inp 24, .app .len [.inp 5]]] <|
.cond (.app (.bin .lss) [.inp 24, .app .len [.inp 5]])
 (.seg [.chk [] (.eidx 3) [.inp 5, .inp 24]] <|
.seg [.chk [] (.eload 3 true) [qka2_56]] <|
.seg [.chk [] (.isAgg 3) [qka2_57]] <|
.seg [.chk [] (.mm true) [.inp 7, .int .i64 0]] <|
.seg [.chk [] (.bin .geq) [qka2_58, qka2_43]] <|
.seg [.chk [(qka2_59, true)] .len [.inp 3]] <|
.seg [.chk [(qka2_59, true)] (.bin .eql) [qka2_58, .app .len [.inp 3]]] <|
.seg [.chk [(qka2_59, true)] .pick [qka2_60, .inp 20, .bool false]] <|
.seg [.chk [(qka2_59, true)] (.un .not) [qka2_61]] <|
.seg [.chk [] .pick [qka2_59, qka2_62, .bool false]] <|
.seg [.bind 25 (qka2_61),
.bind 26 (qka2_62),
.bind 27 (.app .pick [qka2_59, qka2_62, .bool false])] <|
.cond (.inp 27)
 (.seg [.chk [] (.isAgg 3) [qka2_63]] <|
.seg [.chk [] (.szs 3) [qka2_64],
.chk [] .app [.inp 23, qka2_64]] <|
.seg [.bind 28 (qka2_64),
.bind 29 (.app .app [.inp 23, qka2_64])] <|
.seg [.chk [] (.bin .add) [.inp 24, .int .i64 1]] <|
.again 0 [.inp 29, qka2_48])
 (.seg [.chk [] (.bin .add) [.inp 24, .int .i64 1]] <|
.again 0 [.inp 23, qka2_48]))
 (.ret (.inp 23))
theorem run_lockbarref17_Needs : runF E 78 [.agg [.inp 0, .inp 1, .inp 2, .inp 3, .inp 4, .inp 5, .inp 6, .inp 7, .inp 8, .inp 9, .inp 10, .inp 11, .inp 12, .inp 13, .inp 14, .inp 15, .inp 16, .inp 17, .inp 18, .inp 19, .inp 20, .inp 21, .inp 22]] 23 = rt_lockbarref17_Needs := by kernel_rfl

noncomputable def rt_lockbarref17_Own : RT :=
.seg [.chk [] (.isAgg 23) [qka2_0]] <|
.seg [.call 23 [] 69 [qka2_65] false] <|
.seg [.chk [] (.isAgg 3) [.inp 23]] <|
.seg [.chk [] (.szs 3) [.inp 4],
.chk [] .app [.app .lst [], .inp 4]] <|
.seg [.chk [] (.szs 3) [.inp 5],
.chk [] .app [.app .lst [], .inp 5]] <|
.seg [.chk [] (.isAgg 23) [.agg [.inp 0, qka2_66, qka2_67, qka2_68, .row 20, .row 32, .inp 6, .inp 7, .inp 8, .inp 9, .inp 10, .inp 11, .inp 12, .inp 13, .inp 14, .inp 15, .inp 16, .inp 17, .inp 18, .inp 19, .inp 20, .inp 21, .inp 22]]] <|
.ret (.agg [.inp 0, qka2_66, qka2_67, qka2_68, .app .app [.app .lst [], .inp 4], .app .app [.app .lst [], .inp 5], .inp 6, .inp 7, .inp 8, .inp 9, .inp 10, .inp 11, .inp 12, .inp 13, .inp 14, .inp 15, .inp 16, .inp 17, .inp 18, .inp 19, .inp 20, .inp 21, .inp 22])
theorem run_lockbarref17_Own : runF E 39 [.agg [.inp 0, .inp 1, .inp 2, .inp 3, .inp 4, .inp 5, .inp 6, .inp 7, .inp 8, .inp 9, .inp 10, .inp 11, .inp 12, .inp 13, .inp 14, .inp 15, .inp 16, .inp 17, .inp 18, .inp 19, .inp 20, .inp 21, .inp 22]] 23 = rt_lockbarref17_Own := by kernel_rfl

noncomputable def rt_lockbarref17_All : RT :=
.seg [.chk [] .len [.inp 0]] <|
.seg [.chk [] .len [.inp 1]] <|
.seg [.chk [] (.bin .neq) [.app .len [.inp 0], .app .len [.inp 1]]] <|
.cond (.app (.bin .neq) [.app .len [.inp 0], .app .len [.inp 1]])
 (.ret (.bool false))
 (.loop 0 2 [.int .i64 0] <|
.seg [.chk [] .len [.inp 0]] <|
.seg [.chk [] (.bin .lss) [.inp 2, .app .len [.inp 0]]] <|
.cond (.app (.bin .lss) [.inp 2, .app .len [.inp 0]])
 (.seg [.chk [] (.eidx 3) [.inp 0, .inp 2],
.chk [] (.eload 3 true) [qka2_69],
.chk [] (.eidx 3) [.inp 1, .inp 2],
.chk [] (.eload 3 true) [qka2_70],
.chk [] (.eqa [ some .i64, some .i64, some .i64] true) [qka2_71, qka2_72]] <|
.cond (.app (.eqa [ some .i64, some .i64, some .i64] true) [qka2_71, qka2_72])
 (.ret (.bool false))
 (.seg [.chk [] (.bin .add) [.inp 2, .int .i64 1]] <|
.again 0 [.app (.bin .add) [.inp 2, .int .i64 1]]))
 (.ret (.bool true)))
theorem run_lockbarref17_All : runF E 43 [.inp 0, .inp 1] 2 = rt_lockbarref17_All := by kernel_rfl

noncomputable def rt_lockbarref17_Same : RT :=
.seg [.chk [] (.isAgg 23) [qka2_0]] <|
.seg [.chk [] (.isAgg 23) [.agg [.inp 23, .inp 24, .inp 25, .inp 26, .inp 27, .inp 28, .inp 29, .inp 30, .inp 31, .inp 32, .inp 33, .inp 34, .inp 35, .inp 36, .inp 37, .inp 38, .inp 39, .inp 40, .inp 41, .inp 42, .inp 43, .inp 44, .inp 45]]] <|
.seg [.chk [] (.bin .eql) [.inp 0, .inp 23]] <|
.seg [.call 46 [(qka2_73, true)] 41 [qka2_65, .agg [.inp 24, .inp 25, .inp 26]] false] <|
.seg [.chk [] .pick [qka2_73, .inp 46, .bool false]] <|
.seg [.call 47 [(qka2_74, true)] 42 [.inp 4, .inp 27] false] <|
.seg [.chk [] .pick [qka2_74, .inp 47, .bool false]] <|
.seg [.call 48 [(qka2_75, true)] 43 [.inp 5, .inp 28] false] <|
.seg [.chk [] .pick [qka2_75, .inp 48, .bool false]] <|
.seg [.chk [(qka2_76, true)] (.bin .eql) [.inp 6, .inp 29]] <|
.seg [.chk [] .pick [qka2_76, qka2_77, .bool false]] <|
.seg [.chk [(qka2_78, true)] (.bin .eql) [.inp 7, .inp 30]] <|
.seg [.chk [] .pick [qka2_78, qka2_79, .bool false]] <|
.seg [.chk [(qka2_80, true)] (.eqa [ none, none, none, none, none, none, none, none, none, none, none, none] false) [qka2_81, qka2_82]] <|
.seg [.chk [] .pick [qka2_80, qka2_83, .bool false]] <|
.seg [.chk [(qka2_84, true)] (.eqb false) [.inp 20, .inp 43]] <|
.seg [.chk [] .pick [qka2_84, qka2_85, .bool false]] <|
.seg [.chk [(qka2_86, true)] (.bin .eql) [.inp 21, .inp 44]] <|
.seg [.chk [] .pick [qka2_86, qka2_87, .bool false]] <|
.seg [.chk [(qka2_88, true)] (.eqb false) [.inp 22, .inp 45]] <|
.seg [.chk [] .pick [qka2_88, qka2_89, .bool false]] <|
.seg [.bind 49 (.app .pick [qka2_88, qka2_89, .bool false]),
.bind 50 (qka2_76),
.bind 51 (qka2_78),
.bind 52 (qka2_80),
.bind 53 (qka2_83),
.bind 54 (qka2_84),
.bind 55 (qka2_86),
.bind 56 (qka2_88)] <|
.ret (.inp 49)
theorem run_lockbarref17_Same : runF E 15 [.agg [.inp 0, .inp 1, .inp 2, .inp 3, .inp 4, .inp 5, .inp 6, .inp 7, .inp 8, .inp 9, .inp 10, .inp 11, .inp 12, .inp 13, .inp 14, .inp 15, .inp 16, .inp 17, .inp 18, .inp 19, .inp 20, .inp 21, .inp 22], .agg [.inp 23, .inp 24, .inp 25, .inp 26, .inp 27, .inp 28, .inp 29, .inp 30, .inp 31, .inp 32, .inp 33, .inp 34, .inp 35, .inp 36, .inp 37, .inp 38, .inp 39, .inp 40, .inp 41, .inp 42, .inp 43, .inp 44, .inp 45]] 46 = rt_lockbarref17_Same := by kernel_rfl

noncomputable def rt_lockbarref21_Run : RT :=
.seg [.chk [] (.isAgg 11) [qka2_90]] <|
.seg [.chk [] (.isAgg 29) [qka2_91]] <|
.seg [.chk [] (.isAgg 23) [qka2_92]] <|
.seg [.call 63 [] 39 [qka2_92] false] <|
.seg [.chk [] (.isAgg 23) [.inp 63]] <|
.seg [.call 64 [] 48 [qka2_116] false] <|
.seg [.chk [] (.un .not) [.inp 64]] <|
.seg [.call 65 [(.app (.un .not) [.inp 64], false)] 25 [qka2_90, qka2_91] false] <|
.seg [.chk [] .pick [.app (.un .not) [.inp 64], .bool true, .inp 65]] <|
.cond (.app .pick [.app (.un .not) [.inp 64], .bool true, .inp 65])
 (.seg [.chk [] (.isAgg 23) [qka2_116]] <|
.ret (qka2_116))
 (.seg [.chk [] .len [qka2_96]] <|
.loop 0 66 [qka2_100, qka2_101, qka2_102, qka2_103, qka2_104, qka2_105, qka2_106, qka2_107, qka2_108, qka2_109, qka2_110, qka2_111, qka2_112] <|
.seg [.chk [] (.bin .lss) [.inp 66, qka2_117]] <|
.cond (.app (.bin .lss) [.inp 66, qka2_117])
 (.seg [.chk [] (.eidx 3) [qka2_96, .inp 66],
.chk [] (.eoff 0) [qka2_118],
.chk [] (.eload 1 false) [qka2_119],
.call 79 [] 24 [qka2_90, qka2_91, .app (.eload 1 false) [qka2_119]] false,
.chk [(.inp 79, true)] (.bin .eql) [.inp 66, .int .i64 0],
.chk [(qka2_120, false), (.inp 79, true)] (.bin .sub) [.inp 66, .int .i64 1],
.chk [(qka2_120, false), (.inp 79, true)] (.inr 12) [qka2_121],
.chk [(qka2_120, false), (.inp 79, true)] (.aidx 12 1 8 1 false) [qka2_122, qka2_121],
.chk [(.inp 79, true)] .pick [qka2_120, .bool true, qka2_123],
.chk [] .pick [.inp 79, qka2_124, .bool false]] <|
.seg [.bind 80 (qka2_123),
.bind 81 (qka2_124),
.bind 82 (.app .pick [.inp 79, qka2_124, .bool false])] <|
.cond (.inp 82)
 (.seg [.chk [] (.inr 12) [.inp 66]] <|
.seg [.chk [] (.inr 12) [.inp 66]] <|
.seg [.chk [] (.bin .add) [.inp 66, .int .i64 1]] <|
.again 0 [qka2_125, .app (.cellset 8 12 1 0 1 8) [.inp 66, .inp 67, .agg [.bool true]], .app (.cellset 8 12 1 0 1 9) [.inp 66, .inp 68, .agg [.bool true]], .app (.cellset 8 12 1 0 1 10) [.inp 66, .inp 69, .agg [.bool true]], .app (.cellset 8 12 1 0 1 11) [.inp 66, .inp 70, .agg [.bool true]], .app (.cellset 8 12 1 0 1 12) [.inp 66, .inp 71, .agg [.bool true]], .app (.cellset 8 12 1 0 1 13) [.inp 66, .inp 72, .agg [.bool true]], .app (.cellset 8 12 1 0 1 14) [.inp 66, .inp 73, .agg [.bool true]], .app (.cellset 8 12 1 0 1 15) [.inp 66, .inp 74, .agg [.bool true]], .app (.cellset 8 12 1 0 1 16) [.inp 66, .inp 75, .agg [.bool true]], .app (.cellset 8 12 1 0 1 17) [.inp 66, .inp 76, .agg [.bool true]], .app (.cellset 8 12 1 0 1 18) [.inp 66, .inp 77, .agg [.bool true]], .app (.cellset 8 12 1 0 1 19) [.inp 66, .inp 78, .agg [.bool true]]])
 (.seg [.chk [] (.bin .add) [.inp 66, .int .i64 1]] <|
.again 0 [qka2_125, .inp 67, .inp 68, .inp 69, .inp 70, .inp 71, .inp 72, .inp 73, .inp 74, .inp 75, .inp 76, .inp 77, .inp 78]))
 (.loop 0 79 [qka2_100] <|
.seg [.chk [] (.bin .lss) [.inp 79, qka2_117],
.chk [(qka2_126, true)] (.inr 12) [.inp 79],
.chk [(qka2_126, true)] (.aidx 12 1 8 1 false) [qka2_127, .inp 79],
.chk [] .pick [qka2_126, qka2_128, .bool false],
.chk [(qka2_129, true)] (.eidx 3) [qka2_96, .inp 79],
.chk [(qka2_129, true)] (.eoff 0) [qka2_130],
.chk [(qka2_129, true)] (.eload 1 false) [qka2_131],
.call 80 [(qka2_129, true)] 23 [qka2_90, qka2_91, .app (.eload 1 false) [qka2_131]] false,
.chk [(qka2_129, true)] (.un .not) [.inp 80],
.chk [] .pick [qka2_129, .app (.un .not) [.inp 80], .bool false],
.chk [(qka2_132, true)] (.bin .sub) [qka2_117, .int .i64 1],
.chk [(qka2_132, true)] (.bin .eql) [.inp 79, qka2_133],
.chk [(qka2_134, false), (qka2_132, true)] (.bin .add) [.inp 79, .int .i64 1],
.chk [(qka2_134, false), (qka2_132, true)] (.inr 12) [qka2_135],
.chk [(qka2_134, false), (qka2_132, true)] (.aidx 12 1 8 1 false) [qka2_127, qka2_135],
.chk [(qka2_132, true)] .pick [qka2_134, .bool true, qka2_136],
.chk [] .pick [qka2_132, qka2_137, .bool false]] <|
.seg [.bind 81 (qka2_128),
.bind 82 (qka2_129),
.bind 83 (qka2_132),
.bind 84 (qka2_136),
.bind 85 (qka2_137),
.bind 86 (.app .pick [qka2_132, qka2_137, .bool false])] <|
.cond (.inp 86)
 (.seg [.chk [] (.bin .add) [.inp 79, .int .i64 1]] <|
.seg [.chk [] .isOne [qka2_135]] <|
.again 0 [qka2_135])
 (.seg [.chk [] (.bin .sub) [qka2_117, .int .i64 1]] <|
.seg [.chk [] (.inr 12) [qka2_133]] <|
.seg [.chk [] (.aidx 12 1 8 1 false) [qka2_127, qka2_133]] <|
.seg [.bind 87 (qka2_138)] <|
.cond (.inp 87)
 (.seg [.call 88 [] 54 [qka2_114] false] <|
.seg [.chk [] .isOne [.inp 88]] <|
.seg [.chk [(qka2_113, false)] (.bin .eql) [.inp 79, qka2_117]] <|
.seg [.chk [] .pick [qka2_113, .bool true, qka2_139]] <|
.seg [.chk [(qka2_140, false)] (.bin .sub) [qka2_117, .int .i64 1]] <|
.seg [.chk [(qka2_140, false)] (.inr 12) [qka2_133]] <|
.seg [.chk [(qka2_140, false)] (.aidx 12 1 8 1 false) [qka2_141, qka2_133]] <|
.seg [.chk [(qka2_142, true), (qka2_140, false)] (.bin .geq) [.inp 88, .inp 8]] <|
.seg [.chk [(qka2_140, false)] .pick [qka2_142, qka2_143, .bool false]] <|
.seg [.chk [] .pick [qka2_140, .bool true, qka2_144]] <|
.seg [.chk [] .isOne [qka2_145]] <|
.seg [.bind 89 (qka2_142),
.bind 90 (qka2_144),
.bind 91 (qka2_145)] <|
.seg [.chk [] (.isAgg 23) [qka2_146]] <|
.ret (qka2_146))
 (.seg [.chk [(qka2_113, false)] (.bin .eql) [.inp 79, qka2_117]] <|
.seg [.chk [] .pick [qka2_113, .bool true, qka2_139]] <|
.seg [.chk [(qka2_140, false)] (.bin .sub) [qka2_117, .int .i64 1]] <|
.seg [.chk [(qka2_140, false)] (.inr 12) [qka2_133]] <|
.seg [.chk [(qka2_140, false)] (.aidx 12 1 8 1 false) [qka2_127, qka2_133]] <|
.seg [.chk [(qka2_138, true), (qka2_140, false)] (.bin .geq) [qka2_114, .inp 8]] <|
.seg [.chk [(qka2_140, false)] .pick [qka2_138, qka2_147, .bool false]] <|
.seg [.chk [] .pick [qka2_140, .bool true, qka2_148]] <|
.seg [.chk [] .isOne [qka2_149]] <|
.seg [.bind 88 (qka2_138),
.bind 89 (qka2_148),
.bind 90 (qka2_149)] <|
.seg [.chk [] (.isAgg 23) [qka2_150]] <|
.ret (qka2_150)))))
theorem run_lockbarref21_Run : runF E 26 [.agg [.inp 0, .inp 1, .inp 2, .inp 3, .inp 4, .inp 5, .inp 6, .inp 7, .inp 8, .inp 9, .inp 10], .agg [.inp 11, .inp 12, .inp 13, .inp 14, .inp 15, .inp 16, .inp 17, .inp 18, .inp 19, .inp 20, .inp 21, .inp 22, .inp 23, .inp 24, .inp 25, .inp 26, .inp 27, .inp 28, .inp 29, .inp 30, .inp 31, .inp 32, .inp 33, .inp 34, .inp 35, .inp 36, .inp 37, .inp 38, .inp 39], .agg [.inp 40, .inp 41, .inp 42, .inp 43, .inp 44, .inp 45, .inp 46, .inp 47, .inp 48, .inp 49, .inp 50, .inp 51, .inp 52, .inp 53, .inp 54, .inp 55, .inp 56, .inp 57, .inp 58, .inp 59, .inp 60, .inp 61, .inp 62]] 63 = rt_lockbarref21_Run := by kernel_rfl

noncomputable def rt_tick_Down : RT :=
.seg [.chk [] (.mm true) [.inp 0, .int .i64 1]] <|
.seg [.chk [] (.bin .sub) [qka2_151, .int .i64 1]] <|
.ret (.app (.bin .sub) [qka2_151, .int .i64 1])
theorem run_tick_Down : runF E 38 [.inp 0] 1 = rt_tick_Down := by kernel_rfl

noncomputable def rt_back_In : RT :=
.seg [.chk [] (.isAgg 11) [qka2_90]] <|
.seg [.chk [] (.isAgg 29) [qka2_91]] <|
.seg [.chk [] (.isAgg 23) [qka2_92]] <|
.seg [.chk [] (.isAgg 11) [qka2_90]] <|
.seg [.chk [] (.isAgg 29) [qka2_91]] <|
.seg [.chk [] (.isAgg 23) [qka2_92]] <|
.seg [.chk [] (.isAgg 23) [qka2_92]] <|
.seg [.chk [] .len [.inp 43]] <|
.loop 0 63 [.int .i64 0] <|
.seg [.chk [] (.bin .lss) [.inp 63, .app .len [.inp 43]]] <|
.cond (qka2_152)
 (.seg [.chk [] (.eidx 3) [.inp 43, .inp 63]] <|
.seg [.chk [] (.eload 3 true) [qka2_153]] <|
.seg [.chk [] (.isAgg 3) [qka2_154]] <|
.seg [.chk [] (.bin .geq) [.inp 63, .inp 47]] <|
.cond (qka2_155)
 (.seg [.call 64 [] 45 [qka2_90, qka2_91, qka2_156] false] <|
.cond (.inp 64)
 (.seg [.chk [] (.un .not) [.bool false]] <|
.ret (.bool true))
 (.seg [.chk [] (.un .not) [.bool true]] <|
.seg [.chk [] (.bin .add) [.inp 63, .int .i64 1]] <|
.again 0 [qka2_157]))
 (.seg [.chk [] (.bin .add) [.inp 63, .int .i64 1]] <|
.again 0 [qka2_157]))
 (.ret (.bool false))
theorem run_back_In : runF E 16 [.agg [.inp 0, .inp 1, .inp 2, .inp 3, .inp 4, .inp 5, .inp 6, .inp 7, .inp 8, .inp 9, .inp 10], .agg [.inp 11, .inp 12, .inp 13, .inp 14, .inp 15, .inp 16, .inp 17, .inp 18, .inp 19, .inp 20, .inp 21, .inp 22, .inp 23, .inp 24, .inp 25, .inp 26, .inp 27, .inp 28, .inp 29, .inp 30, .inp 31, .inp 32, .inp 33, .inp 34, .inp 35, .inp 36, .inp 37, .inp 38, .inp 39], .agg [.inp 40, .inp 41, .inp 42, .inp 43, .inp 44, .inp 45, .inp 46, .inp 47, .inp 48, .inp 49, .inp 50, .inp 51, .inp 52, .inp 53, .inp 54, .inp 55, .inp 56, .inp 57, .inp 58, .inp 59, .inp 60, .inp 61, .inp 62]] 63 = rt_back_In := by kernel_rfl

noncomputable def rt_back_told : RT :=
.seg [.chk [] (.isAgg 11) [qka2_90]] <|
.seg [.chk [] (.isAgg 29) [qka2_91]] <|
.seg [.chk [] (.isAgg 23) [qka2_92]] <|
.seg [.chk [] (.isAgg 11) [qka2_90]] <|
.seg [.chk [] (.isAgg 29) [qka2_91]] <|
.seg [.chk [] (.isAgg 23) [qka2_92]] <|
.seg [.chk [] (.isAgg 23) [qka2_92]] <|
.seg [.chk [] .len [.inp 43]] <|
.loop 0 63 [.int .i64 0] <|
.seg [.chk [] (.bin .lss) [.inp 63, .app .len [.inp 43]]] <|
.cond (qka2_152)
 (.seg [.chk [] (.eidx 3) [.inp 43, .inp 63]] <|
.seg [.chk [] (.eload 3 true) [qka2_153]] <|
.seg [.chk [] (.isAgg 3) [qka2_154]] <|
.seg [.chk [] (.bin .geq) [.inp 63, .inp 47]] <|
.cond (qka2_155)
 (.seg [.call 64 [] 63 [qka2_90, qka2_91, qka2_156] false] <|
.cond (.inp 64)
 (.seg [.chk [] (.un .not) [.bool false]] <|
.ret (.bool true))
 (.seg [.chk [] (.un .not) [.bool true]] <|
.seg [.chk [] (.bin .add) [.inp 63, .int .i64 1]] <|
.again 0 [qka2_157]))
 (.seg [.chk [] (.bin .add) [.inp 63, .int .i64 1]] <|
.again 0 [qka2_157]))
 (.ret (.bool false))
theorem run_back_told : runF E 36 [.agg [.inp 0, .inp 1, .inp 2, .inp 3, .inp 4, .inp 5, .inp 6, .inp 7, .inp 8, .inp 9, .inp 10], .agg [.inp 11, .inp 12, .inp 13, .inp 14, .inp 15, .inp 16, .inp 17, .inp 18, .inp 19, .inp 20, .inp 21, .inp 22, .inp 23, .inp 24, .inp 25, .inp 26, .inp 27, .inp 28, .inp 29, .inp 30, .inp 31, .inp 32, .inp 33, .inp 34, .inp 35, .inp 36, .inp 37, .inp 38, .inp 39], .agg [.inp 40, .inp 41, .inp 42, .inp 43, .inp 44, .inp 45, .inp 46, .inp 47, .inp 48, .inp 49, .inp 50, .inp 51, .inp 52, .inp 53, .inp 54, .inp 55, .inp 56, .inp 57, .inp 58, .inp 59, .inp 60, .inp 61, .inp 62]] 63 = rt_back_told := by kernel_rfl

noncomputable def rt_back_Rear : RT :=
.seg [.chk [] (.isAgg 11) [qka2_90]] <|
.seg [.chk [] (.isAgg 29) [qka2_91]] <|
.seg [.call 41 [] 46 [qka2_90, .inp 40] false] <|
.seg [.chk [] (.isAgg 2) [.inp 41]] <|
.seg [.chk [] (.bin .geq) [qka2_158, .int .i64 0]] <|
.seg [.call 42 [(qka2_159, true)] 45 [qka2_90, qka2_91, qka2_158] false] <|
.seg [.chk [] .pick [qka2_159, .inp 42, .bool false]] <|
.ret (.app .pick [qka2_159, .inp 42, .bool false])
theorem run_back_Rear : runF E 18 [.agg [.inp 0, .inp 1, .inp 2, .inp 3, .inp 4, .inp 5, .inp 6, .inp 7, .inp 8, .inp 9, .inp 10], .agg [.inp 11, .inp 12, .inp 13, .inp 14, .inp 15, .inp 16, .inp 17, .inp 18, .inp 19, .inp 20, .inp 21, .inp 22, .inp 23, .inp 24, .inp 25, .inp 26, .inp 27, .inp 28, .inp 29, .inp 30, .inp 31, .inp 32, .inp 33, .inp 34, .inp 35, .inp 36, .inp 37, .inp 38, .inp 39], .inp 40] 41 = rt_back_Rear := by kernel_rfl

noncomputable def rt_back_comes_1 : RT :=
.seg [.chk [] (.isAgg 23) [qka2_0]] <|
.ret (.int .i64 1)
theorem run_back_comes_1 : runF E 55 [.agg [.inp 0, .inp 1, .inp 2, .inp 3, .inp 4, .inp 5, .inp 6, .inp 7, .inp 8, .inp 9, .inp 10, .inp 11, .inp 12, .inp 13, .inp 14, .inp 15, .inp 16, .inp 17, .inp 18, .inp 19, .inp 20, .inp 21, .inp 22]] 23 = rt_back_comes_1 := by kernel_rfl

noncomputable def rt_back_comes_2 : RT :=
.seg [.chk [] (.isAgg 23) [qka2_0]] <|
.seg [.chk [(.inp 22, true)] (.eload 11 true) [qka2_160]] <|
.seg [.chk [(.inp 22, true)] (.eload 29 true) [qka2_161]] <|
.seg [.call 63 [(.inp 22, true)] 18 [qka2_162, qka2_163, .inp 1] false] <|
.seg [.chk [] .pick [.inp 22, .inp 63, .bool false]] <|
.seg [.bind 64 (qka2_162),
.bind 65 (qka2_163)] <|
.cond (.app .pick [.inp 22, .inp 63, .bool false])
 (.ret (.int .i64 2))
 (.ret (.int .i64 1))
theorem run_back_comes_2 : runF E 56 [.agg [.inp 0, .inp 1, .inp 2, .inp 3, .inp 4, .inp 5, .inp 6, .inp 7, .inp 8, .inp 9, .inp 10, .inp 11, .inp 12, .inp 13, .inp 14, .inp 15, .inp 16, .inp 17, .inp 18, .inp 19, .inp 20, .inp 21, .inp 22], .ref [.inp 23, .inp 24, .inp 25, .inp 26, .inp 27, .inp 28, .inp 29, .inp 30, .inp 31, .inp 32, .inp 33] 0, .ref [.inp 34, .inp 35, .inp 36, .inp 37, .inp 38, .inp 39, .inp 40, .inp 41, .inp 42, .inp 43, .inp 44, .inp 45, .inp 46, .inp 47, .inp 48, .inp 49, .inp 50, .inp 51, .inp 52, .inp 53, .inp 54, .inp 55, .inp 56, .inp 57, .inp 58, .inp 59, .inp 60, .inp 61, .inp 62] 0] 63 = rt_back_comes_2 := by kernel_rfl

noncomputable def rt_back_comes_3 : RT :=
.seg [.chk [] (.isAgg 23) [qka2_0]] <|
.seg [.chk [] (.eload 11 true) [qka2_160]] <|
.seg [.chk [] (.eload 29 true) [qka2_161]] <|
.seg [.call 63 [] 16 [qka2_162, qka2_163, qka2_0] false] <|
.seg [.bind 64 (qka2_162),
.bind 65 (qka2_163)] <|
.cond (.inp 63)
 (.ret (.int .i64 0))
 (.ret (.int .i64 2))
theorem run_back_comes_3 : runF E 57 [.agg [.inp 0, .inp 1, .inp 2, .inp 3, .inp 4, .inp 5, .inp 6, .inp 7, .inp 8, .inp 9, .inp 10, .inp 11, .inp 12, .inp 13, .inp 14, .inp 15, .inp 16, .inp 17, .inp 18, .inp 19, .inp 20, .inp 21, .inp 22], .ref [.inp 23, .inp 24, .inp 25, .inp 26, .inp 27, .inp 28, .inp 29, .inp 30, .inp 31, .inp 32, .inp 33] 0, .ref [.inp 34, .inp 35, .inp 36, .inp 37, .inp 38, .inp 39, .inp 40, .inp 41, .inp 42, .inp 43, .inp 44, .inp 45, .inp 46, .inp 47, .inp 48, .inp 49, .inp 50, .inp 51, .inp 52, .inp 53, .inp 54, .inp 55, .inp 56, .inp 57, .inp 58, .inp 59, .inp 60, .inp 61, .inp 62] 0] 63 = rt_back_comes_3 := by kernel_rfl

end Go.Lb.LK
