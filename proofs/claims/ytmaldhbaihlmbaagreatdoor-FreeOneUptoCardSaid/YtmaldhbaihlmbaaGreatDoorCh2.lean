/- What functions come to, printed by a program, checked by the kernel. -/
import Derived.Test.YtmaldhbaihlmbaaGreatDoorCh1
set_option linter.unusedSimpArgs false
set_option linter.unusedVariables false
namespace Go.Lb.LK
open Go Go.Lb Go.Proofs
@[simp] noncomputable def qka0_0 : SE := .app (.bin .geq) [.inp 0, .int .i64 0]
@[simp] noncomputable def qka0_1 : SE := .app (.bin .lss) [.inp 0, .int .i64 32]
@[simp] noncomputable def qka0_2 : SE := .app .pick [qka0_0, qka0_1, .bool false]
@[simp] noncomputable def qka0_3 : SE := .app (.eload 1 false) [.ref [.inp 1] 0]
@[simp] noncomputable def qka0_4 : SE := .app (.bin .shl) [.int .u32 1, .inp 0]
@[simp] noncomputable def qka0_5 : SE := .app (.bin .and) [qka0_3, qka0_4]
@[simp] noncomputable def qka0_6 : SE := .app (.bin .neq) [qka0_5, .int .u32 0]
@[simp] noncomputable def qka0_7 : SE := .agg [.inp 0, .inp 1, .inp 2, .inp 3, .inp 4, .inp 5, .inp 6, .inp 7, .inp 8, .inp 9, .inp 10]
@[simp] noncomputable def qka0_8 : SE := .agg [.inp 11, .inp 12, .inp 13, .inp 14, .inp 15, .inp 16, .inp 17, .inp 18, .inp 19, .inp 20, .inp 21, .inp 22, .inp 23, .inp 24, .inp 25, .inp 26, .inp 27, .inp 28, .inp 29, .inp 30, .inp 31, .inp 32, .inp 33, .inp 34, .inp 35, .inp 36, .inp 37, .inp 38, .inp 39]
@[simp] noncomputable def qka0_9 : SE := .clo 117 [] [.ref [.inp 36] 0]
@[simp] noncomputable def qka0_10 : SE := .ref [qka0_9] 0
@[simp] noncomputable def qka0_11 : SE := .app (.un .not) [qka0_3]
@[simp] noncomputable def qka0_12 : SE := .app (.bin .lss) [.inp 40, .int .i64 0]
@[simp] noncomputable def qka0_13 : SE := .app (.mm false) [.app .len [.inp 0], .int .i64 24]
@[simp] noncomputable def qka0_14 : SE := .app (.bin .geq) [.inp 40, qka0_13]
@[simp] noncomputable def qka0_15 : SE := .ref [.app (.bin .lss) [.inp 6, .inp 11]] 0
@[simp] noncomputable def qka0_16 : SE := .app (.aidx 24 1 1 1 false) [qka0_8, .inp 40]
@[simp] noncomputable def qka0_17 : SE := .app (.bin .lss) [qka0_16, .inp 4]
@[simp] noncomputable def qka0_18 : SE := .app (.bin .geq) [.inp 40, .app .len [.inp 0]]
@[simp] noncomputable def qka0_19 : SE := .app .pick [qka0_12, .bool true, qka0_18]
@[simp] noncomputable def qka0_20 : SE := .app (.eidx 11) [.inp 0, .inp 40]
@[simp] noncomputable def qka0_21 : SE := .app (.eoff 0) [qka0_20]
@[simp] noncomputable def qka0_22 : SE := .app (.eload 1 false) [qka0_21]
@[simp] noncomputable def qka0_23 : SE := .app (.bin .neq) [qka0_22, .int .u8 2]
@[simp] noncomputable def qka0_24 : SE := .app .pick [qka0_19, .bool true, qka0_23]
@[simp] noncomputable def qka0_25 : SE := .agg [.inp 0, .inp 1, .inp 2]
@[simp] noncomputable def qka0_26 : SE := .agg [.inp 0, .inp 1, .inp 3]
@[simp] noncomputable def qka0_27 : SE := .app .app [.app .lst [], .inp 0]
@[simp] noncomputable def qka0_28 : SE := .app (.bin .lss) [.inp 2, .app .len [.inp 0]]
@[simp] noncomputable def qka0_29 : SE := .app (.eidx 3) [.inp 0, .inp 2]
@[simp] noncomputable def qka0_30 : SE := .app (.eload 3 true) [qka0_29]
@[simp] noncomputable def qka0_31 : SE := .app (.eidx 3) [.inp 1, .inp 3]
@[simp] noncomputable def qka0_32 : SE := .app (.eload 3 true) [qka0_31]
@[simp] noncomputable def qka0_33 : SE := .app (.part 0 1 false) [qka0_30]
@[simp] noncomputable def qka0_34 : SE := .app (.part 1 1 false) [qka0_30]
@[simp] noncomputable def qka0_35 : SE := .app (.part 0 1 false) [qka0_32]
@[simp] noncomputable def qka0_36 : SE := .app (.part 1 1 false) [qka0_32]
@[simp] noncomputable def qka0_37 : SE := .app (.bin .eql) [qka0_33, qka0_35]
@[simp] noncomputable def qka0_38 : SE := .app (.bin .neq) [qka0_34, qka0_36]
@[simp] noncomputable def qka0_39 : SE := .app (.bin .add) [.inp 2, .int .i64 1]
@[simp] noncomputable def qka0_40 : SE := .agg [.inp 0, .inp 1, .inp 2, .inp 3, .inp 4, .inp 5, .inp 6, .inp 7, .inp 8, .inp 9, .inp 10, .inp 11, .inp 12, .inp 13, .inp 14, .inp 15, .inp 16, .inp 17, .inp 18, .inp 19, .inp 20, .inp 21, .inp 22]
@[simp] noncomputable def qka0_41 : SE := .app (.mm true) [.inp 7, .int .i64 0]
@[simp] noncomputable def qka0_42 : SE := .app (.eidx 3) [.inp 5, .inp 24]
@[simp] noncomputable def qka0_43 : SE := .app (.eload 3 true) [qka0_42]
@[simp] noncomputable def qka0_44 : SE := .app (.part 2 1 false) [qka0_43]
@[simp] noncomputable def qka0_45 : SE := .agg [.app (.part 0 1 false) [qka0_43], .app (.part 1 1 false) [qka0_43], qka0_44]
@[simp] noncomputable def qka0_46 : SE := .app (.bin .geq) [qka0_44, qka0_41]
@[simp] noncomputable def qka0_47 : SE := .app (.bin .neq) [qka0_44, .app .len [.inp 3]]
@[simp] noncomputable def qka0_48 : SE := .app .pick [qka0_47, .bool true, .app (.un .not) [.inp 20]]
@[simp] noncomputable def qka0_49 : SE := .app .lst [qka0_45]
@[simp] noncomputable def qka0_50 : SE := .app (.bin .add) [.inp 24, .int .i64 1]
@[simp] noncomputable def qka0_51 : SE := .agg [.inp 1, .inp 2, .inp 3]
@[simp] noncomputable def qka0_52 : SE := .agg [.inp 0, .app (.part 0 1 false) [.inp 23], .app (.part 1 1 false) [.inp 23], .app (.part 2 1 false) [.inp 23], .inp 24, .inp 25, .inp 6, .inp 7, .inp 8, .inp 9, .inp 10, .inp 11, .inp 12, .inp 13, .inp 14, .inp 15, .inp 16, .inp 17, .inp 18, .inp 19, .inp 20, .inp 21, .inp 22]
@[simp] noncomputable def qka0_53 : SE := .app (.bin .lss) [.inp 0, .int .i64 1]
@[simp] noncomputable def qka0_54 : SE := .app (.mm true) [.inp 0, .inp 21]
@[simp] noncomputable def qka0_55 : SE := .app (.bin .gtr) [qka0_54, .int .i64 1073741824]
@[simp] noncomputable def qka0_56 : SE := .app .pick [qka0_53, .bool true, qka0_55]
@[simp] noncomputable def qka0_57 : SE := .app (.bin .lss) [.inp 21, .int .i64 0]
@[simp] noncomputable def qka0_58 : SE := .app .pick [qka0_56, .bool true, qka0_57]
@[simp] noncomputable def qka0_59 : SE := .app (.bin .lss) [.app .len [.inp 3], .int .i64 1]
@[simp] noncomputable def qka0_60 : SE := .app .pick [qka0_58, .bool true, qka0_59]
@[simp] noncomputable def qka0_61 : SE := .app (.bin .gtr) [.app .len [.inp 3], .int .i64 12]
@[simp] noncomputable def qka0_62 : SE := .app .pick [qka0_60, .bool true, qka0_61]
@[simp] noncomputable def qka0_63 : SE := .app (.bin .gtr) [.app .len [.inp 4], .int .i64 2]
@[simp] noncomputable def qka0_64 : SE := .app (.bin .eql) [.inp 6, .int .u8 0]
@[simp] noncomputable def qka0_65 : SE := .app (.bin .geq) [.inp 6, .int .u8 5]
@[simp] noncomputable def qka0_66 : SE := .app .pick [qka0_64, .bool true, qka0_65]
@[simp] noncomputable def qka0_67 : SE := .app (.bin .lss) [.inp 7, .int .i64 0]
@[simp] noncomputable def qka0_68 : SE := .app .pick [qka0_66, .bool true, qka0_67]
@[simp] noncomputable def qka0_69 : SE := .app (.bin .gtr) [.inp 7, .app .len [.inp 3]]
@[simp] noncomputable def qka0_70 : SE := .app .pick [qka0_68, .bool true, qka0_69]
@[simp] noncomputable def qka0_71 : SE := .ref [.inp 0, .inp 1, .inp 2, .inp 3, .inp 4, .inp 5, .inp 6, .inp 7, .inp 8, .inp 9, .inp 10, .inp 11, .inp 12, .inp 13, .inp 14, .inp 15, .inp 16, .inp 17, .inp 18, .inp 19, .inp 20, .inp 21, .inp 22] 0
@[simp] noncomputable def qka0_72 : SE := .app .lst [.inp 8, .inp 9, .inp 10, .inp 11, .inp 12, .inp 13, .inp 14, .inp 15, .inp 16, .inp 17, .inp 18, .inp 19]
@[simp] noncomputable def qka0_73 : SE := .app (.slice false true) [qka0_72, .app .len [.inp 3]]
@[simp] noncomputable def qka0_74 : SE := .app .len [qka0_73]
@[simp] noncomputable def qka0_75 : SE := .ref [.inp 0, .inp 1, .inp 2, .inp 3, .inp 4, .inp 5, .inp 6, .inp 7, .inp 8, .inp 9, .inp 10, .inp 11, .inp 12, .inp 13, .inp 14, .inp 15, .inp 16, .inp 17, .inp 18, .inp 19, .inp 20, .inp 21, .inp 22] 8
@[simp] noncomputable def qka0_76 : SE := .agg [.inp 33, .inp 34, .inp 35, .inp 36, .inp 37, .inp 38, .inp 39, .inp 40, .inp 41, .inp 42, .inp 43, .inp 44]
@[simp] noncomputable def qka0_77 : SE := .app (.eload 12 true) [qka0_75]
@[simp] noncomputable def qka0_78 : SE := .ref [.inp 0, .inp 1, .inp 2, .inp 3, .inp 4, .inp 5, .inp 6, .inp 7, .inp 8, .inp 9, .inp 10, .inp 11, .inp 12, .inp 13, .inp 14, .inp 15, .inp 16, .inp 17, .inp 18, .inp 19, .inp 20, .inp 21, .inp 22] 3
@[simp] noncomputable def qka0_79 : SE := .ref [.inp 0, .inp 1, .inp 2, .inp 3, .inp 4, .inp 5, .inp 6, .inp 7, .inp 8, .inp 9, .inp 10, .inp 11, .inp 12, .inp 13, .inp 14, .inp 15, .inp 16, .inp 17, .inp 18, .inp 19, .inp 20, .inp 21, .inp 22] 4
@[simp] noncomputable def qka0_80 : SE := .app (.eload 1 false) [qka0_78]
@[simp] noncomputable def qka0_81 : SE := .app (.eload 1 false) [qka0_79]
@[simp] noncomputable def qka0_82 : SE := .app .lst [qka0_80, qka0_81]
@[simp] noncomputable def qka0_83 : SE := .app (.eidx 3) [.inp 47, .inp 52]
@[simp] noncomputable def qka0_84 : SE := .app (.eload 3 true) [qka0_83]
@[simp] noncomputable def qka0_85 : SE := .app (.part 0 1 false) [qka0_84]
@[simp] noncomputable def qka0_86 : SE := .app .lst [qka0_85]
@[simp] noncomputable def qka0_87 : SE := .app .len [qka0_81]
@[simp] noncomputable def qka0_88 : SE := .app (.bin .add) [.app .len [.inp 3], qka0_87]
@[simp] noncomputable def qka0_89 : SE := .ref [.inp 0, .inp 1, .inp 2, .inp 3, .inp 4, .inp 5, .inp 6, .inp 7, .inp 8, .inp 9, .inp 10, .inp 11, .inp 12, .inp 13, .inp 14, .inp 15, .inp 16, .inp 17, .inp 18, .inp 19, .inp 20, .inp 21, .inp 22] 5
@[simp] noncomputable def qka0_90 : SE := .app (.eload 1 false) [qka0_89]
@[simp] noncomputable def qka0_91 : SE := .app (.eidx 3) [.inp 59, .inp 61]
@[simp] noncomputable def qka0_92 : SE := .app (.eload 3 true) [qka0_91]
@[simp] noncomputable def qka0_93 : SE := .app (.part 2 1 false) [qka0_92]
@[simp] noncomputable def qka0_94 : SE := .app (.bin .lss) [qka0_93, .int .i64 0]
@[simp] noncomputable def qka0_95 : SE := .app (.bin .gtr) [qka0_93, .app .len [.inp 3]]
@[simp] noncomputable def qka0_96 : SE := .app .pick [qka0_94, .bool true, qka0_95]
@[simp] noncomputable def qka0_97 : SE := .app (.part 0 1 false) [qka0_92]
@[simp] noncomputable def qka0_98 : SE := .app (.bin .lss) [qka0_97, .int .i64 0]
@[simp] noncomputable def qka0_99 : SE := .app .pick [qka0_96, .bool true, qka0_98]
@[simp] noncomputable def qka0_100 : SE := .app (.bin .geq) [qka0_97, .int .i64 24]
@[simp] noncomputable def qka0_101 : SE := .app .pick [qka0_99, .bool true, qka0_100]
@[simp] noncomputable def qka0_102 : SE := .app (.part 1 1 false) [qka0_92]
@[simp] noncomputable def qka0_103 : SE := .app (.bin .shr) [qka0_102, .int .u64 1]
@[simp] noncomputable def qka0_104 : SE := .app (.bin .neq) [qka0_103, .int .i64 0]
@[simp] noncomputable def qka0_105 : SE := .app (.eidx 1) [.inp 0, .inp 2]
@[simp] noncomputable def qka0_106 : SE := .app (.eload 1 false) [qka0_105]
@[simp] noncomputable def qka0_107 : SE := .app .len [qka0_106]
@[simp] noncomputable def qka0_108 : SE := .app (.bin .add) [.inp 1, qka0_107]
@[simp] noncomputable def qka0_109 : SE := .app (.bin .sub) [.inp 1, .int .i64 0]
@[simp] noncomputable def qka0_110 : SE := .agg [.int .i64 0, .int .i64 0, .int .i64 0]
@[simp] noncomputable def qka0_111 : SE := .app .rep [qka0_109, qka0_110]
@[simp] noncomputable def qka0_112 : SE := .app (.eidx 1) [.inp 0, .inp 5]
@[simp] noncomputable def qka0_113 : SE := .app (.eload 1 false) [qka0_112]
@[simp] noncomputable def qka0_114 : SE := .app (.eidx 1) [.inp 0, .inp 4]
@[simp] noncomputable def qka0_115 : SE := .app (.eload 1 false) [qka0_114]
@[simp] noncomputable def qka0_116 : SE := .app (.eidx 3) [.inp 3, .inp 23]
@[simp] noncomputable def qka0_117 : SE := .app (.eload 3 true) [qka0_116]
@[simp] noncomputable def qka0_118 : SE := .app (.part 0 1 false) [qka0_117]
@[simp] noncomputable def qka0_119 : SE := .app .lst [qka0_118]
@[simp] noncomputable def qka0_120 : SE := .app (.bin .add) [.inp 23, .int .i64 1]
@[simp] noncomputable def qka0_121 : SE := .app (.eidx 3) [.inp 4, .inp 25]
@[simp] noncomputable def qka0_122 : SE := .app (.eload 3 true) [qka0_121]
@[simp] noncomputable def qka0_123 : SE := .app (.bin .add) [.inp 25, .int .i64 1]
@[simp] noncomputable def qka0_124 : SE := .app (.part 0 1 false) [qka0_122]
@[simp] noncomputable def qka0_125 : SE := .app .lst [qka0_124]
@[simp] noncomputable def qka0_126 : SE := .app (.bin .lss) [.inp 25, .app .len [.inp 24]]
@[simp] noncomputable def qka0_127 : SE := .app (.eidx 1) [.inp 24, .inp 25]
@[simp] noncomputable def qka0_128 : SE := .app (.eload 1 false) [qka0_127]
@[simp] noncomputable def qka0_129 : SE := .app (.eidx 3) [.inp 24, .inp 25]
@[simp] noncomputable def qka0_130 : SE := .app (.eload 3 true) [qka0_129]
@[simp] noncomputable def qka0_131 : SE := .app (.part 0 1 false) [qka0_130]
@[simp] noncomputable def qka0_132 : SE := .tup [.int .i64 0, .bool false]
@[simp] noncomputable def qka0_133 : SE := .agg [.inp 23, .inp 24, .inp 25, .inp 26, .inp 27, .inp 28, .inp 29, .inp 30, .inp 31, .inp 32, .inp 33, .inp 34, .inp 35, .inp 36, .inp 37, .inp 38, .inp 39, .inp 40, .inp 41, .inp 42, .inp 43, .inp 44, .inp 45]
@[simp] noncomputable def qka0_134 : SE := .app (.eidx 3) [.inp 3, .inp 46]
@[simp] noncomputable def qka0_135 : SE := .app (.eload 3 true) [qka0_134]
@[simp] noncomputable def qka0_136 : SE := .app (.bin .add) [.inp 46, .int .i64 1]
@[simp] noncomputable def qka0_137 : SE := .app (.eidx 3) [.inp 4, .inp 47]
@[simp] noncomputable def qka0_138 : SE := .app (.eload 3 true) [qka0_137]
@[simp] noncomputable def qka0_139 : SE := .app (.bin .add) [.inp 47, .int .i64 1]
@[simp] noncomputable def qka0_140 : SE := .app (.bin .eql) [.inp 0, .inp 23]
@[simp] noncomputable def qka0_141 : SE := .app (.bin .eql) [.inp 6, .inp 29]
@[simp] noncomputable def qka0_142 : SE := .app .pick [qka0_140, qka0_141, .bool false]
@[simp] noncomputable def qka0_143 : SE := .app (.bin .eql) [.inp 7, .inp 30]
@[simp] noncomputable def qka0_144 : SE := .app .pick [qka0_142, qka0_143, .bool false]
@[simp] noncomputable def qka0_145 : SE := .agg [.inp 8, .inp 9, .inp 10, .inp 11, .inp 12, .inp 13, .inp 14, .inp 15, .inp 16, .inp 17, .inp 18, .inp 19]
@[simp] noncomputable def qka0_146 : SE := .agg [.inp 31, .inp 32, .inp 33, .inp 34, .inp 35, .inp 36, .inp 37, .inp 38, .inp 39, .inp 40, .inp 41, .inp 42]
@[simp] noncomputable def qka0_147 : SE := .app (.eqa [ none, none, none, none, none, none, none, none, none, none, none, none] false) [qka0_145, qka0_146]
@[simp] noncomputable def qka0_148 : SE := .app .pick [qka0_144, qka0_147, .bool false]
@[simp] noncomputable def qka0_149 : SE := .app (.eqb false) [.inp 20, .inp 43]
@[simp] noncomputable def qka0_150 : SE := .app .pick [qka0_148, qka0_149, .bool false]
@[simp] noncomputable def qka0_151 : SE := .app (.bin .eql) [.inp 21, .inp 44]
@[simp] noncomputable def qka0_152 : SE := .app .pick [qka0_150, qka0_151, .bool false]
@[simp] noncomputable def qka0_153 : SE := .app (.eqb false) [.inp 22, .inp 45]
@[simp] noncomputable def qka0_154 : SE := .app .pick [.inp 46, .inp 52, .bool false]
@[simp] noncomputable def qka0_155 : SE := .app .pick [qka0_154, .inp 53, .bool false]
@[simp] noncomputable def qka0_156 : SE := .app (.bin .eql) [.inp 0, .inp 3]
@[simp] noncomputable def qka0_157 : SE := .app (.bin .eql) [.inp 1, .inp 4]
@[simp] noncomputable def qka0_158 : SE := .app .pick [qka0_156, qka0_157, .bool false]
@[simp] noncomputable def qka0_159 : SE := .app (.bin .neq) [.app .len [.inp 0], .app .len [.inp 1]]
@[simp] noncomputable def qka0_160 : SE := .app (.eidx 3) [.inp 1, .inp 2]
@[simp] noncomputable def qka0_161 : SE := .app (.eload 3 true) [qka0_160]
@[simp] noncomputable def qka0_162 : SE := .app (.eqa [ some .i64, some .i64, some .i64] true) [qka0_30, qka0_161]
@[simp] noncomputable def qka0_163 : SE := .app (.bin .eql) [.inp 0, .int .i64 0]
@[simp] noncomputable def qka0_164 : SE := .app (.bin .eql) [.inp 0, .int .i64 1]
@[simp] noncomputable def qka0_165 : SE := .app (.bin .geq) [.inp 1, .int .i64 0]
@[simp] noncomputable def qka0_166 : SE := .app .pick [.inp 3, qka0_165, .bool false]
@[simp] noncomputable def qka0_167 : SE := .app (.bin .leq) [.inp 1, .int .i64 1000]
@[simp] noncomputable def qka0_168 : SE := .app .pick [qka0_166, qka0_167, .bool false]
@[simp] noncomputable def qka0_169 : SE := .app (.eqa [ some .i64, some .i64, none] false) [qka0_25, .inp 4]
@[simp] noncomputable def qka0_170 : SE := .agg [.inp 0, .inp 1, .inp 2, .inp 3, .inp 4, .inp 5, .inp 6, .inp 7, .inp 8, .inp 9, .inp 10, .inp 11, .inp 12, .inp 13, .inp 14, .inp 15, .inp 16, .inp 17, .inp 18, .inp 19, .inp 20, .inp 21, .inp 22, .inp 23, .inp 24, .inp 25, .inp 26, .inp 27, .inp 28, .inp 29, .inp 30, .inp 31, .inp 32, .inp 33, .inp 34, .inp 35, .inp 36, .inp 37, .inp 38, .inp 39, .inp 40, .inp 41, .inp 42, .inp 43, .inp 44, .inp 45, .inp 46, .inp 47, .inp 48, .inp 49, .inp 50, .inp 51, .inp 52, .inp 53, .inp 54, .inp 55, .inp 56, .inp 57, .inp 58, .inp 59, .inp 60, .inp 61, .inp 62, .inp 63, .inp 64, .inp 65, .inp 66, .inp 67, .inp 68, .inp 69, .inp 70, .inp 71, .inp 72, .inp 73]
@[simp] noncomputable def qka0_171 : SE := .app (.bin .lss) [.inp 75, .app .len [.inp 1]]
@[simp] noncomputable def qka0_172 : SE := .app (.eidx 23) [.inp 1, .inp 75]
@[simp] noncomputable def qka0_173 : SE := .app (.eload 23 true) [qka0_172]
@[simp] noncomputable def qka0_174 : SE := .app (.part 0 1 false) [qka0_173]
@[simp] noncomputable def qka0_175 : SE := .app (.part 6 1 false) [qka0_173]
@[simp] noncomputable def qka0_176 : SE := .agg [qka0_174, .app (.part 1 1 false) [qka0_173], .app (.part 2 1 false) [qka0_173], .app (.part 3 1 false) [qka0_173], .app (.part 4 1 false) [qka0_173], .app (.part 5 1 false) [qka0_173], qka0_175, .app (.part 7 1 false) [qka0_173], .app (.part 8 1 false) [qka0_173], .app (.part 9 1 false) [qka0_173], .app (.part 10 1 false) [qka0_173], .app (.part 11 1 false) [qka0_173], .app (.part 12 1 false) [qka0_173], .app (.part 13 1 false) [qka0_173], .app (.part 14 1 false) [qka0_173], .app (.part 15 1 false) [qka0_173], .app (.part 16 1 false) [qka0_173], .app (.part 17 1 false) [qka0_173], .app (.part 18 1 false) [qka0_173], .app (.part 19 1 false) [qka0_173], .app (.part 20 1 false) [qka0_173], .app (.part 21 1 false) [qka0_173], .app (.part 22 1 false) [qka0_173]]
@[simp] noncomputable def qka0_177 : SE := .app (.bin .add) [.inp 75, .int .i64 1]
@[simp] noncomputable def qka0_178 : SE := .app (.bin .neq) [qka0_175, .int .u8 1]
@[simp] noncomputable def qka0_179 : SE := .agg [.inp 40, .inp 41, .inp 42, .inp 43, .inp 44, .inp 45, .inp 46, .inp 47, .inp 48, .inp 49, .inp 50, .inp 51, .inp 52, .inp 53, .inp 54, .inp 55, .inp 56, .inp 57, .inp 58, .inp 59, .inp 60, .inp 61, .inp 62, .inp 63, .inp 64, .inp 65, .inp 66, .inp 67, .inp 68, .inp 69, .inp 70, .inp 71, .inp 72, .inp 73, .inp 74, .inp 75, .inp 76, .inp 77, .inp 78, .inp 79, .inp 80, .inp 81, .inp 82, .inp 83, .inp 84, .inp 85, .inp 86, .inp 87, .inp 88, .inp 89, .inp 90, .inp 91, .inp 92, .inp 93, .inp 94, .inp 95, .inp 96, .inp 97, .inp 98, .inp 99, .inp 100, .inp 101, .inp 102, .inp 103, .inp 104, .inp 105, .inp 106, .inp 107, .inp 108, .inp 109, .inp 110, .inp 111, .inp 112, .inp 113]
@[simp] noncomputable def qka0_180 : SE := .app (.un .not) [.app (.tproj 1) [.inp 115]]
@[simp] noncomputable def qka0_181 : SE := .app (.bin .lss) [.inp 114, .int .i64 0]
@[simp] noncomputable def qka0_182 : SE := .app (.bin .geq) [.inp 114, .int .i64 24]
@[simp] noncomputable def qka0_183 : SE := .app (.bin .neq) [.app (.tproj 0) [.inp 118], .inp 115]
@[simp] noncomputable def qka0_184 : SE := .app (.bin .eql) [.inp 117, .inp 115]
@[simp] noncomputable def qka0_185 : SE := .app (.aidx 24 3 4 1 false) [qka0_179, .inp 114]
@[simp] noncomputable def qka0_186 : SE := .app (.un .not) [qka0_185]
@[simp] noncomputable def qka0_187 : SE := .app .pick [qka0_186, .inp 119, .bool false]
noncomputable def rt_slices_Sort_int : RT :=
.seg [.chk [] .len [.nils]] <|
.seg [.chk [] (.conv .u64) [.int .i64 0]] <|
.seg [.call 0 [] 127 [.int .u64 0] false] <|
.loop 0 1 [] <|
.seg [.chk [] (.bin .sub) [.int .i64 0, .int .i64 0]] <|
.seg [.chk [] (.bin .leq) [.int .i64 0, .int .i64 12]] <|
.seg [.chk [] (.bin .add) [.int .i64 0, .int .i64 1]] <|
.loop 1 1 [] <|
.seg [.chk [] (.bin .lss) [.int .i64 1, .int .i64 0]] <|
.ret (.tup [])
theorem run_slices_Sort_int : runF ES 91 [.nils] 0 = rt_slices_Sort_int := by kernel_rfl

noncomputable def rt_image_bit : RT :=
.seg [.chk [] .isOne [.inp 0]] <|
.ret (.clo 117 [] [.ref [.inp 0] 0])
theorem run_image_bit : runF E 82 [.inp 0] 1 = rt_image_bit := by kernel_rfl

noncomputable def rt_image_bit_1 : RT :=
.seg [.chk [] (.bin .geq) [.inp 0, .int .i64 0],
.chk [(qka0_0, true)] (.bin .lss) [.inp 0, .int .i64 32],
.chk [] .pick [qka0_0, qka0_1, .bool false],
.chk [(qka0_2, true)] (.eload 1 false) [.ref [.inp 1] 0],
.chk [(qka0_2, true)] (.bin .shl) [.int .u32 1, .inp 0],
.chk [(qka0_2, true)] (.bin .and) [qka0_3, qka0_4],
.chk [(qka0_2, true)] (.bin .neq) [qka0_5, .int .u32 0],
.chk [] .pick [qka0_2, qka0_6, .bool false]] <|
.seg [.bind 2 (.app .pick [qka0_2, qka0_6, .bool false])] <|
.ret (.inp 2)
theorem run_image_bit_1 : runF E 117 [.inp 0, .ref [.inp 1] 0] 2 = rt_image_bit_1 := by kernel_rfl

noncomputable def rt_image_clear : RT :=
.seg [.chk [] (.isAgg 11) [qka0_7]] <|
.seg [.chk [] (.isAgg 29) [qka0_8]] <|
.seg [.call 40 [] 81 [qka0_7, qka0_8] false,
.call 41 [] 82 [.inp 36] false,
.same 41 [] (qka0_9),
.chk [] .isOne [.inp 40]] <|
.ret (.clo 115 [] [.ref [.inp 40] 0, qka0_10])
theorem run_image_clear : runF E 80 [.agg [.inp 0, .inp 1, .inp 2, .inp 3, .inp 4, .inp 5, .inp 6, .inp 7, .inp 8, .inp 9, .inp 10], .agg [.inp 11, .inp 12, .inp 13, .inp 14, .inp 15, .inp 16, .inp 17, .inp 18, .inp 19, .inp 20, .inp 21, .inp 22, .inp 23, .inp 24, .inp 25, .inp 26, .inp 27, .inp 28, .inp 29, .inp 30, .inp 31, .inp 32, .inp 33, .inp 34, .inp 35, .inp 36, .inp 37, .inp 38, .inp 39]] 40 = rt_image_clear := by kernel_rfl

noncomputable def rt_image_clear_1 : RT :=
.seg [.chk [] (.eload 1 false) [.ref [.inp 1] 0]] <|
.seg [.chk [] (.un .not) [qka0_3]] <|
.seg [.chk [(qka0_11, true)] (.eload 1 false) [.ref [.clo 117 [] [.ref [.inp 2] 0]] 0]] <|
.seg [.call 3 [(qka0_11, true)] 117 [.inp 0, .ref [.inp 2] 0] false] <|
.seg [.chk [(qka0_11, true)] (.un .not) [.inp 3]] <|
.seg [.chk [] .pick [qka0_11, .app (.un .not) [.inp 3], .bool false]] <|
.ret (.app .pick [qka0_11, .app (.un .not) [.inp 3], .bool false])
theorem run_image_clear_1 : runF E 115 [.inp 0, .ref [.inp 1] 0, .ref [.clo 117 [] [.ref [.inp 2] 0]] 0] 3 = rt_image_clear_1 := by kernel_rfl

noncomputable def rt_image_Stale : RT :=
.seg [.chk [] (.isAgg 11) [qka0_7]] <|
.seg [.chk [] (.isAgg 29) [qka0_8]] <|
.seg [.call 40 [] 116 [.inp 11, .inp 6] false] <|
.ret (.inp 40)
theorem run_image_Stale : runF E 81 [.agg [.inp 0, .inp 1, .inp 2, .inp 3, .inp 4, .inp 5, .inp 6, .inp 7, .inp 8, .inp 9, .inp 10], .agg [.inp 11, .inp 12, .inp 13, .inp 14, .inp 15, .inp 16, .inp 17, .inp 18, .inp 19, .inp 20, .inp 21, .inp 22, .inp 23, .inp 24, .inp 25, .inp 26, .inp 27, .inp 28, .inp 29, .inp 30, .inp 31, .inp 32, .inp 33, .inp 34, .inp 35, .inp 36, .inp 37, .inp 38, .inp 39]] 40 = rt_image_Stale := by kernel_rfl

noncomputable def rt_image_Occupied : RT :=
.seg [.chk [] (.isAgg 11) [qka0_7]] <|
.seg [.chk [] (.isAgg 29) [qka0_8]] <|
.seg [.chk [] (.bin .lss) [.inp 40, .int .i64 0]] <|
.seg [.chk [(qka0_12, false)] .len [.inp 0]] <|
.seg [.chk [(qka0_12, false)] (.mm false) [.app .len [.inp 0], .int .i64 24]] <|
.seg [.chk [(qka0_12, false)] (.bin .geq) [.inp 40, qka0_13]] <|
.seg [.chk [] .pick [qka0_12, .bool true, qka0_14]] <|
.seg [.bind 41 (.app .pick [qka0_12, .bool true, qka0_14])] <|
.cond (.inp 41)
 (.ret (.bool true))
 (.seg [.call 42 [] 80 [qka0_7, qka0_8] false,
.same 42 [] (.clo 115 [] [qka0_15, qka0_10]),
.call 43 [] 115 [.inp 40, qka0_15, qka0_10] false,
.chk [] (.un .not) [.inp 43],
.chk [(.app (.un .not) [.inp 43], false)] (.inr 24) [.inp 40],
.chk [(.app (.un .not) [.inp 43], false)] (.aidx 24 1 1 1 false) [qka0_8, .inp 40],
.chk [(.app (.un .not) [.inp 43], false)] (.bin .lss) [qka0_16, .inp 4],
.chk [] .pick [.app (.un .not) [.inp 43], .bool true, qka0_17]] <|
.seg [.bind 44 (.app .pick [.app (.un .not) [.inp 43], .bool true, qka0_17]),
.bind 45 (qka0_16),
.bind 46 (qka0_17)] <|
.ret (.inp 44))
theorem run_image_Occupied : runF E 46 [.agg [.inp 0, .inp 1, .inp 2, .inp 3, .inp 4, .inp 5, .inp 6, .inp 7, .inp 8, .inp 9, .inp 10], .agg [.inp 11, .inp 12, .inp 13, .inp 14, .inp 15, .inp 16, .inp 17, .inp 18, .inp 19, .inp 20, .inp 21, .inp 22, .inp 23, .inp 24, .inp 25, .inp 26, .inp 27, .inp 28, .inp 29, .inp 30, .inp 31, .inp 32, .inp 33, .inp 34, .inp 35, .inp 36, .inp 37, .inp 38, .inp 39], .inp 40] 41 = rt_image_Occupied := by kernel_rfl

noncomputable def rt_image_At : RT :=
.seg [.chk [] (.isAgg 11) [qka0_7]] <|
.seg [.chk [] (.isAgg 29) [qka0_8]] <|
.seg [.chk [] (.bin .lss) [.inp 40, .int .i64 0]] <|
.seg [.chk [(qka0_12, false)] .len [.inp 0]] <|
.seg [.chk [(qka0_12, false)] (.bin .geq) [.inp 40, .app .len [.inp 0]]] <|
.seg [.chk [] .pick [qka0_12, .bool true, qka0_18]] <|
.seg [.chk [(qka0_19, false)] (.eidx 11) [.inp 0, .inp 40]] <|
.seg [.chk [(qka0_19, false)] (.eoff 0) [qka0_20]] <|
.seg [.chk [(qka0_19, false)] (.eload 1 false) [qka0_21]] <|
.seg [.chk [(qka0_19, false)] (.bin .neq) [qka0_22, .int .u8 2]] <|
.seg [.chk [] .pick [qka0_19, .bool true, qka0_23]] <|
.seg [.call 41 [(qka0_24, false)] 81 [qka0_7, qka0_8] false] <|
.seg [.chk [] .pick [qka0_24, .bool true, .inp 41]] <|
.seg [.bind 42 (qka0_24),
.bind 43 (.app .pick [qka0_24, .bool true, .inp 41])] <|
.cond (.inp 43)
 (.ret (.int .i64 (-1)))
 (.seg [.call 44 [] 82 [.inp 37] false,
.same 44 [] (.clo 117 [] [.ref [.inp 37] 0]),
.call 45 [] 117 [.inp 40, .ref [.inp 37] 0] false,
.call 46 [] 82 [.inp 38] false,
.same 46 [] (.clo 117 [] [.ref [.inp 38] 0]),
.call 47 [] 117 [.inp 40, .ref [.inp 38] 0] false] <|
.seg [.chk [(.inp 45, true)] (.un .not) [.inp 47]] <|
.seg [.chk [] .pick [.inp 45, .app (.un .not) [.inp 47], .bool false]] <|
.cond (.app .pick [.inp 45, .app (.un .not) [.inp 47], .bool false])
 (.ret (.int .i64 0))
 (.seg [.chk [(.inp 47, true)] (.un .not) [.inp 45]] <|
.seg [.chk [] .pick [.inp 47, .app (.un .not) [.inp 45], .bool false]] <|
.cond (.app .pick [.inp 47, .app (.un .not) [.inp 45], .bool false])
 (.ret (.int .i64 1))
 (.ret (.int .i64 (-1)))))
theorem run_image_At : runF E 47 [.agg [.inp 0, .inp 1, .inp 2, .inp 3, .inp 4, .inp 5, .inp 6, .inp 7, .inp 8, .inp 9, .inp 10], .agg [.inp 11, .inp 12, .inp 13, .inp 14, .inp 15, .inp 16, .inp 17, .inp 18, .inp 19, .inp 20, .inp 21, .inp 22, .inp 23, .inp 24, .inp 25, .inp 26, .inp 27, .inp 28, .inp 29, .inp 30, .inp 31, .inp 32, .inp 33, .inp 34, .inp 35, .inp 36, .inp 37, .inp 38, .inp 39], .inp 40] 41 = rt_image_At := by kernel_rfl

noncomputable def rt_tick_Late : RT :=
.seg [.chk [] (.bin .lss) [.inp 1, .inp 0]] <|
.ret (.app (.bin .lss) [.inp 1, .inp 0])
theorem run_tick_Late : runF E 116 [.inp 0, .inp 1] 2 = rt_tick_Late := by kernel_rfl

noncomputable def rt_route_Own : RT :=
.seg [.chk [] (.isAgg 3) [qka0_25]] <|
.seg [.call 3 [] 84 [.inp 2] false] <|
.seg [.chk [] .isOne [.inp 3]] <|
.seg [.chk [] (.isAgg 3) [qka0_26]] <|
.ret (qka0_26)
theorem run_route_Own : runF E 102 [.agg [.inp 0, .inp 1, .inp 2]] 3 = rt_route_Own := by kernel_rfl

noncomputable def rt_slices_Clone_Step : RT :=
.seg [.chk [] .len [.inp 0],
.isNil 1 [] (.inp 0)] <|
.cond (.inp 1)
 (.ret (.nils))
 (.seg [.chk [] (.szs 3) [.inp 0],
.chk [] .app [.app .lst [], .inp 0]] <|
.ret (qka0_27))
theorem run_slices_Clone_Step : runF E 84 [.inp 0] 1 = rt_slices_Clone_Step := by kernel_rfl

noncomputable def rt_slices_Clone_Need : RT :=
.seg [.chk [] .len [.inp 0],
.isNil 1 [] (.inp 0)] <|
.cond (.inp 1)
 (.ret (.nils))
 (.seg [.chk [] (.szs 3) [.inp 0],
.chk [] .app [.app .lst [], .inp 0]] <|
.ret (qka0_27))
theorem run_slices_Clone_Need : runF E 103 [.inp 0] 1 = rt_slices_Clone_Need := by kernel_rfl

noncomputable def rt_held_clash : RT :=
.seg [.chk [] .isOne [.inp 1]] <|
.seg [.chk [] .len [.inp 0]] <|
.loop 0 2 [.int .i64 0] <|
.seg [.chk [] (.bin .lss) [.inp 2, .app .len [.inp 0]]] <|
.cond (qka0_28)
 (.seg [.chk [] (.eidx 3) [.inp 0, .inp 2]] <|
.seg [.chk [] (.eload 3 true) [qka0_29]] <|
.seg [.chk [] (.isAgg 3) [qka0_30]] <|
.seg [.chk [] .len [.inp 1]] <|
.loop 1 3 [.int .i64 0] <|
.seg [.chk [] (.bin .lss) [.inp 3, .app .len [.inp 1]]] <|
.cond (.app (.bin .lss) [.inp 3, .app .len [.inp 1]])
 (.seg [.chk [] (.eidx 3) [.inp 1, .inp 3]] <|
.seg [.chk [] (.eload 3 true) [qka0_31]] <|
.seg [.chk [] (.isAgg 3) [qka0_32]] <|
.seg [.chk [] (.isAgg 3) [.agg [qka0_33, qka0_34, .app (.part 2 1 false) [qka0_30]]]] <|
.seg [.chk [] (.isAgg 3) [.agg [qka0_35, qka0_36, .app (.part 2 1 false) [qka0_32]]]] <|
.seg [.chk [] (.bin .eql) [qka0_33, qka0_35]] <|
.seg [.chk [(qka0_37, true)] (.bin .neq) [qka0_34, qka0_36]] <|
.seg [.chk [] .pick [qka0_37, qka0_38, .bool false]] <|
.seg [.bind 4 (.app .pick [qka0_37, qka0_38, .bool false]),
.bind 5 (qka0_37),
.bind 6 (qka0_38)] <|
.cond (.inp 4)
 (.seg [.chk [] (.bin .geq) [.inp 3, .int .i64 0]] <|
.cond (.app (.bin .geq) [.inp 3, .int .i64 0])
 (.seg [.chk [] (.bin .geq) [.inp 2, .int .i64 0]] <|
.ret (.app (.bin .geq) [.inp 2, .int .i64 0]))
 (.seg [.chk [] (.bin .add) [.inp 2, .int .i64 1]] <|
.again 0 [qka0_39]))
 (.seg [.chk [] (.bin .add) [.inp 3, .int .i64 1]] <|
.again 1 [.app (.bin .add) [.inp 3, .int .i64 1]]))
 (.seg [.chk [] (.bin .geq) [.int .i64 (-1), .int .i64 0]] <|
.seg [.chk [] (.bin .add) [.inp 2, .int .i64 1]] <|
.again 0 [qka0_39]))
 (.seg [.chk [] (.bin .geq) [.int .i64 (-1), .int .i64 0]] <|
.ret (.bool false))
theorem run_held_clash : runF E 89 [.inp 0, .inp 1] 2 = rt_held_clash := by kernel_rfl

noncomputable def rt_held_Needs : RT :=
.seg [.chk [] (.isAgg 23) [qka0_40]] <|
.seg [.chk [] (.isAgg 23) [qka0_40]] <|
.seg [.chk [] (.mm true) [.inp 7, .int .i64 0],
.chk [] .len [.inp 3],
.chk [] .isOne [qka0_41],
.chk [] .isOne [.app .len [.inp 3]]] <|
.seg [.chk [] .len [.inp 5]] <|
.loop 0 23 [.nils, .int .i64 0] <|
.seg [.chk [] (.bin .lss) [.inp 24, .app .len [.inp 5]]] <|
.cond (.app (.bin .lss) [.inp 24, .app .len [.inp 5]])
 (.seg [.chk [] (.eidx 3) [.inp 5, .inp 24]] <|
.seg [.chk [] (.eload 3 true) [qka0_42]] <|
.seg [.chk [] (.isAgg 3) [qka0_43]] <|
.seg [.chk [] (.isAgg 3) [qka0_45]] <|
.seg [.chk [] (.bin .geq) [qka0_44, qka0_41]] <|
.seg [.chk [(qka0_46, true)] (.bin .neq) [qka0_44, .app .len [.inp 3]]] <|
.seg [.chk [(qka0_47, false), (qka0_46, true)] (.un .not) [.inp 20]] <|
.seg [.chk [(qka0_46, true)] .pick [qka0_47, .bool true, .app (.un .not) [.inp 20]]] <|
.seg [.chk [] .pick [qka0_46, qka0_48, .bool false]] <|
.seg [.bind 25 (.app .pick [qka0_46, qka0_48, .bool false]),
.bind 26 (qka0_48)] <|
.cond (.inp 25)
 (.seg [.chk [] (.isAgg 3) [qka0_45]] <|
.seg [.chk [] (.szs 3) [qka0_49],
.chk [] .app [.inp 23, qka0_49]] <|
.seg [.bind 27 (qka0_49),
.bind 28 (.app .app [.inp 23, qka0_49])] <|
.seg [.chk [] (.bin .add) [.inp 24, .int .i64 1]] <|
.again 0 [.inp 28, qka0_50])
 (.seg [.chk [] (.bin .add) [.inp 24, .int .i64 1]] <|
.again 0 [.inp 23, qka0_50]))
 (.ret (.inp 23))
theorem run_held_Needs : runF E 79 [.agg [.inp 0, .inp 1, .inp 2, .inp 3, .inp 4, .inp 5, .inp 6, .inp 7, .inp 8, .inp 9, .inp 10, .inp 11, .inp 12, .inp 13, .inp 14, .inp 15, .inp 16, .inp 17, .inp 18, .inp 19, .inp 20, .inp 21, .inp 22]] 23 = rt_held_Needs := by kernel_rfl

noncomputable def rt_held_Own : RT :=
.seg [.chk [] (.isAgg 23) [qka0_40]] <|
.seg [.call 23 [] 102 [qka0_51] false,
.call 24 [] 84 [.inp 4] false,
.call 25 [] 103 [.inp 5] false,
.chk [] (.isAgg 3) [.inp 23],
.chk [] .isOne [.inp 24],
.chk [] .isOne [.inp 25]] <|
.seg [.chk [] (.isAgg 23) [qka0_52]] <|
.ret (qka0_52)
theorem run_held_Own : runF E 67 [.agg [.inp 0, .inp 1, .inp 2, .inp 3, .inp 4, .inp 5, .inp 6, .inp 7, .inp 8, .inp 9, .inp 10, .inp 11, .inp 12, .inp 13, .inp 14, .inp 15, .inp 16, .inp 17, .inp 18, .inp 19, .inp 20, .inp 21, .inp 22]] 23 = rt_held_Own := by kernel_rfl

noncomputable def rt_held_Right : RT :=
.seg [.chk [] (.isAgg 23) [qka0_40]] <|
.seg [.chk [] .len [.inp 3]] <|
.seg [.chk [] (.bin .lss) [.inp 0, .int .i64 1]] <|
.seg [.chk [(qka0_53, false)] (.mm true) [.inp 0, .inp 21]] <|
.seg [.chk [(qka0_53, false)] (.bin .gtr) [qka0_54, .int .i64 1073741824]] <|
.seg [.chk [] .pick [qka0_53, .bool true, qka0_55]] <|
.seg [.chk [(qka0_56, false)] (.bin .lss) [.inp 21, .int .i64 0]] <|
.seg [.chk [] .pick [qka0_56, .bool true, qka0_57]] <|
.seg [.chk [(qka0_58, false)] (.bin .lss) [.app .len [.inp 3], .int .i64 1]] <|
.seg [.chk [] .pick [qka0_58, .bool true, qka0_59]] <|
.seg [.chk [(qka0_60, false)] (.bin .gtr) [.app .len [.inp 3], .int .i64 12]] <|
.seg [.chk [] .pick [qka0_60, .bool true, qka0_61]] <|
.seg [.chk [(qka0_62, false)] .len [.inp 4]] <|
.seg [.chk [(qka0_62, false)] (.bin .gtr) [.app .len [.inp 4], .int .i64 2]] <|
.seg [.chk [] .pick [qka0_62, .bool true, qka0_63]] <|
.seg [.bind 23 (qka0_56),
.bind 24 (qka0_58),
.bind 25 (qka0_60),
.bind 26 (qka0_62),
.bind 27 (.app .pick [qka0_62, .bool true, qka0_63])] <|
.cond (.inp 27)
 (.ret (.bool false))
 (.seg [.chk [] (.bin .eql) [.inp 6, .int .u8 0]] <|
.seg [.chk [(qka0_64, false)] (.bin .geq) [.inp 6, .int .u8 5]] <|
.seg [.chk [] .pick [qka0_64, .bool true, qka0_65]] <|
.seg [.chk [(qka0_66, false)] (.bin .lss) [.inp 7, .int .i64 0]] <|
.seg [.chk [] .pick [qka0_66, .bool true, qka0_67]] <|
.seg [.chk [(qka0_68, false)] (.bin .gtr) [.inp 7, .app .len [.inp 3]]] <|
.seg [.chk [] .pick [qka0_68, .bool true, qka0_69]] <|
.seg [.call 28 [(qka0_70, false)] 89 [.inp 5, .inp 5] false] <|
.seg [.chk [] .pick [qka0_70, .bool true, .inp 28]] <|
.seg [.bind 29 (qka0_68),
.bind 30 (qka0_70),
.bind 31 (.app .pick [qka0_70, .bool true, .inp 28])] <|
.cond (.inp 31)
 (.ret (.bool false))
 (.seg [.chk [] (.eoff 8) [qka0_71],
.chk [] (.slice false true) [qka0_72, .app .len [.inp 3]],
.chk [] .isOne [.inp 8],
.chk [] .isOne [.inp 9],
.chk [] .isOne [.inp 10],
.chk [] .isOne [.inp 11],
.chk [] .isOne [.inp 12],
.chk [] .isOne [.inp 13],
.chk [] .isOne [.inp 14],
.chk [] .isOne [.inp 15],
.chk [] .isOne [.inp 16],
.chk [] .isOne [.inp 17],
.chk [] .isOne [.inp 18],
.chk [] .isOne [.inp 19],
.chk [] (.szs 1) [qka0_73]] <|
.seg [.bind 32 (qka0_73),
.bind 33 (.app .pick [.app (.bin .lss) [.int .i64 0, qka0_74], .app (.rowget 1 0 1 false) [qka0_73, .int .i64 0], .bool false]),
.bind 34 (.app .pick [.app (.bin .lss) [.int .i64 1, qka0_74], .app (.rowget 1 0 1 false) [qka0_73, .int .i64 1], .bool false]),
.bind 35 (.app .pick [.app (.bin .lss) [.int .i64 2, qka0_74], .app (.rowget 1 0 1 false) [qka0_73, .int .i64 2], .bool false]),
.bind 36 (.app .pick [.app (.bin .lss) [.int .i64 3, qka0_74], .app (.rowget 1 0 1 false) [qka0_73, .int .i64 3], .bool false]),
.bind 37 (.app .pick [.app (.bin .lss) [.int .i64 4, qka0_74], .app (.rowget 1 0 1 false) [qka0_73, .int .i64 4], .bool false]),
.bind 38 (.app .pick [.app (.bin .lss) [.int .i64 5, qka0_74], .app (.rowget 1 0 1 false) [qka0_73, .int .i64 5], .bool false]),
.bind 39 (.app .pick [.app (.bin .lss) [.int .i64 6, qka0_74], .app (.rowget 1 0 1 false) [qka0_73, .int .i64 6], .bool false]),
.bind 40 (.app .pick [.app (.bin .lss) [.int .i64 7, qka0_74], .app (.rowget 1 0 1 false) [qka0_73, .int .i64 7], .bool false]),
.bind 41 (.app .pick [.app (.bin .lss) [.int .i64 8, qka0_74], .app (.rowget 1 0 1 false) [qka0_73, .int .i64 8], .bool false]),
.bind 42 (.app .pick [.app (.bin .lss) [.int .i64 9, qka0_74], .app (.rowget 1 0 1 false) [qka0_73, .int .i64 9], .bool false]),
.bind 43 (.app .pick [.app (.bin .lss) [.int .i64 10, qka0_74], .app (.rowget 1 0 1 false) [qka0_73, .int .i64 10], .bool false]),
.bind 44 (.app .pick [.app (.bin .lss) [.int .i64 11, qka0_74], .app (.rowget 1 0 1 false) [qka0_73, .int .i64 11], .bool false])] <|
.seg [.chk [] (.eoff 8) [qka0_71]] <|
.seg [.chk [] (.eload 12 true) [qka0_75]] <|
.seg [.chk [] (.eqa [ none, none, none, none, none, none, none, none, none, none, none, none] true) [qka0_76, qka0_77]] <|
.seg [.bind 45 (qka0_77),
.bind 46 (.app (.eqa [ none, none, none, none, none, none, none, none, none, none, none, none] true) [qka0_76, qka0_77])] <|
.cond (.inp 46)
 (.ret (.bool false))
 (.seg [.chk [] (.eoff 1) [qka0_71]] <|
.seg [.chk [] (.eoff 2) [.ref [.inp 0, .inp 1, .inp 2, .inp 3, .inp 4, .inp 5, .inp 6, .inp 7, .inp 8, .inp 9, .inp 10, .inp 11, .inp 12, .inp 13, .inp 14, .inp 15, .inp 16, .inp 17, .inp 18, .inp 19, .inp 20, .inp 21, .inp 22] 1]] <|
.seg [.chk [] (.eload 1 false) [qka0_78]] <|
.seg [.chk [] (.eoff 4) [qka0_71]] <|
.seg [.chk [] (.eload 1 false) [qka0_79]] <|
.seg [.chk [] .isOne [qka0_80],
.chk [] .isOne [qka0_81],
.chk [] .isOne [qka0_80],
.chk [] .isOne [qka0_81]] <|
.seg [.call 47 [] 90 [qka0_82] false] <|
.seg [.chk [] .len [.inp 47]] <|
.seg [.bind 48 (qka0_80),
.bind 49 (qka0_81),
.bind 50 (qka0_82)] <|
.loop 0 51 [.nils, .int .i64 0] <|
.seg [.chk [] (.bin .lss) [.inp 52, .app .len [.inp 47]]] <|
.cond (.app (.bin .lss) [.inp 52, .app .len [.inp 47]])
 (.seg [.chk [] (.eidx 3) [.inp 47, .inp 52]] <|
.seg [.chk [] (.eload 3 true) [qka0_83]] <|
.seg [.chk [] (.isAgg 3) [qka0_84]] <|
.seg [.chk [] .isOne [qka0_85],
.chk [] .isOne [qka0_85]] <|
.seg [.chk [] (.szs 1) [qka0_86],
.chk [] .app [.inp 51, qka0_86]] <|
.seg [.chk [] (.bin .add) [.inp 52, .int .i64 1]] <|
.again 0 [.app .app [.inp 51, qka0_86], .app (.bin .add) [.inp 52, .int .i64 1]])
 (.seg [.srt 53 (.inp 51)] <|
.seg [.cmp 54 (.inp 53),
.chk [] .len [.inp 54],
.chk [] (.eoff 4) [qka0_71],
.chk [] (.eload 1 false) [qka0_79],
.chk [] .len [qka0_81],
.chk [] (.bin .add) [.app .len [.inp 3], qka0_87],
.chk [] (.bin .lss) [.app .len [.inp 54], qka0_88]] <|
.seg [.bind 55 (qka0_81),
.bind 56 (qka0_87),
.bind 57 (qka0_88),
.bind 58 (.app (.bin .lss) [.app .len [.inp 54], qka0_88])] <|
.cond (.inp 58)
 (.ret (.bool false))
 (.seg [.chk [] (.eoff 5) [qka0_71]] <|
.seg [.chk [] (.eload 1 false) [qka0_89]] <|
.seg [.chk [] .len [qka0_90]] <|
.seg [.bind 59 (qka0_90),
.bind 60 (.app .len [qka0_90])] <|
.loop 0 61 [.int .i64 0] <|
.seg [.chk [] (.bin .lss) [.inp 61, .inp 60]] <|
.cond (.app (.bin .lss) [.inp 61, .inp 60])
 (.seg [.chk [] (.eidx 3) [.inp 59, .inp 61]] <|
.seg [.chk [] (.eload 3 true) [qka0_91]] <|
.seg [.chk [] (.isAgg 3) [qka0_92]] <|
.seg [.chk [] (.bin .lss) [qka0_93, .int .i64 0]] <|
.seg [.chk [(qka0_94, false)] (.bin .gtr) [qka0_93, .app .len [.inp 3]]] <|
.seg [.chk [] .pick [qka0_94, .bool true, qka0_95]] <|
.seg [.chk [(qka0_96, false)] (.bin .lss) [qka0_97, .int .i64 0]] <|
.seg [.chk [] .pick [qka0_96, .bool true, qka0_98]] <|
.seg [.chk [(qka0_99, false)] (.bin .geq) [qka0_97, .int .i64 24]] <|
.seg [.chk [] .pick [qka0_99, .bool true, qka0_100]] <|
.seg [.chk [(qka0_101, false)] (.bin .shr) [qka0_102, .int .u64 1]] <|
.seg [.chk [(qka0_101, false)] (.bin .neq) [qka0_103, .int .i64 0]] <|
.seg [.chk [] .pick [qka0_101, .bool true, qka0_104]] <|
.seg [.bind 62 (qka0_96),
.bind 63 (qka0_99),
.bind 64 (qka0_101),
.bind 65 (.app .pick [qka0_101, .bool true, qka0_104])] <|
.cond (.inp 65)
 (.ret (.bool false))
 (.seg [.chk [] (.bin .add) [.inp 61, .int .i64 1]] <|
.again 0 [.app (.bin .add) [.inp 61, .int .i64 1]]))
 (.ret (.bool true)))))))
theorem run_held_Right : runF E 57 [.agg [.inp 0, .inp 1, .inp 2, .inp 3, .inp 4, .inp 5, .inp 6, .inp 7, .inp 8, .inp 9, .inp 10, .inp 11, .inp 12, .inp 13, .inp 14, .inp 15, .inp 16, .inp 17, .inp 18, .inp 19, .inp 20, .inp 21, .inp 22]] 23 = rt_held_Right := by kernel_rfl

noncomputable def rt_slices_Concat_Step : RT :=
.seg [.chk [] .len [.inp 0]] <|
.loop 0 1 [.int .i64 0, .int .i64 0] <|
.seg [.chk [] (.bin .lss) [.inp 2, .app .len [.inp 0]]] <|
.cond (qka0_28)
 (.seg [.chk [] (.eidx 1) [.inp 0, .inp 2]] <|
.seg [.chk [] (.eload 1 false) [qka0_105]] <|
.seg [.chk [] .len [qka0_106]] <|
.seg [.chk [] (.bin .add) [.inp 1, qka0_107]] <|
.seg [.chk [] (.bin .lss) [qka0_108, .int .i64 0]] <|
.cond (.app (.bin .lss) [qka0_108, .int .i64 0])
 (.dead 6 [.int .i64 9])
 (.seg [.chk [] (.bin .add) [.inp 2, .int .i64 1]] <|
.again 0 [qka0_108, qka0_39]))
 (.seg [.chk [] (.bin .lss) [.inp 1, .int .i64 0]] <|
.cond (.app (.bin .lss) [.inp 1, .int .i64 0])
 (.dead 6 [.int .i64 9])
 (.seg [.chk [] .len [.nils]] <|
.seg [.chk [] (.bin .sub) [.int .i64 0, .int .i64 0]] <|
.seg [.chk [] (.bin .sub) [.inp 1, .int .i64 0]] <|
.seg [.chk [] (.bin .gtr) [qka0_109, .int .i64 0]] <|
.cond (.app (.bin .gtr) [qka0_109, .int .i64 0])
 (.seg [.chk [] .rep [qka0_109, qka0_110]] <|
.seg [.chk [] .len [.nils]] <|
.seg [.chk [] (.slice false true) [qka0_111, .int .i64 0]] <|
.seg [.bind 3 (.app (.slice false true) [qka0_111, .int .i64 0])] <|
.seg [.chk [] .len [.inp 0]] <|
.loop 0 4 [.inp 3, .int .i64 0] <|
.seg [.chk [] (.bin .lss) [.inp 5, .app .len [.inp 0]]] <|
.cond (.app (.bin .lss) [.inp 5, .app .len [.inp 0]])
 (.seg [.chk [] (.eidx 1) [.inp 0, .inp 5]] <|
.seg [.chk [] (.eload 1 false) [qka0_112]] <|
.seg [.chk [] (.szs 3) [qka0_113],
.chk [] .app [.inp 4, qka0_113]] <|
.seg [.chk [] (.bin .add) [.inp 5, .int .i64 1]] <|
.again 0 [.app .app [.inp 4, qka0_113], .app (.bin .add) [.inp 5, .int .i64 1]])
 (.ret (.inp 4)))
 (.seg [.chk [] .len [.inp 0]] <|
.loop 0 3 [.nils, .int .i64 0] <|
.seg [.chk [] (.bin .lss) [.inp 4, .app .len [.inp 0]]] <|
.cond (.app (.bin .lss) [.inp 4, .app .len [.inp 0]])
 (.seg [.chk [] (.eidx 1) [.inp 0, .inp 4]] <|
.seg [.chk [] (.eload 1 false) [qka0_114]] <|
.seg [.chk [] (.szs 3) [qka0_115],
.chk [] .app [.inp 3, qka0_115]] <|
.seg [.chk [] (.bin .add) [.inp 4, .int .i64 1]] <|
.again 0 [.app .app [.inp 3, qka0_115], .app (.bin .add) [.inp 4, .int .i64 1]])
 (.ret (.inp 3)))))
theorem run_slices_Concat_Step : runF E 90 [.inp 0] 1 = rt_slices_Concat_Step := by kernel_rfl

noncomputable def rt_held_Sections : RT :=
.seg [.chk [] (.isAgg 23) [qka0_40]] <|
.seg [.chk [] (.isAgg 23) [qka0_40]] <|
.seg [.chk [] .len [.inp 3]] <|
.loop 0 23 [.int .i64 0, .nils] <|
.seg [.chk [] (.bin .lss) [.inp 23, .app .len [.inp 3]]] <|
.cond (.app (.bin .lss) [.inp 23, .app .len [.inp 3]])
 (.seg [.chk [] (.eidx 3) [.inp 3, .inp 23]] <|
.seg [.chk [] (.eload 3 true) [qka0_116]] <|
.seg [.chk [] (.isAgg 3) [qka0_117]] <|
.seg [.chk [] (.bin .geq) [.inp 23, .inp 7]] <|
.cond (.app (.bin .geq) [.inp 23, .inp 7])
 (.seg [.chk [] .isOne [qka0_118],
.chk [] .isOne [qka0_118]] <|
.seg [.chk [] (.szs 1) [qka0_119],
.chk [] .app [.inp 24, qka0_119]] <|
.seg [.chk [] (.un .not) [.bool true]] <|
.seg [.chk [] (.bin .add) [.inp 23, .int .i64 1]] <|
.again 0 [qka0_120, .app .app [.inp 24, qka0_119]])
 (.seg [.chk [] (.bin .add) [.inp 23, .int .i64 1]] <|
.again 0 [qka0_120, .inp 24]))
 (.seg [.chk [] .len [.inp 4]] <|
.loop 0 25 [.int .i64 0, .inp 24] <|
.seg [.chk [] (.bin .lss) [.inp 25, .app .len [.inp 4]]] <|
.cond (.app (.bin .lss) [.inp 25, .app .len [.inp 4]])
 (.seg [.chk [] (.eidx 3) [.inp 4, .inp 25]] <|
.seg [.chk [] (.eload 3 true) [qka0_121]] <|
.seg [.chk [] (.isAgg 3) [qka0_122]] <|
.seg [.chk [] (.un .not) [.inp 20]] <|
.cond (.inp 20)
 (.seg [.chk [] (.bin .add) [.inp 25, .int .i64 1]] <|
.again 0 [qka0_123, .inp 26])
 (.seg [.chk [] .isOne [qka0_124],
.chk [] .isOne [qka0_124]] <|
.seg [.chk [] (.szs 1) [qka0_125],
.chk [] .app [.inp 26, qka0_125]] <|
.seg [.chk [] (.un .not) [.bool true]] <|
.seg [.chk [] (.bin .add) [.inp 25, .int .i64 1]] <|
.again 0 [qka0_123, .app .app [.inp 26, qka0_125]]))
 (.ret (.inp 26)))
theorem run_held_Sections : runF E 113 [.agg [.inp 0, .inp 1, .inp 2, .inp 3, .inp 4, .inp 5, .inp 6, .inp 7, .inp 8, .inp 9, .inp 10, .inp 11, .inp 12, .inp 13, .inp 14, .inp 15, .inp 16, .inp 17, .inp 18, .inp 19, .inp 20, .inp 21, .inp 22]] 23 = rt_held_Sections := by kernel_rfl

noncomputable def rt_held_Has : RT :=
.seg [.chk [] (.isAgg 23) [qka0_40]] <|
.seg [.call 24 [] 113 [qka0_40] false] <|
.seg [.chk [] .len [.inp 24]] <|
.loop 0 25 [.int .i64 0] <|
.seg [.chk [] (.bin .lss) [.inp 25, .app .len [.inp 24]]] <|
.cond (qka0_126)
 (.seg [.chk [] (.eidx 1) [.inp 24, .inp 25]] <|
.seg [.chk [] (.eload 1 false) [qka0_127]] <|
.seg [.chk [] (.bin .eql) [.inp 23, qka0_128]] <|
.cond (.app (.bin .eql) [.inp 23, qka0_128])
 (.seg [.chk [] (.bin .geq) [.inp 25, .int .i64 0]] <|
.ret (.app (.bin .geq) [.inp 25, .int .i64 0]))
 (.seg [.chk [] (.bin .add) [.inp 25, .int .i64 1]] <|
.again 0 [qka0_123]))
 (.seg [.chk [] (.bin .geq) [.int .i64 (-1), .int .i64 0]] <|
.ret (.bool false))
theorem run_held_Has : runF E 78 [.agg [.inp 0, .inp 1, .inp 2, .inp 3, .inp 4, .inp 5, .inp 6, .inp 7, .inp 8, .inp 9, .inp 10, .inp 11, .inp 12, .inp 13, .inp 14, .inp 15, .inp 16, .inp 17, .inp 18, .inp 19, .inp 20, .inp 21, .inp 22], .inp 23] 24 = rt_held_Has := by kernel_rfl

noncomputable def rt_held_Wants : RT :=
.seg [.chk [] (.isAgg 23) [qka0_40]] <|
.seg [.call 24 [] 79 [qka0_40] false] <|
.seg [.chk [] .len [.inp 24]] <|
.loop 0 25 [.int .i64 0] <|
.seg [.chk [] (.bin .lss) [.inp 25, .app .len [.inp 24]]] <|
.cond (qka0_126)
 (.seg [.chk [] (.eidx 3) [.inp 24, .inp 25]] <|
.seg [.chk [] (.eload 3 true) [qka0_129]] <|
.seg [.chk [] (.isAgg 3) [qka0_130]] <|
.seg [.chk [] (.bin .eql) [qka0_131, .inp 23]] <|
.cond (.app (.bin .eql) [qka0_131, .inp 23])
 (.ret (.tup [.app (.part 1 1 false) [qka0_130], .bool true]))
 (.seg [.chk [] (.bin .add) [.inp 25, .int .i64 1]] <|
.again 0 [qka0_123]))
 (.ret (qka0_132))
theorem run_held_Wants : runF E 43 [.agg [.inp 0, .inp 1, .inp 2, .inp 3, .inp 4, .inp 5, .inp 6, .inp 7, .inp 8, .inp 9, .inp 10, .inp 11, .inp 12, .inp 13, .inp 14, .inp 15, .inp 16, .inp 17, .inp 18, .inp 19, .inp 20, .inp 21, .inp 22], .inp 23] 24 = rt_held_Wants := by kernel_rfl

noncomputable def rt_held_Apart : RT :=
.seg [.chk [] (.isAgg 23) [qka0_40]] <|
.seg [.chk [] (.isAgg 23) [qka0_133]] <|
.seg [.chk [] (.isAgg 23) [qka0_40]] <|
.seg [.chk [] .len [.inp 3]] <|
.loop 0 46 [.int .i64 0] <|
.seg [.chk [] (.bin .lss) [.inp 46, .app .len [.inp 3]]] <|
.cond (.app (.bin .lss) [.inp 46, .app .len [.inp 3]])
 (.seg [.chk [] (.eidx 3) [.inp 3, .inp 46]] <|
.seg [.chk [] (.eload 3 true) [qka0_134]] <|
.seg [.chk [] (.isAgg 3) [qka0_135]] <|
.seg [.chk [] (.bin .geq) [.inp 46, .inp 7]] <|
.cond (.app (.bin .geq) [.inp 46, .inp 7])
 (.seg [.call 47 [] 78 [qka0_133, .app (.part 0 1 false) [qka0_135]] false] <|
.cond (.inp 47)
 (.seg [.chk [] (.un .not) [.bool false]] <|
.ret (.bool false))
 (.seg [.chk [] (.un .not) [.bool true]] <|
.seg [.chk [] (.bin .add) [.inp 46, .int .i64 1]] <|
.again 0 [qka0_136]))
 (.seg [.chk [] (.bin .add) [.inp 46, .int .i64 1]] <|
.again 0 [qka0_136]))
 (.seg [.chk [] .len [.inp 4]] <|
.loop 0 47 [.int .i64 0] <|
.seg [.chk [] (.bin .lss) [.inp 47, .app .len [.inp 4]]] <|
.cond (.app (.bin .lss) [.inp 47, .app .len [.inp 4]])
 (.seg [.chk [] (.eidx 3) [.inp 4, .inp 47]] <|
.seg [.chk [] (.eload 3 true) [qka0_137]] <|
.seg [.chk [] (.isAgg 3) [qka0_138]] <|
.seg [.chk [] (.un .not) [.inp 20]] <|
.cond (.inp 20)
 (.seg [.chk [] (.bin .add) [.inp 47, .int .i64 1]] <|
.again 0 [qka0_139])
 (.seg [.call 48 [] 78 [qka0_133, .app (.part 0 1 false) [qka0_138]] false] <|
.cond (.inp 48)
 (.seg [.chk [] (.un .not) [.bool false]] <|
.ret (.bool false))
 (.seg [.chk [] (.un .not) [.bool true]] <|
.seg [.chk [] (.bin .add) [.inp 47, .int .i64 1]] <|
.again 0 [qka0_139])))
 (.seg [.call 48 [] 79 [qka0_40] false,
.call 49 [] 79 [qka0_133] false,
.call 50 [] 89 [.inp 48, .inp 49] false,
.chk [] (.un .not) [.inp 50],
.chk [] .isOne [.app (.un .not) [.inp 50]]] <|
.ret (.app (.un .not) [.inp 50])))
theorem run_held_Apart : runF E 56 [.agg [.inp 0, .inp 1, .inp 2, .inp 3, .inp 4, .inp 5, .inp 6, .inp 7, .inp 8, .inp 9, .inp 10, .inp 11, .inp 12, .inp 13, .inp 14, .inp 15, .inp 16, .inp 17, .inp 18, .inp 19, .inp 20, .inp 21, .inp 22], .agg [.inp 23, .inp 24, .inp 25, .inp 26, .inp 27, .inp 28, .inp 29, .inp 30, .inp 31, .inp 32, .inp 33, .inp 34, .inp 35, .inp 36, .inp 37, .inp 38, .inp 39, .inp 40, .inp 41, .inp 42, .inp 43, .inp 44, .inp 45]] 46 = rt_held_Apart := by kernel_rfl

noncomputable def rt_held_Same : RT :=
.seg [.chk [] (.isAgg 23) [qka0_40]] <|
.seg [.chk [] (.isAgg 23) [qka0_133]] <|
.seg [.chk [] (.bin .eql) [.inp 0, .inp 23]] <|
.seg [.chk [(qka0_140, true)] (.bin .eql) [.inp 6, .inp 29]] <|
.seg [.chk [] .pick [qka0_140, qka0_141, .bool false]] <|
.seg [.chk [(qka0_142, true)] (.bin .eql) [.inp 7, .inp 30]] <|
.seg [.chk [] .pick [qka0_142, qka0_143, .bool false]] <|
.seg [.chk [(qka0_144, true)] (.eqa [ none, none, none, none, none, none, none, none, none, none, none, none] false) [qka0_145, qka0_146]] <|
.seg [.chk [] .pick [qka0_144, qka0_147, .bool false]] <|
.seg [.chk [(qka0_148, true)] (.eqb false) [.inp 20, .inp 43]] <|
.seg [.chk [] .pick [qka0_148, qka0_149, .bool false]] <|
.seg [.chk [(qka0_150, true)] (.bin .eql) [.inp 21, .inp 44]] <|
.seg [.chk [] .pick [qka0_150, qka0_151, .bool false]] <|
.seg [.chk [(qka0_152, true)] (.eqb false) [.inp 22, .inp 45]] <|
.seg [.chk [] .pick [qka0_152, qka0_153, .bool false]] <|
.seg [.bind 46 (.app .pick [qka0_152, qka0_153, .bool false]),
.bind 47 (qka0_144),
.bind 48 (qka0_147),
.bind 49 (qka0_148),
.bind 50 (qka0_150),
.bind 51 (qka0_152)] <|
.seg [.call 52 [(.inp 46, true)] 96 [qka0_51, .agg [.inp 24, .inp 25, .inp 26]] false] <|
.seg [.chk [] .pick [.inp 46, .inp 52, .bool false]] <|
.seg [.call 53 [(qka0_154, true)] 97 [.inp 4, .inp 27] false] <|
.seg [.chk [] .pick [qka0_154, .inp 53, .bool false]] <|
.seg [.call 54 [(qka0_155, true)] 98 [.inp 5, .inp 28] false] <|
.seg [.chk [] .pick [qka0_155, .inp 54, .bool false]] <|
.seg [.bind 55 (.app .pick [qka0_155, .inp 54, .bool false])] <|
.ret (.inp 55)
theorem run_held_Same : runF E 64 [.agg [.inp 0, .inp 1, .inp 2, .inp 3, .inp 4, .inp 5, .inp 6, .inp 7, .inp 8, .inp 9, .inp 10, .inp 11, .inp 12, .inp 13, .inp 14, .inp 15, .inp 16, .inp 17, .inp 18, .inp 19, .inp 20, .inp 21, .inp 22], .agg [.inp 23, .inp 24, .inp 25, .inp 26, .inp 27, .inp 28, .inp 29, .inp 30, .inp 31, .inp 32, .inp 33, .inp 34, .inp 35, .inp 36, .inp 37, .inp 38, .inp 39, .inp 40, .inp 41, .inp 42, .inp 43, .inp 44, .inp 45]] 46 = rt_held_Same := by kernel_rfl

noncomputable def rt_route_Same : RT :=
.seg [.chk [] (.isAgg 3) [qka0_25]] <|
.seg [.chk [] (.isAgg 3) [.agg [.inp 3, .inp 4, .inp 5]]] <|
.seg [.chk [] (.bin .eql) [.inp 0, .inp 3]] <|
.seg [.chk [(qka0_156, true)] (.bin .eql) [.inp 1, .inp 4]] <|
.seg [.chk [] .pick [qka0_156, qka0_157, .bool false]] <|
.seg [.call 6 [(qka0_158, true)] 97 [.inp 2, .inp 5] false] <|
.seg [.chk [] .pick [qka0_158, .inp 6, .bool false]] <|
.seg [.bind 7 (.app .pick [qka0_158, .inp 6, .bool false])] <|
.ret (.inp 7)
theorem run_route_Same : runF E 96 [.agg [.inp 0, .inp 1, .inp 2], .agg [.inp 3, .inp 4, .inp 5]] 6 = rt_route_Same := by kernel_rfl

noncomputable def rt_slices_Equal_Step : RT :=
.seg [.chk [] .len [.inp 0]] <|
.seg [.chk [] .len [.inp 1]] <|
.seg [.chk [] (.bin .neq) [.app .len [.inp 0], .app .len [.inp 1]]] <|
.cond (qka0_159)
 (.ret (.bool false))
 (.seg [.chk [] .len [.inp 0]] <|
.loop 0 2 [.int .i64 0] <|
.seg [.chk [] (.bin .lss) [.inp 2, .app .len [.inp 0]]] <|
.cond (qka0_28)
 (.seg [.chk [] (.eidx 3) [.inp 0, .inp 2],
.chk [] (.eload 3 true) [qka0_29],
.chk [] (.eidx 3) [.inp 1, .inp 2],
.chk [] (.eload 3 true) [qka0_160],
.chk [] (.eqa [ some .i64, some .i64, some .i64] true) [qka0_30, qka0_161]] <|
.cond (qka0_162)
 (.ret (.bool false))
 (.seg [.chk [] (.bin .add) [.inp 2, .int .i64 1]] <|
.again 0 [qka0_39]))
 (.ret (.bool true)))
theorem run_slices_Equal_Step : runF E 97 [.inp 0, .inp 1] 2 = rt_slices_Equal_Step := by kernel_rfl

noncomputable def rt_slices_Equal_Need : RT :=
.seg [.chk [] .len [.inp 0]] <|
.seg [.chk [] .len [.inp 1]] <|
.seg [.chk [] (.bin .neq) [.app .len [.inp 0], .app .len [.inp 1]]] <|
.cond (qka0_159)
 (.ret (.bool false))
 (.seg [.chk [] .len [.inp 0]] <|
.loop 0 2 [.int .i64 0] <|
.seg [.chk [] (.bin .lss) [.inp 2, .app .len [.inp 0]]] <|
.cond (qka0_28)
 (.seg [.chk [] (.eidx 3) [.inp 0, .inp 2],
.chk [] (.eload 3 true) [qka0_29],
.chk [] (.eidx 3) [.inp 1, .inp 2],
.chk [] (.eload 3 true) [qka0_160],
.chk [] (.eqa [ some .i64, some .i64, some .i64] true) [qka0_30, qka0_161]] <|
.cond (qka0_162)
 (.ret (.bool false))
 (.seg [.chk [] (.bin .add) [.inp 2, .int .i64 1]] <|
.again 0 [qka0_39]))
 (.ret (.bool true)))
theorem run_slices_Equal_Need : runF E 98 [.inp 0, .inp 1] 2 = rt_slices_Equal_Need := by kernel_rfl

noncomputable def rt_point_position : RT :=
.seg [.chk [] (.bin .eql) [.inp 0, .int .i64 0]] <|
.seg [.chk [(qka0_163, false)] (.bin .eql) [.inp 0, .int .i64 1]] <|
.seg [.chk [] .pick [qka0_163, .bool true, qka0_164]] <|
.ret (.app .pick [qka0_163, .bool true, qka0_164])
theorem run_point_position : runF E 93 [.inp 0] 1 = rt_point_position := by kernel_rfl

noncomputable def rt_point_Rest : RT :=
.ret (.agg [.int .i64 (-1), .int .i64 0, .bool false])
theorem run_point_Rest : runF E 94 [] 0 = rt_point_Rest := by kernel_rfl

noncomputable def rt_point_Right : RT :=
.seg [.chk [] (.isAgg 3) [qka0_25]] <|
.seg [.call 3 [] 93 [.inp 0] false,
.chk [(.inp 3, true)] (.bin .geq) [.inp 1, .int .i64 0],
.chk [] .pick [.inp 3, qka0_165, .bool false],
.chk [(qka0_166, true)] (.bin .leq) [.inp 1, .int .i64 1000],
.chk [] .pick [qka0_166, qka0_167, .bool false],
.call 4 [(qka0_168, false)] 94 [] false,
.chk [(qka0_168, false)] (.eqa [ some .i64, some .i64, none] false) [qka0_25, .inp 4],
.chk [] .pick [qka0_168, .bool true, qka0_169]] <|
.seg [.bind 5 (.app .pick [qka0_168, .bool true, qka0_169]),
.bind 6 (qka0_168)] <|
.ret (.inp 5)
theorem run_point_Right : runF E 60 [.agg [.inp 0, .inp 1, .inp 2]] 3 = rt_point_Right := by kernel_rfl

noncomputable def rt_free_Holder : RT :=
.seg [.chk [] (.isAgg 74) [qka0_170]] <|
.seg [.chk [] (.isAgg 74) [qka0_170]] <|
.seg [.chk [] .isOne [.inp 74]] <|
.seg [.chk [] .len [.inp 1]] <|
.loop 0 75 [.int .i64 0] <|
.seg [.chk [] (.bin .lss) [.inp 75, .app .len [.inp 1]]] <|
.cond (qka0_171)
 (.seg [.chk [] (.eidx 23) [.inp 1, .inp 75]] <|
.seg [.chk [] (.eload 23 true) [qka0_172]] <|
.seg [.chk [] (.isAgg 23) [qka0_173]] <|
.seg [.call 76 [] 78 [qka0_176, .inp 74] false] <|
.cond (.inp 76)
 (.seg [.chk [] (.isAgg 23) [qka0_176]] <|
.seg [.chk [] .isOne [qka0_174]] <|
.seg [.chk [] (.un .not) [.bool false]] <|
.ret (.tup [qka0_174, .bool true]))
 (.seg [.chk [] (.bin .add) [.inp 75, .int .i64 1]] <|
.again 0 [qka0_177]))
 (.ret (qka0_132))
theorem run_free_Holder : runF E 12 [.agg [.inp 0, .inp 1, .inp 2, .inp 3, .inp 4, .inp 5, .inp 6, .inp 7, .inp 8, .inp 9, .inp 10, .inp 11, .inp 12, .inp 13, .inp 14, .inp 15, .inp 16, .inp 17, .inp 18, .inp 19, .inp 20, .inp 21, .inp 22, .inp 23, .inp 24, .inp 25, .inp 26, .inp 27, .inp 28, .inp 29, .inp 30, .inp 31, .inp 32, .inp 33, .inp 34, .inp 35, .inp 36, .inp 37, .inp 38, .inp 39, .inp 40, .inp 41, .inp 42, .inp 43, .inp 44, .inp 45, .inp 46, .inp 47, .inp 48, .inp 49, .inp 50, .inp 51, .inp 52, .inp 53, .inp 54, .inp 55, .inp 56, .inp 57, .inp 58, .inp 59, .inp 60, .inp 61, .inp 62, .inp 63, .inp 64, .inp 65, .inp 66, .inp 67, .inp 68, .inp 69, .inp 70, .inp 71, .inp 72, .inp 73], .inp 74] 75 = rt_free_Holder := by kernel_rfl

noncomputable def rt_free_Wanted : RT :=
.seg [.chk [] (.isAgg 74) [qka0_170]] <|
.seg [.chk [] .len [.inp 1]] <|
.loop 0 75 [.int .i64 0] <|
.seg [.chk [] (.bin .lss) [.inp 75, .app .len [.inp 1]]] <|
.cond (qka0_171)
 (.seg [.chk [] (.eidx 23) [.inp 1, .inp 75]] <|
.seg [.chk [] (.eload 23 true) [qka0_172]] <|
.seg [.chk [] (.isAgg 23) [qka0_173]] <|
.seg [.call 76 [] 43 [qka0_176, .inp 74] false] <|
.seg [.chk [] (.tproj 0) [.inp 76]] <|
.seg [.chk [] (.tproj 1) [.inp 76]] <|
.cond (.app (.tproj 1) [.inp 76])
 (.ret (.tup [.app (.tproj 0) [.inp 76], .bool true]))
 (.seg [.chk [] (.bin .add) [.inp 75, .int .i64 1]] <|
.again 0 [qka0_177]))
 (.ret (qka0_132))
theorem run_free_Wanted : runF E 14 [.agg [.inp 0, .inp 1, .inp 2, .inp 3, .inp 4, .inp 5, .inp 6, .inp 7, .inp 8, .inp 9, .inp 10, .inp 11, .inp 12, .inp 13, .inp 14, .inp 15, .inp 16, .inp 17, .inp 18, .inp 19, .inp 20, .inp 21, .inp 22, .inp 23, .inp 24, .inp 25, .inp 26, .inp 27, .inp 28, .inp 29, .inp 30, .inp 31, .inp 32, .inp 33, .inp 34, .inp 35, .inp 36, .inp 37, .inp 38, .inp 39, .inp 40, .inp 41, .inp 42, .inp 43, .inp 44, .inp 45, .inp 46, .inp 47, .inp 48, .inp 49, .inp 50, .inp 51, .inp 52, .inp 53, .inp 54, .inp 55, .inp 56, .inp 57, .inp 58, .inp 59, .inp 60, .inp 61, .inp 62, .inp 63, .inp 64, .inp 65, .inp 66, .inp 67, .inp 68, .inp 69, .inp 70, .inp 71, .inp 72, .inp 73], .inp 74] 75 = rt_free_Wanted := by kernel_rfl

noncomputable def rt_free_Locked : RT :=
.seg [.chk [] (.isAgg 74) [qka0_170]] <|
.seg [.chk [] .isOne [.inp 74]] <|
.seg [.chk [] .len [.inp 1]] <|
.loop 0 75 [.int .i64 0] <|
.seg [.chk [] (.bin .lss) [.inp 75, .app .len [.inp 1]]] <|
.cond (qka0_171)
 (.seg [.chk [] (.eidx 23) [.inp 1, .inp 75]] <|
.seg [.chk [] (.eload 23 true) [qka0_172]] <|
.seg [.chk [] (.isAgg 23) [qka0_173]] <|
.seg [.call 76 [] 43 [qka0_176, .inp 74] false] <|
.seg [.chk [] (.tproj 0) [.inp 76]] <|
.seg [.chk [] (.tproj 1) [.inp 76]] <|
.seg [.chk [(.app (.tproj 1) [.inp 76], true)] (.bin .neq) [qka0_175, .int .u8 1]] <|
.seg [.chk [] .pick [.app (.tproj 1) [.inp 76], qka0_178, .bool false]] <|
.seg [.bind 77 (.app .pick [.app (.tproj 1) [.inp 76], qka0_178, .bool false])] <|
.cond (.inp 77)
 (.seg [.chk [] (.bin .geq) [.inp 75, .int .i64 0]] <|
.ret (.app (.bin .geq) [.inp 75, .int .i64 0]))
 (.seg [.chk [] (.bin .add) [.inp 75, .int .i64 1]] <|
.again 0 [qka0_177]))
 (.seg [.chk [] (.bin .geq) [.int .i64 (-1), .int .i64 0]] <|
.ret (.bool false))
theorem run_free_Locked : runF E 16 [.agg [.inp 0, .inp 1, .inp 2, .inp 3, .inp 4, .inp 5, .inp 6, .inp 7, .inp 8, .inp 9, .inp 10, .inp 11, .inp 12, .inp 13, .inp 14, .inp 15, .inp 16, .inp 17, .inp 18, .inp 19, .inp 20, .inp 21, .inp 22, .inp 23, .inp 24, .inp 25, .inp 26, .inp 27, .inp 28, .inp 29, .inp 30, .inp 31, .inp 32, .inp 33, .inp 34, .inp 35, .inp 36, .inp 37, .inp 38, .inp 39, .inp 40, .inp 41, .inp 42, .inp 43, .inp 44, .inp 45, .inp 46, .inp 47, .inp 48, .inp 49, .inp 50, .inp 51, .inp 52, .inp 53, .inp 54, .inp 55, .inp 56, .inp 57, .inp 58, .inp 59, .inp 60, .inp 61, .inp 62, .inp 63, .inp 64, .inp 65, .inp 66, .inp 67, .inp 68, .inp 69, .inp 70, .inp 71, .inp 72, .inp 73], .inp 74] 75 = rt_free_Locked := by kernel_rfl

noncomputable def rt_free_Free : RT :=
.seg [.chk [] (.isAgg 11) [qka0_7]] <|
.seg [.chk [] (.isAgg 29) [qka0_8]] <|
.seg [.chk [] (.isAgg 74) [qka0_179]] <|
.seg [.call 115 [] 12 [qka0_179, .inp 114] false] <|
.seg [.chk [] (.tproj 0) [.inp 115]] <|
.seg [.chk [] (.tproj 1) [.inp 115]] <|
.seg [.chk [] (.un .not) [.app (.tproj 1) [.inp 115]]] <|
.seg [.call 116 [(qka0_180, true)] 46 [qka0_7, qka0_8, .inp 114] false] <|
.seg [.chk [(qka0_180, true)] (.un .not) [.inp 116]] <|
.seg [.chk [] .pick [qka0_180, .app (.un .not) [.inp 116], .bool false]] <|
.ret (.app .pick [qka0_180, .app (.un .not) [.inp 116], .bool false])
theorem run_free_Free : runF E 18 [.agg [.inp 0, .inp 1, .inp 2, .inp 3, .inp 4, .inp 5, .inp 6, .inp 7, .inp 8, .inp 9, .inp 10], .agg [.inp 11, .inp 12, .inp 13, .inp 14, .inp 15, .inp 16, .inp 17, .inp 18, .inp 19, .inp 20, .inp 21, .inp 22, .inp 23, .inp 24, .inp 25, .inp 26, .inp 27, .inp 28, .inp 29, .inp 30, .inp 31, .inp 32, .inp 33, .inp 34, .inp 35, .inp 36, .inp 37, .inp 38, .inp 39], .agg [.inp 40, .inp 41, .inp 42, .inp 43, .inp 44, .inp 45, .inp 46, .inp 47, .inp 48, .inp 49, .inp 50, .inp 51, .inp 52, .inp 53, .inp 54, .inp 55, .inp 56, .inp 57, .inp 58, .inp 59, .inp 60, .inp 61, .inp 62, .inp 63, .inp 64, .inp 65, .inp 66, .inp 67, .inp 68, .inp 69, .inp 70, .inp 71, .inp 72, .inp 73, .inp 74, .inp 75, .inp 76, .inp 77, .inp 78, .inp 79, .inp 80, .inp 81, .inp 82, .inp 83, .inp 84, .inp 85, .inp 86, .inp 87, .inp 88, .inp 89, .inp 90, .inp 91, .inp 92, .inp 93, .inp 94, .inp 95, .inp 96, .inp 97, .inp 98, .inp 99, .inp 100, .inp 101, .inp 102, .inp 103, .inp 104, .inp 105, .inp 106, .inp 107, .inp 108, .inp 109, .inp 110, .inp 111, .inp 112, .inp 113], .inp 114] 115 = rt_free_Free := by kernel_rfl

noncomputable def rt_free_Meets : RT :=
.seg [.chk [] (.isAgg 11) [qka0_7]] <|
.seg [.chk [] (.isAgg 29) [qka0_8]] <|
.seg [.chk [] (.isAgg 74) [qka0_179]] <|
.seg [.chk [] (.isAgg 3) [.agg [.inp 114, .inp 115, .inp 116]]] <|
.seg [.chk [] (.bin .lss) [.inp 114, .int .i64 0]] <|
.seg [.chk [(qka0_181, false)] (.bin .geq) [.inp 114, .int .i64 24]] <|
.seg [.chk [] .pick [qka0_181, .bool true, qka0_182]] <|
.cond (.app .pick [qka0_181, .bool true, qka0_182])
 (.ret (.bool false))
 (.seg [.call 117 [] 47 [qka0_7, qka0_8, .inp 114] false,
.chk [] (.bin .eql) [.inp 117, .inp 115]] <|
.seg [.call 118 [] 14 [qka0_179, .inp 114] false] <|
.seg [.chk [] (.tproj 0) [.inp 118]] <|
.seg [.chk [] (.tproj 1) [.inp 118]] <|
.seg [.chk [(.app (.tproj 1) [.inp 118], true)] (.bin .neq) [.app (.tproj 0) [.inp 118], .inp 115]] <|
.seg [.chk [] .pick [.app (.tproj 1) [.inp 118], qka0_183, .bool false]] <|
.cond (.app .pick [.app (.tproj 1) [.inp 118], qka0_183, .bool false])
 (.ret (.bool false))
 (.cond (.app (.tproj 1) [.inp 118])
 (.seg [.call 119 [(qka0_184, false)] 16 [qka0_179, .inp 114] false] <|
.seg [.chk [(qka0_184, false)] (.un .not) [.inp 119]] <|
.seg [.chk [] .pick [qka0_184, .bool true, .app (.un .not) [.inp 119]]] <|
.ret (.app .pick [qka0_184, .bool true, .app (.un .not) [.inp 119]]))
 (.seg [.chk [(qka0_184, false)] (.inr 24) [.inp 114]] <|
.seg [.chk [(qka0_184, false)] (.inr 24) [.inp 114]] <|
.seg [.chk [(qka0_184, false)] (.aidx 24 3 4 1 false) [qka0_179, .inp 114]] <|
.seg [.chk [(qka0_184, false)] (.un .not) [qka0_185]] <|
.seg [.call 119 [(qka0_186, true), (qka0_184, false)] 18 [qka0_7, qka0_8, qka0_179, .inp 114] false] <|
.seg [.chk [(qka0_184, false)] .pick [qka0_186, .inp 119, .bool false]] <|
.seg [.chk [] .pick [qka0_184, .bool true, qka0_187]] <|
.seg [.bind 120 (.app .pick [qka0_184, .bool true, qka0_187]),
.bind 121 (qka0_185),
.bind 122 (qka0_186),
.bind 123 (qka0_187)] <|
.ret (.inp 120))))
theorem run_free_Meets : runF E 20 [.agg [.inp 0, .inp 1, .inp 2, .inp 3, .inp 4, .inp 5, .inp 6, .inp 7, .inp 8, .inp 9, .inp 10], .agg [.inp 11, .inp 12, .inp 13, .inp 14, .inp 15, .inp 16, .inp 17, .inp 18, .inp 19, .inp 20, .inp 21, .inp 22, .inp 23, .inp 24, .inp 25, .inp 26, .inp 27, .inp 28, .inp 29, .inp 30, .inp 31, .inp 32, .inp 33, .inp 34, .inp 35, .inp 36, .inp 37, .inp 38, .inp 39], .agg [.inp 40, .inp 41, .inp 42, .inp 43, .inp 44, .inp 45, .inp 46, .inp 47, .inp 48, .inp 49, .inp 50, .inp 51, .inp 52, .inp 53, .inp 54, .inp 55, .inp 56, .inp 57, .inp 58, .inp 59, .inp 60, .inp 61, .inp 62, .inp 63, .inp 64, .inp 65, .inp 66, .inp 67, .inp 68, .inp 69, .inp 70, .inp 71, .inp 72, .inp 73, .inp 74, .inp 75, .inp 76, .inp 77, .inp 78, .inp 79, .inp 80, .inp 81, .inp 82, .inp 83, .inp 84, .inp 85, .inp 86, .inp 87, .inp 88, .inp 89, .inp 90, .inp 91, .inp 92, .inp 93, .inp 94, .inp 95, .inp 96, .inp 97, .inp 98, .inp 99, .inp 100, .inp 101, .inp 102, .inp 103, .inp 104, .inp 105, .inp 106, .inp 107, .inp 108, .inp 109, .inp 110, .inp 111, .inp 112, .inp 113], .agg [.inp 114, .inp 115, .inp 116]] 117 = rt_free_Meets := by kernel_rfl

end Go.Lb.LK
