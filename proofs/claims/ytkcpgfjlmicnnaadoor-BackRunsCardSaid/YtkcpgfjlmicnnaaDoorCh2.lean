/- What functions come to, printed by a program, checked by the kernel. -/
import Derived.Test.YtkcpgfjlmicnnaaDoorCh1
set_option linter.unusedSimpArgs false
set_option linter.unusedVariables false
namespace Go.Lb.LK
open Go Go.Lb Go.Proofs
@[simp] noncomputable def qka1_0 : SE := .agg [.inp 0, .inp 1, .inp 2, .inp 3, .inp 4, .inp 5, .inp 6, .inp 7, .inp 8, .inp 9, .inp 10]
@[simp] noncomputable def qka1_1 : SE := .agg [.inp 11, .inp 12, .inp 13, .inp 14, .inp 15, .inp 16, .inp 17, .inp 18, .inp 19, .inp 20, .inp 21, .inp 22, .inp 23, .inp 24, .inp 25, .inp 26, .inp 27, .inp 28, .inp 29, .inp 30, .inp 31, .inp 32, .inp 33, .inp 34, .inp 35, .inp 36, .inp 37, .inp 38, .inp 39]
@[simp] noncomputable def qka1_2 : SE := .agg [.inp 40, .inp 41, .inp 42, .inp 43, .inp 44, .inp 45, .inp 46, .inp 47, .inp 48, .inp 49, .inp 50, .inp 51, .inp 52, .inp 53, .inp 54, .inp 55, .inp 56, .inp 57, .inp 58, .inp 59, .inp 60, .inp 61, .inp 62]
@[simp] noncomputable def qka1_3 : SE := .app (.part 3 1 false) [.inp 63]
@[simp] noncomputable def qka1_4 : SE := .app .len [qka1_3]
@[simp] noncomputable def qka1_5 : SE := .app (.part 8 1 false) [.inp 63]
@[simp] noncomputable def qka1_6 : SE := .app (.part 9 1 false) [.inp 63]
@[simp] noncomputable def qka1_7 : SE := .app (.part 10 1 false) [.inp 63]
@[simp] noncomputable def qka1_8 : SE := .app (.part 11 1 false) [.inp 63]
@[simp] noncomputable def qka1_9 : SE := .app (.part 12 1 false) [.inp 63]
@[simp] noncomputable def qka1_10 : SE := .app (.part 13 1 false) [.inp 63]
@[simp] noncomputable def qka1_11 : SE := .app (.part 14 1 false) [.inp 63]
@[simp] noncomputable def qka1_12 : SE := .app (.part 15 1 false) [.inp 63]
@[simp] noncomputable def qka1_13 : SE := .app (.part 16 1 false) [.inp 63]
@[simp] noncomputable def qka1_14 : SE := .app (.part 17 1 false) [.inp 63]
@[simp] noncomputable def qka1_15 : SE := .app (.part 18 1 false) [.inp 63]
@[simp] noncomputable def qka1_16 : SE := .app (.part 19 1 false) [.inp 63]
@[simp] noncomputable def qka1_17 : SE := .agg [qka1_5, qka1_6, qka1_7, qka1_8, qka1_9, qka1_10, qka1_11, qka1_12, qka1_13, qka1_14, qka1_15, qka1_16]
@[simp] noncomputable def qka1_18 : SE := .app (.part 0 1 false) [.inp 63]
@[simp] noncomputable def qka1_19 : SE := .app (.part 1 1 false) [.inp 63]
@[simp] noncomputable def qka1_20 : SE := .app (.part 2 1 false) [.inp 63]
@[simp] noncomputable def qka1_21 : SE := .app (.part 4 1 false) [.inp 63]
@[simp] noncomputable def qka1_22 : SE := .app (.part 5 1 false) [.inp 63]
@[simp] noncomputable def qka1_23 : SE := .app (.part 6 1 false) [.inp 63]
@[simp] noncomputable def qka1_24 : SE := .app (.part 7 1 false) [.inp 63]
@[simp] noncomputable def qka1_25 : SE := .app (.part 20 1 false) [.inp 63]
@[simp] noncomputable def qka1_26 : SE := .app (.part 21 1 false) [.inp 63]
@[simp] noncomputable def qka1_27 : SE := .app (.part 22 1 false) [.inp 63]
@[simp] noncomputable def qka1_28 : SE := .agg [qka1_18, qka1_19, qka1_20, qka1_3, qka1_21, qka1_22, qka1_23, qka1_24, qka1_5, qka1_6, qka1_7, qka1_8, qka1_9, qka1_10, qka1_11, qka1_12, qka1_13, qka1_14, qka1_15, qka1_16, qka1_25, qka1_26, qka1_27]
@[simp] noncomputable def qka1_29 : SE := .app (.eidx 3) [qka1_3, .inp 65]
@[simp] noncomputable def qka1_30 : SE := .app (.eoff 0) [qka1_29]
@[simp] noncomputable def qka1_31 : SE := .agg [.inp 66, .inp 67, .inp 68, .inp 69, .inp 70, .inp 71, .inp 72, .inp 73, .inp 74, .inp 75, .inp 76, .inp 77]
@[simp] noncomputable def qka1_32 : SE := .app (.bin .eql) [.inp 65, .int .i64 0]
@[simp] noncomputable def qka1_33 : SE := .app (.bin .sub) [.inp 65, .int .i64 1]
@[simp] noncomputable def qka1_34 : SE := .app (.aidx 12 1 0 1 false) [qka1_31, qka1_33]
@[simp] noncomputable def qka1_35 : SE := .app .pick [qka1_32, .bool true, qka1_34]
@[simp] noncomputable def qka1_36 : SE := .app (.bin .add) [.inp 65, .int .i64 1]
@[simp] noncomputable def qka1_37 : SE := .app .pick [.inp 78, qka1_35, .bool false]
@[simp] noncomputable def qka1_38 : SE := .agg [qka1_37]
@[simp] noncomputable def qka1_39 : SE := .app (.bin .sub) [qka1_4, .int .i64 1]
@[simp] noncomputable def qka1_40 : SE := .app (.bin .leq) [qka1_24, qka1_39]
@[simp] noncomputable def qka1_41 : SE := .app (.aidx 12 1 0 1 false) [qka1_31, qka1_24]
@[simp] noncomputable def qka1_42 : SE := .app .pick [qka1_40, qka1_41, .bool false]
@[simp] noncomputable def qka1_43 : SE := .app (.bin .eql) [qka1_24, qka1_39]
@[simp] noncomputable def qka1_44 : SE := .app (.bin .add) [qka1_24, .int .i64 1]
@[simp] noncomputable def qka1_45 : SE := .app (.aidx 12 1 0 1 false) [qka1_31, qka1_44]
@[simp] noncomputable def qka1_46 : SE := .app .pick [qka1_43, .bool true, qka1_45]
@[simp] noncomputable def qka1_47 : SE := .app .pick [qka1_42, qka1_46, .bool false]
@[simp] noncomputable def qka1_48 : SE := .app (.eidx 3) [qka1_3, qka1_24]
@[simp] noncomputable def qka1_49 : SE := .app (.eoff 0) [qka1_48]
@[simp] noncomputable def qka1_50 : SE := .app (.eload 1 false) [qka1_49]
@[simp] noncomputable def qka1_51 : SE := .app (.aidx 12 1 0 1 false) [qka1_31, qka1_39]
@[simp] noncomputable def qka1_52 : SE := .app (.bin .geq) [.inp 85, .inp 8]
@[simp] noncomputable def qka1_53 : SE := .app .pick [qka1_25, .bool true, qka1_52]
@[simp] noncomputable def qka1_54 : SE := .app (.bin .gtr) [qka1_24, qka1_39]
@[simp] noncomputable def qka1_55 : SE := .app .pick [qka1_53, .bool true, qka1_54]
@[simp] noncomputable def qka1_56 : SE := .agg [qka1_18, qka1_19, qka1_20, qka1_3, qka1_21, qka1_22, qka1_23, qka1_24, .inp 66, .inp 67, .inp 68, .inp 69, .inp 70, .inp 71, .inp 72, .inp 73, .inp 74, .inp 75, .inp 76, .inp 77, .inp 86, .inp 85, qka1_27]
@[simp] noncomputable def qka1_57 : SE := .app .pick [qka1_25, .bool true, qka1_54]
@[simp] noncomputable def qka1_58 : SE := .agg [qka1_18, qka1_19, qka1_20, qka1_3, qka1_21, qka1_22, qka1_23, qka1_24, .inp 66, .inp 67, .inp 68, .inp 69, .inp 70, .inp 71, .inp 72, .inp 73, .inp 74, .inp 75, .inp 76, .inp 77, .inp 85, qka1_26, qka1_27]
@[simp] noncomputable def qka1_59 : SE := .app (.bin .leq) [.inp 95, qka1_39]
@[simp] noncomputable def qka1_60 : SE := .app (.aidx 12 1 0 1 false) [qka1_31, .inp 95]
@[simp] noncomputable def qka1_61 : SE := .app .pick [qka1_59, qka1_60, .bool false]
@[simp] noncomputable def qka1_62 : SE := .app (.bin .eql) [.inp 95, qka1_39]
@[simp] noncomputable def qka1_63 : SE := .app (.bin .add) [.inp 95, .int .i64 1]
@[simp] noncomputable def qka1_64 : SE := .app (.aidx 12 1 0 1 false) [qka1_31, qka1_63]
@[simp] noncomputable def qka1_65 : SE := .app .pick [qka1_62, .bool true, qka1_64]
@[simp] noncomputable def qka1_66 : SE := .app .pick [qka1_61, qka1_65, .bool false]
@[simp] noncomputable def qka1_67 : SE := .app (.eidx 3) [qka1_3, .inp 95]
@[simp] noncomputable def qka1_68 : SE := .app (.eoff 0) [qka1_67]
@[simp] noncomputable def qka1_69 : SE := .app (.eload 1 false) [qka1_68]
@[simp] noncomputable def qka1_70 : SE := .app (.bin .geq) [.inp 102, .inp 8]
@[simp] noncomputable def qka1_71 : SE := .app .pick [qka1_25, .bool true, qka1_70]
@[simp] noncomputable def qka1_72 : SE := .app (.bin .gtr) [.inp 95, qka1_39]
@[simp] noncomputable def qka1_73 : SE := .app .pick [qka1_71, .bool true, qka1_72]
@[simp] noncomputable def qka1_74 : SE := .agg [qka1_18, qka1_19, qka1_20, qka1_3, qka1_21, qka1_22, qka1_23, .inp 95, .inp 66, .inp 67, .inp 68, .inp 69, .inp 70, .inp 71, .inp 72, .inp 73, .inp 74, .inp 75, .inp 76, .inp 77, .inp 103, .inp 102, qka1_27]
@[simp] noncomputable def qka1_75 : SE := .app .pick [qka1_25, .bool true, qka1_72]
@[simp] noncomputable def qka1_76 : SE := .agg [qka1_18, qka1_19, qka1_20, qka1_3, qka1_21, qka1_22, qka1_23, .inp 95, .inp 66, .inp 67, .inp 68, .inp 69, .inp 70, .inp 71, .inp 72, .inp 73, .inp 74, .inp 75, .inp 76, .inp 77, .inp 102, qka1_26, qka1_27]
@[simp] noncomputable def qka1_77 : SE := .app (.bin .geq) [.inp 101, .inp 8]
@[simp] noncomputable def qka1_78 : SE := .app .pick [qka1_25, .bool true, qka1_77]
@[simp] noncomputable def qka1_79 : SE := .app .pick [qka1_78, .bool true, qka1_72]
@[simp] noncomputable def qka1_80 : SE := .agg [qka1_18, qka1_19, qka1_20, qka1_3, qka1_21, qka1_22, qka1_23, .inp 95, .inp 66, .inp 67, .inp 68, .inp 69, .inp 70, .inp 71, .inp 72, .inp 73, .inp 74, .inp 75, .inp 76, .inp 77, .inp 102, .inp 101, qka1_27]
@[simp] noncomputable def qka1_81 : SE := .agg [qka1_18, qka1_19, qka1_20, qka1_3, qka1_21, qka1_22, qka1_23, .inp 95, .inp 66, .inp 67, .inp 68, .inp 69, .inp 70, .inp 71, .inp 72, .inp 73, .inp 74, .inp 75, .inp 76, .inp 77, .inp 101, qka1_26, qka1_27]
@[simp] noncomputable def qka1_82 : SE := .app (.bin .geq) [.inp 84, .inp 8]
@[simp] noncomputable def qka1_83 : SE := .app .pick [qka1_25, .bool true, qka1_82]
@[simp] noncomputable def qka1_84 : SE := .app .pick [qka1_83, .bool true, qka1_54]
@[simp] noncomputable def qka1_85 : SE := .agg [qka1_18, qka1_19, qka1_20, qka1_3, qka1_21, qka1_22, qka1_23, qka1_24, .inp 66, .inp 67, .inp 68, .inp 69, .inp 70, .inp 71, .inp 72, .inp 73, .inp 74, .inp 75, .inp 76, .inp 77, .inp 85, .inp 84, qka1_27]
@[simp] noncomputable def qka1_86 : SE := .agg [qka1_18, qka1_19, qka1_20, qka1_3, qka1_21, qka1_22, qka1_23, qka1_24, .inp 66, .inp 67, .inp 68, .inp 69, .inp 70, .inp 71, .inp 72, .inp 73, .inp 74, .inp 75, .inp 76, .inp 77, .inp 84, qka1_26, qka1_27]
@[simp] noncomputable def qka1_87 : SE := .agg [qka1_18, qka1_19, qka1_20, qka1_3, qka1_21, qka1_22, qka1_23, qka1_24, qka1_5, qka1_6, qka1_7, qka1_8, qka1_9, qka1_10, qka1_11, qka1_12, qka1_13, qka1_14, qka1_15, qka1_16, .inp 86, .inp 85, qka1_27]
@[simp] noncomputable def qka1_88 : SE := .agg [qka1_18, qka1_19, qka1_20, qka1_3, qka1_21, qka1_22, qka1_23, qka1_24, qka1_5, qka1_6, qka1_7, qka1_8, qka1_9, qka1_10, qka1_11, qka1_12, qka1_13, qka1_14, qka1_15, qka1_16, .inp 85, qka1_26, qka1_27]
@[simp] noncomputable def qka1_89 : SE := .agg [qka1_18, qka1_19, qka1_20, qka1_3, qka1_21, qka1_22, qka1_23, .inp 95, qka1_5, qka1_6, qka1_7, qka1_8, qka1_9, qka1_10, qka1_11, qka1_12, qka1_13, qka1_14, qka1_15, qka1_16, .inp 103, .inp 102, qka1_27]
@[simp] noncomputable def qka1_90 : SE := .agg [qka1_18, qka1_19, qka1_20, qka1_3, qka1_21, qka1_22, qka1_23, .inp 95, qka1_5, qka1_6, qka1_7, qka1_8, qka1_9, qka1_10, qka1_11, qka1_12, qka1_13, qka1_14, qka1_15, qka1_16, .inp 102, qka1_26, qka1_27]
@[simp] noncomputable def qka1_91 : SE := .agg [qka1_18, qka1_19, qka1_20, qka1_3, qka1_21, qka1_22, qka1_23, .inp 95, qka1_5, qka1_6, qka1_7, qka1_8, qka1_9, qka1_10, qka1_11, qka1_12, qka1_13, qka1_14, qka1_15, qka1_16, .inp 102, .inp 101, qka1_27]
@[simp] noncomputable def qka1_92 : SE := .agg [qka1_18, qka1_19, qka1_20, qka1_3, qka1_21, qka1_22, qka1_23, .inp 95, qka1_5, qka1_6, qka1_7, qka1_8, qka1_9, qka1_10, qka1_11, qka1_12, qka1_13, qka1_14, qka1_15, qka1_16, .inp 101, qka1_26, qka1_27]
@[simp] noncomputable def qka1_93 : SE := .agg [qka1_18, qka1_19, qka1_20, qka1_3, qka1_21, qka1_22, qka1_23, qka1_24, qka1_5, qka1_6, qka1_7, qka1_8, qka1_9, qka1_10, qka1_11, qka1_12, qka1_13, qka1_14, qka1_15, qka1_16, .inp 85, .inp 84, qka1_27]
@[simp] noncomputable def qka1_94 : SE := .agg [qka1_18, qka1_19, qka1_20, qka1_3, qka1_21, qka1_22, qka1_23, qka1_24, qka1_5, qka1_6, qka1_7, qka1_8, qka1_9, qka1_10, qka1_11, qka1_12, qka1_13, qka1_14, qka1_15, qka1_16, .inp 84, qka1_26, qka1_27]
@[simp] noncomputable def qka1_95 : SE := .app (.mm true) [.inp 0, .int .i64 0]
@[simp] noncomputable def qka1_96 : SE := .app (.bin .add) [.inp 2, .inp 3]
@[simp] noncomputable def qka1_97 : SE := .app (.bin .neq) [.app .len [.inp 0], .app .len [.inp 1]]
@[simp] noncomputable def qka1_98 : SE := .app (.bin .lss) [.inp 2, .app .len [.inp 0]]
@[simp] noncomputable def qka1_99 : SE := .app (.eidx 3) [.inp 0, .inp 2]
@[simp] noncomputable def qka1_100 : SE := .app (.eidx 3) [.inp 1, .inp 2]
@[simp] noncomputable def qka1_101 : SE := .app (.eload 3 true) [qka1_99]
@[simp] noncomputable def qka1_102 : SE := .app (.eload 3 true) [qka1_100]
@[simp] noncomputable def qka1_103 : SE := .app (.eqa [ some .i64, some .i64, some .i64] true) [qka1_101, qka1_102]
@[simp] noncomputable def qka1_104 : SE := .app (.bin .add) [.inp 2, .int .i64 1]
@[simp] noncomputable def qka1_105 : SE := .app (.bin .eql) [.inp 0, .inp 3]
@[simp] noncomputable def qka1_106 : SE := .app (.bin .eql) [.inp 1, .inp 4]
@[simp] noncomputable def qka1_107 : SE := .app .pick [qka1_105, qka1_106, .bool false]
@[simp] noncomputable def qka1_108 : SE := .app (.bin .geq) [.inp 1, .int .i64 0]
@[simp] noncomputable def qka1_109 : SE := .app (.bin .lss) [.inp 1, .int .i64 32]
@[simp] noncomputable def qka1_110 : SE := .app .pick [qka1_108, qka1_109, .bool false]
@[simp] noncomputable def qka1_111 : SE := .app (.bin .shr) [.inp 0, .app (.conv .u64) [.inp 1]]
@[simp] noncomputable def qka1_112 : SE := .app (.bin .and) [qka1_111, .int .u32 1]
@[simp] noncomputable def qka1_113 : SE := .app (.bin .eql) [qka1_112, .int .u32 1]
@[simp] noncomputable def qka1_114 : SE := .agg [.inp 11, .inp 41, .inp 42, .inp 43, .inp 44, .inp 45, .inp 46, .inp 47, .inp 48, .inp 49, .inp 50, .inp 51, .inp 52, .inp 53, .inp 54, .inp 55, .inp 56, .inp 57, .inp 58, .inp 59, .inp 60, .inp 61, .inp 62, .inp 63, .inp 64, .inp 36, .inp 37, .inp 38, .inp 39]
@[simp] noncomputable def qka1_115 : SE := .app (.aidx 24 1 1 1 false) [qka1_114, .inp 40]
@[simp] noncomputable def qka1_116 : SE := .agg [.inp 40, .inp 41, .inp 42, .inp 43]
@[simp] noncomputable def qka1_117 : SE := .agg [.inp 0, .inp 1, .inp 2, .inp 3, .inp 4, .inp 5, .inp 6, .inp 7, .inp 8, .inp 9, .inp 10, .inp 11, .inp 12, .inp 13, .inp 14, .inp 15, .inp 16, .inp 17, .inp 18, .inp 19, .inp 20, .inp 21, .inp 22]
@[simp] noncomputable def qka1_118 : SE := .app (.bin .eql) [.inp 0, .inp 23]
@[simp] noncomputable def qka1_119 : SE := .app .pick [qka1_118, .inp 46, .bool false]
@[simp] noncomputable def qka1_120 : SE := .app .pick [qka1_119, .inp 47, .bool false]
@[simp] noncomputable def qka1_121 : SE := .app .pick [qka1_120, .inp 48, .bool false]
@[simp] noncomputable def qka1_122 : SE := .app (.bin .eql) [.inp 6, .inp 29]
@[simp] noncomputable def qka1_123 : SE := .app .pick [qka1_121, qka1_122, .bool false]
@[simp] noncomputable def qka1_124 : SE := .app (.bin .eql) [.inp 7, .inp 30]
@[simp] noncomputable def qka1_125 : SE := .app .pick [qka1_123, qka1_124, .bool false]
@[simp] noncomputable def qka1_126 : SE := .agg [.inp 8, .inp 9, .inp 10, .inp 11, .inp 12, .inp 13, .inp 14, .inp 15, .inp 16, .inp 17, .inp 18, .inp 19]
@[simp] noncomputable def qka1_127 : SE := .agg [.inp 31, .inp 32, .inp 33, .inp 34, .inp 35, .inp 36, .inp 37, .inp 38, .inp 39, .inp 40, .inp 41, .inp 42]
@[simp] noncomputable def qka1_128 : SE := .app (.eqa [ none, none, none, none, none, none, none, none, none, none, none, none] false) [qka1_126, qka1_127]
@[simp] noncomputable def qka1_129 : SE := .app .pick [qka1_125, qka1_128, .bool false]
@[simp] noncomputable def qka1_130 : SE := .app (.eqb false) [.inp 20, .inp 43]
@[simp] noncomputable def qka1_131 : SE := .app .pick [qka1_129, qka1_130, .bool false]
@[simp] noncomputable def qka1_132 : SE := .app (.bin .eql) [.inp 21, .inp 44]
@[simp] noncomputable def qka1_133 : SE := .app .pick [qka1_131, qka1_132, .bool false]
@[simp] noncomputable def qka1_134 : SE := .app (.eqb false) [.inp 22, .inp 45]
@[simp] noncomputable def qka1_135 : SE := .app (.mm true) [.inp 0, .int .i64 1]
@[simp] noncomputable def qka1_136 : SE := .app (.bin .lss) [.inp 63, .app .len [.inp 43]]
@[simp] noncomputable def qka1_137 : SE := .app (.eidx 3) [.inp 43, .inp 63]
@[simp] noncomputable def qka1_138 : SE := .app (.eload 3 true) [qka1_137]
@[simp] noncomputable def qka1_139 : SE := .app (.bin .geq) [.inp 63, .inp 47]
@[simp] noncomputable def qka1_140 : SE := .app (.part 0 1 false) [qka1_138]
@[simp] noncomputable def qka1_141 : SE := .app (.bin .add) [.inp 63, .int .i64 1]
@[simp] noncomputable def qka1_142 : SE := .app (.part 0 1 false) [.inp 41]
@[simp] noncomputable def qka1_143 : SE := .app (.bin .geq) [qka1_142, .int .i64 0]
@[simp] noncomputable def qka1_144 : SE := .ref [.inp 23, .inp 24, .inp 25, .inp 26, .inp 27, .inp 28, .inp 29, .inp 30, .inp 31, .inp 32, .inp 33] 0
@[simp] noncomputable def qka1_145 : SE := .ref [.inp 34, .inp 35, .inp 36, .inp 37, .inp 38, .inp 39, .inp 40, .inp 41, .inp 42, .inp 43, .inp 44, .inp 45, .inp 46, .inp 47, .inp 48, .inp 49, .inp 50, .inp 51, .inp 52, .inp 53, .inp 54, .inp 55, .inp 56, .inp 57, .inp 58, .inp 59, .inp 60, .inp 61, .inp 62] 0
@[simp] noncomputable def qka1_146 : SE := .app (.eload 11 true) [qka1_144]
@[simp] noncomputable def qka1_147 : SE := .app (.eload 29 true) [qka1_145]
noncomputable def rt_pass_Run : RT :=
.seg [.chk [] (.isAgg 11) [qka1_0]] <|
.seg [.chk [] (.isAgg 29) [qka1_1]] <|
.seg [.chk [] (.isAgg 23) [qka1_2]] <|
.seg [.call 63 [] 25 [qka1_2] false] <|
.seg [.chk [] (.isAgg 23) [.inp 63]] <|
.seg [.chk [] .len [qka1_3]] <|
.seg [.chk [] (.bin .sub) [qka1_4, .int .i64 1]] <|
.seg [.chk [] (.isAgg 12) [qka1_17]] <|
.seg [.call 64 [] 45 [qka1_0, qka1_1, qka1_28] false] <|
.cond (.inp 64)
 (.seg [.chk [] (.isAgg 23) [qka1_28]] <|
.ret (qka1_28))
 (.seg [.chk [] (.isAgg 23) [qka1_28]] <|
.loop 0 65 [qka1_24, qka1_5, qka1_6, qka1_7, qka1_8, qka1_9, qka1_10, qka1_11, qka1_12, qka1_13, qka1_14, qka1_15, qka1_16] <|
.seg [.chk [] .len [qka1_3]] <|
.seg [.chk [] (.bin .lss) [.inp 65, qka1_4]] <|
.cond (.app (.bin .lss) [.inp 65, qka1_4])
 (.seg [.chk [] (.eidx 3) [qka1_3, .inp 65]] <|
.seg [.chk [] (.eoff 0) [qka1_29]] <|
.seg [.chk [] (.eload 1 false) [qka1_30]] <|
.seg [.chk [] (.inr 12) [.inp 65]] <|
.seg [.chk [] (.aidx 12 1 0 1 false) [qka1_31, .inp 65]] <|
.cond (.app (.aidx 12 1 0 1 false) [qka1_31, .inp 65])
 (.seg [.chk [(.undef, true)] (.bin .eql) [.inp 65, .int .i64 0]] <|
.seg [.chk [(qka1_32, false), (.undef, true)] (.bin .sub) [.inp 65, .int .i64 1]] <|
.seg [.chk [(qka1_32, false), (.undef, true)] (.inr 12) [qka1_33]] <|
.seg [.chk [(qka1_32, false), (.undef, true)] (.aidx 12 1 0 1 false) [qka1_31, qka1_33]] <|
.seg [.chk [(.undef, true)] .pick [qka1_32, .bool true, qka1_34]] <|
.seg [.chk [] (.inr 12) [.inp 65]] <|
.seg [.chk [] (.inr 12) [.inp 65]] <|
.seg [.bind 78 (qka1_34),
.bind 79 (qka1_35)] <|
.seg [.chk [] (.un .not) [.bool true]] <|
.seg [.chk [] (.bin .add) [.inp 65, .int .i64 1]] <|
.again 0 [qka1_36, .app (.cellset 0 12 1 0 1 0) [.inp 65, .inp 66, .agg [.bool true]], .app (.cellset 0 12 1 0 1 1) [.inp 65, .inp 67, .agg [.bool true]], .app (.cellset 0 12 1 0 1 2) [.inp 65, .inp 68, .agg [.bool true]], .app (.cellset 0 12 1 0 1 3) [.inp 65, .inp 69, .agg [.bool true]], .app (.cellset 0 12 1 0 1 4) [.inp 65, .inp 70, .agg [.bool true]], .app (.cellset 0 12 1 0 1 5) [.inp 65, .inp 71, .agg [.bool true]], .app (.cellset 0 12 1 0 1 6) [.inp 65, .inp 72, .agg [.bool true]], .app (.cellset 0 12 1 0 1 7) [.inp 65, .inp 73, .agg [.bool true]], .app (.cellset 0 12 1 0 1 8) [.inp 65, .inp 74, .agg [.bool true]], .app (.cellset 0 12 1 0 1 9) [.inp 65, .inp 75, .agg [.bool true]], .app (.cellset 0 12 1 0 1 10) [.inp 65, .inp 76, .agg [.bool true]], .app (.cellset 0 12 1 0 1 11) [.inp 65, .inp 77, .agg [.bool true]]])
 (.seg [.call 78 [] 42 [qka1_0, qka1_1, .app (.eload 1 false) [qka1_30]] false] <|
.seg [.chk [(.inp 78, true)] (.bin .eql) [.inp 65, .int .i64 0]] <|
.seg [.chk [(qka1_32, false), (.inp 78, true)] (.bin .sub) [.inp 65, .int .i64 1]] <|
.seg [.chk [(qka1_32, false), (.inp 78, true)] (.inr 12) [qka1_33]] <|
.seg [.chk [(qka1_32, false), (.inp 78, true)] (.aidx 12 1 0 1 false) [qka1_31, qka1_33]] <|
.seg [.chk [(.inp 78, true)] .pick [qka1_32, .bool true, qka1_34]] <|
.seg [.chk [] .pick [.inp 78, qka1_35, .bool false]] <|
.seg [.chk [] (.inr 12) [.inp 65]] <|
.seg [.chk [] (.inr 12) [.inp 65],
.chk [] .isOne [qka1_37]] <|
.seg [.bind 79 (qka1_34),
.bind 80 (qka1_35),
.bind 81 (qka1_37),
.bind 82 (.app (.cellset 0 12 1 0 1 0) [.inp 65, .inp 66, qka1_38]),
.bind 83 (.app (.cellset 0 12 1 0 1 1) [.inp 65, .inp 67, qka1_38]),
.bind 84 (.app (.cellset 0 12 1 0 1 2) [.inp 65, .inp 68, qka1_38]),
.bind 85 (.app (.cellset 0 12 1 0 1 3) [.inp 65, .inp 69, qka1_38]),
.bind 86 (.app (.cellset 0 12 1 0 1 4) [.inp 65, .inp 70, qka1_38]),
.bind 87 (.app (.cellset 0 12 1 0 1 5) [.inp 65, .inp 71, qka1_38]),
.bind 88 (.app (.cellset 0 12 1 0 1 6) [.inp 65, .inp 72, qka1_38]),
.bind 89 (.app (.cellset 0 12 1 0 1 7) [.inp 65, .inp 73, qka1_38]),
.bind 90 (.app (.cellset 0 12 1 0 1 8) [.inp 65, .inp 74, qka1_38]),
.bind 91 (.app (.cellset 0 12 1 0 1 9) [.inp 65, .inp 75, qka1_38]),
.bind 92 (.app (.cellset 0 12 1 0 1 10) [.inp 65, .inp 76, qka1_38]),
.bind 93 (.app (.cellset 0 12 1 0 1 11) [.inp 65, .inp 77, qka1_38])] <|
.seg [.chk [] (.un .not) [.bool true]] <|
.seg [.chk [] (.bin .add) [.inp 65, .int .i64 1]] <|
.again 0 [qka1_36, .inp 82, .inp 83, .inp 84, .inp 85, .inp 86, .inp 87, .inp 88, .inp 89, .inp 90, .inp 91, .inp 92, .inp 93]))
 (.seg [.chk [] (.eqa [ none, none, none, none, none, none, none, none, none, none, none, none] true) [qka1_31, qka1_17]] <|
.seg [.bind 78 (.app (.eqa [ none, none, none, none, none, none, none, none, none, none, none, none] true) [qka1_31, qka1_17])] <|
.cond (.inp 78)
 (.seg [.chk [] (.isAgg 12) [qka1_31]] <|
.seg [.chk [] (.bin .leq) [qka1_24, qka1_39]] <|
.seg [.chk [(qka1_40, true)] (.inr 12) [qka1_24]] <|
.seg [.chk [(qka1_40, true)] (.aidx 12 1 0 1 false) [qka1_31, qka1_24]] <|
.seg [.chk [] .pick [qka1_40, qka1_41, .bool false]] <|
.seg [.chk [(qka1_42, true)] (.bin .eql) [qka1_24, qka1_39]] <|
.seg [.chk [(qka1_43, false), (qka1_42, true)] (.bin .add) [qka1_24, .int .i64 1]] <|
.seg [.chk [(qka1_43, false), (qka1_42, true)] (.inr 12) [qka1_44]] <|
.seg [.chk [(qka1_43, false), (qka1_42, true)] (.aidx 12 1 0 1 false) [qka1_31, qka1_44]] <|
.seg [.chk [(qka1_42, true)] .pick [qka1_43, .bool true, qka1_45]] <|
.seg [.chk [] .pick [qka1_42, qka1_46, .bool false]] <|
.seg [.chk [(qka1_47, true)] (.eidx 3) [qka1_3, qka1_24]] <|
.seg [.chk [(qka1_47, true)] (.eoff 0) [qka1_48]] <|
.seg [.chk [(qka1_47, true)] (.eload 1 false) [qka1_49]] <|
.cond (qka1_47)
 (.seg [.call 79 [] 20 [qka1_0, qka1_1, qka1_50] false] <|
.seg [.chk [] (.un .not) [.inp 79]] <|
.seg [.bind 80 (qka1_41),
.bind 81 (qka1_42),
.bind 82 (qka1_45),
.bind 83 (qka1_46)] <|
.cond (.inp 79)
 (.seg [.chk [] (.inr 12) [qka1_39]] <|
.seg [.chk [] (.aidx 12 1 0 1 false) [qka1_31, qka1_39]] <|
.seg [.bind 84 (qka1_51)] <|
.cond (.inp 84)
 (.seg [.call 85 [] 47 [qka1_26] false] <|
.seg [.chk [] .isOne [.inp 85]] <|
.seg [.chk [(qka1_25, false)] (.bin .geq) [.inp 85, .inp 8]] <|
.seg [.chk [] .pick [qka1_25, .bool true, qka1_52]] <|
.seg [.chk [] .isOne [qka1_53]] <|
.seg [.chk [(qka1_53, false)] (.bin .gtr) [qka1_24, qka1_39]] <|
.seg [.chk [] .pick [qka1_53, .bool true, qka1_54]] <|
.seg [.chk [] .isOne [qka1_55]] <|
.seg [.bind 86 (qka1_55)] <|
.seg [.chk [] (.isAgg 23) [qka1_56]] <|
.ret (qka1_56))
 (.seg [.chk [(qka1_25, false)] (.bin .gtr) [qka1_24, qka1_39]] <|
.seg [.chk [] .pick [qka1_25, .bool true, qka1_54]] <|
.seg [.chk [] .isOne [qka1_57]] <|
.seg [.bind 85 (qka1_57)] <|
.seg [.chk [] (.isAgg 23) [qka1_58]] <|
.ret (qka1_58)))
 (.seg [.chk [] (.bin .add) [qka1_24, .int .i64 1]] <|
.seg [.chk [] .isOne [qka1_44]] <|
.loop 0 84 [qka1_24, qka1_40, qka1_40, .inp 81, .inp 81, qka1_24, qka1_48, qka1_49, qka1_50, qka1_24, qka1_44, qka1_44] <|
.seg [.chk [] (.bin .leq) [.inp 95, qka1_39]] <|
.seg [.chk [(qka1_59, true)] (.inr 12) [.inp 95]] <|
.seg [.chk [(qka1_59, true)] (.aidx 12 1 0 1 false) [qka1_31, .inp 95]] <|
.seg [.chk [] .pick [qka1_59, qka1_60, .bool false]] <|
.seg [.chk [(qka1_61, true)] (.bin .eql) [.inp 95, qka1_39]] <|
.seg [.chk [(qka1_62, false), (qka1_61, true)] (.bin .add) [.inp 95, .int .i64 1]] <|
.seg [.chk [(qka1_62, false), (qka1_61, true)] (.inr 12) [qka1_63]] <|
.seg [.chk [(qka1_62, false), (qka1_61, true)] (.aidx 12 1 0 1 false) [qka1_31, qka1_63]] <|
.seg [.chk [(qka1_61, true)] .pick [qka1_62, .bool true, qka1_64]] <|
.seg [.chk [] .pick [qka1_61, qka1_65, .bool false]] <|
.seg [.chk [(qka1_66, true)] (.eidx 3) [qka1_3, .inp 95]] <|
.seg [.chk [(qka1_66, true)] (.eoff 0) [qka1_67]] <|
.seg [.chk [(qka1_66, true)] (.eload 1 false) [qka1_68]] <|
.cond (qka1_66)
 (.seg [.call 96 [] 20 [qka1_0, qka1_1, qka1_69] false] <|
.seg [.chk [] (.un .not) [.inp 96]] <|
.seg [.bind 97 (qka1_60),
.bind 98 (qka1_61),
.bind 99 (qka1_64),
.bind 100 (qka1_65)] <|
.cond (.inp 96)
 (.seg [.chk [] (.inr 12) [qka1_39]] <|
.seg [.chk [] (.aidx 12 1 0 1 false) [qka1_31, qka1_39]] <|
.seg [.bind 101 (qka1_51)] <|
.cond (.inp 101)
 (.seg [.call 102 [] 47 [qka1_26] false] <|
.seg [.chk [] .isOne [.inp 102]] <|
.seg [.chk [(qka1_25, false)] (.bin .geq) [.inp 102, .inp 8]] <|
.seg [.chk [] .pick [qka1_25, .bool true, qka1_70]] <|
.seg [.chk [] .isOne [qka1_71]] <|
.seg [.chk [(qka1_71, false)] (.bin .gtr) [.inp 95, qka1_39]] <|
.seg [.chk [] .pick [qka1_71, .bool true, qka1_72]] <|
.seg [.chk [] .isOne [qka1_73]] <|
.seg [.bind 103 (qka1_73)] <|
.seg [.chk [] (.isAgg 23) [qka1_74]] <|
.ret (qka1_74))
 (.seg [.chk [(qka1_25, false)] (.bin .gtr) [.inp 95, qka1_39]] <|
.seg [.chk [] .pick [qka1_25, .bool true, qka1_72]] <|
.seg [.chk [] .isOne [qka1_75]] <|
.seg [.bind 102 (qka1_75)] <|
.seg [.chk [] (.isAgg 23) [qka1_76]] <|
.ret (qka1_76)))
 (.seg [.chk [] (.bin .add) [.inp 95, .int .i64 1]] <|
.seg [.chk [] .isOne [qka1_63]] <|
.again 0 [.inp 95, qka1_59, qka1_59, .inp 98, .inp 98, .inp 95, qka1_67, qka1_68, qka1_69, .inp 95, qka1_63, qka1_63]))
 (.seg [.bind 96 (qka1_60),
.bind 97 (qka1_61),
.bind 98 (qka1_64),
.bind 99 (qka1_65)] <|
.seg [.chk [] (.inr 12) [qka1_39]] <|
.seg [.chk [] (.aidx 12 1 0 1 false) [qka1_31, qka1_39]] <|
.seg [.bind 100 (qka1_51)] <|
.cond (.inp 100)
 (.seg [.call 101 [] 47 [qka1_26] false] <|
.seg [.chk [] .isOne [.inp 101]] <|
.seg [.chk [(qka1_25, false)] (.bin .geq) [.inp 101, .inp 8]] <|
.seg [.chk [] .pick [qka1_25, .bool true, qka1_77]] <|
.seg [.chk [] .isOne [qka1_78]] <|
.seg [.chk [(qka1_78, false)] (.bin .gtr) [.inp 95, qka1_39]] <|
.seg [.chk [] .pick [qka1_78, .bool true, qka1_72]] <|
.seg [.chk [] .isOne [qka1_79]] <|
.seg [.bind 102 (qka1_79)] <|
.seg [.chk [] (.isAgg 23) [qka1_80]] <|
.ret (qka1_80))
 (.seg [.chk [(qka1_25, false)] (.bin .gtr) [.inp 95, qka1_39]] <|
.seg [.chk [] .pick [qka1_25, .bool true, qka1_72]] <|
.seg [.chk [] .isOne [qka1_75]] <|
.seg [.bind 101 (qka1_75)] <|
.seg [.chk [] (.isAgg 23) [qka1_81]] <|
.ret (qka1_81)))))
 (.seg [.bind 79 (qka1_41),
.bind 80 (qka1_42),
.bind 81 (qka1_45),
.bind 82 (qka1_46)] <|
.seg [.chk [] (.inr 12) [qka1_39]] <|
.seg [.chk [] (.aidx 12 1 0 1 false) [qka1_31, qka1_39]] <|
.seg [.bind 83 (qka1_51)] <|
.cond (.inp 83)
 (.seg [.call 84 [] 47 [qka1_26] false] <|
.seg [.chk [] .isOne [.inp 84]] <|
.seg [.chk [(qka1_25, false)] (.bin .geq) [.inp 84, .inp 8]] <|
.seg [.chk [] .pick [qka1_25, .bool true, qka1_82]] <|
.seg [.chk [] .isOne [qka1_83]] <|
.seg [.chk [(qka1_83, false)] (.bin .gtr) [qka1_24, qka1_39]] <|
.seg [.chk [] .pick [qka1_83, .bool true, qka1_54]] <|
.seg [.chk [] .isOne [qka1_84]] <|
.seg [.bind 85 (qka1_84)] <|
.seg [.chk [] (.isAgg 23) [qka1_85]] <|
.ret (qka1_85))
 (.seg [.chk [(qka1_25, false)] (.bin .gtr) [qka1_24, qka1_39]] <|
.seg [.chk [] .pick [qka1_25, .bool true, qka1_54]] <|
.seg [.chk [] .isOne [qka1_57]] <|
.seg [.bind 84 (qka1_57)] <|
.seg [.chk [] (.isAgg 23) [qka1_86]] <|
.ret (qka1_86))))
 (.seg [.chk [] (.bin .leq) [qka1_24, qka1_39]] <|
.seg [.chk [(qka1_40, true)] (.inr 12) [qka1_24]] <|
.seg [.chk [(qka1_40, true)] (.aidx 12 1 0 1 false) [qka1_31, qka1_24]] <|
.seg [.chk [] .pick [qka1_40, qka1_41, .bool false]] <|
.seg [.chk [(qka1_42, true)] (.bin .eql) [qka1_24, qka1_39]] <|
.seg [.chk [(qka1_43, false), (qka1_42, true)] (.bin .add) [qka1_24, .int .i64 1]] <|
.seg [.chk [(qka1_43, false), (qka1_42, true)] (.inr 12) [qka1_44]] <|
.seg [.chk [(qka1_43, false), (qka1_42, true)] (.aidx 12 1 0 1 false) [qka1_31, qka1_44]] <|
.seg [.chk [(qka1_42, true)] .pick [qka1_43, .bool true, qka1_45]] <|
.seg [.chk [] .pick [qka1_42, qka1_46, .bool false]] <|
.seg [.chk [(qka1_47, true)] (.eidx 3) [qka1_3, qka1_24]] <|
.seg [.chk [(qka1_47, true)] (.eoff 0) [qka1_48]] <|
.seg [.chk [(qka1_47, true)] (.eload 1 false) [qka1_49]] <|
.cond (qka1_47)
 (.seg [.call 79 [] 20 [qka1_0, qka1_1, qka1_50] false] <|
.seg [.chk [] (.un .not) [.inp 79]] <|
.seg [.bind 80 (qka1_41),
.bind 81 (qka1_42),
.bind 82 (qka1_45),
.bind 83 (qka1_46)] <|
.cond (.inp 79)
 (.seg [.chk [] (.inr 12) [qka1_39]] <|
.seg [.chk [] (.aidx 12 1 0 1 false) [qka1_31, qka1_39]] <|
.seg [.bind 84 (qka1_51)] <|
.cond (.inp 84)
 (.seg [.call 85 [] 47 [qka1_26] false] <|
.seg [.chk [] .isOne [.inp 85]] <|
.seg [.chk [(qka1_25, false)] (.bin .geq) [.inp 85, .inp 8]] <|
.seg [.chk [] .pick [qka1_25, .bool true, qka1_52]] <|
.seg [.chk [] .isOne [qka1_53]] <|
.seg [.chk [(qka1_53, false)] (.bin .gtr) [qka1_24, qka1_39]] <|
.seg [.chk [] .pick [qka1_53, .bool true, qka1_54]] <|
.seg [.chk [] .isOne [qka1_55]] <|
.seg [.bind 86 (qka1_55)] <|
.seg [.chk [] (.isAgg 23) [qka1_87]] <|
.ret (qka1_87))
 (.seg [.chk [(qka1_25, false)] (.bin .gtr) [qka1_24, qka1_39]] <|
.seg [.chk [] .pick [qka1_25, .bool true, qka1_54]] <|
.seg [.chk [] .isOne [qka1_57]] <|
.seg [.bind 85 (qka1_57)] <|
.seg [.chk [] (.isAgg 23) [qka1_88]] <|
.ret (qka1_88)))
 (.seg [.chk [] (.bin .add) [qka1_24, .int .i64 1]] <|
.seg [.chk [] .isOne [qka1_44]] <|
.loop 0 84 [qka1_24, qka1_40, qka1_40, .inp 81, .inp 81, qka1_24, qka1_48, qka1_49, qka1_50, qka1_24, qka1_44, qka1_44] <|
.seg [.chk [] (.bin .leq) [.inp 95, qka1_39]] <|
.seg [.chk [(qka1_59, true)] (.inr 12) [.inp 95]] <|
.seg [.chk [(qka1_59, true)] (.aidx 12 1 0 1 false) [qka1_31, .inp 95]] <|
.seg [.chk [] .pick [qka1_59, qka1_60, .bool false]] <|
.seg [.chk [(qka1_61, true)] (.bin .eql) [.inp 95, qka1_39]] <|
.seg [.chk [(qka1_62, false), (qka1_61, true)] (.bin .add) [.inp 95, .int .i64 1]] <|
.seg [.chk [(qka1_62, false), (qka1_61, true)] (.inr 12) [qka1_63]] <|
.seg [.chk [(qka1_62, false), (qka1_61, true)] (.aidx 12 1 0 1 false) [qka1_31, qka1_63]] <|
.seg [.chk [(qka1_61, true)] .pick [qka1_62, .bool true, qka1_64]] <|
.seg [.chk [] .pick [qka1_61, qka1_65, .bool false]] <|
.seg [.chk [(qka1_66, true)] (.eidx 3) [qka1_3, .inp 95]] <|
.seg [.chk [(qka1_66, true)] (.eoff 0) [qka1_67]] <|
.seg [.chk [(qka1_66, true)] (.eload 1 false) [qka1_68]] <|
.cond (qka1_66)
 (.seg [.call 96 [] 20 [qka1_0, qka1_1, qka1_69] false] <|
.seg [.chk [] (.un .not) [.inp 96]] <|
.seg [.bind 97 (qka1_60),
.bind 98 (qka1_61),
.bind 99 (qka1_64),
.bind 100 (qka1_65)] <|
.cond (.inp 96)
 (.seg [.chk [] (.inr 12) [qka1_39]] <|
.seg [.chk [] (.aidx 12 1 0 1 false) [qka1_31, qka1_39]] <|
.seg [.bind 101 (qka1_51)] <|
.cond (.inp 101)
 (.seg [.call 102 [] 47 [qka1_26] false] <|
.seg [.chk [] .isOne [.inp 102]] <|
.seg [.chk [(qka1_25, false)] (.bin .geq) [.inp 102, .inp 8]] <|
.seg [.chk [] .pick [qka1_25, .bool true, qka1_70]] <|
.seg [.chk [] .isOne [qka1_71]] <|
.seg [.chk [(qka1_71, false)] (.bin .gtr) [.inp 95, qka1_39]] <|
.seg [.chk [] .pick [qka1_71, .bool true, qka1_72]] <|
.seg [.chk [] .isOne [qka1_73]] <|
.seg [.bind 103 (qka1_73)] <|
.seg [.chk [] (.isAgg 23) [qka1_89]] <|
.ret (qka1_89))
 (.seg [.chk [(qka1_25, false)] (.bin .gtr) [.inp 95, qka1_39]] <|
.seg [.chk [] .pick [qka1_25, .bool true, qka1_72]] <|
.seg [.chk [] .isOne [qka1_75]] <|
.seg [.bind 102 (qka1_75)] <|
.seg [.chk [] (.isAgg 23) [qka1_90]] <|
.ret (qka1_90)))
 (.seg [.chk [] (.bin .add) [.inp 95, .int .i64 1]] <|
.seg [.chk [] .isOne [qka1_63]] <|
.again 0 [.inp 95, qka1_59, qka1_59, .inp 98, .inp 98, .inp 95, qka1_67, qka1_68, qka1_69, .inp 95, qka1_63, qka1_63]))
 (.seg [.bind 96 (qka1_60),
.bind 97 (qka1_61),
.bind 98 (qka1_64),
.bind 99 (qka1_65)] <|
.seg [.chk [] (.inr 12) [qka1_39]] <|
.seg [.chk [] (.aidx 12 1 0 1 false) [qka1_31, qka1_39]] <|
.seg [.bind 100 (qka1_51)] <|
.cond (.inp 100)
 (.seg [.call 101 [] 47 [qka1_26] false] <|
.seg [.chk [] .isOne [.inp 101]] <|
.seg [.chk [(qka1_25, false)] (.bin .geq) [.inp 101, .inp 8]] <|
.seg [.chk [] .pick [qka1_25, .bool true, qka1_77]] <|
.seg [.chk [] .isOne [qka1_78]] <|
.seg [.chk [(qka1_78, false)] (.bin .gtr) [.inp 95, qka1_39]] <|
.seg [.chk [] .pick [qka1_78, .bool true, qka1_72]] <|
.seg [.chk [] .isOne [qka1_79]] <|
.seg [.bind 102 (qka1_79)] <|
.seg [.chk [] (.isAgg 23) [qka1_91]] <|
.ret (qka1_91))
 (.seg [.chk [(qka1_25, false)] (.bin .gtr) [.inp 95, qka1_39]] <|
.seg [.chk [] .pick [qka1_25, .bool true, qka1_72]] <|
.seg [.chk [] .isOne [qka1_75]] <|
.seg [.bind 101 (qka1_75)] <|
.seg [.chk [] (.isAgg 23) [qka1_92]] <|
.ret (qka1_92)))))
 (.seg [.bind 79 (qka1_41),
.bind 80 (qka1_42),
.bind 81 (qka1_45),
.bind 82 (qka1_46)] <|
.seg [.chk [] (.inr 12) [qka1_39]] <|
.seg [.chk [] (.aidx 12 1 0 1 false) [qka1_31, qka1_39]] <|
.seg [.bind 83 (qka1_51)] <|
.cond (.inp 83)
 (.seg [.call 84 [] 47 [qka1_26] false] <|
.seg [.chk [] .isOne [.inp 84]] <|
.seg [.chk [(qka1_25, false)] (.bin .geq) [.inp 84, .inp 8]] <|
.seg [.chk [] .pick [qka1_25, .bool true, qka1_82]] <|
.seg [.chk [] .isOne [qka1_83]] <|
.seg [.chk [(qka1_83, false)] (.bin .gtr) [qka1_24, qka1_39]] <|
.seg [.chk [] .pick [qka1_83, .bool true, qka1_54]] <|
.seg [.chk [] .isOne [qka1_84]] <|
.seg [.bind 85 (qka1_84)] <|
.seg [.chk [] (.isAgg 23) [qka1_93]] <|
.ret (qka1_93))
 (.seg [.chk [(qka1_25, false)] (.bin .gtr) [qka1_24, qka1_39]] <|
.seg [.chk [] .pick [qka1_25, .bool true, qka1_54]] <|
.seg [.chk [] .isOne [qka1_57]] <|
.seg [.bind 84 (qka1_57)] <|
.seg [.chk [] (.isAgg 23) [qka1_94]] <|
.ret (qka1_94))))))
theorem run_pass_Run : runF E 28 [.agg [.inp 0, .inp 1, .inp 2, .inp 3, .inp 4, .inp 5, .inp 6, .inp 7, .inp 8, .inp 9, .inp 10], .agg [.inp 11, .inp 12, .inp 13, .inp 14, .inp 15, .inp 16, .inp 17, .inp 18, .inp 19, .inp 20, .inp 21, .inp 22, .inp 23, .inp 24, .inp 25, .inp 26, .inp 27, .inp 28, .inp 29, .inp 30, .inp 31, .inp 32, .inp 33, .inp 34, .inp 35, .inp 36, .inp 37, .inp 38, .inp 39], .agg [.inp 40, .inp 41, .inp 42, .inp 43, .inp 44, .inp 45, .inp 46, .inp 47, .inp 48, .inp 49, .inp 50, .inp 51, .inp 52, .inp 53, .inp 54, .inp 55, .inp 56, .inp 57, .inp 58, .inp 59, .inp 60, .inp 61, .inp 62]] 63 = rt_pass_Run := by kernel_rfl

noncomputable def rt_lockbarref03_Late : RT :=
.seg [.chk [] (.bin .gtr) [.inp 0, .inp 1]] <|
.ret (.app (.bin .gtr) [.inp 0, .inp 1])
theorem run_lockbarref03_Late : runF E 59 [.inp 0, .inp 1] 2 = rt_lockbarref03_Late := by kernel_rfl

noncomputable def rt_lockbarref03_within : RT :=
.seg [.chk [] (.mm true) [.inp 0, .int .i64 0]] <|
.seg [.chk [] (.mm false) [qka1_95, .inp 1]] <|
.ret (.app (.mm false) [qka1_95, .inp 1])
theorem run_lockbarref03_within : runF E 78 [.inp 0, .inp 1] 2 = rt_lockbarref03_within := by kernel_rfl

noncomputable def rt_lockbarref03_Count : RT :=
.seg [.call 1 [] 78 [.inp 0, .int .i64 65535] false] <|
.ret (.inp 1)
theorem run_lockbarref03_Count : runF E 68 [.inp 0] 1 = rt_lockbarref03_Count := by kernel_rfl

noncomputable def rt_lockbarref03_More : RT :=
.seg [.call 2 [] 68 [.inp 0] false] <|
.seg [.call 3 [] 68 [.inp 1] false] <|
.seg [.chk [] (.bin .add) [.inp 2, .inp 3]] <|
.seg [.chk [] (.mm false) [qka1_96, .int .i64 65535]] <|
.ret (.app (.mm false) [qka1_96, .int .i64 65535])
theorem run_lockbarref03_More : runF E 58 [.inp 0, .inp 1] 2 = rt_lockbarref03_More := by kernel_rfl

noncomputable def rt_lockbarref03_Row : RT :=
.seg [.chk [] (.un .not) [.inp 0]] <|
.cond (.inp 0)
 (.seg [.call 2 [] 58 [.inp 1, .int .i64 1] false] <|
.ret (.inp 2))
 (.ret (.int .i64 0))
theorem run_lockbarref03_Row : runF E 48 [.inp 0, .inp 1] 2 = rt_lockbarref03_Row := by kernel_rfl

noncomputable def rt_lockbarref11_Steps : RT :=
.seg [.chk [] .len [.inp 0]] <|
.seg [.chk [] .len [.inp 1]] <|
.seg [.chk [] (.bin .neq) [.app .len [.inp 0], .app .len [.inp 1]]] <|
.cond (qka1_97)
 (.ret (.bool false))
 (.loop 0 2 [.int .i64 0] <|
.seg [.chk [] .len [.inp 0]] <|
.seg [.chk [] (.bin .lss) [.inp 2, .app .len [.inp 0]]] <|
.cond (qka1_98)
 (.seg [.chk [] (.eidx 3) [.inp 0, .inp 2],
.chk [] (.eload 3 true) [qka1_99],
.chk [] (.eidx 3) [.inp 1, .inp 2],
.chk [] (.eload 3 true) [qka1_100],
.chk [] (.eqa [ some .i64, some .i64, some .i64] true) [qka1_101, qka1_102]] <|
.cond (qka1_103)
 (.ret (.bool false))
 (.seg [.chk [] (.bin .add) [.inp 2, .int .i64 1]] <|
.again 0 [qka1_104]))
 (.ret (.bool true)))
theorem run_lockbarref11_Steps : runF E 23 [.inp 0, .inp 1] 2 = rt_lockbarref11_Steps := by kernel_rfl

noncomputable def rt_lockbarref11_Same : RT :=
.seg [.chk [] (.isAgg 3) [.agg [.inp 0, .inp 1, .inp 2]]] <|
.seg [.chk [] (.isAgg 3) [.agg [.inp 3, .inp 4, .inp 5]]] <|
.seg [.chk [] (.bin .eql) [.inp 0, .inp 3]] <|
.seg [.chk [(qka1_105, true)] (.bin .eql) [.inp 1, .inp 4]] <|
.seg [.chk [] .pick [qka1_105, qka1_106, .bool false]] <|
.seg [.call 6 [(qka1_107, true)] 23 [.inp 2, .inp 5] false] <|
.seg [.chk [] .pick [qka1_107, .inp 6, .bool false]] <|
.seg [.bind 7 (.app .pick [qka1_107, .inp 6, .bool false])] <|
.ret (.inp 7)
theorem run_lockbarref11_Same : runF E 22 [.agg [.inp 0, .inp 1, .inp 2], .agg [.inp 3, .inp 4, .inp 5]] 6 = rt_lockbarref11_Same := by kernel_rfl

noncomputable def rt_lockbarref15_New : RT :=
.ret (.agg [.int .i64 65535, .int .i64 0, .int .i64 0, .int .i64 0, .int .i64 0, .int .i64 0, .int .i64 0, .int .i64 0, .int .i64 0, .int .i64 0, .int .i64 0, .int .i64 0, .int .i64 0, .int .i64 0, .int .i64 0, .int .i64 0, .int .i64 0, .int .i64 0, .int .i64 0, .int .i64 0, .int .i64 0, .int .i64 0, .int .i64 0, .int .i64 0, .int .i64 0, .int .u32 0, .int .u32 0, .int .u32 0, .int .u32 0])
theorem run_lockbarref15_New : runF E 15 [] 0 = rt_lockbarref15_New := by kernel_rfl

noncomputable def rt_lockbarref15_bit : RT :=
.seg [.chk [] (.bin .geq) [.inp 1, .int .i64 0]] <|
.seg [.chk [(qka1_108, true)] (.bin .lss) [.inp 1, .int .i64 32]] <|
.seg [.chk [] .pick [qka1_108, qka1_109, .bool false]] <|
.seg [.chk [(qka1_110, true)] (.conv .u64) [.inp 1]] <|
.seg [.chk [(qka1_110, true)] (.bin .shr) [.inp 0, .app (.conv .u64) [.inp 1]]] <|
.seg [.chk [(qka1_110, true)] (.bin .and) [qka1_111, .int .u32 1]] <|
.seg [.chk [(qka1_110, true)] (.bin .eql) [qka1_112, .int .u32 1]] <|
.seg [.chk [] .pick [qka1_110, qka1_113, .bool false]] <|
.seg [.bind 2 (.app .pick [qka1_110, qka1_113, .bool false])] <|
.ret (.inp 2)
theorem run_lockbarref15_bit : runF E 50 [.inp 0, .inp 1] 2 = rt_lockbarref15_bit := by kernel_rfl

noncomputable def rt_lockbarref15_Stale : RT :=
.seg [.chk [] (.isAgg 11) [qka1_0]] <|
.seg [.chk [] (.isAgg 29) [qka1_1]] <|
.seg [.call 40 [] 59 [.inp 11, .inp 6] false] <|
.ret (.inp 40)
theorem run_lockbarref15_Stale : runF E 49 [.agg [.inp 0, .inp 1, .inp 2, .inp 3, .inp 4, .inp 5, .inp 6, .inp 7, .inp 8, .inp 9, .inp 10], .agg [.inp 11, .inp 12, .inp 13, .inp 14, .inp 15, .inp 16, .inp 17, .inp 18, .inp 19, .inp 20, .inp 21, .inp 22, .inp 23, .inp 24, .inp 25, .inp 26, .inp 27, .inp 28, .inp 29, .inp 30, .inp 31, .inp 32, .inp 33, .inp 34, .inp 35, .inp 36, .inp 37, .inp 38, .inp 39]] 40 = rt_lockbarref15_Stale := by kernel_rfl

noncomputable def rt_lockbarref15_rows : RT :=
.seg [.chk [] (.isAgg 11) [qka1_0]] <|
.seg [.chk [] (.isAgg 29) [qka1_1]] <|
.loop 0 40 [.int .i64 0, .inp 12, .inp 13, .inp 14, .inp 15, .inp 16, .inp 17, .inp 18, .inp 19, .inp 20, .inp 21, .inp 22, .inp 23, .inp 24, .inp 25, .inp 26, .inp 27, .inp 28, .inp 29, .inp 30, .inp 31, .inp 32, .inp 33, .inp 34, .inp 35] <|
.seg [.chk [] (.bin .lss) [.inp 40, .int .i64 24]] <|
.cond (.app (.bin .lss) [.inp 40, .int .i64 24])
 (.seg [.call 65 [] 49 [qka1_0, qka1_114] false,
.chk [] (.un .not) [.inp 65],
.call 66 [(.app (.un .not) [.inp 65], true)] 50 [.inp 36, .inp 40] false,
.chk [(.app (.un .not) [.inp 65], true)] (.un .not) [.inp 66],
.chk [] .pick [.app (.un .not) [.inp 65], .app (.un .not) [.inp 66], .bool false],
.chk [] (.inr 24) [.inp 40],
.chk [] (.aidx 24 1 1 1 false) [qka1_114, .inp 40],
.call 67 [] 48 [.app .pick [.app (.un .not) [.inp 65], .app (.un .not) [.inp 66], .bool false], qka1_115] false,
.chk [] (.inr 24) [.inp 40],
.chk [] (.inr 24) [.inp 40],
.chk [] .isOne [.inp 67]] <|
.seg [.bind 68 (qka1_115)] <|
.seg [.chk [] (.bin .add) [.inp 40, .int .i64 1]] <|
.again 0 [.app (.bin .add) [.inp 40, .int .i64 1], .app (.cellset 1 24 1 0 1 1) [.inp 40, .inp 41, .agg [.inp 67]], .app (.cellset 1 24 1 0 1 2) [.inp 40, .inp 42, .agg [.inp 67]], .app (.cellset 1 24 1 0 1 3) [.inp 40, .inp 43, .agg [.inp 67]], .app (.cellset 1 24 1 0 1 4) [.inp 40, .inp 44, .agg [.inp 67]], .app (.cellset 1 24 1 0 1 5) [.inp 40, .inp 45, .agg [.inp 67]], .app (.cellset 1 24 1 0 1 6) [.inp 40, .inp 46, .agg [.inp 67]], .app (.cellset 1 24 1 0 1 7) [.inp 40, .inp 47, .agg [.inp 67]], .app (.cellset 1 24 1 0 1 8) [.inp 40, .inp 48, .agg [.inp 67]], .app (.cellset 1 24 1 0 1 9) [.inp 40, .inp 49, .agg [.inp 67]], .app (.cellset 1 24 1 0 1 10) [.inp 40, .inp 50, .agg [.inp 67]], .app (.cellset 1 24 1 0 1 11) [.inp 40, .inp 51, .agg [.inp 67]], .app (.cellset 1 24 1 0 1 12) [.inp 40, .inp 52, .agg [.inp 67]], .app (.cellset 1 24 1 0 1 13) [.inp 40, .inp 53, .agg [.inp 67]], .app (.cellset 1 24 1 0 1 14) [.inp 40, .inp 54, .agg [.inp 67]], .app (.cellset 1 24 1 0 1 15) [.inp 40, .inp 55, .agg [.inp 67]], .app (.cellset 1 24 1 0 1 16) [.inp 40, .inp 56, .agg [.inp 67]], .app (.cellset 1 24 1 0 1 17) [.inp 40, .inp 57, .agg [.inp 67]], .app (.cellset 1 24 1 0 1 18) [.inp 40, .inp 58, .agg [.inp 67]], .app (.cellset 1 24 1 0 1 19) [.inp 40, .inp 59, .agg [.inp 67]], .app (.cellset 1 24 1 0 1 20) [.inp 40, .inp 60, .agg [.inp 67]], .app (.cellset 1 24 1 0 1 21) [.inp 40, .inp 61, .agg [.inp 67]], .app (.cellset 1 24 1 0 1 22) [.inp 40, .inp 62, .agg [.inp 67]], .app (.cellset 1 24 1 0 1 23) [.inp 40, .inp 63, .agg [.inp 67]], .app (.cellset 1 24 1 0 1 24) [.inp 40, .inp 64, .agg [.inp 67]]])
 (.seg [.chk [] (.isAgg 29) [qka1_114]] <|
.ret (qka1_114))
theorem run_lockbarref15_rows : runF E 30 [.agg [.inp 0, .inp 1, .inp 2, .inp 3, .inp 4, .inp 5, .inp 6, .inp 7, .inp 8, .inp 9, .inp 10], .agg [.inp 11, .inp 12, .inp 13, .inp 14, .inp 15, .inp 16, .inp 17, .inp 18, .inp 19, .inp 20, .inp 21, .inp 22, .inp 23, .inp 24, .inp 25, .inp 26, .inp 27, .inp 28, .inp 29, .inp 30, .inp 31, .inp 32, .inp 33, .inp 34, .inp 35, .inp 36, .inp 37, .inp 38, .inp 39]] 40 = rt_lockbarref15_rows := by kernel_rfl

noncomputable def rt_lockbarref15_Take : RT :=
.seg [.chk [] (.isAgg 11) [qka1_0]] <|
.seg [.chk [] (.isAgg 29) [qka1_1]] <|
.seg [.chk [] (.isAgg 4) [qka1_116]] <|
.seg [.chk [] (.isAgg 4) [qka1_116]] <|
.seg [.call 44 [] 30 [qka1_0, .agg [.int .i64 0, .inp 12, .inp 13, .inp 14, .inp 15, .inp 16, .inp 17, .inp 18, .inp 19, .inp 20, .inp 21, .inp 22, .inp 23, .inp 24, .inp 25, .inp 26, .inp 27, .inp 28, .inp 29, .inp 30, .inp 31, .inp 32, .inp 33, .inp 34, .inp 35, .inp 40, .inp 41, .inp 42, .inp 43]] false] <|
.seg [.chk [] (.isAgg 29) [.inp 44]] <|
.ret (.agg [.app (.part 0 1 false) [.inp 44], .app (.part 1 1 false) [.inp 44], .app (.part 2 1 false) [.inp 44], .app (.part 3 1 false) [.inp 44], .app (.part 4 1 false) [.inp 44], .app (.part 5 1 false) [.inp 44], .app (.part 6 1 false) [.inp 44], .app (.part 7 1 false) [.inp 44], .app (.part 8 1 false) [.inp 44], .app (.part 9 1 false) [.inp 44], .app (.part 10 1 false) [.inp 44], .app (.part 11 1 false) [.inp 44], .app (.part 12 1 false) [.inp 44], .app (.part 13 1 false) [.inp 44], .app (.part 14 1 false) [.inp 44], .app (.part 15 1 false) [.inp 44], .app (.part 16 1 false) [.inp 44], .app (.part 17 1 false) [.inp 44], .app (.part 18 1 false) [.inp 44], .app (.part 19 1 false) [.inp 44], .app (.part 20 1 false) [.inp 44], .app (.part 21 1 false) [.inp 44], .app (.part 22 1 false) [.inp 44], .app (.part 23 1 false) [.inp 44], .app (.part 24 1 false) [.inp 44], .app (.part 25 1 false) [.inp 44], .app (.part 26 1 false) [.inp 44], .app (.part 27 1 false) [.inp 44], .app (.part 28 1 false) [.inp 44]])
theorem run_lockbarref15_Take : runF E 13 [.agg [.inp 0, .inp 1, .inp 2, .inp 3, .inp 4, .inp 5, .inp 6, .inp 7, .inp 8, .inp 9, .inp 10], .agg [.inp 11, .inp 12, .inp 13, .inp 14, .inp 15, .inp 16, .inp 17, .inp 18, .inp 19, .inp 20, .inp 21, .inp 22, .inp 23, .inp 24, .inp 25, .inp 26, .inp 27, .inp 28, .inp 29, .inp 30, .inp 31, .inp 32, .inp 33, .inp 34, .inp 35, .inp 36, .inp 37, .inp 38, .inp 39], .agg [.inp 40, .inp 41, .inp 42, .inp 43]] 44 = rt_lockbarref15_Take := by kernel_rfl

noncomputable def rt_lockbarref17_All : RT :=
.seg [.chk [] .len [.inp 0]] <|
.seg [.chk [] .len [.inp 1]] <|
.seg [.chk [] (.bin .neq) [.app .len [.inp 0], .app .len [.inp 1]]] <|
.cond (qka1_97)
 (.ret (.bool false))
 (.loop 0 2 [.int .i64 0] <|
.seg [.chk [] .len [.inp 0]] <|
.seg [.chk [] (.bin .lss) [.inp 2, .app .len [.inp 0]]] <|
.cond (qka1_98)
 (.seg [.chk [] (.eidx 3) [.inp 0, .inp 2],
.chk [] (.eload 3 true) [qka1_99],
.chk [] (.eidx 3) [.inp 1, .inp 2],
.chk [] (.eload 3 true) [qka1_100],
.chk [] (.eqa [ some .i64, some .i64, some .i64] true) [qka1_101, qka1_102]] <|
.cond (qka1_103)
 (.ret (.bool false))
 (.seg [.chk [] (.bin .add) [.inp 2, .int .i64 1]] <|
.again 0 [qka1_104]))
 (.ret (.bool true)))
theorem run_lockbarref17_All : runF E 24 [.inp 0, .inp 1] 2 = rt_lockbarref17_All := by kernel_rfl

noncomputable def rt_lockbarref17_Same : RT :=
.seg [.chk [] (.isAgg 23) [qka1_117]] <|
.seg [.chk [] (.isAgg 23) [.agg [.inp 23, .inp 24, .inp 25, .inp 26, .inp 27, .inp 28, .inp 29, .inp 30, .inp 31, .inp 32, .inp 33, .inp 34, .inp 35, .inp 36, .inp 37, .inp 38, .inp 39, .inp 40, .inp 41, .inp 42, .inp 43, .inp 44, .inp 45]]] <|
.seg [.chk [] (.bin .eql) [.inp 0, .inp 23]] <|
.seg [.call 46 [(qka1_118, true)] 22 [.agg [.inp 1, .inp 2, .inp 3], .agg [.inp 24, .inp 25, .inp 26]] false] <|
.seg [.chk [] .pick [qka1_118, .inp 46, .bool false]] <|
.seg [.call 47 [(qka1_119, true)] 23 [.inp 4, .inp 27] false] <|
.seg [.chk [] .pick [qka1_119, .inp 47, .bool false]] <|
.seg [.call 48 [(qka1_120, true)] 24 [.inp 5, .inp 28] false] <|
.seg [.chk [] .pick [qka1_120, .inp 48, .bool false]] <|
.seg [.chk [(qka1_121, true)] (.bin .eql) [.inp 6, .inp 29]] <|
.seg [.chk [] .pick [qka1_121, qka1_122, .bool false]] <|
.seg [.chk [(qka1_123, true)] (.bin .eql) [.inp 7, .inp 30]] <|
.seg [.chk [] .pick [qka1_123, qka1_124, .bool false]] <|
.seg [.chk [(qka1_125, true)] (.eqa [ none, none, none, none, none, none, none, none, none, none, none, none] false) [qka1_126, qka1_127]] <|
.seg [.chk [] .pick [qka1_125, qka1_128, .bool false]] <|
.seg [.chk [(qka1_129, true)] (.eqb false) [.inp 20, .inp 43]] <|
.seg [.chk [] .pick [qka1_129, qka1_130, .bool false]] <|
.seg [.chk [(qka1_131, true)] (.bin .eql) [.inp 21, .inp 44]] <|
.seg [.chk [] .pick [qka1_131, qka1_132, .bool false]] <|
.seg [.chk [(qka1_133, true)] (.eqb false) [.inp 22, .inp 45]] <|
.seg [.chk [] .pick [qka1_133, qka1_134, .bool false]] <|
.seg [.bind 49 (.app .pick [qka1_133, qka1_134, .bool false]),
.bind 50 (qka1_121),
.bind 51 (qka1_123),
.bind 52 (qka1_125),
.bind 53 (qka1_128),
.bind 54 (qka1_129),
.bind 55 (qka1_131),
.bind 56 (qka1_133)] <|
.ret (.inp 49)
theorem run_lockbarref17_Same : runF E 10 [.agg [.inp 0, .inp 1, .inp 2, .inp 3, .inp 4, .inp 5, .inp 6, .inp 7, .inp 8, .inp 9, .inp 10, .inp 11, .inp 12, .inp 13, .inp 14, .inp 15, .inp 16, .inp 17, .inp 18, .inp 19, .inp 20, .inp 21, .inp 22], .agg [.inp 23, .inp 24, .inp 25, .inp 26, .inp 27, .inp 28, .inp 29, .inp 30, .inp 31, .inp 32, .inp 33, .inp 34, .inp 35, .inp 36, .inp 37, .inp 38, .inp 39, .inp 40, .inp 41, .inp 42, .inp 43, .inp 44, .inp 45]] 46 = rt_lockbarref17_Same := by kernel_rfl

noncomputable def rt_tick_Down : RT :=
.seg [.chk [] (.mm true) [.inp 0, .int .i64 1]] <|
.seg [.chk [] (.bin .sub) [qka1_135, .int .i64 1]] <|
.ret (.app (.bin .sub) [qka1_135, .int .i64 1])
theorem run_tick_Down : runF E 29 [.inp 0] 1 = rt_tick_Down := by kernel_rfl

noncomputable def rt_back_In : RT :=
.seg [.chk [] (.isAgg 11) [qka1_0]] <|
.seg [.chk [] (.isAgg 29) [qka1_1]] <|
.seg [.chk [] (.isAgg 23) [qka1_2]] <|
.seg [.chk [] (.isAgg 11) [qka1_0]] <|
.seg [.chk [] (.isAgg 29) [qka1_1]] <|
.seg [.chk [] (.isAgg 23) [qka1_2]] <|
.seg [.chk [] (.isAgg 23) [qka1_2]] <|
.seg [.chk [] .len [.inp 43]] <|
.loop 0 63 [.int .i64 0] <|
.seg [.chk [] (.bin .lss) [.inp 63, .app .len [.inp 43]]] <|
.cond (qka1_136)
 (.seg [.chk [] (.eidx 3) [.inp 43, .inp 63]] <|
.seg [.chk [] (.eload 3 true) [qka1_137]] <|
.seg [.chk [] (.isAgg 3) [qka1_138]] <|
.seg [.chk [] (.bin .geq) [.inp 63, .inp 47]] <|
.cond (qka1_139)
 (.seg [.call 64 [] 20 [qka1_0, qka1_1, qka1_140] false] <|
.cond (.inp 64)
 (.seg [.chk [] (.un .not) [.bool false]] <|
.ret (.bool true))
 (.seg [.chk [] (.un .not) [.bool true]] <|
.seg [.chk [] (.bin .add) [.inp 63, .int .i64 1]] <|
.again 0 [qka1_141]))
 (.seg [.chk [] (.bin .add) [.inp 63, .int .i64 1]] <|
.again 0 [qka1_141]))
 (.ret (.bool false))
theorem run_back_In : runF E 8 [.agg [.inp 0, .inp 1, .inp 2, .inp 3, .inp 4, .inp 5, .inp 6, .inp 7, .inp 8, .inp 9, .inp 10], .agg [.inp 11, .inp 12, .inp 13, .inp 14, .inp 15, .inp 16, .inp 17, .inp 18, .inp 19, .inp 20, .inp 21, .inp 22, .inp 23, .inp 24, .inp 25, .inp 26, .inp 27, .inp 28, .inp 29, .inp 30, .inp 31, .inp 32, .inp 33, .inp 34, .inp 35, .inp 36, .inp 37, .inp 38, .inp 39], .agg [.inp 40, .inp 41, .inp 42, .inp 43, .inp 44, .inp 45, .inp 46, .inp 47, .inp 48, .inp 49, .inp 50, .inp 51, .inp 52, .inp 53, .inp 54, .inp 55, .inp 56, .inp 57, .inp 58, .inp 59, .inp 60, .inp 61, .inp 62]] 63 = rt_back_In := by kernel_rfl

noncomputable def rt_back_told : RT :=
.seg [.chk [] (.isAgg 11) [qka1_0]] <|
.seg [.chk [] (.isAgg 29) [qka1_1]] <|
.seg [.chk [] (.isAgg 23) [qka1_2]] <|
.seg [.chk [] (.isAgg 11) [qka1_0]] <|
.seg [.chk [] (.isAgg 29) [qka1_1]] <|
.seg [.chk [] (.isAgg 23) [qka1_2]] <|
.seg [.chk [] (.isAgg 23) [qka1_2]] <|
.seg [.chk [] .len [.inp 43]] <|
.loop 0 63 [.int .i64 0] <|
.seg [.chk [] (.bin .lss) [.inp 63, .app .len [.inp 43]]] <|
.cond (qka1_136)
 (.seg [.chk [] (.eidx 3) [.inp 43, .inp 63]] <|
.seg [.chk [] (.eload 3 true) [qka1_137]] <|
.seg [.chk [] (.isAgg 3) [qka1_138]] <|
.seg [.chk [] (.bin .geq) [.inp 63, .inp 47]] <|
.cond (qka1_139)
 (.seg [.call 64 [] 42 [qka1_0, qka1_1, qka1_140] false] <|
.cond (.inp 64)
 (.seg [.chk [] (.un .not) [.bool false]] <|
.ret (.bool true))
 (.seg [.chk [] (.un .not) [.bool true]] <|
.seg [.chk [] (.bin .add) [.inp 63, .int .i64 1]] <|
.again 0 [qka1_141]))
 (.seg [.chk [] (.bin .add) [.inp 63, .int .i64 1]] <|
.again 0 [qka1_141]))
 (.ret (.bool false))
theorem run_back_told : runF E 27 [.agg [.inp 0, .inp 1, .inp 2, .inp 3, .inp 4, .inp 5, .inp 6, .inp 7, .inp 8, .inp 9, .inp 10], .agg [.inp 11, .inp 12, .inp 13, .inp 14, .inp 15, .inp 16, .inp 17, .inp 18, .inp 19, .inp 20, .inp 21, .inp 22, .inp 23, .inp 24, .inp 25, .inp 26, .inp 27, .inp 28, .inp 29, .inp 30, .inp 31, .inp 32, .inp 33, .inp 34, .inp 35, .inp 36, .inp 37, .inp 38, .inp 39], .agg [.inp 40, .inp 41, .inp 42, .inp 43, .inp 44, .inp 45, .inp 46, .inp 47, .inp 48, .inp 49, .inp 50, .inp 51, .inp 52, .inp 53, .inp 54, .inp 55, .inp 56, .inp 57, .inp 58, .inp 59, .inp 60, .inp 61, .inp 62]] 63 = rt_back_told := by kernel_rfl

noncomputable def rt_back_Rear : RT :=
.seg [.chk [] (.isAgg 11) [qka1_0]] <|
.seg [.chk [] (.isAgg 29) [qka1_1]] <|
.seg [.call 41 [] 21 [qka1_0, .inp 40] false] <|
.seg [.chk [] (.isAgg 2) [.inp 41]] <|
.seg [.chk [] (.bin .geq) [qka1_142, .int .i64 0]] <|
.seg [.call 42 [(qka1_143, true)] 20 [qka1_0, qka1_1, qka1_142] false] <|
.seg [.chk [] .pick [qka1_143, .inp 42, .bool false]] <|
.ret (.app .pick [qka1_143, .inp 42, .bool false])
theorem run_back_Rear : runF E 9 [.agg [.inp 0, .inp 1, .inp 2, .inp 3, .inp 4, .inp 5, .inp 6, .inp 7, .inp 8, .inp 9, .inp 10], .agg [.inp 11, .inp 12, .inp 13, .inp 14, .inp 15, .inp 16, .inp 17, .inp 18, .inp 19, .inp 20, .inp 21, .inp 22, .inp 23, .inp 24, .inp 25, .inp 26, .inp 27, .inp 28, .inp 29, .inp 30, .inp 31, .inp 32, .inp 33, .inp 34, .inp 35, .inp 36, .inp 37, .inp 38, .inp 39], .inp 40] 41 = rt_back_Rear := by kernel_rfl

noncomputable def rt_back_comes_1 : RT :=
.seg [.chk [] (.isAgg 23) [qka1_117]] <|
.ret (.int .i64 1)
theorem run_back_comes_1 : runF E 31 [.agg [.inp 0, .inp 1, .inp 2, .inp 3, .inp 4, .inp 5, .inp 6, .inp 7, .inp 8, .inp 9, .inp 10, .inp 11, .inp 12, .inp 13, .inp 14, .inp 15, .inp 16, .inp 17, .inp 18, .inp 19, .inp 20, .inp 21, .inp 22]] 23 = rt_back_comes_1 := by kernel_rfl

noncomputable def rt_back_comes_2 : RT :=
.seg [.chk [] (.isAgg 23) [qka1_117]] <|
.seg [.chk [(.inp 22, true)] (.eload 11 true) [qka1_144]] <|
.seg [.chk [(.inp 22, true)] (.eload 29 true) [qka1_145]] <|
.seg [.call 63 [(.inp 22, true)] 9 [qka1_146, qka1_147, .inp 1] false] <|
.seg [.chk [] .pick [.inp 22, .inp 63, .bool false]] <|
.seg [.bind 64 (qka1_146),
.bind 65 (qka1_147)] <|
.cond (.app .pick [.inp 22, .inp 63, .bool false])
 (.ret (.int .i64 2))
 (.ret (.int .i64 1))
theorem run_back_comes_2 : runF E 32 [.agg [.inp 0, .inp 1, .inp 2, .inp 3, .inp 4, .inp 5, .inp 6, .inp 7, .inp 8, .inp 9, .inp 10, .inp 11, .inp 12, .inp 13, .inp 14, .inp 15, .inp 16, .inp 17, .inp 18, .inp 19, .inp 20, .inp 21, .inp 22], .ref [.inp 23, .inp 24, .inp 25, .inp 26, .inp 27, .inp 28, .inp 29, .inp 30, .inp 31, .inp 32, .inp 33] 0, .ref [.inp 34, .inp 35, .inp 36, .inp 37, .inp 38, .inp 39, .inp 40, .inp 41, .inp 42, .inp 43, .inp 44, .inp 45, .inp 46, .inp 47, .inp 48, .inp 49, .inp 50, .inp 51, .inp 52, .inp 53, .inp 54, .inp 55, .inp 56, .inp 57, .inp 58, .inp 59, .inp 60, .inp 61, .inp 62] 0] 63 = rt_back_comes_2 := by kernel_rfl

end Go.Lb.LK
