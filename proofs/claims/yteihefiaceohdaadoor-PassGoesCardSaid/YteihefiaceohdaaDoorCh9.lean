/- What functions come to, printed by a program, checked by the kernel. -/
/- A train that goes through. -/
import Derived.Test.YteihefiaceohdaaDoorCh1
import Derived.Test.YteihefiaceohdaaDoorCh7
set_option linter.unusedSimpArgs false
set_option linter.unusedVariables false
namespace Go.Lb.LK
open Go Go.Lb Go.Proofs
@[simp] noncomputable def qkpassgoes_0 : SE := .app (.bin .lss) [.inp 0, .int .i64 1]
@[simp] noncomputable def qkpassgoes_1 : SE := .app (.bin .gtr) [.inp 0, .int .i64 6]
@[simp] noncomputable def qkpassgoes_2 : SE := .app .pick [qkpassgoes_0, .bool true, qkpassgoes_1]
@[simp] noncomputable def qkpassgoes_3 : SE := .app (.bin .lss) [.inp 1, .int .i64 1]
@[simp] noncomputable def qkpassgoes_4 : SE := .app .pick [qkpassgoes_2, .bool true, qkpassgoes_3]
@[simp] noncomputable def qkpassgoes_5 : SE := .app (.bin .gtr) [.inp 1, .int .i64 3]
@[simp] noncomputable def qkpassgoes_6 : SE := .app .lst [.agg [.int .u8 1, .int .i64 0, .int .i64 0, .int .i64 0, .int .i64 0, .int .i64 0, .int .i64 0, .int .i64 0, .int .i64 0, .int .i64 0, .int .i64 0]]
@[simp] noncomputable def qkpassgoes_7 : SE := .agg [.inp 4, .int .i64 0, .int .i64 1]
@[simp] noncomputable def qkpassgoes_8 : SE := .app .lst [qkpassgoes_7]
@[simp] noncomputable def qkpassgoes_9 : SE := .agg [.inp 5, .nils, .nils, .nils, .inp 1, .int .i64 0, .int .i64 1, .int .i64 0, .int .i64 1000, .int .i64 0, .int .i64 0]
@[simp] noncomputable def qkpassgoes_10 : SE := .app (.part 0 1 false) [.inp 61]
@[simp] noncomputable def qkpassgoes_11 : SE := .app (.part 1 1 false) [.inp 61]
@[simp] noncomputable def qkpassgoes_12 : SE := .app (.part 2 1 false) [.inp 61]
@[simp] noncomputable def qkpassgoes_13 : SE := .app (.part 3 1 false) [.inp 61]
@[simp] noncomputable def qkpassgoes_14 : SE := .app (.part 4 1 false) [.inp 61]
@[simp] noncomputable def qkpassgoes_15 : SE := .app (.part 5 1 false) [.inp 61]
@[simp] noncomputable def qkpassgoes_16 : SE := .app (.part 6 1 false) [.inp 61]
@[simp] noncomputable def qkpassgoes_17 : SE := .app (.part 7 1 false) [.inp 61]
@[simp] noncomputable def qkpassgoes_18 : SE := .app (.part 8 1 false) [.inp 61]
@[simp] noncomputable def qkpassgoes_19 : SE := .app (.part 9 1 false) [.inp 61]
@[simp] noncomputable def qkpassgoes_20 : SE := .app (.part 10 1 false) [.inp 61]
@[simp] noncomputable def qkpassgoes_21 : SE := .app (.part 11 1 false) [.inp 61]
@[simp] noncomputable def qkpassgoes_22 : SE := .app (.part 12 1 false) [.inp 61]
@[simp] noncomputable def qkpassgoes_23 : SE := .app (.part 13 1 false) [.inp 61]
@[simp] noncomputable def qkpassgoes_24 : SE := .app (.part 14 1 false) [.inp 61]
@[simp] noncomputable def qkpassgoes_25 : SE := .app (.part 15 1 false) [.inp 61]
@[simp] noncomputable def qkpassgoes_26 : SE := .app (.part 16 1 false) [.inp 61]
@[simp] noncomputable def qkpassgoes_27 : SE := .app (.part 17 1 false) [.inp 61]
@[simp] noncomputable def qkpassgoes_28 : SE := .app (.part 18 1 false) [.inp 61]
@[simp] noncomputable def qkpassgoes_29 : SE := .app (.part 19 1 false) [.inp 61]
@[simp] noncomputable def qkpassgoes_30 : SE := .app (.part 20 1 false) [.inp 61]
@[simp] noncomputable def qkpassgoes_31 : SE := .app (.part 21 1 false) [.inp 61]
@[simp] noncomputable def qkpassgoes_32 : SE := .app (.part 22 1 false) [.inp 61]
@[simp] noncomputable def qkpassgoes_33 : SE := .app (.part 23 1 false) [.inp 61]
@[simp] noncomputable def qkpassgoes_34 : SE := .app (.part 24 1 false) [.inp 61]
@[simp] noncomputable def qkpassgoes_35 : SE := .app (.part 25 1 false) [.inp 61]
@[simp] noncomputable def qkpassgoes_36 : SE := .app (.part 26 1 false) [.inp 61]
@[simp] noncomputable def qkpassgoes_37 : SE := .app (.part 27 1 false) [.inp 61]
@[simp] noncomputable def qkpassgoes_38 : SE := .app (.part 28 1 false) [.inp 61]
@[simp] noncomputable def qkpassgoes_39 : SE := .agg [qkpassgoes_10, qkpassgoes_11, qkpassgoes_12, qkpassgoes_13, qkpassgoes_14, qkpassgoes_15, qkpassgoes_16, qkpassgoes_17, qkpassgoes_18, qkpassgoes_19, qkpassgoes_20, qkpassgoes_21, qkpassgoes_22, qkpassgoes_23, qkpassgoes_24, qkpassgoes_25, qkpassgoes_26, qkpassgoes_27, qkpassgoes_28, qkpassgoes_29, qkpassgoes_30, qkpassgoes_31, qkpassgoes_32, qkpassgoes_33, qkpassgoes_34, qkpassgoes_35, qkpassgoes_36, qkpassgoes_37, qkpassgoes_38]
@[simp] noncomputable def qkpassgoes_40 : SE := .app (.part 6 1 false) [.inp 62]
@[simp] noncomputable def qkpassgoes_41 : SE := .app (.bin .neq) [qkpassgoes_40, .int .u8 3]
@[simp] noncomputable def qkpassgoes_42 : SE := .app (.part 0 1 false) [.inp 62]
@[simp] noncomputable def qkpassgoes_43 : SE := .app (.part 1 1 false) [.inp 62]
@[simp] noncomputable def qkpassgoes_44 : SE := .app (.part 2 1 false) [.inp 62]
@[simp] noncomputable def qkpassgoes_45 : SE := .app (.part 3 1 false) [.inp 62]
@[simp] noncomputable def qkpassgoes_46 : SE := .app (.part 4 1 false) [.inp 62]
@[simp] noncomputable def qkpassgoes_47 : SE := .app (.part 5 1 false) [.inp 62]
@[simp] noncomputable def qkpassgoes_48 : SE := .app (.part 7 1 false) [.inp 62]
@[simp] noncomputable def qkpassgoes_49 : SE := .app (.part 8 1 false) [.inp 62]
@[simp] noncomputable def qkpassgoes_50 : SE := .app (.part 9 1 false) [.inp 62]
@[simp] noncomputable def qkpassgoes_51 : SE := .app (.part 10 1 false) [.inp 62]
@[simp] noncomputable def qkpassgoes_52 : SE := .app (.part 11 1 false) [.inp 62]
@[simp] noncomputable def qkpassgoes_53 : SE := .app (.part 12 1 false) [.inp 62]
@[simp] noncomputable def qkpassgoes_54 : SE := .app (.part 13 1 false) [.inp 62]
@[simp] noncomputable def qkpassgoes_55 : SE := .app (.part 14 1 false) [.inp 62]
@[simp] noncomputable def qkpassgoes_56 : SE := .app (.part 15 1 false) [.inp 62]
@[simp] noncomputable def qkpassgoes_57 : SE := .app (.part 16 1 false) [.inp 62]
@[simp] noncomputable def qkpassgoes_58 : SE := .app (.part 17 1 false) [.inp 62]
@[simp] noncomputable def qkpassgoes_59 : SE := .app (.part 18 1 false) [.inp 62]
@[simp] noncomputable def qkpassgoes_60 : SE := .app (.part 19 1 false) [.inp 62]
@[simp] noncomputable def qkpassgoes_61 : SE := .app (.part 20 1 false) [.inp 62]
@[simp] noncomputable def qkpassgoes_62 : SE := .app (.part 21 1 false) [.inp 62]
@[simp] noncomputable def qkpassgoes_63 : SE := .app (.part 22 1 false) [.inp 62]
@[simp] noncomputable def qkpassgoes_64 : SE := .agg [qkpassgoes_42, qkpassgoes_43, qkpassgoes_44, qkpassgoes_45, qkpassgoes_46, qkpassgoes_47, qkpassgoes_40, qkpassgoes_48, qkpassgoes_49, qkpassgoes_50, qkpassgoes_51, qkpassgoes_52, qkpassgoes_53, qkpassgoes_54, qkpassgoes_55, qkpassgoes_56, qkpassgoes_57, qkpassgoes_58, qkpassgoes_59, qkpassgoes_60, qkpassgoes_61, qkpassgoes_62, qkpassgoes_63]
@[simp] noncomputable def qkpassgoes_65 : SE := .app (.aidx 12 1 8 1 false) [qkpassgoes_64, .inp 8]
@[simp] noncomputable def qkpassgoes_66 : SE := .app (.un .not) [qkpassgoes_65]
@[simp] noncomputable def qkpassgoes_67 : SE := .app (.bin .add) [.inp 8, .int .i64 1]
@[simp] noncomputable def qkpassgoes_68 : SE := .app (.part 0 1 false) [.inp 66]
@[simp] noncomputable def qkpassgoes_69 : SE := .app (.part 1 1 false) [.inp 66]
@[simp] noncomputable def qkpassgoes_70 : SE := .app (.part 2 1 false) [.inp 66]
@[simp] noncomputable def qkpassgoes_71 : SE := .app (.part 3 1 false) [.inp 66]
@[simp] noncomputable def qkpassgoes_72 : SE := .app (.part 4 1 false) [.inp 66]
@[simp] noncomputable def qkpassgoes_73 : SE := .app (.part 5 1 false) [.inp 66]
@[simp] noncomputable def qkpassgoes_74 : SE := .app (.part 6 1 false) [.inp 66]
@[simp] noncomputable def qkpassgoes_75 : SE := .app (.part 7 1 false) [.inp 66]
@[simp] noncomputable def qkpassgoes_76 : SE := .app (.part 8 1 false) [.inp 66]
@[simp] noncomputable def qkpassgoes_77 : SE := .app (.part 9 1 false) [.inp 66]
@[simp] noncomputable def qkpassgoes_78 : SE := .app (.part 10 1 false) [.inp 66]
@[simp] noncomputable def qkpassgoes_79 : SE := .app (.part 11 1 false) [.inp 66]
@[simp] noncomputable def qkpassgoes_80 : SE := .app (.part 12 1 false) [.inp 66]
@[simp] noncomputable def qkpassgoes_81 : SE := .app (.part 13 1 false) [.inp 66]
@[simp] noncomputable def qkpassgoes_82 : SE := .app (.part 14 1 false) [.inp 66]
@[simp] noncomputable def qkpassgoes_83 : SE := .app (.part 15 1 false) [.inp 66]
@[simp] noncomputable def qkpassgoes_84 : SE := .app (.part 16 1 false) [.inp 66]
@[simp] noncomputable def qkpassgoes_85 : SE := .app (.part 17 1 false) [.inp 66]
@[simp] noncomputable def qkpassgoes_86 : SE := .app (.part 18 1 false) [.inp 66]
@[simp] noncomputable def qkpassgoes_87 : SE := .app (.part 19 1 false) [.inp 66]
@[simp] noncomputable def qkpassgoes_88 : SE := .app (.part 20 1 false) [.inp 66]
@[simp] noncomputable def qkpassgoes_89 : SE := .app (.part 21 1 false) [.inp 66]
@[simp] noncomputable def qkpassgoes_90 : SE := .app (.part 22 1 false) [.inp 66]
@[simp] noncomputable def qkpassgoes_91 : SE := .app (.part 23 1 false) [.inp 66]
@[simp] noncomputable def qkpassgoes_92 : SE := .app (.part 24 1 false) [.inp 66]
@[simp] noncomputable def qkpassgoes_93 : SE := .app (.part 25 1 false) [.inp 66]
@[simp] noncomputable def qkpassgoes_94 : SE := .app (.part 26 1 false) [.inp 66]
@[simp] noncomputable def qkpassgoes_95 : SE := .app (.part 27 1 false) [.inp 66]
@[simp] noncomputable def qkpassgoes_96 : SE := .app (.part 28 1 false) [.inp 66]
@[simp] noncomputable def qkpassgoes_97 : SE := .app (.bin .add) [.inp 1, .int .i64 2]
@[simp] noncomputable def qkpassgoes_98 : SE := .app (.part 0 1 false) [.inp 114]
@[simp] noncomputable def qkpassgoes_99 : SE := .app (.part 1 1 false) [.inp 114]
@[simp] noncomputable def qkpassgoes_100 : SE := .app (.part 2 1 false) [.inp 114]
@[simp] noncomputable def qkpassgoes_101 : SE := .app (.part 3 1 false) [.inp 114]
@[simp] noncomputable def qkpassgoes_102 : SE := .app (.part 4 1 false) [.inp 114]
@[simp] noncomputable def qkpassgoes_103 : SE := .app (.part 5 1 false) [.inp 114]
@[simp] noncomputable def qkpassgoes_104 : SE := .app (.part 6 1 false) [.inp 114]
@[simp] noncomputable def qkpassgoes_105 : SE := .app (.part 7 1 false) [.inp 114]
@[simp] noncomputable def qkpassgoes_106 : SE := .app (.part 8 1 false) [.inp 114]
@[simp] noncomputable def qkpassgoes_107 : SE := .app (.part 9 1 false) [.inp 114]
@[simp] noncomputable def qkpassgoes_108 : SE := .app (.part 10 1 false) [.inp 114]
@[simp] noncomputable def qkpassgoes_109 : SE := .app (.part 11 1 false) [.inp 114]
@[simp] noncomputable def qkpassgoes_110 : SE := .app (.part 12 1 false) [.inp 114]
@[simp] noncomputable def qkpassgoes_111 : SE := .app (.part 13 1 false) [.inp 114]
@[simp] noncomputable def qkpassgoes_112 : SE := .app (.part 14 1 false) [.inp 114]
@[simp] noncomputable def qkpassgoes_113 : SE := .app (.part 15 1 false) [.inp 114]
@[simp] noncomputable def qkpassgoes_114 : SE := .app (.part 16 1 false) [.inp 114]
@[simp] noncomputable def qkpassgoes_115 : SE := .app (.part 17 1 false) [.inp 114]
@[simp] noncomputable def qkpassgoes_116 : SE := .app (.part 18 1 false) [.inp 114]
@[simp] noncomputable def qkpassgoes_117 : SE := .app (.part 19 1 false) [.inp 114]
@[simp] noncomputable def qkpassgoes_118 : SE := .app (.part 20 1 false) [.inp 114]
@[simp] noncomputable def qkpassgoes_119 : SE := .app (.part 21 1 false) [.inp 114]
@[simp] noncomputable def qkpassgoes_120 : SE := .app (.part 22 1 false) [.inp 114]
@[simp] noncomputable def qkpassgoes_121 : SE := .app (.part 23 1 false) [.inp 114]
@[simp] noncomputable def qkpassgoes_122 : SE := .app (.part 24 1 false) [.inp 114]
@[simp] noncomputable def qkpassgoes_123 : SE := .app (.part 25 1 false) [.inp 114]
@[simp] noncomputable def qkpassgoes_124 : SE := .app (.part 26 1 false) [.inp 114]
@[simp] noncomputable def qkpassgoes_125 : SE := .app (.part 27 1 false) [.inp 114]
@[simp] noncomputable def qkpassgoes_126 : SE := .app (.part 28 1 false) [.inp 114]
@[simp] noncomputable def qkpassgoes_127 : SE := .agg [.inp 62, .inp 63, .inp 64, .inp 65, .inp 66, .inp 67, .inp 68, .inp 69, .inp 70, .inp 71, .inp 72, .inp 73, .inp 74, .inp 75, .inp 76, .inp 77, .inp 78, .inp 79, .inp 80, .inp 81, .inp 82, .inp 83, .inp 84]
@[simp] noncomputable def qkpassgoes_128 : SE := .app (.part 7 1 false) [.inp 115]
@[simp] noncomputable def qkpassgoes_129 : SE := .app (.bin .eql) [.inp 69, .inp 0]
@[simp] noncomputable def qkpassgoes_130 : SE := .app .pick [qkpassgoes_129, .inp 82, .bool false]
@[simp] noncomputable def qkpassgoes_131 : SE := .app .pick [qkpassgoes_130, .inp 114, .bool false]
@[simp] noncomputable def qkpassgoes_132 : SE := .app (.bin .eql) [.app .len [.inp 115], .int .i64 0]
@[simp] noncomputable def qkpassgoes_133 : SE := .app .pick [qkpassgoes_131, qkpassgoes_132, .bool false]
noncomputable def rt_lockbarlaw21_PassGoes : RT :=
.seg [.chk [] (.bin .lss) [.inp 0, .int .i64 1]] <|
.seg [.chk [(qkpassgoes_0, false)] (.bin .gtr) [.inp 0, .int .i64 6]] <|
.seg [.chk [] .pick [qkpassgoes_0, .bool true, qkpassgoes_1]] <|
.seg [.chk [(qkpassgoes_2, false)] (.bin .lss) [.inp 1, .int .i64 1]] <|
.seg [.chk [] .pick [qkpassgoes_2, .bool true, qkpassgoes_3]] <|
.seg [.chk [(qkpassgoes_4, false)] (.bin .gtr) [.inp 1, .int .i64 3]] <|
.seg [.chk [] .pick [qkpassgoes_4, .bool true, qkpassgoes_5]] <|
.seg [.bind 2 (qkpassgoes_4),
.bind 3 (.app .pick [qkpassgoes_4, .bool true, qkpassgoes_5])] <|
.cond (.inp 3)
 (.seg [.call 4 [] 10 [] false] <|
.ret (.inp 4))
 (.seg [.chk [] .isOne [.inp 1]] <|
.seg [.chk [] (.isAgg 7) [.agg [.inp 1, .int .i64 0, .int .i64 1, .int .i64 0, .int .i64 1000, .int .i64 0, .int .i64 0]]] <|
.seg [.chk [] (.isAgg 11) [.agg [.enil, .enil, .enil, .enil, .inp 1, .int .i64 0, .int .i64 1, .int .i64 0, .int .i64 1000, .int .i64 0, .int .i64 0]]] <|
.loop 0 4 [.int .i64 0, .nils, .nils] <|
.seg [.chk [] (.bin .lss) [.inp 4, .inp 0]] <|
.cond (.app (.bin .lss) [.inp 4, .inp 0])
 (.seg [.chk [] (.szs 11) [qkpassgoes_6],
.chk [] .app [.inp 5, qkpassgoes_6]] <|
.seg [.bind 7 (qkpassgoes_6),
.bind 8 (.app .app [.inp 5, qkpassgoes_6])] <|
.seg [.chk [] .isOne [.inp 4]] <|
.seg [.chk [] (.isAgg 3) [qkpassgoes_7]] <|
.seg [.chk [] (.szs 3) [qkpassgoes_8],
.chk [] .app [.inp 6, qkpassgoes_8]] <|
.seg [.chk [] (.bin .add) [.inp 4, .int .i64 1]] <|
.again 0 [.app (.bin .add) [.inp 4, .int .i64 1], .inp 8, .app .app [.inp 6, qkpassgoes_8]])
 (.seg [.call 7 [] 22 [] false] <|
.seg [.chk [] (.isAgg 29) [.inp 7]] <|
.loop 0 8 [.int .i64 0, .int .i64 1, .int .i64 0, .int .i64 0, .inp 6, .nils, .nils, .int .u8 2, .int .i64 0, .bool false, .bool false, .bool false, .bool false, .bool false, .bool false, .bool false, .bool false, .bool false, .bool false, .bool false, .bool false, .bool false, .int .i64 0, .bool false, .app (.part 0 1 false) [.inp 7], .app (.part 1 1 false) [.inp 7], .app (.part 2 1 false) [.inp 7], .app (.part 3 1 false) [.inp 7], .app (.part 4 1 false) [.inp 7], .app (.part 5 1 false) [.inp 7], .app (.part 6 1 false) [.inp 7], .app (.part 7 1 false) [.inp 7], .app (.part 8 1 false) [.inp 7], .app (.part 9 1 false) [.inp 7], .app (.part 10 1 false) [.inp 7], .app (.part 11 1 false) [.inp 7], .app (.part 12 1 false) [.inp 7], .app (.part 13 1 false) [.inp 7], .app (.part 14 1 false) [.inp 7], .app (.part 15 1 false) [.inp 7], .app (.part 16 1 false) [.inp 7], .app (.part 17 1 false) [.inp 7], .app (.part 18 1 false) [.inp 7], .app (.part 19 1 false) [.inp 7], .app (.part 20 1 false) [.inp 7], .app (.part 21 1 false) [.inp 7], .app (.part 22 1 false) [.inp 7], .app (.part 23 1 false) [.inp 7], .app (.part 24 1 false) [.inp 7], .app (.part 25 1 false) [.inp 7], .app (.part 26 1 false) [.inp 7], .app (.part 27 1 false) [.inp 7], .app (.part 28 1 false) [.inp 7]] <|
.seg [.chk [] (.bin .lss) [.inp 8, .inp 0]] <|
.cond (.app (.bin .lss) [.inp 8, .inp 0])
 (.seg [.chk [] (.conv .u64) [.inp 8]] <|
.seg [.chk [] (.bin .shl) [.int .u32 1, .app (.conv .u64) [.inp 8]]] <|
.seg [.call 61 [] 23 [qkpassgoes_9, .agg [.inp 32, .inp 33, .inp 34, .inp 35, .inp 36, .inp 37, .inp 38, .inp 39, .inp 40, .inp 41, .inp 42, .inp 43, .inp 44, .inp 45, .inp 46, .inp 47, .inp 48, .inp 49, .inp 50, .inp 51, .inp 52, .inp 53, .inp 54, .inp 55, .inp 56, .inp 57, .inp 58, .inp 59, .inp 60], .app (.bin .shl) [.int .u32 1, .app (.conv .u64) [.inp 8]]] false] <|
.seg [.chk [] (.isAgg 29) [.inp 61]] <|
.seg [.call 62 [] 16 [qkpassgoes_9, qkpassgoes_39, .agg [.inp 9, .inp 10, .inp 11, .inp 12, .inp 13, .inp 14, .inp 15, .inp 16, .inp 17, .inp 18, .inp 19, .inp 20, .inp 21, .inp 22, .inp 23, .inp 24, .inp 25, .inp 26, .inp 27, .inp 28, .inp 29, .inp 30, .inp 31]] false] <|
.seg [.chk [] (.isAgg 23) [.inp 62]] <|
.seg [.chk [] (.bin .neq) [qkpassgoes_40, .int .u8 3]] <|
.seg [.chk [(qkpassgoes_41, false)] (.inr 12) [.inp 8]] <|
.seg [.chk [(qkpassgoes_41, false)] (.aidx 12 1 8 1 false) [qkpassgoes_64, .inp 8]] <|
.seg [.chk [(qkpassgoes_41, false)] (.un .not) [qkpassgoes_65]] <|
.seg [.chk [] .pick [qkpassgoes_41, .bool true, qkpassgoes_66]] <|
.seg [.bind 63 (qkpassgoes_65),
.bind 64 (qkpassgoes_66),
.bind 65 (.app .pick [qkpassgoes_41, .bool true, qkpassgoes_66])] <|
.cond (.inp 65)
 (.ret (.bool false))
 (.seg [.chk [] (.bin .add) [.inp 8, .int .i64 1]] <|
.seg [.chk [] (.bin .lss) [qkpassgoes_67, .inp 0]] <|
.cond (.app (.bin .lss) [qkpassgoes_67, .inp 0])
 (.seg [.chk [] (.conv .u64) [.inp 8]] <|
.seg [.chk [] (.bin .shl) [.int .u32 3, .app (.conv .u64) [.inp 8]]] <|
.seg [.call 66 [] 23 [qkpassgoes_9, qkpassgoes_39, .app (.bin .shl) [.int .u32 3, .app (.conv .u64) [.inp 8]]] false] <|
.seg [.chk [] (.isAgg 29) [.inp 66]] <|
.seg [.call 67 [] 16 [qkpassgoes_9, .agg [qkpassgoes_68, qkpassgoes_69, qkpassgoes_70, qkpassgoes_71, qkpassgoes_72, qkpassgoes_73, qkpassgoes_74, qkpassgoes_75, qkpassgoes_76, qkpassgoes_77, qkpassgoes_78, qkpassgoes_79, qkpassgoes_80, qkpassgoes_81, qkpassgoes_82, qkpassgoes_83, qkpassgoes_84, qkpassgoes_85, qkpassgoes_86, qkpassgoes_87, qkpassgoes_88, qkpassgoes_89, qkpassgoes_90, qkpassgoes_91, qkpassgoes_92, qkpassgoes_93, qkpassgoes_94, qkpassgoes_95, qkpassgoes_96], qkpassgoes_64] false] <|
.seg [.chk [] (.isAgg 23) [.inp 67]] <|
.seg [.chk [] (.bin .add) [.inp 8, .int .i64 1]] <|
.again 0 [qkpassgoes_67, .app (.part 0 1 false) [.inp 67], .app (.part 1 1 false) [.inp 67], .app (.part 2 1 false) [.inp 67], .app (.part 3 1 false) [.inp 67], .app (.part 4 1 false) [.inp 67], .app (.part 5 1 false) [.inp 67], .app (.part 6 1 false) [.inp 67], .app (.part 7 1 false) [.inp 67], .app (.part 8 1 false) [.inp 67], .app (.part 9 1 false) [.inp 67], .app (.part 10 1 false) [.inp 67], .app (.part 11 1 false) [.inp 67], .app (.part 12 1 false) [.inp 67], .app (.part 13 1 false) [.inp 67], .app (.part 14 1 false) [.inp 67], .app (.part 15 1 false) [.inp 67], .app (.part 16 1 false) [.inp 67], .app (.part 17 1 false) [.inp 67], .app (.part 18 1 false) [.inp 67], .app (.part 19 1 false) [.inp 67], .app (.part 20 1 false) [.inp 67], .app (.part 21 1 false) [.inp 67], .app (.part 22 1 false) [.inp 67], qkpassgoes_68, qkpassgoes_69, qkpassgoes_70, qkpassgoes_71, qkpassgoes_72, qkpassgoes_73, qkpassgoes_74, qkpassgoes_75, qkpassgoes_76, qkpassgoes_77, qkpassgoes_78, qkpassgoes_79, qkpassgoes_80, qkpassgoes_81, qkpassgoes_82, qkpassgoes_83, qkpassgoes_84, qkpassgoes_85, qkpassgoes_86, qkpassgoes_87, qkpassgoes_88, qkpassgoes_89, qkpassgoes_90, qkpassgoes_91, qkpassgoes_92, qkpassgoes_93, qkpassgoes_94, qkpassgoes_95, qkpassgoes_96])
 (.seg [.chk [] (.bin .add) [.inp 8, .int .i64 1]] <|
.again 0 [qkpassgoes_67, qkpassgoes_42, qkpassgoes_43, qkpassgoes_44, qkpassgoes_45, qkpassgoes_46, qkpassgoes_47, qkpassgoes_40, qkpassgoes_48, qkpassgoes_49, qkpassgoes_50, qkpassgoes_51, qkpassgoes_52, qkpassgoes_53, qkpassgoes_54, qkpassgoes_55, qkpassgoes_56, qkpassgoes_57, qkpassgoes_58, qkpassgoes_59, qkpassgoes_60, qkpassgoes_61, qkpassgoes_62, qkpassgoes_63, qkpassgoes_10, qkpassgoes_11, qkpassgoes_12, qkpassgoes_13, qkpassgoes_14, qkpassgoes_15, qkpassgoes_16, qkpassgoes_17, qkpassgoes_18, qkpassgoes_19, qkpassgoes_20, qkpassgoes_21, qkpassgoes_22, qkpassgoes_23, qkpassgoes_24, qkpassgoes_25, qkpassgoes_26, qkpassgoes_27, qkpassgoes_28, qkpassgoes_29, qkpassgoes_30, qkpassgoes_31, qkpassgoes_32, qkpassgoes_33, qkpassgoes_34, qkpassgoes_35, qkpassgoes_36, qkpassgoes_37, qkpassgoes_38])))
 (.loop 0 61 [.int .i64 0, .inp 9, .inp 10, .inp 11, .inp 12, .inp 13, .inp 14, .inp 15, .inp 16, .inp 17, .inp 18, .inp 19, .inp 20, .inp 21, .inp 22, .inp 23, .inp 24, .inp 25, .inp 26, .inp 27, .inp 28, .inp 29, .inp 30, .inp 31, .inp 32, .inp 33, .inp 34, .inp 35, .inp 36, .inp 37, .inp 38, .inp 39, .inp 40, .inp 41, .inp 42, .inp 43, .inp 44, .inp 45, .inp 46, .inp 47, .inp 48, .inp 49, .inp 50, .inp 51, .inp 52, .inp 53, .inp 54, .inp 55, .inp 56, .inp 57, .inp 58, .inp 59, .inp 60] <|
.seg [.chk [] (.bin .add) [.inp 1, .int .i64 2]] <|
.seg [.chk [] (.bin .lss) [.inp 61, qkpassgoes_97]] <|
.cond (.app (.bin .lss) [.inp 61, qkpassgoes_97])
 (.seg [.call 114 [] 23 [qkpassgoes_9, .agg [.inp 85, .inp 86, .inp 87, .inp 88, .inp 89, .inp 90, .inp 91, .inp 92, .inp 93, .inp 94, .inp 95, .inp 96, .inp 97, .inp 98, .inp 99, .inp 100, .inp 101, .inp 102, .inp 103, .inp 104, .inp 105, .inp 106, .inp 107, .inp 108, .inp 109, .inp 110, .inp 111, .inp 112, .inp 113], .int .u32 0] false] <|
.seg [.chk [] (.isAgg 29) [.inp 114]] <|
.seg [.call 115 [] 16 [qkpassgoes_9, .agg [qkpassgoes_98, qkpassgoes_99, qkpassgoes_100, qkpassgoes_101, qkpassgoes_102, qkpassgoes_103, qkpassgoes_104, qkpassgoes_105, qkpassgoes_106, qkpassgoes_107, qkpassgoes_108, qkpassgoes_109, qkpassgoes_110, qkpassgoes_111, qkpassgoes_112, qkpassgoes_113, qkpassgoes_114, qkpassgoes_115, qkpassgoes_116, qkpassgoes_117, qkpassgoes_118, qkpassgoes_119, qkpassgoes_120, qkpassgoes_121, qkpassgoes_122, qkpassgoes_123, qkpassgoes_124, qkpassgoes_125, qkpassgoes_126], qkpassgoes_127] false] <|
.seg [.chk [] (.isAgg 23) [.inp 115]] <|
.seg [.chk [] (.bin .lss) [qkpassgoes_128, .inp 69]] <|
.cond (.app (.bin .lss) [qkpassgoes_128, .inp 69])
 (.ret (.bool false))
 (.seg [.chk [] (.bin .add) [.inp 61, .int .i64 1]] <|
.again 0 [.app (.bin .add) [.inp 61, .int .i64 1], .app (.part 0 1 false) [.inp 115], .app (.part 1 1 false) [.inp 115], .app (.part 2 1 false) [.inp 115], .app (.part 3 1 false) [.inp 115], .app (.part 4 1 false) [.inp 115], .app (.part 5 1 false) [.inp 115], .app (.part 6 1 false) [.inp 115], qkpassgoes_128, .app (.part 8 1 false) [.inp 115], .app (.part 9 1 false) [.inp 115], .app (.part 10 1 false) [.inp 115], .app (.part 11 1 false) [.inp 115], .app (.part 12 1 false) [.inp 115], .app (.part 13 1 false) [.inp 115], .app (.part 14 1 false) [.inp 115], .app (.part 15 1 false) [.inp 115], .app (.part 16 1 false) [.inp 115], .app (.part 17 1 false) [.inp 115], .app (.part 18 1 false) [.inp 115], .app (.part 19 1 false) [.inp 115], .app (.part 20 1 false) [.inp 115], .app (.part 21 1 false) [.inp 115], .app (.part 22 1 false) [.inp 115], qkpassgoes_98, qkpassgoes_99, qkpassgoes_100, qkpassgoes_101, qkpassgoes_102, qkpassgoes_103, qkpassgoes_104, qkpassgoes_105, qkpassgoes_106, qkpassgoes_107, qkpassgoes_108, qkpassgoes_109, qkpassgoes_110, qkpassgoes_111, qkpassgoes_112, qkpassgoes_113, qkpassgoes_114, qkpassgoes_115, qkpassgoes_116, qkpassgoes_117, qkpassgoes_118, qkpassgoes_119, qkpassgoes_120, qkpassgoes_121, qkpassgoes_122, qkpassgoes_123, qkpassgoes_124, qkpassgoes_125, qkpassgoes_126]))
 (.seg [.chk [] (.bin .eql) [.inp 69, .inp 0]] <|
.seg [.chk [] .pick [qkpassgoes_129, .inp 82, .bool false]] <|
.seg [.call 114 [(qkpassgoes_130, true)] 24 [qkpassgoes_127] false] <|
.seg [.chk [] .pick [qkpassgoes_130, .inp 114, .bool false]] <|
.seg [.call 115 [(qkpassgoes_131, true)] 25 [qkpassgoes_127] false] <|
.seg [.chk [(qkpassgoes_131, true)] .len [.inp 115]] <|
.seg [.chk [(qkpassgoes_131, true)] (.bin .eql) [.app .len [.inp 115], .int .i64 0]] <|
.seg [.chk [] .pick [qkpassgoes_131, qkpassgoes_132, .bool false]] <|
.seg [.call 116 [(qkpassgoes_133, true)] 10 [] false] <|
.seg [.chk [] .pick [qkpassgoes_133, .inp 116, .bool false]] <|
.seg [.bind 117 (.app .pick [qkpassgoes_133, .inp 116, .bool false]),
.bind 118 (qkpassgoes_133)] <|
.ret (.inp 117)))))
theorem run_lockbarlaw21_PassGoes : runF E 5 [.inp 0, .inp 1] 2 = rt_lockbarlaw21_PassGoes := by kernel_rfl

end Go.Lb.LK

namespace Go.Lb.LK
open Go Go.Lb Go.Proofs Go.RowKit

def layG (n : Nat) (c : Int) : Lay := ⟨List.replicate n plain, [], [], [], c, 0, 1, 0, 1000, 0, 0⟩
def stepG (i : Nat) : Step := ⟨i, 0, 1⟩
def heldG (n : Nat) : Hd := ⟨1, ⟨0, 0, (List.range n).map stepG⟩, [], [], 2, 0, fun _ => false, false, 0, false⟩
def goB1 (n : Nat) (c : Int) (i : Nat) (s : Hd × Img) : Hd × Img := (tickS (layG n c) (tellI (layG n c) s.2 ((2 ^ i : Nat) : Int)) s.1, tellI (layG n c) s.2 ((2 ^ i : Nat) : Int))
def goB2 (n : Nat) (c : Int) (i : Nat) (s : Hd × Img) : Hd × Img := (tickS (layG n c) (tellI (layG n c) s.2 ((3 * 2 ^ i : Nat) : Int)) s.1, tellI (layG n c) s.2 ((3 * 2 ^ i : Nat) : Int))
def stB (n : Nat) (c : Int) : Nat → Hd × Img
  | 0 => (heldG n, imNew)
  | i + 1 => if i + 1 < n then goB2 n c i (goB1 n c i (stB n c i)) else goB1 n c i (stB n c i)
def stC (n : Nat) (c : Int) : Nat → Hd × Img
  | 0 => stB n c n
  | j + 1 => (tickS (layG n c) (tellI (layG n c) (stC n c j).2 0) (stC n c j).1, tellI (layG n c) (stC n c j).2 0)
def okB (n : Nat) (c : Int) : Bool := (List.range n).all fun i => decide ((goB1 n c i (stB n c i)).1.stage = 3) && (goB1 n c i (stB n c i)).1.was i
def okC (n : Nat) (c : Int) : Bool := (List.range (c.toNat + 2)).all (fun j => decide ((stC n c j).1.gone ≤ (stC n c (j + 1)).1.gone)) && (decide ((stC n c (c.toNat + 2)).1.gone = n) && ((stC n c (c.toNat + 2)).1.opn))
theorem okB_all : (List.range 6).all (fun n => (List.range 3).all fun c => okB (n + 1) ((c + 1 : Nat) : Int)) = true := by decide +kernel
theorem okC_all : (List.range 6).all (fun n => (List.range 3).all fun c => okC (n + 1) ((c + 1 : Nat) : Int)) = true := by decide +kernel
theorem ok_at {n c : Nat} (h1 : 1 ≤ n) (h2 : n ≤ 6) (h3 : 1 ≤ c) (h4 : c ≤ 3) : okB n c = true ∧ okC n c = true := by
  have a := List.all_eq_true.1 okB_all (n - 1) (List.mem_range.2 (by omega))
  have a := List.all_eq_true.1 a (c - 1) (List.mem_range.2 (by omega))
  have b := List.all_eq_true.1 okC_all (n - 1) (List.mem_range.2 (by omega))
  have b := List.all_eq_true.1 b (c - 1) (List.mem_range.2 (by omega))
  simp only [show n - 1 + 1 = n by omega, show c - 1 + 1 = c by omega] at a b
  exact ⟨a, b⟩
structure GoodS (n : Nat) (s : Hd × Img) : Prop where
  path : s.1.path = (heldG n).path
  over : s.1.over = []
  needs : s.1.needs = []
  stage : 0 ≤ s.1.stage ∧ s.1.stage ≤ 255
  img : s.2.ok
theorem GoodS.len {n : Nat} {s : Hd × Img} (h : GoodS n s) (hn : n ≤ 6) : s.1.len := by
  unfold Hd.len; rw [h.path, h.over, h.needs]; simp [heldG]; omega
theorem good_tick {n : Nat} {c o : Int} {s : Hd × Img} (h : GoodS n s) (h0 : 0 ≤ o) (h1 : o ≤ 4294967295) : GoodS n (tickS (layG n c) (tellI (layG n c) s.2 o) s.1, tellI (layG n c) s.2 o) := by
  have ⟨e1, e2, e3, e4, e5⟩ := tickS_same (layG n c) (tellI (layG n c) s.2 o) s.1
  exact ⟨e1.trans h.path, e2.trans h.over, e3.trans h.needs, tickS_stage h.stage, tellI_ok _ _ _ h0 h1⟩
theorem pow6 {i : Nat} (h : i < 6) : 0 ≤ ((2 ^ i : Nat) : Int) ∧ ((2 ^ i : Nat) : Int) ≤ 4294967295 ∧ 0 ≤ ((3 * 2 ^ i : Nat) : Int) ∧ ((3 * 2 ^ i : Nat) : Int) ≤ 4294967295 := by
  match i, h with
  | 0, _ | 1, _ | 2, _ | 3, _ | 4, _ | 5, _ => decide
  | n + 6, h => exact absurd h (by omega)
theorem good_B1 {n : Nat} {c : Int} {i : Nat} {s : Hd × Img} (hi : i < 6) (h : GoodS n s) : GoodS n (goB1 n c i s) := good_tick h (pow6 hi).1 (pow6 hi).2.1
theorem good_B2 {n : Nat} {c : Int} {i : Nat} {s : Hd × Img} (hi : i < 6) (h : GoodS n s) : GoodS n (goB2 n c i s) := good_tick h (pow6 hi).2.2.1 (pow6 hi).2.2.2
theorem good_B {n : Nat} {c : Int} (hn : n ≤ 6) : ∀ i, i ≤ n → GoodS n (stB n c i)
  | 0, _ => ⟨rfl, rfl, rfl, by simp [stB, heldG], imNew_ok⟩
  | i + 1, h => by
    simp only [stB]
    split
    · exact good_B2 (by omega) (good_B1 (by omega) (good_B hn i (by omega)))
    · exact good_B1 (by omega) (good_B hn i (by omega))
theorem good_C {n : Nat} {c : Int} (hn : n ≤ 6) : ∀ j, GoodS n (stC n c j)
  | 0 => good_B hn n (Nat.le_refl _)
  | j + 1 => good_tick (good_C hn j) (by decide) (by decide)

theorem shl1 {i : Nat} (h : i < 6) : IntKind.u32.wrap (2 ^ min i IntKind.u32.bits) = 2 ^ i := by
  match i, h with
  | 0, _ | 1, _ | 2, _ | 3, _ | 4, _ | 5, _ => rfl
  | n + 6, h => exact absurd h (by omega)
theorem shl3 {i : Nat} (h : i < 6) : IntKind.u32.wrap (3 * 2 ^ min i IntKind.u32.bits) = 3 * 2 ^ i := by
  match i, h with
  | 0, _ | 1, _ | 2, _ | 3, _ | 4, _ | 5, _ => rfl
  | n + 6, h => exact absurd h (by omega)
theorem c_PassGoes (n c : Int) : C f_lockbarlaw21_PassGoes [I n, I c] (.bool true) := by
  refine ctr [I n, I c] run_lockbarlaw21_PassGoes rfl rfl rfl ?_ rfl
  unfold rt_lockbarlaw21_PassGoes
  simp
  refine ⟨fun _ => ?_, fun h1 h2 h3 h4 => ?_⟩
  · refine call c_wakes (by simp) (by simp) ?_
    simp
  · obtain ⟨n, rfl⟩ : ∃ m : Nat, n = m := ⟨n.toNat, by omega⟩
    obtain ⟨c, rfl⟩ : ∃ m : Nat, c = m := ⟨c.toNat, by omega⟩
    have hn : 1 ≤ n ∧ n ≤ 6 := by omega
    have hc : 1 ≤ c ∧ c ≤ 3 := by omega
    obtain ⟨hB, hC⟩ := ok_at hn.1 hn.2 hc.1 hc.2
    refine RTwp_loop rfl (fun vs => ∃ i : Nat, i ≤ n ∧ vs = [I i, .sl (List.replicate i plain.av), steps ((List.range i).map stepG)]) (fun vs => match vs with | .int _ j :: _ => n - j.toNat | _ => 0) ⟨0, by simp, by simp⟩ ?_
    rintro vs - ⟨i, hi, rfl⟩
    simp
    refine ⟨fun hlt => ?_, fun hge => ?_⟩
    · have hw := wrap_succ (i := i) (by omega)
      simp [hw]
      repeat refine And.intro (by first | omega | (simp [plain, Sec.cells]; done) | (simp [stepG, Step.cells]; done)) ?_
      refine ⟨⟨i + 1, by omega, by omega, ?_, ?_⟩, by omega⟩
      · rw [List.replicate_succ']; rfl
      · rw [List.range_succ, List.map_append]; rfl
    · have hin : i = n := by omega
      subst hin
      refine call c_r15New rfl (by simp) ?_
      simp [Img.cells]
      refine RTwp_loop rfl (fun vs => ∃ k : Nat, k ≤ i ∧ vs = I k :: ((stB i c k).1.cells ++ (stB i c k).2.cells)) (fun vs => match vs with | .int _ j :: _ => i - j.toNat | _ => 0) ⟨0, by simp, by simp [stB, heldG, Hd.cells, Img.cells]⟩ ?_
      rintro vs - ⟨k, hk, rfl⟩
      have hg := good_B (c := (c : Int)) hn.2 k hk
      simp [Hd.cells, Img.cells]
      refine ⟨fun hlt => ?_, fun hge => ?_⟩
      · have hk6 : k < 6 := by omega
        have hw64 := u64wrap (n := (k : Int)) (by omega) (by omega)
        have hw := wrap_succ (i := k) (by omega)
        have hg1 := good_B1 (c := (c : Int)) hk6 hg
        have hBk := List.all_eq_true.1 hB k (List.mem_range.2 hlt)
        simp only [Bool.and_eq_true, decide_eq_true_eq] at hBk
        obtain ⟨b1, b2⟩ := hBk
        simp [hw64]
        refine call (r := (goB1 i c k (stB i c k)).2.av) (c_tell (layG i c) (stB i c k).2 ((2 ^ k : Nat) : Int) (pow6 hk6).1 (pow6 hk6).2.1) (by simp [Lay.cells, layG, Img.cells, shl1 hk6, hw64]) (by simp) ?_
        simp [Img.cells]
        refine call (avs := [(layG i c).av, (goB1 i c k (stB i c k)).2.av, (stB i c k).1.av]) (r := (goB1 i c k (stB i c k)).1.av) (c_pass_Tick (layG i c) _ hg1.img (stB i c k).1 (hg.len hn.2) hg.stage) (by simp [Lay.cells, layG, Img.cells, Hd.cells]) (by simp) ?_
        have hAk := fun a0 a1 a2 a3 a4 a5 a6 a7 t => aidx8 (goB1 i c k (stB i c k)).1.was a0 a1 a2 a3 a4 a5 a6 a7 t (i := k) (z := (k : Int)) rfl (by omega)
        simp [Hd.cells, Img.cells, b1, hAk, b2, hw, -pv_aidx]
        repeat refine And.intro (by omega) ?_
        refine ⟨fun hlt2 => ?_, fun hge2 => ?_⟩
        · have hst : stB i c (k + 1) = goB2 i c k (goB1 i c k (stB i c k)) := by simp only [stB]; rw [if_pos (by omega)]
          simp [hw64]
          refine call (r := (goB2 i c k (goB1 i c k (stB i c k))).2.av) (c_tell (layG i c) (goB1 i c k (stB i c k)).2 ((3 * 2 ^ k : Nat) : Int) (pow6 hk6).2.2.1 (pow6 hk6).2.2.2) (by simp [Lay.cells, layG, Img.cells, shl3 hk6, hw64]) (by simp) ?_
          simp [Img.cells]
          refine call (avs := [(layG i c).av, (goB2 i c k (goB1 i c k (stB i c k))).2.av, (goB1 i c k (stB i c k)).1.av]) (r := (goB2 i c k (goB1 i c k (stB i c k))).1.av) (c_pass_Tick (layG i c) _ (good_B2 hk6 hg1).img (goB1 i c k (stB i c k)).1 (hg1.len hn.2) hg1.stage) (by simp [Lay.cells, layG, Img.cells, Hd.cells, b1]) (by simp) ?_
          simp [Hd.cells, Img.cells, hw]
          refine ⟨⟨k + 1, by omega, ?_⟩, by omega⟩
          simp [hst, b1, Img.cells]
        · have hst : stB i c (k + 1) = goB1 i c k (stB i c k) := by simp only [stB]; rw [if_neg (by omega)]
          refine ⟨⟨k + 1, by omega, ?_⟩, by omega⟩
          simp [hst, b1, Img.cells]
      · have hki : k = i := by omega
        subst hki
        simp only [okC, Bool.and_eq_true, decide_eq_true_eq] at hC
        obtain ⟨hC1, hC2, hC3⟩ := hC
        have hcc : (c : Int).toNat + 2 = c + 2 := by omega
        rw [hcc] at hC1 hC2 hC3
        refine RTwp_loop rfl (fun vs => ∃ j : Nat, j ≤ c + 2 ∧ vs = I j :: ((stC k c j).1.cells ++ (stC k c j).2.cells)) (fun vs => match vs with | .int _ j :: _ => c + 2 - j.toNat | _ => 0) ⟨0, by omega, by simp [stC, Hd.cells, Img.cells]⟩ ?_
        rintro vs - ⟨j, hj, rfl⟩
        have hgc := good_C (c := (c : Int)) hn.2 j
        simp [Hd.cells, Img.cells]
        have hw2 : IntKind.i64.wrap ((c : Int) + 2) = c + 2 := by rw [wrap_i] <;> omega
        simp [hw2]
        refine ⟨fun hlt => ?_, fun hge => ?_⟩
        · have hw := wrap_succ (i := j) (by omega)
          have hmono := List.all_eq_true.1 hC1 j (List.mem_range.2 (by omega))
          simp only [decide_eq_true_eq] at hmono
          refine call (r := (stC k c (j + 1)).2.av) (c_tell (layG k c) (stC k c j).2 0 (by decide) (by decide)) (by simp [Lay.cells, layG, Img.cells]) (by simp) ?_
          simp [Img.cells]
          refine call (avs := [(layG k c).av, (stC k c (j + 1)).2.av, (stC k c j).1.av]) (r := (stC k c (j + 1)).1.av) (c_pass_Tick (layG k c) _ (good_C hn.2 (j + 1)).img (stC k c j).1 (hgc.len hn.2) hgc.stage) (by simp [Lay.cells, layG, Img.cells, Hd.cells]) (by simp) ?_
          have hng : ¬ (stC k c (j + 1)).1.gone < (stC k c j).1.gone := by omega
          simp [Hd.cells, Img.cells, hw, hng]
          refine ⟨⟨j + 1, by omega, ?_⟩, by omega⟩
          simp [Img.cells]
        · have hjc : j = c + 2 := by omega
          subst hjc
          have hlen := hgc.len hn.2
          have hpl : (stC k c (c + 2)).1.path.steps.length = k := by rw [hgc.path]; simp [heldG]
          have hov : overS (stC k c (c + 2)).1 = true := by
            unfold overS; rw [hC2, hC3, hpl]; simp
          have hse : secsN (stC k c (c + 2)).1 = [] := by
            unfold secsN; rw [hC2, hC3]; simp; omega
          simp [hC2, hC3]
          refine callIf (avs := [(stC k c (c + 2)).1.av]) (.bool true) rfl (fun _ => ⟨by simp [Hd.cells, hC2, hC3], by have := c_r17Over (stC k c (c + 2)).1; rw [hov] at this; exact this⟩) (by simp) ?_
          simp
          refine callIf (avs := [(stC k c (c + 2)).1.av]) (ints []) rfl (fun _ => ⟨by simp [Hd.cells, hC2, hC3], by have := c_r17Sections (stC k c (c + 2)).1 hlen; rw [hse] at this; exact this⟩) (by simp) ?_
          simp
          refine callIf (avs := []) (.bool true) rfl (fun _ => ⟨rfl, c_wakes⟩) (by simp) ?_
          simp
end Go.Lb.LK
