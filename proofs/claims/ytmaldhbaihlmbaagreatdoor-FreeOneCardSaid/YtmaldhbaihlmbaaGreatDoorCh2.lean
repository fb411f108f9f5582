/- What functions come to, printed by a program, checked by the kernel. -/
import Derived.Test.YtmaldhbaihlmbaaGreatDoorCh1
set_option linter.unusedSimpArgs false
set_option linter.unusedVariables false
namespace Go.Lb.LK
open Go Go.Lb Go.Proofs
noncomputable section
@[simp] def q1_0 : SE := .agg [.inp 114, .inp 115, .inp 116]
@[simp] def q1_1 : SE := ei 23 (.inp 41) (.inp 117)
@[simp] def q1_2 : SE := el 23 q1_1
@[simp] def q1_3 : SE := pt 1 q1_2
@[simp] def q1_4 : SE := bi .eql q1_3 (.inp 114)
@[simp] def q1_5 : SE := pt 6 q1_2
@[simp] def q1_6 : SE := bi .neq q1_5 (.int .u8 3)
@[simp] def q1_7 : SE := ei 3 (.inp 116) (.inp 119)
@[simp] def q1_8 : SE := el 3 q1_7
@[simp] def q1_9 : SE := bi .geq (.inp 119) (zi 0)
@[simp] def q1_10 : SE := bi .lss (.inp 122) (ln (.inp 121))
@[simp] def q1_11 : SE := ei 3 (.inp 121) (.inp 122)
@[simp] def q1_12 : SE := el 3 q1_11
@[simp] def q1_13 : SE := pt 0 q1_12
@[simp] def q1_14 : SE := bi .add (.inp 122) (zi 1)
@[simp] def q1_15 : SE := bi .geq (.inp 122) (zi 0)
@[simp] def q1_16 : SE := ei 3 (.inp 124) (.inp 125)
@[simp] def q1_17 : SE := el 3 q1_16
@[simp] def q1_18 : SE := bi .geq (ln (.inp 41)) (zi 6)
@[simp] def q1_19 : SE := bi .lss (.inp 124) (ln (.inp 123))
@[simp] def q1_20 : SE := ei 3 (.inp 123) (.inp 124)
@[simp] def q1_21 : SE := el 3 q1_20
@[simp] def q1_22 : SE := .agg [pt 0 q1_21, pt 1 q1_21, pt 2 q1_21]
@[simp] def q1_23 : SE := bi .add (.inp 124) (zi 1)
@[simp] def q1_24 : SE := bi .geq (.inp 124) (zi 0)
@[simp] def q1_25 : SE := bi .lss (.inp 121) (ln (.inp 120))
@[simp] def q1_26 : SE := ei 3 (.inp 120) (.inp 121)
@[simp] def q1_27 : SE := el 3 q1_26
@[simp] def q1_28 : SE := pt 0 q1_27
@[simp] def q1_29 : SE := bi .add (.inp 121) (zi 1)
@[simp] def q1_30 : SE := bi .geq (.inp 121) (zi 0)
@[simp] def q1_31 : SE := bi .lss (.inp 123) (ln (.inp 122))
@[simp] def q1_32 : SE := ei 3 (.inp 122) (.inp 123)
@[simp] def q1_33 : SE := el 3 q1_32
@[simp] def q1_34 : SE := .agg [pt 0 q1_33, pt 1 q1_33, pt 2 q1_33]
@[simp] def q1_35 : SE := bi .add (.inp 123) (zi 1)
@[simp] def q1_36 : SE := bi .geq (.inp 123) (zi 0)
@[simp] def q1_37 : SE := ei 3 (.inp 116) (.inp 118)
@[simp] def q1_38 : SE := el 3 q1_37
@[simp] def q1_39 : SE := bi .geq (.inp 118) (zi 0)
@[simp] def q1_40 : SE := ei 3 (.inp 119) (.inp 120)
@[simp] def q1_41 : SE := el 3 q1_40
@[simp] def q1_42 : SE := bi .gtr (ln (.inp 1)) (zi 6)
@[simp] def q1_43 : SE := pk q1_42 bT (bi .lss (.inp 0) (zi 1))
@[simp] def q1_44 : SE := bi .gtr (.inp 0) (zi 1073741824)
@[simp] def q1_45 : SE := ei 23 (.inp 1) (.inp 76)
@[simp] def q1_46 : SE := el 23 q1_45
@[simp] def q1_47 : SE := .agg (ptx (q1_46) 0 23)
@[simp] def q1_48 : SE := pt 0 q1_46
@[simp] def q1_49 : SE := bi .leq q1_48 (.inp 75)
@[simp] def q1_50 : SE := pk (nt (.inp 77)) bT q1_49
@[simp] def q1_51 : SE := bi .geq q1_48 (.inp 0)
@[simp] def q1_52 : SE := pk q1_50 bT q1_51
@[simp] def q1_53 : SE := .app (.slice false true) [.inp 1, .inp 76]
@[simp] def q1_54 : SE := ln q1_53
@[simp] def q1_55 : SE := ei 23 q1_53 (.inp 78)
@[simp] def q1_56 : SE := el 23 q1_55
@[simp] def q1_57 : SE := .agg (ptx (q1_56) 0 23)
@[simp] def q1_58 : SE := bi .add (.inp 76) (zi 1)
@[simp] def q1_59 : SE := .app (.aidx 24 3 0 3 true) [.agg (ipx 2 72), .inp 77]
@[simp] def q1_60 : SE := bi .eql (.inp 0) (.inp 74)
@[simp] def q1_61 : SE := .app (.eqa [ some .i64, some .i64, none, some .i64, some .i64, none, some .i64, some .i64, none, some .i64, some .i64, none, some .i64, some .i64, none, some .i64, some .i64, none, some .i64, some .i64, none, some .i64, some .i64, none, some .i64, some .i64, none, some .i64, some .i64, none, some .i64, some .i64, none, some .i64, some .i64, none, some .i64, some .i64, none, some .i64, some .i64, none, some .i64, some .i64, none, some .i64, some .i64, none, some .i64, some .i64, none, some .i64, some .i64, none, some .i64, some .i64, none, some .i64, some .i64, none, some .i64, some .i64, none, some .i64, some .i64, none, some .i64, some .i64, none, some .i64, some .i64, none] false) [.agg (ipx 2 72), .agg (ipx 76 72)]
@[simp] def q1_62 : SE := ei 23 (.inp 1) (.inp 148)
@[simp] def q1_63 : SE := el 23 q1_62
@[simp] def q1_64 : SE := ei 23 (.inp 75) (.inp 148)
@[simp] def q1_65 : SE := el 23 q1_64
@[simp] def q1_66 : SE := .app .app [.app .lst [], .inp 1]
@[simp] def q1_67 : SE := ln q1_66
@[simp] def q1_68 : SE := .app (.rowget 23 0 23 true) [.inp 76, .inp 75]
@[simp] def q1_69 : SE := .agg (ptx (.inp 77) 0 23)
@[simp] def q1_70 : SE := .app (.conv .i64) [.inp 0]
@[simp] def q1_71 : SE := .ref [zi 0, zi 0, zi 0, zi 0, zi 0, zi 0, bF, zi 2, zi 0, zi 1, zi 0, zi 0, zi 1, bF, zi 3, zi 0, zi 1, zi 0, zi 2, zi 2, bT, zi 4, zi 0, zi 1, zi 2, zi 3, zi 2, bF] 0
@[simp] def q1_72 : SE := .app (.eaidx 4 7) [q1_71, .inp 0]
@[simp] def q1_73 : SE := el 7 q1_72
@[simp] def q1_74 : SE := .app .lst [.agg [pt 1 (.inp 3), pt 2 (.inp 3)], .agg [pt 3 (.inp 3), pt 4 (.inp 3)]]
@[simp] def q1_75 : SE := .app (.slice false true) [q1_74, pt 5 (.inp 3)]
@[simp] def q1_76 : SE := el 2 (ei 2 (.inp 4) (.inp 6))
@[simp] def q1_77 : SE := pt 0 q1_76
@[simp] def q1_78 : SE := pt 1 q1_76
@[simp] def q1_79 : SE := bi .eql q1_78 (.inp 1)
@[simp] def q1_80 : SE := bi .eql q1_77 (.inp 2)
@[simp] def q1_81 : SE := .tup [tp 0 (.inp 3), tp 1 (.inp 3)]
@[simp] def q1_82 : SE := .agg [.inp 11, .inp 12, .inp 13]
@[simp] def q1_83 : SE := bi .geq (.inp 11) (zi 0)
@[simp] def q1_84 : SE := bi .lss (.inp 11) (ln (.inp 0))
@[simp] def q1_85 : SE := pk q1_83 q1_84 bF
@[simp] def q1_86 : SE := ei 11 (.inp 0) (.inp 11)
@[simp] def q1_87 : SE := .app (.eoff 0) [q1_86]
@[simp] def q1_88 : SE := e1 q1_87
@[simp] def q1_89 : SE := bi .lss (.inp 11) (zi 0)
@[simp] def q1_90 : SE := bi .geq (.inp 11) (ln (.inp 2))
@[simp] def q1_91 : SE := pk q1_89 bT q1_90
@[simp] def q1_92 : SE := .app (.eoff 2) [ei 3 (.inp 2) (.inp 11)]
@[simp] def q1_93 : SE := e1 q1_92
@[simp] def q1_94 : SE := bi .neq q1_88 (.int .u8 2)
@[simp] def q1_95 : SE := .tup [.inp 11, tp 0 (.inp 16), bT]
@[simp] def q1_96 : SE := .agg [tp 0 (.inp 15), tp 1 (.inp 15), .inp 14]
@[simp] def q1_97 : SE := .app .lst [q1_96]
@[simp] def q1_98 : SE := bi .lss (.inp 17) (ln (.inp 3))
@[simp] def q1_99 : SE := el 4 (ei 4 (.inp 3) (.inp 17))
@[simp] def q1_100 : SE := pt 0 q1_99
@[simp] def q1_101 : SE := bi .eql q1_100 (.inp 11)
@[simp] def q1_102 : SE := pk (tp 1 (.inp 16)) q1_101 bF
@[simp] def q1_103 : SE := pt 1 q1_99
@[simp] def q1_104 : SE := bi .eql q1_103 (tp 0 (.inp 16))
@[simp] def q1_105 : SE := pk q1_102 q1_104 bF
@[simp] def q1_106 : SE := .agg (ptx (q1_99) 0 4)
@[simp] def q1_107 : SE := pt 2 q1_99
@[simp] def q1_108 : SE := pt 3 q1_99
@[simp] def q1_109 : SE := .agg [q1_107, q1_108, .inp 14]
@[simp] def q1_110 : SE := .app .lst [q1_109]
@[simp] def q1_111 : SE := .app .app [.inp 18, q1_110]
@[simp] def q1_112 : SE := bi .add (.inp 17) (zi 1)
@[simp] def q1_113 : SE := ei 3 (.inp 13) (.inp 14)
@[simp] def q1_114 : SE := el 3 q1_113
@[simp] def q1_115 : SE := .agg [pt 0 q1_114, pt 1 q1_114, pt 2 q1_114]
@[simp] def q1_116 : SE := ei 3 (.inp 16) (.inp 17)
@[simp] def q1_117 : SE := el 3 q1_116
@[simp] def q1_118 : SE := .agg [pt 0 q1_117, pt 1 q1_117, pt 2 q1_117]
@[simp] def q1_119 : SE := .app (.mm true) [.inp 0, zi 0]
@[simp] def q1_120 : SE := bi .add (.inp 2) (.inp 3)
@[simp] def q1_121 : SE := bi .eql (.inp 0) (.int .u8 2)
@[simp] def q1_122 : SE := bi .geq (.inp 1) (.inp 2)
@[simp] def q1_123 : SE := bi .eql (.inp 1) (tp 0 (.inp 5))
@[simp] def q1_124 : SE := bi .eql (.inp 2) (tp 1 (.inp 5))
@[simp] def q1_125 : SE := pk q1_123 q1_124 bF
@[simp] def q1_126 : SE := bi .eql (.inp 1) (tp 1 (.inp 5))
@[simp] def q1_127 : SE := bi .eql (.inp 2) (tp 0 (.inp 5))
@[simp] def q1_128 : SE := pk q1_126 q1_127 bF
@[simp] def q1_129 : SE := bi .neq (.inp 0) (.int .u8 2)
@[simp] def q1_130 : SE := bi .geq (.inp 11) (ln (.inp 0))
@[simp] def q1_131 : SE := pk q1_89 bT q1_130
@[simp] def q1_132 : SE := bi .lss (.inp 12) (zi 0)
@[simp] def q1_133 : SE := pk q1_131 bT q1_132
@[simp] def q1_134 : SE := bi .geq (.inp 12) (.inp 13)
@[simp] def q1_135 : SE := el 11 q1_86
@[simp] def q1_136 : SE := bi .lss (.inp 11) (ln (.inp 2))
@[simp] def q1_137 : SE := bi .leq (.inp 11) (zi 30)
@[simp] def q1_138 : SE := ln q1_93
@[simp] def q1_139 : SE := bi .gtr (ln (.inp 0)) (zi 40)
@[simp] def q1_140 : SE := bi .gtr (ln (.inp 1)) (zi 30)
@[simp] def q1_141 : SE := pk q1_139 bT q1_140
@[simp] def q1_142 : SE := bi .gtr (ln (.inp 2)) (zi 30)
@[simp] def q1_143 : SE := pk q1_141 bT q1_142
@[simp] def q1_144 : SE := bi .gtr (ln (.inp 3)) (zi 40)
def rt_free_Can : RT :=
 ck (.isAgg 11) [.agg (ipx 0 11)] <|
 ck (.isAgg 29) [.agg (ipx 11 29)] <|
 ck (.isAgg 74) [.agg (ipx 40 74)] <|
 ck (.isAgg 3) [q1_0] <|
 ck .len [.inp 41] <|
.loop 0 117 [zi 0] <|
 ck (.bin .lss) [.inp 117, ln (.inp 41)] <|
.cond (bi .lss (.inp 117) (ln (.inp 41)))
 (ck (.eidx 23) [.inp 41, .inp 117] <|
 ck (.eload 23 true) [q1_1] <|
 ck (.isAgg 23) [q1_2] <|
 ck (.bin .eql) [q1_3, .inp 114] <|
 ckg (q1_4) true (.bin .neq) [q1_5, .int .u8 3] <|
 ck .pick [q1_4, q1_6, bF] <|
.seg [.bind 118 (pk q1_4 q1_6 bF)] <|
.cond (.inp 118)
 (ck (.bin .geq) [.inp 117, zi 0] <|
.cond (bi .geq (.inp 117) (zi 0))
 (.ret (zi 190))
 (ck .len [.inp 116] <|
.loop 0 119 [zi 0] <|
 ck (.bin .lss) [.inp 119, ln (.inp 116)] <|
.cond (bi .lss (.inp 119) (ln (.inp 116)))
 (ck (.eidx 3) [.inp 116, .inp 119] <|
 ck (.eload 3 true) [q1_7] <|
 ck (.isAgg 3) [q1_8] <|
.seg [.call 120 [] 18 [.agg (ipx 0 11), .agg (ipx 11 29), .agg (ipx 40 74), pt 0 q1_8] false] <|
 ck (.un .not) [.inp 120] <|
.cond (.inp 120)
 (ck (.bin .add) [.inp 119, zi 1] <|
.again 0 [bi .add (.inp 119) (zi 1)])
 (ck (.bin .geq) [.inp 119, zi 0] <|
.seg [.call 121 [(q1_9, false)] 52 [.agg (ipx 0 11), .inp 115] false] <|
.cond (q1_9)
 (.ret (zi 190))
 (ck .len [.inp 121] <|
.loop 0 122 [zi 0] <|
 ck (.bin .lss) [.inp 122, ln (.inp 121)] <|
.cond (q1_10)
 (ck (.eidx 3) [.inp 121, .inp 122] <|
 ck (.eload 3 true) [q1_11] <|
 ck (.isAgg 3) [q1_12] <|
.seg [.call 123 [] 18 [.agg (ipx 0 11), .agg (ipx 11 29), .agg (ipx 40 74), q1_13] false] <|
 ck (.un .not) [.inp 123] <|
.cond (.inp 123)
 (ck (.bin .add) [.inp 122, zi 1] <|
.again 0 [q1_14])
 (ck (.bin .geq) [.inp 122, zi 0] <|
.cond (q1_15)
 (.ret (zi 190))
 (.seg [.call 124 [] 54 [.agg (ipx 0 11), q1_0] false] <|
 ck .len [.inp 124] <|
.loop 0 125 [zi 0] <|
 ck (.bin .lss) [.inp 125, ln (.inp 124)] <|
.cond (bi .lss (.inp 125) (ln (.inp 124)))
 (ck (.eidx 3) [.inp 124, .inp 125] <|
 ck (.eload 3 true) [q1_16] <|
 ck (.isAgg 3) [q1_17] <|
.seg [.call 126 [] 20 [.agg (ipx 0 11), .agg (ipx 11 29), .agg (ipx 40 74), .agg [pt 0 q1_17, pt 1 q1_17, pt 2 q1_17]] false] <|
 ck (.un .not) [.inp 126] <|
.cond (.inp 126)
 (ck (.bin .add) [.inp 125, zi 1] <|
.again 0 [bi .add (.inp 125) (zi 1)])
 (ck (.bin .geq) [.inp 125, zi 0] <|
.cond (bi .geq (.inp 125) (zi 0))
 (.ret (zi 190))
 (ck .len [.inp 41] <|
 ck (.bin .geq) [ln (.inp 41), zi 6] <|
.cond (q1_18)
 (.ret (zi 191))
 (.ret (zi 0)))))
 (ck (.bin .geq) [zi (-1), zi 0] <|
 ck .len [.inp 41] <|
 ck (.bin .geq) [ln (.inp 41), zi 6] <|
.cond (q1_18)
 (.ret (zi 191))
 (.ret (zi 0))))))
 (ck (.bin .geq) [zi (-1), zi 0] <|
.seg [.call 123 [] 54 [.agg (ipx 0 11), q1_0] false] <|
 ck .len [.inp 123] <|
.loop 0 124 [zi 0] <|
 ck (.bin .lss) [.inp 124, ln (.inp 123)] <|
.cond (q1_19)
 (ck (.eidx 3) [.inp 123, .inp 124] <|
 ck (.eload 3 true) [q1_20] <|
 ck (.isAgg 3) [q1_21] <|
.seg [.call 125 [] 20 [.agg (ipx 0 11), .agg (ipx 11 29), .agg (ipx 40 74), q1_22] false] <|
 ck (.un .not) [.inp 125] <|
.cond (.inp 125)
 (ck (.bin .add) [.inp 124, zi 1] <|
.again 0 [q1_23])
 (ck (.bin .geq) [.inp 124, zi 0] <|
.cond (q1_24)
 (.ret (zi 190))
 (ck .len [.inp 41] <|
 ck (.bin .geq) [ln (.inp 41), zi 6] <|
.cond (q1_18)
 (.ret (zi 191))
 (.ret (zi 0)))))
 (ck (.bin .geq) [zi (-1), zi 0] <|
 ck .len [.inp 41] <|
 ck (.bin .geq) [ln (.inp 41), zi 6] <|
.cond (q1_18)
 (.ret (zi 191))
 (.ret (zi 0)))))))
 (ck (.bin .geq) [zi (-1), zi 0] <|
.seg [.call 120 [] 52 [.agg (ipx 0 11), .inp 115] false] <|
 ck .len [.inp 120] <|
.loop 0 121 [zi 0] <|
 ck (.bin .lss) [.inp 121, ln (.inp 120)] <|
.cond (q1_25)
 (ck (.eidx 3) [.inp 120, .inp 121] <|
 ck (.eload 3 true) [q1_26] <|
 ck (.isAgg 3) [q1_27] <|
.seg [.call 122 [] 18 [.agg (ipx 0 11), .agg (ipx 11 29), .agg (ipx 40 74), q1_28] false] <|
 ck (.un .not) [.inp 122] <|
.cond (.inp 122)
 (ck (.bin .add) [.inp 121, zi 1] <|
.again 0 [q1_29])
 (ck (.bin .geq) [.inp 121, zi 0] <|
.cond (q1_30)
 (.ret (zi 190))
 (.seg [.call 123 [] 54 [.agg (ipx 0 11), q1_0] false] <|
 ck .len [.inp 123] <|
.loop 0 124 [zi 0] <|
 ck (.bin .lss) [.inp 124, ln (.inp 123)] <|
.cond (q1_19)
 (ck (.eidx 3) [.inp 123, .inp 124] <|
 ck (.eload 3 true) [q1_20] <|
 ck (.isAgg 3) [q1_21] <|
.seg [.call 125 [] 20 [.agg (ipx 0 11), .agg (ipx 11 29), .agg (ipx 40 74), q1_22] false] <|
 ck (.un .not) [.inp 125] <|
.cond (.inp 125)
 (ck (.bin .add) [.inp 124, zi 1] <|
.again 0 [q1_23])
 (ck (.bin .geq) [.inp 124, zi 0] <|
.cond (q1_24)
 (.ret (zi 190))
 (ck .len [.inp 41] <|
 ck (.bin .geq) [ln (.inp 41), zi 6] <|
.cond (q1_18)
 (.ret (zi 191))
 (.ret (zi 0)))))
 (ck (.bin .geq) [zi (-1), zi 0] <|
 ck .len [.inp 41] <|
 ck (.bin .geq) [ln (.inp 41), zi 6] <|
.cond (q1_18)
 (.ret (zi 191))
 (.ret (zi 0))))))
 (ck (.bin .geq) [zi (-1), zi 0] <|
.seg [.call 122 [] 54 [.agg (ipx 0 11), q1_0] false] <|
 ck .len [.inp 122] <|
.loop 0 123 [zi 0] <|
 ck (.bin .lss) [.inp 123, ln (.inp 122)] <|
.cond (q1_31)
 (ck (.eidx 3) [.inp 122, .inp 123] <|
 ck (.eload 3 true) [q1_32] <|
 ck (.isAgg 3) [q1_33] <|
.seg [.call 124 [] 20 [.agg (ipx 0 11), .agg (ipx 11 29), .agg (ipx 40 74), q1_34] false] <|
 ck (.un .not) [.inp 124] <|
.cond (.inp 124)
 (ck (.bin .add) [.inp 123, zi 1] <|
.again 0 [q1_35])
 (ck (.bin .geq) [.inp 123, zi 0] <|
.cond (q1_36)
 (.ret (zi 190))
 (ck .len [.inp 41] <|
 ck (.bin .geq) [ln (.inp 41), zi 6] <|
.cond (q1_18)
 (.ret (zi 191))
 (.ret (zi 0)))))
 (ck (.bin .geq) [zi (-1), zi 0] <|
 ck .len [.inp 41] <|
 ck (.bin .geq) [ln (.inp 41), zi 6] <|
.cond (q1_18)
 (.ret (zi 191))
 (.ret (zi 0)))))))
 (ck (.bin .add) [.inp 117, zi 1] <|
.again 0 [bi .add (.inp 117) (zi 1)]))
 (ck (.bin .geq) [zi (-1), zi 0] <|
 ck .len [.inp 116] <|
.loop 0 118 [zi 0] <|
 ck (.bin .lss) [.inp 118, ln (.inp 116)] <|
.cond (bi .lss (.inp 118) (ln (.inp 116)))
 (ck (.eidx 3) [.inp 116, .inp 118] <|
 ck (.eload 3 true) [q1_37] <|
 ck (.isAgg 3) [q1_38] <|
.seg [.call 119 [] 18 [.agg (ipx 0 11), .agg (ipx 11 29), .agg (ipx 40 74), pt 0 q1_38] false] <|
 ck (.un .not) [.inp 119] <|
.cond (.inp 119)
 (ck (.bin .add) [.inp 118, zi 1] <|
.again 0 [bi .add (.inp 118) (zi 1)])
 (ck (.bin .geq) [.inp 118, zi 0] <|
.seg [.call 120 [(q1_39, false)] 52 [.agg (ipx 0 11), .inp 115] false] <|
.cond (q1_39)
 (.ret (zi 190))
 (ck .len [.inp 120] <|
.loop 0 121 [zi 0] <|
 ck (.bin .lss) [.inp 121, ln (.inp 120)] <|
.cond (q1_25)
 (ck (.eidx 3) [.inp 120, .inp 121] <|
 ck (.eload 3 true) [q1_26] <|
 ck (.isAgg 3) [q1_27] <|
.seg [.call 122 [] 18 [.agg (ipx 0 11), .agg (ipx 11 29), .agg (ipx 40 74), q1_28] false] <|
 ck (.un .not) [.inp 122] <|
.cond (.inp 122)
 (ck (.bin .add) [.inp 121, zi 1] <|
.again 0 [q1_29])
 (ck (.bin .geq) [.inp 121, zi 0] <|
.cond (q1_30)
 (.ret (zi 190))
 (.seg [.call 123 [] 54 [.agg (ipx 0 11), q1_0] false] <|
 ck .len [.inp 123] <|
.loop 0 124 [zi 0] <|
 ck (.bin .lss) [.inp 124, ln (.inp 123)] <|
.cond (q1_19)
 (ck (.eidx 3) [.inp 123, .inp 124] <|
 ck (.eload 3 true) [q1_20] <|
 ck (.isAgg 3) [q1_21] <|
.seg [.call 125 [] 20 [.agg (ipx 0 11), .agg (ipx 11 29), .agg (ipx 40 74), q1_22] false] <|
 ck (.un .not) [.inp 125] <|
.cond (.inp 125)
 (ck (.bin .add) [.inp 124, zi 1] <|
.again 0 [q1_23])
 (ck (.bin .geq) [.inp 124, zi 0] <|
.cond (q1_24)
 (.ret (zi 190))
 (ck .len [.inp 41] <|
 ck (.bin .geq) [ln (.inp 41), zi 6] <|
.cond (q1_18)
 (.ret (zi 191))
 (.ret (zi 0)))))
 (ck (.bin .geq) [zi (-1), zi 0] <|
 ck .len [.inp 41] <|
 ck (.bin .geq) [ln (.inp 41), zi 6] <|
.cond (q1_18)
 (.ret (zi 191))
 (.ret (zi 0))))))
 (ck (.bin .geq) [zi (-1), zi 0] <|
.seg [.call 122 [] 54 [.agg (ipx 0 11), q1_0] false] <|
 ck .len [.inp 122] <|
.loop 0 123 [zi 0] <|
 ck (.bin .lss) [.inp 123, ln (.inp 122)] <|
.cond (q1_31)
 (ck (.eidx 3) [.inp 122, .inp 123] <|
 ck (.eload 3 true) [q1_32] <|
 ck (.isAgg 3) [q1_33] <|
.seg [.call 124 [] 20 [.agg (ipx 0 11), .agg (ipx 11 29), .agg (ipx 40 74), q1_34] false] <|
 ck (.un .not) [.inp 124] <|
.cond (.inp 124)
 (ck (.bin .add) [.inp 123, zi 1] <|
.again 0 [q1_35])
 (ck (.bin .geq) [.inp 123, zi 0] <|
.cond (q1_36)
 (.ret (zi 190))
 (ck .len [.inp 41] <|
 ck (.bin .geq) [ln (.inp 41), zi 6] <|
.cond (q1_18)
 (.ret (zi 191))
 (.ret (zi 0)))))
 (ck (.bin .geq) [zi (-1), zi 0] <|
 ck .len [.inp 41] <|
 ck (.bin .geq) [ln (.inp 41), zi 6] <|
.cond (q1_18)
 (.ret (zi 191))
 (.ret (zi 0)))))))
 (ck (.bin .geq) [zi (-1), zi 0] <|
.seg [.call 119 [] 52 [.agg (ipx 0 11), .inp 115] false] <|
 ck .len [.inp 119] <|
.loop 0 120 [zi 0] <|
 ck (.bin .lss) [.inp 120, ln (.inp 119)] <|
.cond (bi .lss (.inp 120) (ln (.inp 119)))
 (ck (.eidx 3) [.inp 119, .inp 120] <|
 ck (.eload 3 true) [q1_40] <|
 ck (.isAgg 3) [q1_41] <|
.seg [.call 121 [] 18 [.agg (ipx 0 11), .agg (ipx 11 29), .agg (ipx 40 74), pt 0 q1_41] false] <|
 ck (.un .not) [.inp 121] <|
.cond (.inp 121)
 (ck (.bin .add) [.inp 120, zi 1] <|
.again 0 [bi .add (.inp 120) (zi 1)])
 (ck (.bin .geq) [.inp 120, zi 0] <|
.cond (bi .geq (.inp 120) (zi 0))
 (.ret (zi 190))
 (.seg [.call 122 [] 54 [.agg (ipx 0 11), q1_0] false] <|
 ck .len [.inp 122] <|
.loop 0 123 [zi 0] <|
 ck (.bin .lss) [.inp 123, ln (.inp 122)] <|
.cond (q1_31)
 (ck (.eidx 3) [.inp 122, .inp 123] <|
 ck (.eload 3 true) [q1_32] <|
 ck (.isAgg 3) [q1_33] <|
.seg [.call 124 [] 20 [.agg (ipx 0 11), .agg (ipx 11 29), .agg (ipx 40 74), q1_34] false] <|
 ck (.un .not) [.inp 124] <|
.cond (.inp 124)
 (ck (.bin .add) [.inp 123, zi 1] <|
.again 0 [q1_35])
 (ck (.bin .geq) [.inp 123, zi 0] <|
.cond (q1_36)
 (.ret (zi 190))
 (ck .len [.inp 41] <|
 ck (.bin .geq) [ln (.inp 41), zi 6] <|
.cond (q1_18)
 (.ret (zi 191))
 (.ret (zi 0)))))
 (ck (.bin .geq) [zi (-1), zi 0] <|
 ck .len [.inp 41] <|
 ck (.bin .geq) [ln (.inp 41), zi 6] <|
.cond (q1_18)
 (.ret (zi 191))
 (.ret (zi 0))))))
 (ck (.bin .geq) [zi (-1), zi 0] <|
.seg [.call 121 [] 54 [.agg (ipx 0 11), q1_0] false] <|
 ck .len [.inp 121] <|
.loop 0 122 [zi 0] <|
 ck (.bin .lss) [.inp 122, ln (.inp 121)] <|
.cond (q1_10)
 (ck (.eidx 3) [.inp 121, .inp 122] <|
 ck (.eload 3 true) [q1_11] <|
 ck (.isAgg 3) [q1_12] <|
.seg [.call 123 [] 20 [.agg (ipx 0 11), .agg (ipx 11 29), .agg (ipx 40 74), .agg [q1_13, pt 1 q1_12, pt 2 q1_12]] false] <|
 ck (.un .not) [.inp 123] <|
.cond (.inp 123)
 (ck (.bin .add) [.inp 122, zi 1] <|
.again 0 [q1_14])
 (ck (.bin .geq) [.inp 122, zi 0] <|
.cond (q1_15)
 (.ret (zi 190))
 (ck .len [.inp 41] <|
 ck (.bin .geq) [ln (.inp 41), zi 6] <|
.cond (q1_18)
 (.ret (zi 191))
 (.ret (zi 0)))))
 (ck (.bin .geq) [zi (-1), zi 0] <|
 ck .len [.inp 41] <|
 ck (.bin .geq) [ln (.inp 41), zi 6] <|
.cond (q1_18)
 (.ret (zi 191))
 (.ret (zi 0))))))
theorem run_free_Can : runF E 22 [.agg (ips 0 11), .agg (ips 11 29), .agg (ips 40 74), .agg [.inp 114, .inp 115, .inp 116]] 117 = rt_free_Can := by kernel_rfl
def rt_free_Right : RT :=
 ck (.isAgg 74) [.agg (ipx 0 74)] <|
 ck .len [.inp 1] <|
 ck (.bin .gtr) [ln (.inp 1), zi 6] <|
 ckg (q1_42) false (.bin .lss) [.inp 0, zi 1] <|
 ck .pick [q1_42, bT, bi .lss (.inp 0) (zi 1)] <|
 ckg (q1_43) false (.bin .gtr) [.inp 0, zi 1073741824] <|
 ck .pick [q1_43, bT, q1_44] <|
.seg [.bind 74 (pk q1_43 bT q1_44)] <|
.cond (.inp 74)
 (.ret (bF))
 (ck .len [.inp 1] <|
.loop 0 75 [zi 0, zi 0] <|
 ck (.bin .lss) [.inp 76, ln (.inp 1)] <|
.cond (bi .lss (.inp 76) (ln (.inp 1)))
 (ck (.eidx 23) [.inp 1, .inp 76] <|
 ck (.eload 23 true) [q1_45] <|
 ck (.isAgg 23) [q1_46] <|
.seg [.call 77 [] 57 [q1_47] false] <|
 ck (.un .not) [.inp 77] <|
 ckg (nt (.inp 77)) false (.bin .leq) [q1_48, .inp 75] <|
 ck .pick [nt (.inp 77), bT, q1_49] <|
 ckg (q1_50) false (.bin .geq) [q1_48, .inp 0] <|
 ck .pick [q1_50, bT, q1_51] <|
.seg [.chk [(q1_52, false)] (.szs 23) [.inp 1],
.chk [(q1_52, false)] (.slice false true) [.inp 1, .inp 76]] <|
.cond (q1_52)
 (.seg [.bind 78 (q1_50)] <|
.ret (bF))
 (ck .len [q1_53] <|
.loop 1 78 [zi 0] <|
 ck (.bin .lss) [.inp 78, q1_54] <|
.cond (bi .lss (.inp 78) q1_54)
 (ck (.eidx 23) [q1_53, .inp 78] <|
 ck (.eload 23 true) [q1_55] <|
 ck (.isAgg 23) [q1_56] <|
 ck (.isAgg 23) [q1_57] <|
.seg [.call 79 [] 56 [q1_47, q1_57] false] <|
 ck (.un .not) [.inp 79] <|
.cond (.inp 79)
 (ck (.bin .add) [.inp 78, zi 1] <|
.again 1 [bi .add (.inp 78) (zi 1)])
 (ck (.bin .geq) [.inp 78, zi 0] <|
.seg [.bind 80 (q1_50)] <|
.cond (bi .geq (.inp 78) (zi 0))
 (.ret (bF))
 (ck (.bin .add) [.inp 76, zi 1] <|
.again 0 [q1_48, q1_58])))
 (ck (.bin .geq) [zi (-1), zi 0] <|
.seg [.bind 79 (q1_50)] <|
 ck (.bin .add) [.inp 76, zi 1] <|
.again 0 [q1_48, q1_58])))
 (.loop 0 77 [zi 0] <|
 ck (.bin .lss) [.inp 77, zi 24] <|
.cond (bi .lss (.inp 77) (zi 24))
 (ck (.aidx 24 3 0 3 true) [.agg (ipx 2 72), .inp 77] <|
 ck (.isAgg 3) [q1_59] <|
.seg [.bind 78 (q1_59),
.bind 79 (pt 0 q1_59),
.bind 80 (pt 1 q1_59),
.bind 81 (pt 2 q1_59)] <|
.seg [.call 82 [] 60 [.agg [.inp 79, .inp 80, .inp 81]] false] <|
 ck (.un .not) [.inp 82] <|
.cond (.inp 82)
 (ck (.bin .add) [.inp 77, zi 1] <|
.again 0 [bi .add (.inp 77) (zi 1)])
 (.ret (bF)))
 (.ret (bT))))
theorem run_free_Right : runF E 24 [.agg (ips 0 74)] 74 = rt_free_Right := by kernel_rfl
def rt_free_Same : RT :=
 ck (.isAgg 74) [.agg (ipx 0 74)] <|
 ck (.isAgg 74) [.agg (ipx 74 74)] <|
 ck (.bin .eql) [.inp 0, .inp 74] <|
 ckg (q1_60) true (.eqa [ some .i64, some .i64, none, some .i64, some .i64, none, some .i64, some .i64, none, some .i64, some .i64, none, some .i64, some .i64, none, some .i64, some .i64, none, some .i64, some .i64, none, some .i64, some .i64, none, some .i64, some .i64, none, some .i64, some .i64, none, some .i64, some .i64, none, some .i64, some .i64, none, some .i64, some .i64, none, some .i64, some .i64, none, some .i64, some .i64, none, some .i64, some .i64, none, some .i64, some .i64, none, some .i64, some .i64, none, some .i64, some .i64, none, some .i64, some .i64, none, some .i64, some .i64, none, some .i64, some .i64, none, some .i64, some .i64, none, some .i64, some .i64, none] false) [.agg (ipx 2 72), .agg (ipx 76 72)] <|
 ck .pick [q1_60, q1_61, bF] <|
.cond (pk q1_60 q1_61 bF)
 (ck .len [.inp 1] <|
 ck .len [.inp 75] <|
 ck (.bin .neq) [ln (.inp 1), ln (.inp 75)] <|
.cond (bi .neq (ln (.inp 1)) (ln (.inp 75)))
 (.seg [.bind 148 (q1_61)] <|
.ret (bF))
 (ck .len [.inp 1] <|
.loop 0 148 [zi 0] <|
 ck (.bin .lss) [.inp 148, ln (.inp 1)] <|
.cond (bi .lss (.inp 148) (ln (.inp 1)))
 (ck (.eidx 23) [.inp 1, .inp 148] <|
 ck (.eload 23 true) [q1_62] <|
 ck (.isAgg 23) [q1_63] <|
 ck (.eidx 23) [.inp 75, .inp 148] <|
 ck (.eload 23 true) [q1_64] <|
 ck (.isAgg 23) [q1_65] <|
.seg [.call 149 [] 64 [.agg (ptx (q1_63) 0 23), .agg (ptx (q1_65) 0 23)] false] <|
 ck (.un .not) [.inp 149] <|
.cond (.inp 149)
 (ck (.bin .add) [.inp 148, zi 1] <|
.again 0 [bi .add (.inp 148) (zi 1)])
 (.seg [.bind 150 (q1_61)] <|
.ret (bF)))
 (.seg [.bind 149 (q1_61)] <|
.ret (bT))))
 (.seg [.bind 148 (q1_61)] <|
.ret (bF))
theorem run_free_Same : runF E 26 [.agg (ips 0 74), .agg (ips 74 74)] 148 = rt_free_Same := by kernel_rfl
def rt_free_Own : RT :=
 ck (.isAgg 74) [.agg (ipx 0 74)] <|
.seg [.chk [] .len [.inp 1],
.isNil 74 [] (.inp 1)] <|
.cond (.inp 74)
 (ck .len [.nils] <|
.loop 0 75 [] <|
 ck (.bin .lss) [zi 0, zi 0] <|
 ck (.isAgg 74) [.agg (ap [.inp 0, .enil] (ipx 2 72))] <|
.ret (.agg (ap [.inp 0, .nils] (ipx 2 72))))
 (.seg [.chk [] (.szs 23) [.inp 1],
.chk [] .app [.app .lst [], .inp 1],
.chk [] (.inr 4294967297) [q1_67]] <|
 ck .len [q1_66] <|
.loop 0 75 [zi 0, q1_66] <|
 ck (.bin .lss) [.inp 75, q1_67] <|
.cond (bi .lss (.inp 75) q1_67)
 (ck (.eidx 23) [.inp 76, .inp 75] <|
 ck (.rowget 23 0 23 true) [.inp 76, .inp 75] <|
 ck (.isAgg 23) [q1_68] <|
.seg [.call 77 [] 67 [.agg (ptx (q1_68) 0 23)] false,
.chk [] (.eidx 23) [.inp 76, .inp 75],
.chk [] (.rowset 23 0 23) [.inp 76, .inp 75, q1_69],
.chk [] (.isAgg 23) [.inp 77]] <|
.seg [.bind 78 (.app (.rowset 23 0 23) [.inp 76, .inp 75, q1_69])] <|
 ck (.bin .add) [.inp 75, zi 1] <|
.again 0 [bi .add (.inp 75) (zi 1), .inp 78])
 (ck (.isAgg 74) [.agg (ap [.inp 0, .row 18] (ipx 2 72))] <|
.ret (.agg (ap [.inp 0, .inp 76] (ipx 2 72)))))
theorem run_free_Own : runF E 28 [.agg (ips 0 74)] 74 = rt_free_Own := by kernel_rfl
def rt_port_of : RT :=
 ck (.conv .i64) [.inp 0] <|
 ck (.bin .lss) [q1_70, zi 4] <|
.cond (bi .lss q1_70 (zi 4))
 (ck (.eaidx 4 7) [q1_71, .inp 0] <|
 ck (.eload 7 true) [q1_72] <|
 ck (.isAgg 7) [q1_73] <|
.seg [.bind 1 (q1_72),
.bind 2 (q1_73),
.bind 3 (pt 0 q1_73),
.bind 4 (pt 1 q1_73),
.bind 5 (pt 2 q1_73),
.bind 6 (pt 3 q1_73),
.bind 7 (pt 4 q1_73),
.bind 8 (pt 5 q1_73),
.bind 9 (pt 6 q1_73)] <|
.ret (.agg (ipx 3 7)))
 (.ret (.agg [zi 0, zi 0, zi 0, zi 0, zi 0, zi 0, bF]))
theorem run_port_of : runF E 163 [.inp 0] 1 = rt_port_of := by kernel_rfl
def rt_port_Way : RT :=
 ck .isOne [.inp 2] <|
 ck .isOne [.inp 0] <|
 ck .isOne [.inp 1] <|
.seg [.call 3 [] 163 [.inp 0] false] <|
 ck (.isAgg 7) [.inp 3] <|
 ck (.slice false true) [q1_74, pt 5 (.inp 3)] <|
 ck .len [q1_75] <|
.seg [.bind 4 (q1_75),
.bind 5 (ln q1_75)] <|
.loop 0 6 [zi 0] <|
 ck (.bin .lss) [.inp 6, .inp 5] <|
.cond (bi .lss (.inp 6) (.inp 5))
 (ck (.eidx 2) [.inp 4, .inp 6] <|
 ck (.eload 2 true) [ei 2 (.inp 4) (.inp 6)] <|
 ck (.isAgg 2) [q1_76] <|
 ck (.bin .eql) [q1_77, .inp 1] <|
.cond (bi .eql q1_77 (.inp 1))
 (ck (.bin .eql) [q1_78, .inp 2] <|
.cond (bi .eql q1_78 (.inp 2))
 (ck .isOne [.inp 6] <|
 ck (.un .not) [bF] <|
 ck .isOne [.inp 6] <|
.ret (.tup [.inp 6, bT]))
 (ck (.un .not) [bT] <|
 ck (.bin .eql) [q1_78, .inp 1] <|
.cond (q1_79)
 (ck (.bin .eql) [q1_77, .inp 2] <|
.cond (q1_80)
 (ck .isOne [.inp 6] <|
 ck (.un .not) [bF] <|
 ck .isOne [.inp 6] <|
.ret (.tup [.inp 6, bT]))
 (ck (.un .not) [bT] <|
 ck (.bin .add) [.inp 6, zi 1] <|
.again 0 [bi .add (.inp 6) (zi 1)]))
 (ck (.bin .add) [.inp 6, zi 1] <|
.again 0 [bi .add (.inp 6) (zi 1)])))
 (ck (.bin .eql) [q1_78, .inp 1] <|
.cond (q1_79)
 (ck (.bin .eql) [q1_77, .inp 2] <|
.cond (q1_80)
 (ck .isOne [.inp 6] <|
 ck (.un .not) [bF] <|
 ck .isOne [.inp 6] <|
.ret (.tup [.inp 6, bT]))
 (ck (.un .not) [bT] <|
 ck (.bin .add) [.inp 6, zi 1] <|
.again 0 [bi .add (.inp 6) (zi 1)]))
 (ck (.bin .add) [.inp 6, zi 1] <|
.again 0 [bi .add (.inp 6) (zi 1)])))
 (.ret (.tup [zi 0, bF]))
theorem run_port_Way : runF E 162 [.inp 0, .inp 1, .inp 2] 3 = rt_port_Way := by kernel_rfl
def rt_port_Pos : RT :=
.seg [.call 3 [] 162 [.inp 0, .inp 1, .inp 2] false] <|
 ck (.tproj 0) [.inp 3] <|
 ck (.tproj 1) [.inp 3] <|
.seg [.call 4 [(tp 1 (.inp 3), true)] 163 [.inp 0] false] <|
 ckg (tp 1 (.inp 3)) true (.part 6 1 false) [.inp 4] <|
 ckg (tp 1 (.inp 3)) true (.un .not) [pt 6 (.inp 4)] <|
 ck .pick [tp 1 (.inp 3), nt (pt 6 (.inp 4)), bF] <|
.cond (pk (tp 1 (.inp 3)) (nt (pt 6 (.inp 4))) bF)
 (.ret (.tup [zi (-1), tp 1 (.inp 3)]))
 (.ret (q1_81))
theorem run_port_Pos : runF E 137 [.inp 0, .inp 1, .inp 2] 3 = rt_port_Pos := by kernel_rfl
def rt_layout_Step : RT :=
 ck (.isAgg 11) [.agg (ipx 0 11)] <|
 ck (.isAgg 3) [q1_82] <|
 ck (.isAgg 11) [.agg (ipx 0 11)] <|
 ck (.bin .geq) [.inp 11, zi 0] <|
 ckg (q1_83) true .len [.inp 0] <|
 ckg (q1_83) true (.bin .lss) [.inp 11, ln (.inp 0)] <|
 ck .pick [q1_83, q1_84, bF] <|
 ck (.un .not) [q1_85] <|
.seg [.bind 14 (nt q1_85)] <|
.cond (.inp 14)
 (.ret (.tup [zi 0, bF]))
 (.seg [.chk [] (.eidx 11) [.inp 0, .inp 11],
.chk [] (.eoff 0) [q1_86],
.chk [] (.eload 1 false) [q1_87],
.call 15 [] 162 [q1_88, .inp 12, .inp 13] false,
.chk [] (.tproj 0) [.inp 15],
.chk [] (.tproj 1) [.inp 15]] <|
.ret (.tup [tp 0 (.inp 15), tp 1 (.inp 15)]))
theorem run_layout_Step : runF E 136 [.agg (ips 0 11), .agg [.inp 11, .inp 12, .inp 13]] 14 = rt_layout_Step := by kernel_rfl
def rt_beyond_Over : RT :=
 ck (.isAgg 11) [.agg (ipx 0 11)] <|
 ck (.bin .lss) [.inp 11, zi 0] <|
 ckg (q1_89) false .len [.inp 2] <|
 ckg (q1_89) false (.bin .geq) [.inp 11, ln (.inp 2)] <|
 ck .pick [q1_89, bT, q1_90] <|
.cond (q1_91)
 (.ret (.nils))
 (ck (.eidx 3) [.inp 2, .inp 11] <|
 ck (.eoff 2) [ei 3 (.inp 2) (.inp 11)] <|
 ck (.eload 1 false) [q1_92] <|
.seg [.call 12 [] 84 [q1_93] false] <|
.ret (.inp 12))
theorem run_beyond_Over : runF E 52 [.agg (ips 0 11), .inp 11] 12 = rt_beyond_Over := by kernel_rfl
def rt_beyond_Point : RT :=
 ck (.isAgg 11) [.agg (ipx 0 11)] <|
 ck (.isAgg 3) [q1_82] <|
.seg [.call 14 [] 136 [.agg (ipx 0 11), q1_82] false] <|
 ck (.tproj 0) [.inp 14] <|
 ck (.tproj 1) [.inp 14] <|
 ck (.un .not) [tp 1 (.inp 14)] <|
 ckg (nt (tp 1 (.inp 14))) false (.eidx 11) [.inp 0, .inp 11] <|
 ckg (nt (tp 1 (.inp 14))) false (.eoff 0) [q1_86] <|
 ckg (nt (tp 1 (.inp 14))) false (.eload 1 false) [q1_87] <|
 ckg (nt (tp 1 (.inp 14))) false (.bin .neq) [q1_88, .int .u8 2] <|
 ck .pick [nt (tp 1 (.inp 14)), bT, q1_94] <|
.seg [.bind 15 (pk (nt (tp 1 (.inp 14))) bT q1_94)] <|
.cond (.inp 15)
 (.ret (.tup [zi 0, zi 0, bF]))
 (.seg [.call 16 [] 137 [.int .u8 2, .inp 12, .inp 13] false] <|
 ck (.tproj 0) [.inp 16] <|
 ck (.tproj 1) [.inp 16] <|
.ret (q1_95))
theorem run_beyond_Point : runF E 119 [.agg (ips 0 11), .agg [.inp 11, .inp 12, .inp 13]] 14 = rt_beyond_Point := by kernel_rfl
def rt_beyond_Wants : RT :=
 ck (.isAgg 11) [.agg (ipx 0 11)] <|
 ck (.isAgg 3) [q1_82] <|
 ck .isOne [.inp 14] <|
.seg [.call 15 [] 119 [.agg (ipx 0 11), q1_82] false] <|
 ck (.tproj 0) [.inp 15] <|
 ck (.tproj 1) [.inp 15] <|
 ck (.tproj 2) [.inp 15] <|
.cond (tp 2 (.inp 15))
 (.seg [.chk [] .isOne [tp 0 (.inp 15)],
.chk [] .isOne [tp 1 (.inp 15)],
.chk [] .isOne [.inp 14]] <|
 ck (.isAgg 3) [q1_96] <|
.seg [.chk [] (.szs 3) [q1_97],
.chk [] .app [.nils, q1_97]] <|
 ck (.isAgg 11) [.agg (ipx 0 11)] <|
 ck (.isAgg 3) [q1_82] <|
.seg [.call 16 [] 136 [.agg (ipx 0 11), q1_82] false] <|
 ck (.tproj 0) [.inp 16] <|
 ck (.tproj 1) [.inp 16] <|
 ck .len [.inp 3] <|
.loop 0 17 [zi 0, .app .app [.nils, q1_97]] <|
 ck (.bin .lss) [.inp 17, ln (.inp 3)] <|
.cond (q1_98)
 (ck (.eidx 4) [.inp 3, .inp 17] <|
 ck (.eload 4 true) [ei 4 (.inp 3) (.inp 17)] <|
 ck (.isAgg 4) [q1_99] <|
 ckg (tp 1 (.inp 16)) true (.bin .eql) [q1_100, .inp 11] <|
 ck .pick [tp 1 (.inp 16), q1_101, bF] <|
 ckg (q1_102) true (.bin .eql) [q1_103, tp 0 (.inp 16)] <|
 ck .pick [q1_102, q1_104, bF] <|
.cond (q1_105)
 (ck (.isAgg 4) [q1_106] <|
.seg [.chk [] .isOne [q1_107],
.chk [] .isOne [q1_108],
.chk [] .isOne [.inp 14]] <|
 ck (.isAgg 3) [q1_109] <|
.seg [.chk [] (.szs 3) [q1_110],
.chk [] .app [.inp 18, q1_110]] <|
.seg [.bind 19 (q1_110),
.bind 20 (q1_111)] <|
 ck (.un .not) [bT] <|
.seg [.bind 21 (q1_102)] <|
 ck (.bin .add) [.inp 17, zi 1] <|
.again 0 [q1_112, .inp 20])
 (.seg [.bind 19 (q1_102)] <|
 ck (.bin .add) [.inp 17, zi 1] <|
.again 0 [q1_112, .inp 18]))
 (.ret (.inp 18)))
 (ck (.isAgg 11) [.agg (ipx 0 11)] <|
 ck (.isAgg 3) [q1_82] <|
.seg [.call 16 [] 136 [.agg (ipx 0 11), q1_82] false] <|
 ck (.tproj 0) [.inp 16] <|
 ck (.tproj 1) [.inp 16] <|
 ck .len [.inp 3] <|
.loop 0 17 [zi 0, .nils] <|
 ck (.bin .lss) [.inp 17, ln (.inp 3)] <|
.cond (q1_98)
 (ck (.eidx 4) [.inp 3, .inp 17] <|
 ck (.eload 4 true) [ei 4 (.inp 3) (.inp 17)] <|
 ck (.isAgg 4) [q1_99] <|
 ckg (tp 1 (.inp 16)) true (.bin .eql) [q1_100, .inp 11] <|
 ck .pick [tp 1 (.inp 16), q1_101, bF] <|
 ckg (q1_102) true (.bin .eql) [q1_103, tp 0 (.inp 16)] <|
 ck .pick [q1_102, q1_104, bF] <|
.cond (q1_105)
 (ck (.isAgg 4) [q1_106] <|
.seg [.chk [] .isOne [q1_107],
.chk [] .isOne [q1_108],
.chk [] .isOne [.inp 14]] <|
 ck (.isAgg 3) [q1_109] <|
.seg [.chk [] (.szs 3) [q1_110],
.chk [] .app [.inp 18, q1_110]] <|
.seg [.bind 19 (q1_110),
.bind 20 (q1_111)] <|
 ck (.un .not) [bT] <|
.seg [.bind 21 (q1_102)] <|
 ck (.bin .add) [.inp 17, zi 1] <|
.again 0 [q1_112, .inp 20])
 (.seg [.bind 19 (q1_102)] <|
 ck (.bin .add) [.inp 17, zi 1] <|
.again 0 [q1_112, .inp 18]))
 (.ret (.inp 18)))
theorem run_beyond_Wants : runF E 87 [.agg (ips 0 11), .agg [.inp 11, .inp 12, .inp 13], .inp 14] 15 = rt_beyond_Wants := by kernel_rfl
def rt_need_Of : RT :=
 ck (.isAgg 11) [.agg (ipx 0 11)] <|
 ck (.isAgg 3) [q1_82] <|
 ck (.isAgg 11) [.agg (ipx 0 11)] <|
 ck (.isAgg 3) [q1_82] <|
 ck .len [.inp 13] <|
.loop 0 14 [zi 0, .nils] <|
 ck (.bin .lss) [.inp 14, ln (.inp 13)] <|
.cond (bi .lss (.inp 14) (ln (.inp 13)))
 (ck (.eidx 3) [.inp 13, .inp 14] <|
 ck (.eload 3 true) [q1_113] <|
 ck (.isAgg 3) [q1_114] <|
 ck (.isAgg 3) [q1_115] <|
.seg [.call 16 [] 87 [.agg (ipx 0 11), q1_115, .inp 14] false,
.chk [] (.szs 3) [.inp 16],
.chk [] .app [.inp 15, .inp 16]] <|
 ck (.un .not) [bT] <|
 ck (.bin .add) [.inp 14, zi 1] <|
.again 0 [bi .add (.inp 14) (zi 1), .app .app [.inp 15, .inp 16]])
 (.seg [.call 16 [] 52 [.agg (ipx 0 11), .inp 12] false] <|
 ck .len [.inp 16] <|
.loop 0 17 [zi 0, .inp 15] <|
 ck (.bin .lss) [.inp 17, ln (.inp 16)] <|
.cond (bi .lss (.inp 17) (ln (.inp 16)))
 (ck (.eidx 3) [.inp 16, .inp 17] <|
 ck (.eload 3 true) [q1_116] <|
 ck (.isAgg 3) [q1_117] <|
 ck .len [.inp 13] <|
 ck (.isAgg 3) [q1_118] <|
.seg [.call 19 [] 87 [.agg (ipx 0 11), q1_118, ln (.inp 13)] false,
.chk [] (.szs 3) [.inp 19],
.chk [] .app [.inp 18, .inp 19]] <|
 ck (.un .not) [bT] <|
 ck (.bin .add) [.inp 17, zi 1] <|
.again 0 [q1_112, .app .app [.inp 18, .inp 19]])
 (.ret (.inp 18)))
theorem run_need_Of : runF E 54 [.agg (ips 0 11), .agg [.inp 11, .inp 12, .inp 13]] 14 = rt_need_Of := by kernel_rfl
def rt_lockbarref03_Late : RT :=
 ck (.bin .gtr) [.inp 0, .inp 1] <|
.ret (bi .gtr (.inp 0) (.inp 1))
theorem run_lockbarref03_Late : runF E 75 [.inp 0, .inp 1] 2 = rt_lockbarref03_Late := by kernel_rfl
def rt_lockbarref03_within : RT :=
 ck (.mm true) [.inp 0, zi 0] <|
 ck (.mm false) [q1_119, .inp 1] <|
.ret (.app (.mm false) [q1_119, .inp 1])
theorem run_lockbarref03_within : runF E 183 [.inp 0, .inp 1] 2 = rt_lockbarref03_within := by kernel_rfl
def rt_lockbarref03_Count : RT :=
.seg [.call 1 [] 183 [.inp 0, zi 65535] false] <|
.ret (.inp 1)
theorem run_lockbarref03_Count : runF E 178 [.inp 0] 1 = rt_lockbarref03_Count := by kernel_rfl
def rt_lockbarref03_More : RT :=
.seg [.call 2 [] 178 [.inp 0] false] <|
.seg [.call 3 [] 178 [.inp 1] false] <|
 ck (.bin .add) [.inp 2, .inp 3] <|
 ck (.mm false) [q1_120, zi 65535] <|
.ret (.app (.mm false) [q1_120, zi 65535])
theorem run_lockbarref03_More : runF E 160 [.inp 0, .inp 1] 2 = rt_lockbarref03_More := by kernel_rfl
def rt_lockbarref03_Row : RT :=
 ck (.un .not) [.inp 0] <|
.cond (.inp 0)
 (.seg [.call 2 [] 160 [.inp 1, zi 1] false] <|
.ret (.inp 2))
 (.ret (zi 0))
theorem run_lockbarref03_Row : runF E 133 [.inp 0, .inp 1] 2 = rt_lockbarref03_Row := by kernel_rfl
def rt_lockbarref05_Ways : RT :=
 ck (.bin .eql) [.inp 0, .int .u8 1] <|
.cond (bi .eql (.inp 0) (.int .u8 1))
 (.ret (zi 1))
 (ck (.bin .eql) [.inp 0, .int .u8 2] <|
.cond (q1_121)
 (.ret (zi 2))
 (ck (.bin .eql) [.inp 0, .int .u8 3] <|
.cond (bi .eql (.inp 0) (.int .u8 3))
 (.ret (zi 2))
 (.ret (zi 0))))
theorem run_lockbarref05_Ways : runF E 158 [.inp 0] 1 = rt_lockbarref05_Ways := by kernel_rfl
def rt_lockbarref05_Ends : RT :=
 ck (.bin .lss) [.inp 1, zi 0] <|
.seg [.call 2 [(bi .lss (.inp 1) (zi 0), false)] 158 [.inp 0] false] <|
 ckg (bi .lss (.inp 1) (zi 0)) false (.bin .geq) [.inp 1, .inp 2] <|
 ck .pick [bi .lss (.inp 1) (zi 0), bT, q1_122] <|
.cond (pk (bi .lss (.inp 1) (zi 0)) bT q1_122)
 (.ret (.tup [zi 0, zi 0, bF]))
 (ck (.bin .eql) [.inp 1, zi 0] <|
.cond (bi .eql (.inp 1) (zi 0))
 (.ret (.tup [zi 0, zi 1, bT]))
 (ck (.bin .eql) [.inp 0, .int .u8 2] <|
.cond (q1_121)
 (.ret (.tup [zi 0, zi 2, bT]))
 (.ret (.tup [zi 2, zi 3, bT]))))
theorem run_lockbarref05_Ends : runF E 159 [.inp 0, .inp 1] 2 = rt_lockbarref05_Ends := by kernel_rfl
def rt_lockbarref05_Way : RT :=
.loop 0 3 [zi 0] <|
.seg [.call 4 [] 158 [.inp 0] false] <|
 ck (.bin .lss) [.inp 3, .inp 4] <|
.cond (bi .lss (.inp 3) (.inp 4))
 (.seg [.call 5 [] 159 [.inp 0, .inp 3] false] <|
 ck (.tproj 0) [.inp 5] <|
 ck (.tproj 1) [.inp 5] <|
 ck (.tproj 2) [.inp 5] <|
 ck (.bin .eql) [.inp 1, tp 0 (.inp 5)] <|
 ckg (q1_123) true (.bin .eql) [.inp 2, tp 1 (.inp 5)] <|
 ck .pick [q1_123, q1_124, bF] <|
 ckg (q1_125) false (.bin .eql) [.inp 1, tp 1 (.inp 5)] <|
.seg [.chk [(q1_126, true), (q1_125, false)] (.bin .eql) [.inp 2, tp 0 (.inp 5)]] <|
 ckg (q1_125) false .pick [q1_126, q1_127, bF] <|
 ck .pick [q1_125, bT, q1_128] <|
.seg [.bind 6 (q1_125),
.bind 7 (q1_128),
.bind 8 (pk q1_125 bT q1_128)] <|
.cond (.inp 8)
 (.ret (.tup [.inp 3, bT]))
 (ck (.bin .add) [.inp 3, zi 1] <|
.again 0 [bi .add (.inp 3) (zi 1)]))
 (.ret (.tup [zi 0, bF]))
theorem run_lockbarref05_Way : runF E 132 [.inp 0, .inp 1, .inp 2] 3 = rt_lockbarref05_Way := by kernel_rfl
def rt_lockbarref05_Pos : RT :=
.seg [.call 3 [] 132 [.inp 0, .inp 1, .inp 2] false] <|
 ck (.tproj 0) [.inp 3] <|
 ck (.tproj 1) [.inp 3] <|
 ckg (tp 1 (.inp 3)) true (.bin .neq) [.inp 0, .int .u8 2] <|
 ck .pick [tp 1 (.inp 3), q1_129, bF] <|
.cond (pk (tp 1 (.inp 3)) q1_129 bF)
 (.ret (.tup [zi (-1), bT]))
 (.ret (q1_81))
theorem run_lockbarref05_Pos : runF E 131 [.inp 0, .inp 1, .inp 2] 3 = rt_lockbarref05_Pos := by kernel_rfl
def rt_lockbarref06_At : RT :=
 ck (.isAgg 11) [.agg (ipx 0 11)] <|
 ck (.isAgg 2) [.agg [.inp 11, .inp 12]] <|
.seg [.chk [] (.bin .lss) [.inp 11, zi 0],
.chk [(q1_89, false)] .len [.inp 0],
.chk [(q1_89, false)] (.bin .geq) [.inp 11, ln (.inp 0)],
.chk [] .pick [q1_89, bT, q1_130],
.chk [(q1_131, false)] (.bin .lss) [.inp 12, zi 0],
.chk [] .pick [q1_131, bT, q1_132],
.chk [(q1_133, false)] (.eidx 11) [.inp 0, .inp 11],
.chk [(q1_133, false)] (.eoff 0) [q1_86],
.chk [(q1_133, false)] (.eload 1 false) [q1_87],
.call 13 [(q1_133, false)] 176 [q1_88] false,
.chk [(q1_133, false)] (.bin .geq) [.inp 12, .inp 13],
.chk [] .pick [q1_133, bT, q1_134]] <|
.seg [.bind 14 (q1_133),
.bind 15 (pk q1_133 bT q1_134)] <|
.cond (.inp 15)
 (.ret (.tup [.agg [.int .u8 0, zi 0, zi 0, zi 0, zi 0, zi 0, zi 0, zi 0, zi 0, zi 0, zi 0], bF]))
 (ck (.eidx 11) [.inp 0, .inp 11] <|
 ck (.eload 11 true) [q1_86] <|
 ck (.isAgg 11) [q1_135] <|
.ret (.tup [.agg (ptx (q1_135) 0 11), bT]))
theorem run_lockbarref06_At : runF E 181 [.agg (ips 0 11), .agg [.inp 11, .inp 12]] 13 = rt_lockbarref06_At := by kernel_rfl
def rt_lockbarref06_Step : RT :=
 ck (.isAgg 11) [.agg (ipx 0 11)] <|
 ck (.isAgg 3) [q1_82] <|
 ck (.bin .lss) [.inp 11, zi 0] <|
 ckg (q1_89) false .len [.inp 0] <|
 ckg (q1_89) false (.bin .geq) [.inp 11, ln (.inp 0)] <|
 ck .pick [q1_89, bT, q1_130] <|
.cond (q1_131)
 (.ret (.tup [zi 0, bF]))
 (.seg [.chk [] (.eidx 11) [.inp 0, .inp 11],
.chk [] (.eoff 0) [q1_86],
.chk [] (.eload 1 false) [q1_87],
.call 14 [] 132 [q1_88, .inp 12, .inp 13] false,
.chk [] (.tproj 0) [.inp 14],
.chk [] (.tproj 1) [.inp 14]] <|
.ret (.tup [tp 0 (.inp 14), tp 1 (.inp 14)]))
theorem run_lockbarref06_Step : runF E 110 [.agg (ips 0 11), .agg [.inp 11, .inp 12, .inp 13]] 14 = rt_lockbarref06_Step := by kernel_rfl
def rt_lockbarref06_Great : RT :=
 ck (.isAgg 11) [.agg (ipx 0 11)] <|
.loop 0 11 [zi 0] <|
 ck .len [.inp 2] <|
 ck (.bin .lss) [.inp 11, ln (.inp 2)] <|
 ckg (q1_136) true (.bin .leq) [.inp 11, zi 30] <|
 ck .pick [q1_136, q1_137, bF] <|
.cond (pk q1_136 q1_137 bF)
 (ck (.eidx 3) [.inp 2, .inp 11] <|
 ck (.eoff 2) [ei 3 (.inp 2) (.inp 11)] <|
 ck (.eload 1 false) [q1_92] <|
 ck .len [q1_93] <|
 ck (.bin .gtr) [q1_138, zi 20] <|
.cond (bi .gtr q1_138 (zi 20))
 (.ret (bT))
 (ck (.bin .add) [.inp 11, zi 1] <|
.again 0 [bi .add (.inp 11) (zi 1)]))
 (ck .len [.inp 0] <|
 ck (.bin .gtr) [ln (.inp 0), zi 40] <|
 ckg (q1_139) false .len [.inp 1] <|
 ckg (q1_139) false (.bin .gtr) [ln (.inp 1), zi 30] <|
 ck .pick [q1_139, bT, q1_140] <|
 ckg (q1_141) false .len [.inp 2] <|
 ckg (q1_141) false (.bin .gtr) [ln (.inp 2), zi 30] <|
 ck .pick [q1_141, bT, q1_142] <|
 ckg (q1_143) false .len [.inp 3] <|
 ckg (q1_143) false (.bin .gtr) [ln (.inp 3), zi 40] <|
 ck .pick [q1_143, bT, q1_144] <|
.seg [.bind 12 (pk q1_143 bT q1_144),
.bind 13 (q1_141),
.bind 14 (q1_143)] <|
.ret (.inp 12))
theorem run_lockbarref06_Great : runF E 8 [.agg (ips 0 11)] 11 = rt_lockbarref06_Great := by kernel_rfl
def rt_lockbarref10_there : RT :=
 ck (.isAgg 11) [.agg (ipx 0 11)] <|
 ck (.isAgg 3) [q1_82] <|
.seg [.call 14 [] 110 [.agg (ipx 0 11), q1_82] false] <|
 ck (.tproj 0) [.inp 14] <|
 ck (.tproj 1) [.inp 14] <|
.ret (tp 1 (.inp 14))
theorem run_lockbarref10_there : runF E 130 [.agg (ips 0 11), .agg [.inp 11, .inp 12, .inp 13]] 14 = rt_lockbarref10_there := by kernel_rfl
def rt_lockbarref10_Over : RT :=
 ck (.isAgg 11) [.agg (ipx 0 11)] <|
 ck (.bin .lss) [.inp 11, zi 0] <|
 ckg (q1_89) false .len [.inp 2] <|
 ckg (q1_89) false (.bin .geq) [.inp 11, ln (.inp 2)] <|
 ck .pick [q1_89, bT, q1_90] <|
.cond (q1_91)
 (.ret (.nils))
 (ck (.eidx 3) [.inp 2, .inp 11] <|
 ck (.eoff 2) [ei 3 (.inp 2) (.inp 11)] <|
 ck (.eload 1 false) [q1_92] <|
.seg [.chk [] (.szs 3) [q1_93],
.chk [] .app [.app .lst [], q1_93]] <|
.ret (.app .app [.app .lst [], q1_93]))
theorem run_lockbarref10_Over : runF E 31 [.agg (ips 0 11), .inp 11] 12 = rt_lockbarref10_Over := by kernel_rfl
def rt_lockbarref10_Point : RT :=
 ck (.isAgg 11) [.agg (ipx 0 11)] <|
 ck (.isAgg 3) [q1_82] <|
.seg [.call 14 [] 130 [.agg (ipx 0 11), q1_82] false] <|
 ck (.un .not) [.inp 14] <|
 ckg (nt (.inp 14)) false (.eidx 11) [.inp 0, .inp 11] <|
 ckg (nt (.inp 14)) false (.eoff 0) [q1_86] <|
 ckg (nt (.inp 14)) false (.eload 1 false) [q1_87] <|
 ckg (nt (.inp 14)) false (.bin .neq) [q1_88, .int .u8 2] <|
 ck .pick [nt (.inp 14), bT, q1_94] <|
.seg [.bind 15 (pk (nt (.inp 14)) bT q1_94)] <|
.cond (.inp 15)
 (.ret (.tup [zi 0, zi 0, bF]))
 (.seg [.call 16 [] 131 [.int .u8 2, .inp 12, .inp 13] false] <|
 ck (.tproj 0) [.inp 16] <|
 ck (.tproj 1) [.inp 16] <|
.ret (q1_95))
theorem run_lockbarref10_Point : runF E 109 [.agg (ips 0 11), .agg [.inp 11, .inp 12, .inp 13]] 14 = rt_lockbarref10_Point := by kernel_rfl
end
end Go.Lb.LK
namespace Go.Lb.LK
open Go Go.Lb Go.Proofs
noncomputable section
@[simp] def q2_0 : SE := .agg [.inp 11, .inp 12, .inp 13]
@[simp] def q2_1 : SE := .agg [tp 0 (.inp 15), tp 1 (.inp 15), .inp 14]
@[simp] def q2_2 : SE := .app .lst [q2_1]
@[simp] def q2_3 : SE := bi .lss (.inp 18) (ln (.inp 3))
@[simp] def q2_4 : SE := pk q2_3 (tp 1 (.inp 16)) bF
@[simp] def q2_5 : SE := el 4 (ei 4 (.inp 3) (.inp 18))
@[simp] def q2_6 : SE := pt 0 q2_5
@[simp] def q2_7 : SE := bi .eql q2_6 (.inp 11)
@[simp] def q2_8 : SE := pt 1 q2_5
@[simp] def q2_9 : SE := bi .eql q2_8 (tp 0 (.inp 16))
@[simp] def q2_10 : SE := pk q2_7 q2_9 bF
@[simp] def q2_11 : SE := pt 2 q2_5
@[simp] def q2_12 : SE := pt 3 q2_5
@[simp] def q2_13 : SE := .agg [q2_11, q2_12, .inp 14]
@[simp] def q2_14 : SE := .app .lst [q2_13]
@[simp] def q2_15 : SE := .app .app [.inp 17, q2_14]
@[simp] def q2_16 : SE := bi .add (.inp 18) (zi 1)
@[simp] def q2_18 : SE := bi .lss (.inp 2) (ln (.inp 0))
@[simp] def q2_22 : SE := .agg [.inp 0, .inp 1, .inp 2]
@[simp] def q2_31 : SE := ei 3 (.inp 13) (.inp 15)
@[simp] def q2_32 : SE := ei 3 (.inp 16) (.inp 18)
@[simp] def q2_33 : SE := bi .lss (.inp 1) (zi 32)
@[simp] def q2_34 : SE := pk (bi .geq (.inp 1) (zi 0)) q2_33 bF
@[simp] def q2_35 : SE := .app (.conv .u64) [.inp 1]
@[simp] def q2_36 : SE := bi .shr (.inp 0) q2_35
@[simp] def q2_37 : SE := bi .and q2_36 (.int .u32 1)
@[simp] def q2_38 : SE := bi .eql q2_37 (.int .u32 1)
@[simp] def q2_39 : SE := .agg (ap [.inp 11] (ap (ipx 41 24) (ipx 36 4)))
@[simp] def q2_40 : SE := .app (.aidx 24 1 1 1 false) [q2_39, .inp 40]
@[simp] def q2_41 : SE := bi .lss (.inp 40) (zi 0)
@[simp] def q2_42 : SE := bi .geq (.inp 40) (ln (.inp 0))
@[simp] def q2_43 : SE := pk q2_41 bT q2_42
@[simp] def q2_44 : SE := bi .geq (.inp 40) (zi 24)
@[simp] def q2_45 : SE := pk (.inp 42) bT (.inp 43)
@[simp] def q2_46 : SE := .app (.aidx 24 1 1 1 false) [.agg (ipx 11 29), .inp 40]
@[simp] def q2_47 : SE := bi .lss q2_46 (.inp 4)
@[simp] def q2_48 : SE := ei 11 (.inp 0) (.inp 40)
@[simp] def q2_49 : SE := .app (.eoff 0) [q2_48]
@[simp] def q2_50 : SE := e1 q2_49
@[simp] def q2_51 : SE := bi .neq q2_50 (.int .u8 2)
@[simp] def q2_52 : SE := pk q2_43 bT q2_51
@[simp] def q2_53 : SE := bi .lss (.inp 0) (zi (-1))
@[simp] def q2_54 : SE := pk q2_53 bT (bi .gtr (.inp 0) (zi 1))
@[simp] def q2_55 : SE := pk q2_54 bT (bi .lss (.inp 1) (zi 0))
@[simp] def q2_56 : SE := bi .gtr (.inp 1) (zi 1000)
@[simp] def q2_57 : SE := .app (.eqa [ some .i64, some .i64, none] false) [q2_22, .inp 5]
@[simp] def q2_58 : SE := .app (.eoff 0) [ei 3 (.inp 0) (.inp 2)]
@[simp] def q2_59 : SE := .app (.eoff 0) [ei 3 (.inp 1) (.inp 3)]
@[simp] def q2_60 : SE := e1 q2_58
@[simp] def q2_61 : SE := e1 q2_59
@[simp] def q2_62 : SE := bi .eql q2_60 q2_61
@[simp] def q2_63 : SE := .app (.eoff 1) [ei 3 (.inp 0) (.inp 2)]
@[simp] def q2_64 : SE := .app (.eoff 1) [ei 3 (.inp 1) (.inp 3)]
@[simp] def q2_65 : SE := e1 q2_63
@[simp] def q2_66 : SE := e1 q2_64
@[simp] def q2_67 : SE := bi .neq q2_65 q2_66
@[simp] def q2_68 : SE := bi .gtr (.inp 0) (zi 1073741824)
@[simp] def q2_69 : SE := pk (bi .lss (.inp 0) (zi 1)) bT q2_68
@[simp] def q2_70 : SE := bi .lss (ln (.inp 3)) (zi 1)
@[simp] def q2_71 : SE := pk q2_69 bT q2_70
@[simp] def q2_72 : SE := bi .gtr (ln (.inp 3)) (zi 12)
@[simp] def q2_73 : SE := pk q2_71 bT q2_72
@[simp] def q2_74 : SE := bi .gtr (ln (.inp 4)) (zi 2)
@[simp] def q2_75 : SE := pk q2_73 bT q2_74
@[simp] def q2_76 : SE := bi .lss (.inp 6) (.int .u8 1)
@[simp] def q2_77 : SE := pk q2_75 bT q2_76
@[simp] def q2_78 : SE := bi .geq (.inp 6) (.int .u8 5)
@[simp] def q2_79 : SE := pk q2_77 bT q2_78
@[simp] def q2_80 : SE := pk q2_79 bT (bi .lss (.inp 7) (zi 0))
@[simp] def q2_81 : SE := bi .gtr (.inp 7) (ln (.inp 3))
@[simp] def q2_82 : SE := pk q2_80 bT q2_81
@[simp] def q2_83 : SE := bi .lss (.inp 21) (zi 0)
@[simp] def q2_84 : SE := pk q2_82 bT q2_83
@[simp] def q2_85 : SE := bi .gtr (.inp 21) (zi 1073741824)
@[simp] def q2_86 : SE := pk q2_84 bT q2_85
@[simp] def q2_87 : SE := .app .app [.app .lst [], .inp 3]
@[simp] def q2_88 : SE := .app .app [q2_87, .inp 4]
@[simp] def q2_89 : SE := ln q2_88
@[simp] def q2_90 : SE := .app (.rowget 3 0 1 false) [q2_88, .inp 35]
@[simp] def q2_91 : SE := .app (.rowget 3 0 1 false) [q2_88, .inp 34]
@[simp] def q2_92 : SE := bi .add (.inp 35) (zi 1)
@[simp] def q2_93 : SE := el 3 (ei 3 (.inp 5) (.inp 36))
@[simp] def q2_94 : SE := pt 2 q2_93
@[simp] def q2_95 : SE := bi .lss q2_94 (zi 0)
@[simp] def q2_96 : SE := bi .gtr q2_94 (ln (.inp 3))
@[simp] def q2_97 : SE := pk q2_95 bT q2_96
@[simp] def q2_98 : SE := pt 0 q2_93
@[simp] def q2_99 : SE := bi .lss q2_98 (zi 0)
@[simp] def q2_100 : SE := pk q2_97 bT q2_99
@[simp] def q2_101 : SE := bi .geq q2_98 (zi 24)
@[simp] def q2_102 : SE := pk q2_100 bT q2_101
@[simp] def q2_103 : SE := pt 1 q2_93
@[simp] def q2_104 : SE := bi .lss q2_103 (zi 0)
@[simp] def q2_105 : SE := pk q2_102 bT q2_104
@[simp] def q2_106 : SE := bi .gtr q2_103 (zi 1)
@[simp] def q2_107 : SE := .app (.mm true) [.inp 7, zi 0]
@[simp] def q2_108 : SE := .app (.eoff 0) [ei 3 (.inp 3) (.inp 24)]
@[simp] def q2_109 : SE := e1 q2_108
@[simp] def q2_110 : SE := .app .lst [q2_109]
@[simp] def q2_111 : SE := bi .add (.inp 24) (zi 1)
@[simp] def q2_112 : SE := bi .lss (.inp 26) (ln (.inp 4))
@[simp] def q2_113 : SE := .app (.eoff 0) [ei 3 (.inp 4) (.inp 26)]
@[simp] def q2_114 : SE := e1 q2_113
@[simp] def q2_115 : SE := .app .lst [q2_114]
@[simp] def q2_116 : SE := bi .lss (.inp 25) (ln (.inp 24))
@[simp] def q2_117 : SE := ei 1 (.inp 24) (.inp 25)
@[simp] def q2_118 : SE := e1 q2_117
@[simp] def q2_119 : SE := bi .add (.inp 25) (zi 1)
@[simp] def q2_120 : SE := el 3 (ei 3 (.inp 5) (.inp 24))
@[simp] def q2_121 : SE := pt 2 q2_120
@[simp] def q2_122 : SE := bi .geq q2_121 q2_107
@[simp] def q2_123 : SE := bi .eql q2_121 (ln (.inp 3))
@[simp] def q2_124 : SE := pk q2_123 (.inp 20) bF
@[simp] def q2_125 : SE := nt q2_124
@[simp] def q2_126 : SE := .agg [pt 0 q2_120, pt 1 q2_120, q2_121]
@[simp] def q2_127 : SE := .app .lst [q2_126]
@[simp] def q2_128 : SE := ei 3 (.inp 24) (.inp 25)
@[simp] def q2_129 : SE := .app (.eoff 0) [q2_128]
@[simp] def q2_130 : SE := e1 q2_129
@[simp] def q2_131 : SE := .app (.eoff 1) [q2_128]
@[simp] def q2_132 : SE := ei 1 (.inp 46) (.inp 47)
@[simp] def q2_152 : SE := bi .gtr (ln (.inp 1)) (zi 6)
@[simp] def q2_153 : SE := pk q2_152 bT (bi .lss (.inp 0) (zi 1))
@[simp] def q2_154 : SE := bi .lss (.inp 75) (ln (.inp 1))
@[simp] def q2_155 : SE := ei 23 (.inp 1) (.inp 75)
@[simp] def q2_156 : SE := el 23 q2_155
@[simp] def q2_157 : SE := .agg (ptx (q2_156) 0 23)
@[simp] def q2_158 : SE := pt 0 q2_156
@[simp] def q2_159 : SE := bi .geq q2_158 (.inp 0)
@[simp] def q2_160 : SE := pk (nt (.inp 76)) bT q2_159
@[simp] def q2_161 : SE := bi .gtr (.inp 75) (zi 0)
@[simp] def q2_162 : SE := bi .sub (.inp 75) (zi 1)
@[simp] def q2_163 : SE := ei 23 (.inp 1) q2_162
@[simp] def q2_164 : SE := .app (.eoff 0) [q2_163]
@[simp] def q2_165 : SE := e1 q2_164
@[simp] def q2_166 : SE := bi .leq q2_158 q2_165
@[simp] def q2_167 : SE := pk q2_161 q2_166 bF
@[simp] def q2_168 : SE := ei 23 (.inp 1) (.inp 81)
@[simp] def q2_169 : SE := bi .add (.inp 75) (zi 1)
@[simp] def q2_170 : SE := .app (.aidx 24 3 2 3 true) [.agg (ipx 0 74), .inp 76]
def rt_lockbarref10_Wants : RT :=
 ck (.isAgg 11) [.agg (ipx 0 11)] <|
 ck (.isAgg 3) [q2_0] <|
.seg [.call 15 [] 109 [.agg (ipx 0 11), q2_0] false] <|
 ck (.tproj 0) [.inp 15] <|
 ck (.tproj 1) [.inp 15] <|
 ck (.tproj 2) [.inp 15] <|
.cond (tp 2 (.inp 15))
 (.seg [.chk [] .isOne [tp 0 (.inp 15)],
.chk [] .isOne [tp 1 (.inp 15)],
.chk [] .isOne [.inp 14]] <|
 ck (.isAgg 3) [q2_1] <|
.seg [.chk [] (.szs 3) [q2_2],
.chk [] .app [.nils, q2_2]] <|
.seg [.call 16 [] 110 [.agg (ipx 0 11), q2_0] false] <|
 ck (.tproj 0) [.inp 16] <|
 ck (.tproj 1) [.inp 16] <|
.loop 0 17 [.app .app [.nils, q2_2], zi 0] <|
 ck .len [.inp 3] <|
 ck (.bin .lss) [.inp 18, ln (.inp 3)] <|
 ck .pick [q2_3, tp 1 (.inp 16), bF] <|
.cond (q2_4)
 (ck (.eidx 4) [.inp 3, .inp 18] <|
 ck (.eload 4 true) [ei 4 (.inp 3) (.inp 18)] <|
 ck (.isAgg 4) [q2_5] <|
 ck (.bin .eql) [q2_6, .inp 11] <|
 ckg (q2_7) true (.bin .eql) [q2_8, tp 0 (.inp 16)] <|
 ck .pick [q2_7, q2_9, bF] <|
.seg [.bind 19 (q2_10)] <|
.cond (.inp 19)
 (.seg [.chk [] .isOne [q2_11],
.chk [] .isOne [q2_12],
.chk [] .isOne [.inp 14]] <|
 ck (.isAgg 3) [q2_13] <|
.seg [.chk [] (.szs 3) [q2_14],
.chk [] .app [.inp 17, q2_14]] <|
.seg [.bind 20 (q2_14),
.bind 21 (q2_15)] <|
 ck (.bin .add) [.inp 18, zi 1] <|
.again 0 [.inp 21, q2_16])
 (ck (.bin .add) [.inp 18, zi 1] <|
.again 0 [.inp 17, q2_16]))
 (.ret (.inp 17)))
 (.seg [.call 16 [] 110 [.agg (ipx 0 11), q2_0] false] <|
 ck (.tproj 0) [.inp 16] <|
 ck (.tproj 1) [.inp 16] <|
.loop 0 17 [.nils, zi 0] <|
 ck .len [.inp 3] <|
 ck (.bin .lss) [.inp 18, ln (.inp 3)] <|
 ck .pick [q2_3, tp 1 (.inp 16), bF] <|
.cond (q2_4)
 (ck (.eidx 4) [.inp 3, .inp 18] <|
 ck (.eload 4 true) [ei 4 (.inp 3) (.inp 18)] <|
 ck (.isAgg 4) [q2_5] <|
 ck (.bin .eql) [q2_6, .inp 11] <|
 ckg (q2_7) true (.bin .eql) [q2_8, tp 0 (.inp 16)] <|
 ck .pick [q2_7, q2_9, bF] <|
.seg [.bind 19 (q2_10)] <|
.cond (.inp 19)
 (.seg [.chk [] .isOne [q2_11],
.chk [] .isOne [q2_12],
.chk [] .isOne [.inp 14]] <|
 ck (.isAgg 3) [q2_13] <|
.seg [.chk [] (.szs 3) [q2_14],
.chk [] .app [.inp 17, q2_14]] <|
.seg [.bind 20 (q2_14),
.bind 21 (q2_15)] <|
 ck (.bin .add) [.inp 18, zi 1] <|
.again 0 [.inp 21, q2_16])
 (ck (.bin .add) [.inp 18, zi 1] <|
.again 0 [.inp 17, q2_16]))
 (.ret (.inp 17)))
theorem run_lockbarref10_Wants : runF E 70 [.agg (ips 0 11), .agg [.inp 11, .inp 12, .inp 13], .inp 14] 15 = rt_lockbarref10_Wants := by kernel_rfl
def rt_lockbarref13_Of : RT :=
 ck (.isAgg 11) [.agg (ipx 0 11)] <|
 ck (.isAgg 3) [q2_0] <|
 ck .len [.inp 13] <|
.loop 0 14 [.nils, zi 0] <|
 ck (.bin .lss) [.inp 15, ln (.inp 13)] <|
.cond (bi .lss (.inp 15) (ln (.inp 13)))
 (.seg [.chk [] (.eidx 3) [.inp 13, .inp 15],
.chk [] (.eload 3 true) [q2_31],
.call 16 [] 70 [.agg (ipx 0 11), el 3 q2_31, .inp 15] false,
.chk [] (.szs 3) [.inp 16],
.chk [] .app [.inp 14, .inp 16]] <|
 ck (.bin .add) [.inp 15, zi 1] <|
.again 0 [.app .app [.inp 14, .inp 16], bi .add (.inp 15) (zi 1)])
 (.seg [.call 16 [] 31 [.agg (ipx 0 11), .inp 12] false] <|
.loop 0 17 [.inp 14, zi 0] <|
 ck .len [.inp 16] <|
 ck (.bin .lss) [.inp 18, ln (.inp 16)] <|
.cond (bi .lss (.inp 18) (ln (.inp 16)))
 (.seg [.chk [] (.eidx 3) [.inp 16, .inp 18],
.chk [] (.eload 3 true) [q2_32],
.call 19 [] 70 [.agg (ipx 0 11), el 3 q2_32, ln (.inp 13)] false,
.chk [] (.szs 3) [.inp 19],
.chk [] .app [.inp 17, .inp 19]] <|
 ck (.bin .add) [.inp 18, zi 1] <|
.again 0 [.app .app [.inp 17, .inp 19], q2_16])
 (.ret (.inp 17)))
theorem run_lockbarref13_Of : runF E 32 [.agg (ips 0 11), .agg [.inp 11, .inp 12, .inp 13]] 14 = rt_lockbarref13_Of := by kernel_rfl
def rt_lockbarref15_New : RT :=
.ret (.agg [zi 65535, zi 0, zi 0, zi 0, zi 0, zi 0, zi 0, zi 0, zi 0, zi 0, zi 0, zi 0, zi 0, zi 0, zi 0, zi 0, zi 0, zi 0, zi 0, zi 0, zi 0, zi 0, zi 0, zi 0, zi 0, .int .u32 0, .int .u32 0, .int .u32 0, .int .u32 0])
theorem run_lockbarref15_New : runF E 41 [] 0 = rt_lockbarref15_New := by kernel_rfl
def rt_lockbarref15_bit : RT :=
 ck (.bin .geq) [.inp 1, zi 0] <|
 ckg (bi .geq (.inp 1) (zi 0)) true (.bin .lss) [.inp 1, zi 32] <|
 ck .pick [bi .geq (.inp 1) (zi 0), q2_33, bF] <|
 ckg (q2_34) true (.conv .u64) [.inp 1] <|
 ckg (q2_34) true (.bin .shr) [.inp 0, q2_35] <|
 ckg (q2_34) true (.bin .and) [q2_36, .int .u32 1] <|
 ckg (q2_34) true (.bin .eql) [q2_37, .int .u32 1] <|
 ck .pick [q2_34, q2_38, bF] <|
.seg [.bind 2 (pk q2_34 q2_38 bF)] <|
.ret (.inp 2)
theorem run_lockbarref15_bit : runF E 74 [.inp 0, .inp 1] 2 = rt_lockbarref15_bit := by kernel_rfl
def rt_lockbarref15_Stale : RT :=
 ck (.isAgg 11) [.agg (ipx 0 11)] <|
 ck (.isAgg 29) [.agg (ipx 11 29)] <|
.seg [.call 40 [] 75 [.inp 11, .inp 6] false] <|
.ret (.inp 40)
theorem run_lockbarref15_Stale : runF E 35 [.agg (ips 0 11), .agg (ips 11 29)] 40 = rt_lockbarref15_Stale := by kernel_rfl
def rt_lockbarref15_rows : RT :=
 ck (.isAgg 11) [.agg (ipx 0 11)] <|
 ck (.isAgg 29) [.agg (ipx 11 29)] <|
.loop 0 40 (ap [zi 0] (ipx 12 24)) <|
 ck (.bin .lss) [.inp 40, zi 24] <|
.cond (bi .lss (.inp 40) (zi 24))
 (.seg [.call 65 [] 35 [.agg (ipx 0 11), q2_39] false,
.chk [] (.un .not) [.inp 65],
.call 66 [(nt (.inp 65), true)] 74 [.inp 36, .inp 40] false,
.chk [(nt (.inp 65), true)] (.un .not) [.inp 66],
.chk [] .pick [nt (.inp 65), nt (.inp 66), bF],
.chk [] (.inr 24) [.inp 40],
.chk [] (.aidx 24 1 1 1 false) [q2_39, .inp 40],
.call 67 [] 133 [pk (nt (.inp 65)) (nt (.inp 66)) bF, q2_40] false,
.chk [] (.inr 24) [.inp 40],
.chk [] (.inr 24) [.inp 40],
.chk [] .isOne [.inp 67]] <|
.seg [.bind 68 (q2_40)] <|
 ck (.bin .add) [.inp 40, zi 1] <|
.again 0 [bi .add (.inp 40) (zi 1), .app (.cellset 1 24 1 0 1 1) [.inp 40, .inp 41, .agg [.inp 67]], .app (.cellset 1 24 1 0 1 2) [.inp 40, .inp 42, .agg [.inp 67]], .app (.cellset 1 24 1 0 1 3) [.inp 40, .inp 43, .agg [.inp 67]], .app (.cellset 1 24 1 0 1 4) [.inp 40, .inp 44, .agg [.inp 67]], .app (.cellset 1 24 1 0 1 5) [.inp 40, .inp 45, .agg [.inp 67]], .app (.cellset 1 24 1 0 1 6) [.inp 40, .inp 46, .agg [.inp 67]], .app (.cellset 1 24 1 0 1 7) [.inp 40, .inp 47, .agg [.inp 67]], .app (.cellset 1 24 1 0 1 8) [.inp 40, .inp 48, .agg [.inp 67]], .app (.cellset 1 24 1 0 1 9) [.inp 40, .inp 49, .agg [.inp 67]], .app (.cellset 1 24 1 0 1 10) [.inp 40, .inp 50, .agg [.inp 67]], .app (.cellset 1 24 1 0 1 11) [.inp 40, .inp 51, .agg [.inp 67]], .app (.cellset 1 24 1 0 1 12) [.inp 40, .inp 52, .agg [.inp 67]], .app (.cellset 1 24 1 0 1 13) [.inp 40, .inp 53, .agg [.inp 67]], .app (.cellset 1 24 1 0 1 14) [.inp 40, .inp 54, .agg [.inp 67]], .app (.cellset 1 24 1 0 1 15) [.inp 40, .inp 55, .agg [.inp 67]], .app (.cellset 1 24 1 0 1 16) [.inp 40, .inp 56, .agg [.inp 67]], .app (.cellset 1 24 1 0 1 17) [.inp 40, .inp 57, .agg [.inp 67]], .app (.cellset 1 24 1 0 1 18) [.inp 40, .inp 58, .agg [.inp 67]], .app (.cellset 1 24 1 0 1 19) [.inp 40, .inp 59, .agg [.inp 67]], .app (.cellset 1 24 1 0 1 20) [.inp 40, .inp 60, .agg [.inp 67]], .app (.cellset 1 24 1 0 1 21) [.inp 40, .inp 61, .agg [.inp 67]], .app (.cellset 1 24 1 0 1 22) [.inp 40, .inp 62, .agg [.inp 67]], .app (.cellset 1 24 1 0 1 23) [.inp 40, .inp 63, .agg [.inp 67]], .app (.cellset 1 24 1 0 1 24) [.inp 40, .inp 64, .agg [.inp 67]]])
 (ck (.isAgg 29) [q2_39] <|
.ret (q2_39))
theorem run_lockbarref15_rows : runF E 111 [.agg (ips 0 11), .agg (ips 11 29)] 40 = rt_lockbarref15_rows := by kernel_rfl
def rt_lockbarref15_Take : RT :=
 ck (.isAgg 11) [.agg (ipx 0 11)] <|
 ck (.isAgg 29) [.agg (ipx 11 29)] <|
 ck (.isAgg 4) [.agg (ipx 40 4)] <|
 ck (.isAgg 4) [.agg (ipx 40 4)] <|
.seg [.call 44 [] 111 [.agg (ipx 0 11), .agg (ap [zi 0] (ap (ipx 12 24) (ipx 40 4)))] false] <|
 ck (.isAgg 29) [.inp 44] <|
.ret (.agg (ptx (.inp 44) 0 29))
theorem run_lockbarref15_Take : runF E 76 [.agg (ips 0 11), .agg (ips 11 29), .agg (ips 40 4)] 44 = rt_lockbarref15_Take := by kernel_rfl
def rt_lockbarref15_Occupied : RT :=
 ck (.isAgg 11) [.agg (ipx 0 11)] <|
 ck (.isAgg 29) [.agg (ipx 11 29)] <|
 ck (.bin .lss) [.inp 40, zi 0] <|
 ckg (q2_41) false .len [.inp 0] <|
 ckg (q2_41) false (.bin .geq) [.inp 40, ln (.inp 0)] <|
 ck .pick [q2_41, bT, q2_42] <|
 ckg (q2_43) false (.bin .geq) [.inp 40, zi 24] <|
 ck .pick [q2_43, bT, q2_44] <|
.seg [.bind 41 (pk q2_43 bT q2_44)] <|
.cond (.inp 41)
 (.ret (bT))
 (.seg [.call 42 [] 35 [.agg (ipx 0 11), .agg (ipx 11 29)] false,
.call 43 [(.inp 42, false)] 74 [.inp 36, .inp 40] false,
.chk [] .pick [.inp 42, bT, .inp 43],
.chk [(q2_45, false)] (.inr 24) [.inp 40],
.chk [(q2_45, false)] (.aidx 24 1 1 1 false) [.agg (ipx 11 29), .inp 40],
.chk [(q2_45, false)] (.bin .lss) [q2_46, .inp 4],
.chk [] .pick [q2_45, bT, q2_47]] <|
.seg [.bind 44 (pk q2_45 bT q2_47),
.bind 45 (q2_46),
.bind 46 (q2_47)] <|
.ret (.inp 44))
theorem run_lockbarref15_Occupied : runF E 34 [.agg (ips 0 11), .agg (ips 11 29), .inp 40] 41 = rt_lockbarref15_Occupied := by kernel_rfl
def rt_lockbarref15_At : RT :=
 ck (.isAgg 11) [.agg (ipx 0 11)] <|
 ck (.isAgg 29) [.agg (ipx 11 29)] <|
 ck (.bin .lss) [.inp 40, zi 0] <|
 ckg (q2_41) false .len [.inp 0] <|
 ckg (q2_41) false (.bin .geq) [.inp 40, ln (.inp 0)] <|
 ck .pick [q2_41, bT, q2_42] <|
 ckg (q2_43) false (.eidx 11) [.inp 0, .inp 40] <|
 ckg (q2_43) false (.eoff 0) [q2_48] <|
 ckg (q2_43) false (.eload 1 false) [q2_49] <|
 ckg (q2_43) false (.bin .neq) [q2_50, .int .u8 2] <|
 ck .pick [q2_43, bT, q2_51] <|
.seg [.call 41 [(q2_52, false)] 35 [.agg (ipx 0 11), .agg (ipx 11 29)] false] <|
 ck .pick [q2_52, bT, .inp 41] <|
.seg [.bind 42 (q2_52),
.bind 43 (pk q2_52 bT (.inp 41))] <|
.cond (.inp 43)
 (.ret (zi (-1)))
 (.seg [.call 44 [] 74 [.inp 37, .inp 40] false,
.call 45 [] 74 [.inp 38, .inp 40] false] <|
 ck (.eqb false) [.inp 44, .inp 45] <|
.cond (.app (.eqb false) [.inp 44, .inp 45])
 (.ret (zi (-1)))
 (.cond (.inp 44)
 (.ret (zi 0))
 (.ret (zi 1))))
theorem run_lockbarref15_At : runF E 38 [.agg (ips 0 11), .agg (ips 11 29), .inp 40] 41 = rt_lockbarref15_At := by kernel_rfl
def rt_lockbarref16_Rest : RT :=
.ret (.agg [zi (-1), zi 0, bF])
theorem run_lockbarref16_Rest : runF E 95 [] 0 = rt_lockbarref16_Rest := by kernel_rfl
def rt_lockbarref16_Right : RT :=
 ck (.isAgg 3) [q2_22] <|
 ck (.bin .lss) [.inp 0, zi (-1)] <|
 ckg (q2_53) false (.bin .gtr) [.inp 0, zi 1] <|
 ck .pick [q2_53, bT, bi .gtr (.inp 0) (zi 1)] <|
 ckg (q2_54) false (.bin .lss) [.inp 1, zi 0] <|
 ck .pick [q2_54, bT, bi .lss (.inp 1) (zi 0)] <|
 ckg (q2_55) false (.bin .gtr) [.inp 1, zi 1000] <|
 ck .pick [q2_55, bT, q2_56] <|
.seg [.bind 3 (q2_55),
.bind 4 (pk q2_55 bT q2_56)] <|
.cond (.inp 4)
 (.ret (bF))
 (.seg [.chk [] (.bin .geq) [.inp 0, zi 0],
.call 5 [(bi .geq (.inp 0) (zi 0), false)] 95 [] false,
.chk [(bi .geq (.inp 0) (zi 0), false)] (.eqa [ some .i64, some .i64, none] false) [q2_22, .inp 5],
.chk [] .pick [bi .geq (.inp 0) (zi 0), bT, q2_57]] <|
.seg [.bind 6 (pk (bi .geq (.inp 0) (zi 0)) bT q2_57)] <|
.ret (.inp 6))
theorem run_lockbarref16_Right : runF E 62 [.agg [.inp 0, .inp 1, .inp 2]] 3 = rt_lockbarref16_Right := by kernel_rfl
def rt_lockbarref17_clash : RT :=
.loop 0 2 [zi 0] <|
 ck .len [.inp 0] <|
 ck (.bin .lss) [.inp 2, ln (.inp 0)] <|
.cond (q2_18)
 (.loop 1 3 [zi 0] <|
 ck .len [.inp 1] <|
 ck (.bin .lss) [.inp 3, ln (.inp 1)] <|
.cond (bi .lss (.inp 3) (ln (.inp 1)))
 (.seg [.chk [] (.eidx 3) [.inp 0, .inp 2],
.chk [] (.eoff 0) [ei 3 (.inp 0) (.inp 2)],
.chk [] (.eload 1 false) [q2_58],
.chk [] (.eidx 3) [.inp 1, .inp 3],
.chk [] (.eoff 0) [ei 3 (.inp 1) (.inp 3)],
.chk [] (.eload 1 false) [q2_59],
.chk [] (.bin .eql) [q2_60, q2_61],
.chk [(q2_62, true)] (.eidx 3) [.inp 0, .inp 2],
.chk [(q2_62, true)] (.eoff 1) [ei 3 (.inp 0) (.inp 2)],
.chk [(q2_62, true)] (.eload 1 false) [q2_63],
.chk [(q2_62, true)] (.eidx 3) [.inp 1, .inp 3],
.chk [(q2_62, true)] (.eoff 1) [ei 3 (.inp 1) (.inp 3)],
.chk [(q2_62, true)] (.eload 1 false) [q2_64],
.chk [(q2_62, true)] (.bin .neq) [q2_65, q2_66],
.chk [] .pick [q2_62, q2_67, bF]] <|
.seg [.bind 4 (q2_62),
.bind 5 (q2_67),
.bind 6 (pk q2_62 q2_67 bF)] <|
.cond (.inp 6)
 (.ret (bT))
 (ck (.bin .add) [.inp 3, zi 1] <|
.again 1 [bi .add (.inp 3) (zi 1)]))
 (ck (.bin .add) [.inp 2, zi 1] <|
.again 0 [bi .add (.inp 2) (zi 1)]))
 (.ret (bF))
theorem run_lockbarref17_clash : runF E 72 [.inp 0, .inp 1] 2 = rt_lockbarref17_clash := by kernel_rfl
def rt_lockbarref17_Right : RT :=
 ck (.isAgg 23) [.agg (ipx 0 23)] <|
 ck .len [.inp 3] <|
 ck (.bin .lss) [.inp 0, zi 1] <|
 ckg (bi .lss (.inp 0) (zi 1)) false (.bin .gtr) [.inp 0, zi 1073741824] <|
 ck .pick [bi .lss (.inp 0) (zi 1), bT, q2_68] <|
 ckg (q2_69) false (.bin .lss) [ln (.inp 3), zi 1] <|
 ck .pick [q2_69, bT, q2_70] <|
 ckg (q2_71) false (.bin .gtr) [ln (.inp 3), zi 12] <|
 ck .pick [q2_71, bT, q2_72] <|
 ckg (q2_73) false .len [.inp 4] <|
 ckg (q2_73) false (.bin .gtr) [ln (.inp 4), zi 2] <|
 ck .pick [q2_73, bT, q2_74] <|
 ckg (q2_75) false (.bin .lss) [.inp 6, .int .u8 1] <|
 ck .pick [q2_75, bT, q2_76] <|
 ckg (q2_77) false (.bin .geq) [.inp 6, .int .u8 5] <|
 ck .pick [q2_77, bT, q2_78] <|
 ckg (q2_79) false (.bin .lss) [.inp 7, zi 0] <|
 ck .pick [q2_79, bT, bi .lss (.inp 7) (zi 0)] <|
 ckg (q2_80) false (.bin .gtr) [.inp 7, ln (.inp 3)] <|
 ck .pick [q2_80, bT, q2_81] <|
 ckg (q2_82) false (.bin .lss) [.inp 21, zi 0] <|
 ck .pick [q2_82, bT, q2_83] <|
 ckg (q2_84) false (.bin .gtr) [.inp 21, zi 1073741824] <|
 ck .pick [q2_84, bT, q2_85] <|
.seg [.call 23 [(q2_86, false)] 72 [.inp 5, .inp 5] false] <|
 ck .pick [q2_86, bT, .inp 23] <|
.seg [.bind 24 (q2_71),
.bind 25 (q2_73),
.bind 26 (q2_75),
.bind 27 (q2_77),
.bind 28 (q2_79),
.bind 29 (q2_80),
.bind 30 (q2_82),
.bind 31 (q2_84),
.bind 32 (q2_86),
.bind 33 (pk q2_86 bT (.inp 23))] <|
.cond (.inp 33)
 (.ret (bF))
 (.seg [.chk [] (.szs 3) [.inp 3],
.chk [] .app [.app .lst [], .inp 3],
.chk [] (.szs 3) [.inp 4],
.chk [] .app [q2_87, .inp 4]] <|
.loop 0 34 [zi 0] <|
 ck .len [q2_88] <|
 ck (.bin .lss) [.inp 34, q2_89] <|
.cond (bi .lss (.inp 34) q2_89)
 (.loop 1 35 [zi 0] <|
 ck (.bin .lss) [.inp 35, .inp 34] <|
.cond (bi .lss (.inp 35) (.inp 34))
 (.seg [.chk [] (.eidx 3) [q2_88, .inp 35],
.chk [] (.inr 4294967296) [.inp 35],
.chk [] (.rowget 3 0 1 false) [q2_88, .inp 35],
.chk [] (.eidx 3) [q2_88, .inp 34],
.chk [] (.inr 4294967296) [.inp 34],
.chk [] (.rowget 3 0 1 false) [q2_88, .inp 34],
.chk [] (.bin .eql) [q2_90, q2_91]] <|
.seg [.bind 36 (bi .eql q2_90 q2_91)] <|
.cond (.inp 36)
 (.ret (bF))
 (ck (.bin .add) [.inp 35, zi 1] <|
.again 1 [q2_92]))
 (ck (.bin .add) [.inp 34, zi 1] <|
.again 0 [bi .add (.inp 34) (zi 1)]))
 (.loop 0 35 [ln (.inp 3)] <|
 ck (.bin .lss) [.inp 35, zi 12] <|
.cond (bi .lss (.inp 35) (zi 12))
 (ck (.inr 12) [.inp 35] <|
 ck (.aidx 12 1 8 1 false) [.agg (ipx 0 23), .inp 35] <|
.seg [.bind 36 (.app (.aidx 12 1 8 1 false) [.agg (ipx 0 23), .inp 35])] <|
.cond (.inp 36)
 (.ret (bF))
 (ck (.bin .add) [.inp 35, zi 1] <|
.again 0 [q2_92]))
 (.loop 0 36 [zi 0] <|
 ck .len [.inp 5] <|
 ck (.bin .lss) [.inp 36, ln (.inp 5)] <|
.cond (bi .lss (.inp 36) (ln (.inp 5)))
 (ck (.eidx 3) [.inp 5, .inp 36] <|
 ck (.eload 3 true) [ei 3 (.inp 5) (.inp 36)] <|
 ck (.isAgg 3) [q2_93] <|
 ck (.bin .lss) [q2_94, zi 0] <|
 ckg (q2_95) false (.bin .gtr) [q2_94, ln (.inp 3)] <|
 ck .pick [q2_95, bT, q2_96] <|
 ckg (q2_97) false (.bin .lss) [q2_98, zi 0] <|
 ck .pick [q2_97, bT, q2_99] <|
 ckg (q2_100) false (.bin .geq) [q2_98, zi 24] <|
 ck .pick [q2_100, bT, q2_101] <|
 ckg (q2_102) false (.bin .lss) [q2_103, zi 0] <|
 ck .pick [q2_102, bT, q2_104] <|
 ckg (q2_105) false (.bin .gtr) [q2_103, zi 1] <|
 ck .pick [q2_105, bT, q2_106] <|
.seg [.bind 37 (q2_97),
.bind 38 (q2_100),
.bind 39 (q2_102),
.bind 40 (q2_105),
.bind 41 (pk q2_105 bT q2_106)] <|
.cond (.inp 41)
 (.ret (bF))
 (ck (.bin .add) [.inp 36, zi 1] <|
.again 0 [bi .add (.inp 36) (zi 1)]))
 (.ret (bT)))))
theorem run_lockbarref17_Right : runF E 61 [.agg (ips 0 23)] 23 = rt_lockbarref17_Right := by kernel_rfl
def rt_lockbarref17_Sections : RT :=
 ck (.isAgg 23) [.agg (ipx 0 23)] <|
 ck (.mm true) [.inp 7, zi 0] <|
.loop 0 23 [.nils, q2_107] <|
 ck .len [.inp 3] <|
 ck (.bin .lss) [.inp 24, ln (.inp 3)] <|
.cond (bi .lss (.inp 24) (ln (.inp 3)))
 (ck (.eidx 3) [.inp 3, .inp 24] <|
 ck (.eoff 0) [ei 3 (.inp 3) (.inp 24)] <|
 ck (.eload 1 false) [q2_108] <|
.seg [.chk [] .isOne [q2_109],
.chk [] .isOne [q2_109]] <|
.seg [.chk [] (.szs 1) [q2_110],
.chk [] .app [.inp 23, q2_110]] <|
 ck (.bin .add) [.inp 24, zi 1] <|
.again 0 [.app .app [.inp 23, q2_110], q2_111])
 (.loop 0 25 [.inp 23, zi 0] <|
 ck .len [.inp 4] <|
 ck (.bin .lss) [.inp 26, ln (.inp 4)] <|
 ckg (q2_112) true (.un .not) [.inp 20] <|
 ck .pick [q2_112, nt (.inp 20), bF] <|
.cond (pk q2_112 (nt (.inp 20)) bF)
 (ck (.eidx 3) [.inp 4, .inp 26] <|
 ck (.eoff 0) [ei 3 (.inp 4) (.inp 26)] <|
 ck (.eload 1 false) [q2_113] <|
.seg [.chk [] .isOne [q2_114],
.chk [] .isOne [q2_114]] <|
.seg [.chk [] (.szs 1) [q2_115],
.chk [] .app [.inp 25, q2_115]] <|
 ck (.bin .add) [.inp 26, zi 1] <|
.again 0 [.app .app [.inp 25, q2_115], bi .add (.inp 26) (zi 1)])
 (.ret (.inp 25)))
theorem run_lockbarref17_Sections : runF E 71 [.agg (ips 0 23)] 23 = rt_lockbarref17_Sections := by kernel_rfl
def rt_lockbarref17_Has : RT :=
 ck (.isAgg 23) [.agg (ipx 0 23)] <|
.seg [.call 24 [] 71 [.agg (ipx 0 23)] false] <|
.loop 0 25 [zi 0] <|
 ck .len [.inp 24] <|
 ck (.bin .lss) [.inp 25, ln (.inp 24)] <|
.cond (q2_116)
 (ck (.eidx 1) [.inp 24, .inp 25] <|
 ck (.eload 1 false) [q2_117] <|
 ck (.bin .eql) [q2_118, .inp 23] <|
.cond (bi .eql q2_118 (.inp 23))
 (.ret (bT))
 (ck (.bin .add) [.inp 25, zi 1] <|
.again 0 [q2_119]))
 (.ret (bF))
theorem run_lockbarref17_Has : runF E 36 [.agg (ips 0 23), .inp 23] 24 = rt_lockbarref17_Has := by kernel_rfl
def rt_lockbarref17_Needs : RT :=
 ck (.isAgg 23) [.agg (ipx 0 23)] <|
.loop 0 23 [.nils, zi 0] <|
 ck .len [.inp 5] <|
 ck (.bin .lss) [.inp 24, ln (.inp 5)] <|
.cond (bi .lss (.inp 24) (ln (.inp 5)))
 (ck (.eidx 3) [.inp 5, .inp 24] <|
 ck (.eload 3 true) [ei 3 (.inp 5) (.inp 24)] <|
 ck (.isAgg 3) [q2_120] <|
 ck (.mm true) [.inp 7, zi 0] <|
 ck (.bin .geq) [q2_121, q2_107] <|
 ckg (q2_122) true .len [.inp 3] <|
 ckg (q2_122) true (.bin .eql) [q2_121, ln (.inp 3)] <|
 ckg (q2_122) true .pick [q2_123, .inp 20, bF] <|
 ckg (q2_122) true (.un .not) [q2_124] <|
 ck .pick [q2_122, q2_125, bF] <|
.seg [.bind 25 (q2_124),
.bind 26 (q2_125),
.bind 27 (pk q2_122 q2_125 bF)] <|
.cond (.inp 27)
 (ck (.isAgg 3) [q2_126] <|
.seg [.chk [] (.szs 3) [q2_127],
.chk [] .app [.inp 23, q2_127]] <|
.seg [.bind 28 (q2_127),
.bind 29 (.app .app [.inp 23, q2_127])] <|
 ck (.bin .add) [.inp 24, zi 1] <|
.again 0 [.inp 29, q2_111])
 (ck (.bin .add) [.inp 24, zi 1] <|
.again 0 [.inp 23, q2_111]))
 (.ret (.inp 23))
theorem run_lockbarref17_Needs : runF E 73 [.agg (ips 0 23)] 23 = rt_lockbarref17_Needs := by kernel_rfl
def rt_lockbarref17_Wants : RT :=
 ck (.isAgg 23) [.agg (ipx 0 23)] <|
.seg [.call 24 [] 73 [.agg (ipx 0 23)] false] <|
.loop 0 25 [zi 0] <|
 ck .len [.inp 24] <|
 ck (.bin .lss) [.inp 25, ln (.inp 24)] <|
.cond (q2_116)
 (ck (.eidx 3) [.inp 24, .inp 25] <|
 ck (.eoff 0) [q2_128] <|
 ck (.eload 1 false) [q2_129] <|
 ck (.bin .eql) [q2_130, .inp 23] <|
.cond (bi .eql q2_130 (.inp 23))
 (ck (.eidx 3) [.inp 24, .inp 25] <|
 ck (.eoff 1) [q2_128] <|
 ck (.eload 1 false) [q2_131] <|
.ret (.tup [e1 q2_131, bT]))
 (ck (.bin .add) [.inp 25, zi 1] <|
.again 0 [q2_119]))
 (.ret (.tup [zi 0, bF]))
theorem run_lockbarref17_Wants : runF E 37 [.agg (ips 0 23), .inp 23] 24 = rt_lockbarref17_Wants := by kernel_rfl
def rt_lockbarref17_Apart : RT :=
 ck (.isAgg 23) [.agg (ipx 0 23)] <|
 ck (.isAgg 23) [.agg (ipx 23 23)] <|
.seg [.call 46 [] 71 [.agg (ipx 0 23)] false] <|
.loop 0 47 [zi 0] <|
 ck .len [.inp 46] <|
 ck (.bin .lss) [.inp 47, ln (.inp 46)] <|
.cond (bi .lss (.inp 47) (ln (.inp 46)))
 (.seg [.chk [] (.eidx 1) [.inp 46, .inp 47],
.chk [] (.eload 1 false) [q2_132],
.call 48 [] 36 [.agg (ipx 23 23), e1 q2_132] false] <|
.cond (.inp 48)
 (.ret (bF))
 (ck (.bin .add) [.inp 47, zi 1] <|
.again 0 [bi .add (.inp 47) (zi 1)]))
 (.seg [.call 48 [] 73 [.agg (ipx 0 23)] false,
.call 49 [] 73 [.agg (ipx 23 23)] false,
.call 50 [] 72 [.inp 48, .inp 49] false,
.chk [] (.un .not) [.inp 50]] <|
.ret (nt (.inp 50)))
theorem run_lockbarref17_Apart : runF E 33 [.agg (ips 0 23), .agg (ips 23 23)] 46 = rt_lockbarref17_Apart := by kernel_rfl
def rt_lockbarref18_Right : RT :=
 ck (.isAgg 74) [.agg (ipx 0 74)] <|
 ck .len [.inp 1] <|
 ck (.bin .gtr) [ln (.inp 1), zi 6] <|
 ckg (q2_152) false (.bin .lss) [.inp 0, zi 1] <|
 ck .pick [q2_152, bT, bi .lss (.inp 0) (zi 1)] <|
 ckg (q2_153) false (.bin .gtr) [.inp 0, zi 1073741824] <|
 ck .pick [q2_153, bT, q2_68] <|
.seg [.bind 74 (pk q2_153 bT q2_68)] <|
.cond (.inp 74)
 (.ret (bF))
 (.loop 0 75 [zi 0] <|
 ck .len [.inp 1] <|
 ck (.bin .lss) [.inp 75, ln (.inp 1)] <|
.cond (q2_154)
 (ck (.eidx 23) [.inp 1, .inp 75] <|
 ck (.eload 23 true) [q2_155] <|
 ck (.isAgg 23) [q2_156] <|
.seg [.call 76 [] 61 [q2_157] false,
.chk [] (.un .not) [.inp 76],
.chk [(nt (.inp 76), false)] (.bin .geq) [q2_158, .inp 0],
.chk [] .pick [nt (.inp 76), bT, q2_159],
.chk [(q2_160, false)] (.bin .gtr) [.inp 75, zi 0],
.chk [(q2_161, true), (q2_160, false)] (.bin .sub) [.inp 75, zi 1],
.chk [(q2_161, true), (q2_160, false)] (.eidx 23) [.inp 1, q2_162],
.chk [(q2_161, true), (q2_160, false)] (.eoff 0) [q2_163],
.chk [(q2_161, true), (q2_160, false)] (.eload 1 false) [q2_164],
.chk [(q2_161, true), (q2_160, false)] (.bin .leq) [q2_158, q2_165],
.chk [(q2_160, false)] .pick [q2_161, q2_166, bF],
.chk [] .pick [q2_160, bT, q2_167]] <|
.seg [.bind 77 (q2_160),
.bind 78 (q2_166),
.bind 79 (q2_167),
.bind 80 (pk q2_160 bT q2_167)] <|
.cond (.inp 80)
 (.ret (bF))
 (.loop 1 81 [zi 0] <|
 ck (.bin .lss) [.inp 81, .inp 75] <|
.cond (bi .lss (.inp 81) (.inp 75))
 (.seg [.chk [] (.eidx 23) [.inp 1, .inp 81],
.chk [] (.eload 23 true) [q2_168],
.call 82 [] 33 [q2_157, el 23 q2_168] false,
.chk [] (.un .not) [.inp 82]] <|
.cond (.inp 82)
 (ck (.bin .add) [.inp 81, zi 1] <|
.again 1 [bi .add (.inp 81) (zi 1)])
 (.ret (bF)))
 (ck (.bin .add) [.inp 75, zi 1] <|
.again 0 [q2_169])))
 (.loop 0 76 [zi 0] <|
 ck (.bin .lss) [.inp 76, zi 24] <|
.cond (bi .lss (.inp 76) (zi 24))
 (ck (.inr 24) [.inp 76] <|
 ck (.aidx 24 3 2 3 true) [.agg (ipx 0 74), .inp 76] <|
.seg [.call 77 [] 62 [q2_170] false] <|
 ck (.un .not) [.inp 77] <|
.seg [.bind 78 (q2_170)] <|
.cond (.inp 77)
 (ck (.bin .add) [.inp 76, zi 1] <|
.again 0 [bi .add (.inp 76) (zi 1)])
 (.ret (bF)))
 (.ret (bT))))
theorem run_lockbarref18_Right : runF E 25 [.agg (ips 0 74)] 74 = rt_lockbarref18_Right := by kernel_rfl
end
end Go.Lb.LK
