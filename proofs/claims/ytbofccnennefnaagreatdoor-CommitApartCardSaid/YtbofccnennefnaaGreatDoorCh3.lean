/- What functions come to, printed by a program, checked by the kernel. -/
import Derived.Test.YtbofccnennefnaaGreatDoorCh1
set_option linter.unusedSimpArgs false
set_option linter.unusedVariables false
namespace Go.Lb.LK
open Go Go.Lb Go.Proofs
noncomputable section
@[simp] def q2_0 : SE := .agg [.inp 0, .inp 1, .inp 2]
@[simp] def q2_1 : SE := bi .lss (.inp 0) (zi (-1))
@[simp] def q2_2 : SE := pk q2_1 bT (bi .gtr (.inp 0) (zi 1))
@[simp] def q2_3 : SE := pk q2_2 bT (bi .lss (.inp 1) (zi 0))
@[simp] def q2_4 : SE := bi .gtr (.inp 1) (zi 1000)
@[simp] def q2_5 : SE := .app (.eqa [ some .i64, some .i64, none] false) [q2_0, .inp 5]
@[simp] def q2_6 : SE := bi .lss (.inp 2) (ln (.inp 0))
@[simp] def q2_7 : SE := .app (.eoff 0) [ei 3 (.inp 0) (.inp 2)]
@[simp] def q2_8 : SE := .app (.eoff 0) [ei 3 (.inp 1) (.inp 3)]
@[simp] def q2_9 : SE := e1 q2_7
@[simp] def q2_10 : SE := e1 q2_8
@[simp] def q2_11 : SE := bi .eql q2_9 q2_10
@[simp] def q2_12 : SE := .app (.eoff 1) [ei 3 (.inp 0) (.inp 2)]
@[simp] def q2_13 : SE := .app (.eoff 1) [ei 3 (.inp 1) (.inp 3)]
@[simp] def q2_14 : SE := e1 q2_12
@[simp] def q2_15 : SE := e1 q2_13
@[simp] def q2_16 : SE := bi .neq q2_14 q2_15
@[simp] def q2_17 : SE := bi .gtr (.inp 0) (zi 1073741824)
@[simp] def q2_18 : SE := pk (bi .lss (.inp 0) (zi 1)) bT q2_17
@[simp] def q2_19 : SE := bi .lss (ln (.inp 3)) (zi 1)
@[simp] def q2_20 : SE := pk q2_18 bT q2_19
@[simp] def q2_21 : SE := bi .gtr (ln (.inp 3)) (zi 12)
@[simp] def q2_22 : SE := pk q2_20 bT q2_21
@[simp] def q2_23 : SE := bi .gtr (ln (.inp 4)) (zi 2)
@[simp] def q2_24 : SE := pk q2_22 bT q2_23
@[simp] def q2_25 : SE := bi .lss (.inp 6) (.int .u8 1)
@[simp] def q2_26 : SE := pk q2_24 bT q2_25
@[simp] def q2_27 : SE := bi .geq (.inp 6) (.int .u8 5)
@[simp] def q2_28 : SE := pk q2_26 bT q2_27
@[simp] def q2_29 : SE := pk q2_28 bT (bi .lss (.inp 7) (zi 0))
@[simp] def q2_30 : SE := bi .gtr (.inp 7) (ln (.inp 3))
@[simp] def q2_31 : SE := pk q2_29 bT q2_30
@[simp] def q2_32 : SE := bi .lss (.inp 21) (zi 0)
@[simp] def q2_33 : SE := pk q2_31 bT q2_32
@[simp] def q2_34 : SE := bi .gtr (.inp 21) (zi 1073741824)
@[simp] def q2_35 : SE := pk q2_33 bT q2_34
@[simp] def q2_36 : SE := .app .app [.app .lst [], .inp 3]
@[simp] def q2_37 : SE := .app .app [q2_36, .inp 4]
@[simp] def q2_38 : SE := ln q2_37
@[simp] def q2_39 : SE := .app (.rowget 3 0 1 false) [q2_37, .inp 35]
@[simp] def q2_40 : SE := .app (.rowget 3 0 1 false) [q2_37, .inp 34]
@[simp] def q2_41 : SE := bi .add (.inp 35) (zi 1)
@[simp] def q2_42 : SE := el 3 (ei 3 (.inp 5) (.inp 36))
@[simp] def q2_43 : SE := pt 2 q2_42
@[simp] def q2_44 : SE := bi .lss q2_43 (zi 0)
@[simp] def q2_45 : SE := bi .gtr q2_43 (ln (.inp 3))
@[simp] def q2_46 : SE := pk q2_44 bT q2_45
@[simp] def q2_47 : SE := pt 0 q2_42
@[simp] def q2_48 : SE := bi .lss q2_47 (zi 0)
@[simp] def q2_49 : SE := pk q2_46 bT q2_48
@[simp] def q2_50 : SE := bi .geq q2_47 (zi 24)
@[simp] def q2_51 : SE := pk q2_49 bT q2_50
@[simp] def q2_52 : SE := pt 1 q2_42
@[simp] def q2_53 : SE := bi .lss q2_52 (zi 0)
@[simp] def q2_54 : SE := pk q2_51 bT q2_53
@[simp] def q2_55 : SE := bi .gtr q2_52 (zi 1)
@[simp] def q2_56 : SE := .app (.mm true) [.inp 7, zi 0]
@[simp] def q2_57 : SE := .app (.eoff 0) [ei 3 (.inp 3) (.inp 24)]
@[simp] def q2_58 : SE := e1 q2_57
@[simp] def q2_59 : SE := .app .lst [q2_58]
@[simp] def q2_60 : SE := bi .add (.inp 24) (zi 1)
@[simp] def q2_61 : SE := bi .lss (.inp 26) (ln (.inp 4))
@[simp] def q2_62 : SE := .app (.eoff 0) [ei 3 (.inp 4) (.inp 26)]
@[simp] def q2_63 : SE := e1 q2_62
@[simp] def q2_64 : SE := .app .lst [q2_63]
@[simp] def q2_65 : SE := bi .lss (.inp 25) (ln (.inp 24))
@[simp] def q2_66 : SE := ei 1 (.inp 24) (.inp 25)
@[simp] def q2_67 : SE := e1 q2_66
@[simp] def q2_68 : SE := bi .add (.inp 25) (zi 1)
@[simp] def q2_69 : SE := el 3 (ei 3 (.inp 5) (.inp 24))
@[simp] def q2_70 : SE := pt 2 q2_69
@[simp] def q2_71 : SE := bi .geq q2_70 q2_56
@[simp] def q2_72 : SE := bi .eql q2_70 (ln (.inp 3))
@[simp] def q2_73 : SE := pk q2_72 (.inp 20) bF
@[simp] def q2_74 : SE := nt q2_73
@[simp] def q2_75 : SE := .agg [pt 0 q2_69, pt 1 q2_69, q2_70]
@[simp] def q2_76 : SE := .app .lst [q2_75]
@[simp] def q2_77 : SE := ei 3 (.inp 24) (.inp 25)
@[simp] def q2_78 : SE := .app (.eoff 0) [q2_77]
@[simp] def q2_79 : SE := e1 q2_78
@[simp] def q2_80 : SE := .app (.eoff 1) [q2_77]
@[simp] def q2_81 : SE := .agg [.inp 1, .inp 2, .inp 3]
@[simp] def q2_82 : SE := ei 1 (.inp 46) (.inp 47)
@[simp] def q2_83 : SE := el 3 (ei 3 (.inp 0) (.inp 2))
@[simp] def q2_84 : SE := el 3 (ei 3 (.inp 1) (.inp 2))
@[simp] def q2_85 : SE := bi .eql (.inp 0) (.inp 23)
@[simp] def q2_86 : SE := pk q2_85 (.inp 46) bF
@[simp] def q2_87 : SE := pk q2_86 (.inp 47) bF
@[simp] def q2_88 : SE := pk q2_87 (.inp 48) bF
@[simp] def q2_89 : SE := bi .eql (.inp 6) (.inp 29)
@[simp] def q2_90 : SE := pk q2_88 q2_89 bF
@[simp] def q2_91 : SE := bi .eql (.inp 7) (.inp 30)
@[simp] def q2_92 : SE := pk q2_90 q2_91 bF
@[simp] def q2_93 : SE := .app (.eqa [ none, none, none, none, none, none, none, none, none, none, none, none] false) [.agg (ipx 8 12), .agg (ipx 31 12)]
@[simp] def q2_94 : SE := pk q2_92 q2_93 bF
@[simp] def q2_95 : SE := .app (.eqb false) [.inp 20, .inp 43]
@[simp] def q2_96 : SE := pk q2_94 q2_95 bF
@[simp] def q2_97 : SE := bi .eql (.inp 21) (.inp 44)
@[simp] def q2_98 : SE := pk q2_96 q2_97 bF
@[simp] def q2_99 : SE := .app (.eqb false) [.inp 22, .inp 45]
@[simp] def q2_100 : SE := ei 23 (.inp 1) (.inp 148)
@[simp] def q2_101 : SE := ei 23 (.inp 75) (.inp 148)
@[simp] def q2_102 : SE := bi .eql (.inp 0) (.inp 74)
@[simp] def q2_103 : SE := .app (.eqa [ some .i64, some .i64, none, some .i64, some .i64, none, some .i64, some .i64, none, some .i64, some .i64, none, some .i64, some .i64, none, some .i64, some .i64, none, some .i64, some .i64, none, some .i64, some .i64, none, some .i64, some .i64, none, some .i64, some .i64, none, some .i64, some .i64, none, some .i64, some .i64, none, some .i64, some .i64, none, some .i64, some .i64, none, some .i64, some .i64, none, some .i64, some .i64, none, some .i64, some .i64, none, some .i64, some .i64, none, some .i64, some .i64, none, some .i64, some .i64, none, some .i64, some .i64, none, some .i64, some .i64, none, some .i64, some .i64, none, some .i64, some .i64, none] false) [.agg (ipx 2 72), .agg (ipx 76 72)]
@[simp] def q2_104 : SE := bi .gtr (ln (.inp 1)) (zi 6)
@[simp] def q2_105 : SE := pk q2_104 bT (bi .lss (.inp 0) (zi 1))
@[simp] def q2_106 : SE := bi .lss (.inp 75) (ln (.inp 1))
@[simp] def q2_107 : SE := ei 23 (.inp 1) (.inp 75)
@[simp] def q2_108 : SE := el 23 q2_107
@[simp] def q2_109 : SE := .agg (ptx (q2_108) 0 23)
@[simp] def q2_110 : SE := pt 0 q2_108
@[simp] def q2_111 : SE := bi .geq q2_110 (.inp 0)
@[simp] def q2_112 : SE := pk (nt (.inp 76)) bT q2_111
@[simp] def q2_113 : SE := bi .gtr (.inp 75) (zi 0)
@[simp] def q2_114 : SE := bi .sub (.inp 75) (zi 1)
@[simp] def q2_115 : SE := ei 23 (.inp 1) q2_114
@[simp] def q2_116 : SE := .app (.eoff 0) [q2_115]
@[simp] def q2_117 : SE := e1 q2_116
@[simp] def q2_118 : SE := bi .leq q2_110 q2_117
@[simp] def q2_119 : SE := pk q2_113 q2_118 bF
@[simp] def q2_120 : SE := ei 23 (.inp 1) (.inp 81)
@[simp] def q2_121 : SE := bi .add (.inp 75) (zi 1)
@[simp] def q2_122 : SE := .app (.aidx 24 3 2 3 true) [.agg (ipx 0 74), .inp 76]
@[simp] def q2_123 : SE := .app (.eoff 0) [q2_107]
@[simp] def q2_124 : SE := .app (.eoff 6) [q2_107]
@[simp] def q2_125 : SE := e1 q2_124
@[simp] def q2_126 : SE := bi .neq q2_125 (.int .u8 1)
@[simp] def q2_127 : SE := .agg [.inp 114, .inp 115, .inp 116]
@[simp] def q2_128 : SE := bi .lss (.inp 114) (zi 0)
@[simp] def q2_129 : SE := bi .geq (.inp 114) (zi 24)
@[simp] def q2_130 : SE := bi .eql (tp 0 (.inp 118)) (.inp 115)
@[simp] def q2_131 : SE := bi .eql (.inp 117) (.inp 115)
@[simp] def q2_132 : SE := pk (nt (.inp 119)) bT q2_131
@[simp] def q2_133 : SE := .app (.aidx 24 3 4 1 false) [.agg (ipx 40 74), .inp 114]
@[simp] def q2_134 : SE := nt q2_133
@[simp] def q2_135 : SE := pk q2_134 (.inp 119) bF
@[simp] def q2_136 : SE := ei 23 (.inp 41) (.inp 117)
@[simp] def q2_137 : SE := .app (.eoff 1) [q2_136]
@[simp] def q2_138 : SE := .app (.eoff 0) [q2_137]
@[simp] def q2_139 : SE := e1 q2_138
@[simp] def q2_140 : SE := bi .eql q2_139 (.inp 114)
@[simp] def q2_141 : SE := .app (.eoff 6) [q2_136]
@[simp] def q2_142 : SE := e1 q2_141
@[simp] def q2_143 : SE := bi .neq q2_142 (.int .u8 3)
@[simp] def q2_144 : SE := .app .app [.app .lst [], .inp 116]
@[simp] def q2_145 : SE := .app .app [q2_144, .inp 118]
@[simp] def q2_146 : SE := ln q2_145
@[simp] def q2_147 : SE := ei 3 (.inp 120) (.inp 121)
@[simp] def q2_148 : SE := .app (.eqa [ some .i64, some .i64] false) [.agg [.inp 0, .inp 1], .agg [zi (-1), zi 0]]
@[simp] def q2_149 : SE := bi .lss (.inp 0) (zi 24)
@[simp] def q2_150 : SE := pk (bi .geq (.inp 0) (zi 0)) q2_149 bF
@[simp] def q2_151 : SE := pk q2_150 (bi .geq (.inp 1) (zi 0)) bF
@[simp] def q2_152 : SE := pk q2_151 (bi .lss (.inp 1) (zi 4)) bF
@[simp] def q2_153 : SE := bi .lss (.inp 11) (.inp 12)
@[simp] def q2_154 : SE := .app (.aidx 4 2 1 2 true) [.agg (ipx 0 11), .inp 11]
@[simp] def q2_155 : SE := pk q2_153 (nt (.inp 13)) bF
@[simp] def q2_156 : SE := bi .geq (.inp 11) (.inp 14)
@[simp] def q2_157 : SE := .app (.eqa [ some .i64, some .i64] true) [q2_154, .agg [zi (-1), zi 0]]
@[simp] def q2_158 : SE := pk q2_156 q2_157 bF
@[simp] def q2_159 : SE := .app (.aidx 2 1 9 1 false) [.agg (ipx 0 11), .inp 12]
@[simp] def q2_160 : SE := bi .lss q2_159 (zi 0)
@[simp] def q2_161 : SE := bi .gtr q2_159 (zi 3)
@[simp] def q2_162 : SE := pk q2_160 bT q2_161
@[simp] def q2_163 : SE := bi .geq (.inp 12) (.inp 13)
@[simp] def q2_164 : SE := bi .neq q2_159 (zi 0)
@[simp] def q2_165 : SE := pk q2_163 q2_164 bF
@[simp] def q2_166 : SE := .app (.aidx 4 2 1 1 false) [.agg (ipx 11 11), .inp 22]
@[simp] def q2_167 : SE := bi .geq q2_166 (zi 0)
@[simp] def q2_168 : SE := .app (.aidx 4 2 1 2 true) [.agg (ipx 11 11), .inp 22]
@[simp] def q2_169 : SE := ei 3 (.inp 13) (.inp 14)
@[simp] def q2_170 : SE := bi .leq (ln (.inp 13)) (zi 2)
def rt_lockbarref16_Right : RT :=
 ck (.isAgg 3) [q2_0] <|
 ck (.bin .lss) [.inp 0, zi (-1)] <|
 ckg (q2_1) false (.bin .gtr) [.inp 0, zi 1] <|
 ck .pick [q2_1, bT, bi .gtr (.inp 0) (zi 1)] <|
 ckg (q2_2) false (.bin .lss) [.inp 1, zi 0] <|
 ck .pick [q2_2, bT, bi .lss (.inp 1) (zi 0)] <|
 ckg (q2_3) false (.bin .gtr) [.inp 1, zi 1000] <|
 ck .pick [q2_3, bT, q2_4] <|
.seg [.bind 3 (q2_3),
.bind 4 (pk q2_3 bT q2_4)] <|
.cond (.inp 4)
 (.ret (bF))
 (.seg [.chk [] (.bin .geq) [.inp 0, zi 0],
.call 5 [(bi .geq (.inp 0) (zi 0), false)] 46 [] false,
.chk [(bi .geq (.inp 0) (zi 0), false)] (.eqa [ some .i64, some .i64, none] false) [q2_0, .inp 5],
.chk [] .pick [bi .geq (.inp 0) (zi 0), bT, q2_5]] <|
.seg [.bind 6 (pk (bi .geq (.inp 0) (zi 0)) bT q2_5)] <|
.ret (.inp 6))
theorem run_lockbarref16_Right : runF E 62 [.agg [.inp 0, .inp 1, .inp 2]] 3 = rt_lockbarref16_Right := by kernel_rfl
def rt_lockbarref17_clash : RT :=
.loop 0 2 [zi 0] <|
 ck .len [.inp 0] <|
 ck (.bin .lss) [.inp 2, ln (.inp 0)] <|
.cond (q2_6)
 (.loop 1 3 [zi 0] <|
 ck .len [.inp 1] <|
 ck (.bin .lss) [.inp 3, ln (.inp 1)] <|
.cond (bi .lss (.inp 3) (ln (.inp 1)))
 (.seg [.chk [] (.eidx 3) [.inp 0, .inp 2],
.chk [] (.eoff 0) [ei 3 (.inp 0) (.inp 2)],
.chk [] (.eload 1 false) [q2_7],
.chk [] (.eidx 3) [.inp 1, .inp 3],
.chk [] (.eoff 0) [ei 3 (.inp 1) (.inp 3)],
.chk [] (.eload 1 false) [q2_8],
.chk [] (.bin .eql) [q2_9, q2_10],
.chk [(q2_11, true)] (.eidx 3) [.inp 0, .inp 2],
.chk [(q2_11, true)] (.eoff 1) [ei 3 (.inp 0) (.inp 2)],
.chk [(q2_11, true)] (.eload 1 false) [q2_12],
.chk [(q2_11, true)] (.eidx 3) [.inp 1, .inp 3],
.chk [(q2_11, true)] (.eoff 1) [ei 3 (.inp 1) (.inp 3)],
.chk [(q2_11, true)] (.eload 1 false) [q2_13],
.chk [(q2_11, true)] (.bin .neq) [q2_14, q2_15],
.chk [] .pick [q2_11, q2_16, bF]] <|
.seg [.bind 4 (q2_11),
.bind 5 (q2_16),
.bind 6 (pk q2_11 q2_16 bF)] <|
.cond (.inp 6)
 (.ret (bT))
 (ck (.bin .add) [.inp 3, zi 1] <|
.again 1 [bi .add (.inp 3) (zi 1)]))
 (ck (.bin .add) [.inp 2, zi 1] <|
.again 0 [bi .add (.inp 2) (zi 1)]))
 (.ret (bF))
theorem run_lockbarref17_clash : runF E 64 [.inp 0, .inp 1] 2 = rt_lockbarref17_clash := by kernel_rfl
def rt_lockbarref17_Right : RT :=
 ck (.isAgg 23) [.agg (ipx 0 23)] <|
 ck .len [.inp 3] <|
 ck (.bin .lss) [.inp 0, zi 1] <|
 ckg (bi .lss (.inp 0) (zi 1)) false (.bin .gtr) [.inp 0, zi 1073741824] <|
 ck .pick [bi .lss (.inp 0) (zi 1), bT, q2_17] <|
 ckg (q2_18) false (.bin .lss) [ln (.inp 3), zi 1] <|
 ck .pick [q2_18, bT, q2_19] <|
 ckg (q2_20) false (.bin .gtr) [ln (.inp 3), zi 12] <|
 ck .pick [q2_20, bT, q2_21] <|
 ckg (q2_22) false .len [.inp 4] <|
 ckg (q2_22) false (.bin .gtr) [ln (.inp 4), zi 2] <|
 ck .pick [q2_22, bT, q2_23] <|
 ckg (q2_24) false (.bin .lss) [.inp 6, .int .u8 1] <|
 ck .pick [q2_24, bT, q2_25] <|
 ckg (q2_26) false (.bin .geq) [.inp 6, .int .u8 5] <|
 ck .pick [q2_26, bT, q2_27] <|
 ckg (q2_28) false (.bin .lss) [.inp 7, zi 0] <|
 ck .pick [q2_28, bT, bi .lss (.inp 7) (zi 0)] <|
 ckg (q2_29) false (.bin .gtr) [.inp 7, ln (.inp 3)] <|
 ck .pick [q2_29, bT, q2_30] <|
 ckg (q2_31) false (.bin .lss) [.inp 21, zi 0] <|
 ck .pick [q2_31, bT, q2_32] <|
 ckg (q2_33) false (.bin .gtr) [.inp 21, zi 1073741824] <|
 ck .pick [q2_33, bT, q2_34] <|
.seg [.call 23 [(q2_35, false)] 64 [.inp 5, .inp 5] false] <|
 ck .pick [q2_35, bT, .inp 23] <|
.seg [.bind 24 (q2_20),
.bind 25 (q2_22),
.bind 26 (q2_24),
.bind 27 (q2_26),
.bind 28 (q2_28),
.bind 29 (q2_29),
.bind 30 (q2_31),
.bind 31 (q2_33),
.bind 32 (q2_35),
.bind 33 (pk q2_35 bT (.inp 23))] <|
.cond (.inp 33)
 (.ret (bF))
 (.seg [.chk [] (.szs 3) [.inp 3],
.chk [] .app [.app .lst [], .inp 3],
.chk [] (.szs 3) [.inp 4],
.chk [] .app [q2_36, .inp 4]] <|
.loop 0 34 [zi 0] <|
 ck .len [q2_37] <|
 ck (.bin .lss) [.inp 34, q2_38] <|
.cond (bi .lss (.inp 34) q2_38)
 (.loop 1 35 [zi 0] <|
 ck (.bin .lss) [.inp 35, .inp 34] <|
.cond (bi .lss (.inp 35) (.inp 34))
 (.seg [.chk [] (.eidx 3) [q2_37, .inp 35],
.chk [] (.inr 4294967296) [.inp 35],
.chk [] (.rowget 3 0 1 false) [q2_37, .inp 35],
.chk [] (.eidx 3) [q2_37, .inp 34],
.chk [] (.inr 4294967296) [.inp 34],
.chk [] (.rowget 3 0 1 false) [q2_37, .inp 34],
.chk [] (.bin .eql) [q2_39, q2_40]] <|
.seg [.bind 36 (bi .eql q2_39 q2_40)] <|
.cond (.inp 36)
 (.ret (bF))
 (ck (.bin .add) [.inp 35, zi 1] <|
.again 1 [q2_41]))
 (ck (.bin .add) [.inp 34, zi 1] <|
.again 0 [bi .add (.inp 34) (zi 1)]))
 (.loop 0 35 [ln (.inp 3)] <|
 ck (.bin .lss) [.inp 35, zi 12] <|
.cond (bi .lss (.inp 35) (zi 12))
 (ck (.inr 12) [.inp 35] <|
 ck (.aidx 12 1 8 1 false) [.agg (ipx 0 23), .inp 35] <|
.seg [.bind 36 (.app (.aidx 12 1 8 1 false) [.agg (ipx 0 23), .inp 35])] <|
.cond (.inp 36)
 (.ret (bF))
 (ck (.bin .add) [.inp 35, zi 1] <|
.again 0 [q2_41]))
 (.loop 0 36 [zi 0] <|
 ck .len [.inp 5] <|
 ck (.bin .lss) [.inp 36, ln (.inp 5)] <|
.cond (bi .lss (.inp 36) (ln (.inp 5)))
 (ck (.eidx 3) [.inp 5, .inp 36] <|
 ck (.eload 3 true) [ei 3 (.inp 5) (.inp 36)] <|
 ck (.isAgg 3) [q2_42] <|
 ck (.bin .lss) [q2_43, zi 0] <|
 ckg (q2_44) false (.bin .gtr) [q2_43, ln (.inp 3)] <|
 ck .pick [q2_44, bT, q2_45] <|
 ckg (q2_46) false (.bin .lss) [q2_47, zi 0] <|
 ck .pick [q2_46, bT, q2_48] <|
 ckg (q2_49) false (.bin .geq) [q2_47, zi 24] <|
 ck .pick [q2_49, bT, q2_50] <|
 ckg (q2_51) false (.bin .lss) [q2_52, zi 0] <|
 ck .pick [q2_51, bT, q2_53] <|
 ckg (q2_54) false (.bin .gtr) [q2_52, zi 1] <|
 ck .pick [q2_54, bT, q2_55] <|
.seg [.bind 37 (q2_46),
.bind 38 (q2_49),
.bind 39 (q2_51),
.bind 40 (q2_54),
.bind 41 (pk q2_54 bT q2_55)] <|
.cond (.inp 41)
 (.ret (bF))
 (ck (.bin .add) [.inp 36, zi 1] <|
.again 0 [bi .add (.inp 36) (zi 1)]))
 (.ret (bT)))))
theorem run_lockbarref17_Right : runF E 61 [.agg (ips 0 23)] 23 = rt_lockbarref17_Right := by kernel_rfl
def rt_lockbarref17_Sections : RT :=
 ck (.isAgg 23) [.agg (ipx 0 23)] <|
 ck (.mm true) [.inp 7, zi 0] <|
.loop 0 23 [.nils, q2_56] <|
 ck .len [.inp 3] <|
 ck (.bin .lss) [.inp 24, ln (.inp 3)] <|
.cond (bi .lss (.inp 24) (ln (.inp 3)))
 (ck (.eidx 3) [.inp 3, .inp 24] <|
 ck (.eoff 0) [ei 3 (.inp 3) (.inp 24)] <|
 ck (.eload 1 false) [q2_57] <|
.seg [.chk [] .isOne [q2_58],
.chk [] .isOne [q2_58]] <|
.seg [.chk [] (.szs 1) [q2_59],
.chk [] .app [.inp 23, q2_59]] <|
 ck (.bin .add) [.inp 24, zi 1] <|
.again 0 [.app .app [.inp 23, q2_59], q2_60])
 (.loop 0 25 [.inp 23, zi 0] <|
 ck .len [.inp 4] <|
 ck (.bin .lss) [.inp 26, ln (.inp 4)] <|
 ckg (q2_61) true (.un .not) [.inp 20] <|
 ck .pick [q2_61, nt (.inp 20), bF] <|
.cond (pk q2_61 (nt (.inp 20)) bF)
 (ck (.eidx 3) [.inp 4, .inp 26] <|
 ck (.eoff 0) [ei 3 (.inp 4) (.inp 26)] <|
 ck (.eload 1 false) [q2_62] <|
.seg [.chk [] .isOne [q2_63],
.chk [] .isOne [q2_63]] <|
.seg [.chk [] (.szs 1) [q2_64],
.chk [] .app [.inp 25, q2_64]] <|
 ck (.bin .add) [.inp 26, zi 1] <|
.again 0 [.app .app [.inp 25, q2_64], bi .add (.inp 26) (zi 1)])
 (.ret (.inp 25)))
theorem run_lockbarref17_Sections : runF E 24 [.agg (ips 0 23)] 23 = rt_lockbarref17_Sections := by kernel_rfl
def rt_lockbarref17_Has : RT :=
 ck (.isAgg 23) [.agg (ipx 0 23)] <|
.seg [.call 24 [] 24 [.agg (ipx 0 23)] false] <|
.loop 0 25 [zi 0] <|
 ck .len [.inp 24] <|
 ck (.bin .lss) [.inp 25, ln (.inp 24)] <|
.cond (q2_65)
 (ck (.eidx 1) [.inp 24, .inp 25] <|
 ck (.eload 1 false) [q2_66] <|
 ck (.bin .eql) [q2_67, .inp 23] <|
.cond (bi .eql q2_67 (.inp 23))
 (.ret (bT))
 (ck (.bin .add) [.inp 25, zi 1] <|
.again 0 [q2_68]))
 (.ret (bF))
theorem run_lockbarref17_Has : runF E 63 [.agg (ips 0 23), .inp 23] 24 = rt_lockbarref17_Has := by kernel_rfl
def rt_lockbarref17_Needs : RT :=
 ck (.isAgg 23) [.agg (ipx 0 23)] <|
.loop 0 23 [.nils, zi 0] <|
 ck .len [.inp 5] <|
 ck (.bin .lss) [.inp 24, ln (.inp 5)] <|
.cond (bi .lss (.inp 24) (ln (.inp 5)))
 (ck (.eidx 3) [.inp 5, .inp 24] <|
 ck (.eload 3 true) [ei 3 (.inp 5) (.inp 24)] <|
 ck (.isAgg 3) [q2_69] <|
 ck (.mm true) [.inp 7, zi 0] <|
 ck (.bin .geq) [q2_70, q2_56] <|
 ckg (q2_71) true .len [.inp 3] <|
 ckg (q2_71) true (.bin .eql) [q2_70, ln (.inp 3)] <|
 ckg (q2_71) true .pick [q2_72, .inp 20, bF] <|
 ckg (q2_71) true (.un .not) [q2_73] <|
 ck .pick [q2_71, q2_74, bF] <|
.seg [.bind 25 (q2_73),
.bind 26 (q2_74),
.bind 27 (pk q2_71 q2_74 bF)] <|
.cond (.inp 27)
 (ck (.isAgg 3) [q2_75] <|
.seg [.chk [] (.szs 3) [q2_76],
.chk [] .app [.inp 23, q2_76]] <|
.seg [.bind 28 (q2_76),
.bind 29 (.app .app [.inp 23, q2_76])] <|
 ck (.bin .add) [.inp 24, zi 1] <|
.again 0 [.inp 29, q2_60])
 (ck (.bin .add) [.inp 24, zi 1] <|
.again 0 [.inp 23, q2_60]))
 (.ret (.inp 23))
theorem run_lockbarref17_Needs : runF E 65 [.agg (ips 0 23)] 23 = rt_lockbarref17_Needs := by kernel_rfl
def rt_lockbarref17_Wants : RT :=
 ck (.isAgg 23) [.agg (ipx 0 23)] <|
.seg [.call 24 [] 65 [.agg (ipx 0 23)] false] <|
.loop 0 25 [zi 0] <|
 ck .len [.inp 24] <|
 ck (.bin .lss) [.inp 25, ln (.inp 24)] <|
.cond (q2_65)
 (ck (.eidx 3) [.inp 24, .inp 25] <|
 ck (.eoff 0) [q2_77] <|
 ck (.eload 1 false) [q2_78] <|
 ck (.bin .eql) [q2_79, .inp 23] <|
.cond (bi .eql q2_79 (.inp 23))
 (ck (.eidx 3) [.inp 24, .inp 25] <|
 ck (.eoff 1) [q2_77] <|
 ck (.eload 1 false) [q2_80] <|
.ret (.tup [e1 q2_80, bT]))
 (ck (.bin .add) [.inp 25, zi 1] <|
.again 0 [q2_68]))
 (.ret (.tup [zi 0, bF]))
theorem run_lockbarref17_Wants : runF E 68 [.agg (ips 0 23), .inp 23] 24 = rt_lockbarref17_Wants := by kernel_rfl
def rt_lockbarref17_Own : RT :=
 ck (.isAgg 23) [.agg (ipx 0 23)] <|
.seg [.call 23 [] 45 [q2_81] false] <|
 ck (.isAgg 3) [.inp 23] <|
.seg [.chk [] (.szs 3) [.inp 4],
.chk [] .app [.app .lst [], .inp 4]] <|
.seg [.chk [] (.szs 3) [.inp 5],
.chk [] .app [.app .lst [], .inp 5]] <|
 ck (.isAgg 23) [.agg (ap [.inp 0, pt 0 (.inp 23), pt 1 (.inp 23), pt 2 (.inp 23), .row 20, .row 32] (ipx 6 17))] <|
.ret (.agg (ap [.inp 0, pt 0 (.inp 23), pt 1 (.inp 23), pt 2 (.inp 23), .app .app [.app .lst [], .inp 4], .app .app [.app .lst [], .inp 5]] (ipx 6 17)))
theorem run_lockbarref17_Own : runF E 51 [.agg (ips 0 23)] 23 = rt_lockbarref17_Own := by kernel_rfl
def rt_lockbarref17_Apart : RT :=
 ck (.isAgg 23) [.agg (ipx 0 23)] <|
 ck (.isAgg 23) [.agg (ipx 23 23)] <|
.seg [.call 46 [] 24 [.agg (ipx 0 23)] false] <|
.loop 0 47 [zi 0] <|
 ck .len [.inp 46] <|
 ck (.bin .lss) [.inp 47, ln (.inp 46)] <|
.cond (bi .lss (.inp 47) (ln (.inp 46)))
 (.seg [.chk [] (.eidx 1) [.inp 46, .inp 47],
.chk [] (.eload 1 false) [q2_82],
.call 48 [] 63 [.agg (ipx 23 23), e1 q2_82] false] <|
.cond (.inp 48)
 (.ret (bF))
 (ck (.bin .add) [.inp 47, zi 1] <|
.again 0 [bi .add (.inp 47) (zi 1)]))
 (.seg [.call 48 [] 65 [.agg (ipx 0 23)] false,
.call 49 [] 65 [.agg (ipx 23 23)] false,
.call 50 [] 64 [.inp 48, .inp 49] false,
.chk [] (.un .not) [.inp 50]] <|
.ret (nt (.inp 50)))
theorem run_lockbarref17_Apart : runF E 23 [.agg (ips 0 23), .agg (ips 23 23)] 46 = rt_lockbarref17_Apart := by kernel_rfl
def rt_lockbarref17_All : RT :=
 ck .len [.inp 0] <|
 ck .len [.inp 1] <|
 ck (.bin .neq) [ln (.inp 0), ln (.inp 1)] <|
.cond (bi .neq (ln (.inp 0)) (ln (.inp 1)))
 (.ret (bF))
 (.loop 0 2 [zi 0] <|
 ck .len [.inp 0] <|
 ck (.bin .lss) [.inp 2, ln (.inp 0)] <|
.cond (q2_6)
 (.seg [.chk [] (.eidx 3) [.inp 0, .inp 2],
.chk [] (.eload 3 true) [ei 3 (.inp 0) (.inp 2)],
.chk [] (.eidx 3) [.inp 1, .inp 2],
.chk [] (.eload 3 true) [ei 3 (.inp 1) (.inp 2)],
.chk [] (.eqa [ some .i64, some .i64, some .i64] true) [q2_83, q2_84]] <|
.cond (.app (.eqa [ some .i64, some .i64, some .i64] true) [q2_83, q2_84])
 (.ret (bF))
 (ck (.bin .add) [.inp 2, zi 1] <|
.again 0 [bi .add (.inp 2) (zi 1)]))
 (.ret (bT)))
theorem run_lockbarref17_All : runF E 54 [.inp 0, .inp 1] 2 = rt_lockbarref17_All := by kernel_rfl
def rt_lockbarref17_Same : RT :=
 ck (.isAgg 23) [.agg (ipx 0 23)] <|
 ck (.isAgg 23) [.agg (ipx 23 23)] <|
 ck (.bin .eql) [.inp 0, .inp 23] <|
.seg [.call 46 [(q2_85, true)] 52 [q2_81, .agg [.inp 24, .inp 25, .inp 26]] false] <|
 ck .pick [q2_85, .inp 46, bF] <|
.seg [.call 47 [(q2_86, true)] 53 [.inp 4, .inp 27] false] <|
 ck .pick [q2_86, .inp 47, bF] <|
.seg [.call 48 [(q2_87, true)] 54 [.inp 5, .inp 28] false] <|
 ck .pick [q2_87, .inp 48, bF] <|
 ckg (q2_88) true (.bin .eql) [.inp 6, .inp 29] <|
 ck .pick [q2_88, q2_89, bF] <|
 ckg (q2_90) true (.bin .eql) [.inp 7, .inp 30] <|
 ck .pick [q2_90, q2_91, bF] <|
 ckg (q2_92) true (.eqa [ none, none, none, none, none, none, none, none, none, none, none, none] false) [.agg (ipx 8 12), .agg (ipx 31 12)] <|
 ck .pick [q2_92, q2_93, bF] <|
 ckg (q2_94) true (.eqb false) [.inp 20, .inp 43] <|
 ck .pick [q2_94, q2_95, bF] <|
 ckg (q2_96) true (.bin .eql) [.inp 21, .inp 44] <|
 ck .pick [q2_96, q2_97, bF] <|
 ckg (q2_98) true (.eqb false) [.inp 22, .inp 45] <|
 ck .pick [q2_98, q2_99, bF] <|
.seg [.bind 49 (pk q2_98 q2_99 bF),
.bind 50 (q2_88),
.bind 51 (q2_90),
.bind 52 (q2_92),
.bind 53 (q2_93),
.bind 54 (q2_94),
.bind 55 (q2_96),
.bind 56 (q2_98)] <|
.ret (.inp 49)
theorem run_lockbarref17_Same : runF E 15 [.agg (ips 0 23), .agg (ips 23 23)] 46 = rt_lockbarref17_Same := by kernel_rfl
def rt_lockbarref18_Same : RT :=
 ck (.isAgg 74) [.agg (ipx 0 74)] <|
 ck (.isAgg 74) [.agg (ipx 74 74)] <|
 ck .len [.inp 1] <|
 ck .len [.inp 75] <|
 ck (.bin .neq) [ln (.inp 1), ln (.inp 75)] <|
.cond (bi .neq (ln (.inp 1)) (ln (.inp 75)))
 (.ret (bF))
 (.loop 0 148 [zi 0] <|
 ck .len [.inp 1] <|
 ck (.bin .lss) [.inp 148, ln (.inp 1)] <|
.cond (bi .lss (.inp 148) (ln (.inp 1)))
 (.seg [.chk [] (.eidx 23) [.inp 1, .inp 148],
.chk [] (.eload 23 true) [q2_100],
.chk [] (.eidx 23) [.inp 75, .inp 148],
.chk [] (.eload 23 true) [q2_101],
.call 149 [] 15 [el 23 q2_100, el 23 q2_101] false,
.chk [] (.un .not) [.inp 149]] <|
.cond (.inp 149)
 (ck (.bin .add) [.inp 148, zi 1] <|
.again 0 [bi .add (.inp 148) (zi 1)])
 (.ret (bF)))
 (ck (.bin .eql) [.inp 0, .inp 74] <|
 ckg (q2_102) true (.eqa [ some .i64, some .i64, none, some .i64, some .i64, none, some .i64, some .i64, none, some .i64, some .i64, none, some .i64, some .i64, none, some .i64, some .i64, none, some .i64, some .i64, none, some .i64, some .i64, none, some .i64, some .i64, none, some .i64, some .i64, none, some .i64, some .i64, none, some .i64, some .i64, none, some .i64, some .i64, none, some .i64, some .i64, none, some .i64, some .i64, none, some .i64, some .i64, none, some .i64, some .i64, none, some .i64, some .i64, none, some .i64, some .i64, none, some .i64, some .i64, none, some .i64, some .i64, none, some .i64, some .i64, none, some .i64, some .i64, none, some .i64, some .i64, none] false) [.agg (ipx 2 72), .agg (ipx 76 72)] <|
 ck .pick [q2_102, q2_103, bF] <|
.seg [.bind 149 (pk q2_102 q2_103 bF),
.bind 150 (q2_103)] <|
.ret (.inp 149)))
theorem run_lockbarref18_Same : runF E 14 [.agg (ips 0 74), .agg (ips 74 74)] 148 = rt_lockbarref18_Same := by kernel_rfl
def rt_lockbarref18_Right : RT :=
 ck (.isAgg 74) [.agg (ipx 0 74)] <|
 ck .len [.inp 1] <|
 ck (.bin .gtr) [ln (.inp 1), zi 6] <|
 ckg (q2_104) false (.bin .lss) [.inp 0, zi 1] <|
 ck .pick [q2_104, bT, bi .lss (.inp 0) (zi 1)] <|
 ckg (q2_105) false (.bin .gtr) [.inp 0, zi 1073741824] <|
 ck .pick [q2_105, bT, q2_17] <|
.seg [.bind 74 (pk q2_105 bT q2_17)] <|
.cond (.inp 74)
 (.ret (bF))
 (.loop 0 75 [zi 0] <|
 ck .len [.inp 1] <|
 ck (.bin .lss) [.inp 75, ln (.inp 1)] <|
.cond (q2_106)
 (ck (.eidx 23) [.inp 1, .inp 75] <|
 ck (.eload 23 true) [q2_107] <|
 ck (.isAgg 23) [q2_108] <|
.seg [.call 76 [] 61 [q2_109] false,
.chk [] (.un .not) [.inp 76],
.chk [(nt (.inp 76), false)] (.bin .geq) [q2_110, .inp 0],
.chk [] .pick [nt (.inp 76), bT, q2_111],
.chk [(q2_112, false)] (.bin .gtr) [.inp 75, zi 0],
.chk [(q2_113, true), (q2_112, false)] (.bin .sub) [.inp 75, zi 1],
.chk [(q2_113, true), (q2_112, false)] (.eidx 23) [.inp 1, q2_114],
.chk [(q2_113, true), (q2_112, false)] (.eoff 0) [q2_115],
.chk [(q2_113, true), (q2_112, false)] (.eload 1 false) [q2_116],
.chk [(q2_113, true), (q2_112, false)] (.bin .leq) [q2_110, q2_117],
.chk [(q2_112, false)] .pick [q2_113, q2_118, bF],
.chk [] .pick [q2_112, bT, q2_119]] <|
.seg [.bind 77 (q2_112),
.bind 78 (q2_118),
.bind 79 (q2_119),
.bind 80 (pk q2_112 bT q2_119)] <|
.cond (.inp 80)
 (.ret (bF))
 (.loop 1 81 [zi 0] <|
 ck (.bin .lss) [.inp 81, .inp 75] <|
.cond (bi .lss (.inp 81) (.inp 75))
 (.seg [.chk [] (.eidx 23) [.inp 1, .inp 81],
.chk [] (.eload 23 true) [q2_120],
.call 82 [] 23 [q2_109, el 23 q2_120] false,
.chk [] (.un .not) [.inp 82]] <|
.cond (.inp 82)
 (ck (.bin .add) [.inp 81, zi 1] <|
.again 1 [bi .add (.inp 81) (zi 1)])
 (.ret (bF)))
 (ck (.bin .add) [.inp 75, zi 1] <|
.again 0 [q2_121])))
 (.loop 0 76 [zi 0] <|
 ck (.bin .lss) [.inp 76, zi 24] <|
.cond (bi .lss (.inp 76) (zi 24))
 (ck (.inr 24) [.inp 76] <|
 ck (.aidx 24 3 2 3 true) [.agg (ipx 0 74), .inp 76] <|
.seg [.call 77 [] 62 [q2_122] false] <|
 ck (.un .not) [.inp 77] <|
.seg [.bind 78 (q2_122)] <|
.cond (.inp 77)
 (ck (.bin .add) [.inp 76, zi 1] <|
.again 0 [bi .add (.inp 76) (zi 1)])
 (.ret (bF)))
 (.ret (bT))))
theorem run_lockbarref18_Right : runF E 22 [.agg (ips 0 74)] 74 = rt_lockbarref18_Right := by kernel_rfl
def rt_lockbarref18_Holder : RT :=
 ck (.isAgg 74) [.agg (ipx 0 74)] <|
.loop 0 75 [zi 0] <|
 ck .len [.inp 1] <|
 ck (.bin .lss) [.inp 75, ln (.inp 1)] <|
.cond (q2_106)
 (ck (.eidx 23) [.inp 1, .inp 75] <|
 ck (.eload 23 true) [q2_107] <|
.seg [.call 76 [] 63 [q2_108, .inp 74] false] <|
.cond (.inp 76)
 (ck (.eidx 23) [.inp 1, .inp 75] <|
 ck (.eoff 0) [q2_107] <|
 ck (.eload 1 false) [q2_123] <|
.ret (.tup [e1 q2_123, bT]))
 (ck (.bin .add) [.inp 75, zi 1] <|
.again 0 [q2_121]))
 (.ret (.tup [zi 0, bF]))
theorem run_lockbarref18_Holder : runF E 25 [.agg (ips 0 74), .inp 74] 75 = rt_lockbarref18_Holder := by kernel_rfl
def rt_lockbarref18_Wanted : RT :=
 ck (.isAgg 74) [.agg (ipx 0 74)] <|
.loop 0 75 [zi 0] <|
 ck .len [.inp 1] <|
 ck (.bin .lss) [.inp 75, ln (.inp 1)] <|
.cond (q2_106)
 (ck (.eidx 23) [.inp 1, .inp 75] <|
 ck (.eload 23 true) [q2_107] <|
.seg [.call 76 [] 68 [q2_108, .inp 74] false] <|
 ck (.tproj 0) [.inp 76] <|
 ck (.tproj 1) [.inp 76] <|
.cond (tp 1 (.inp 76))
 (.ret (.tup [tp 0 (.inp 76), bT]))
 (ck (.bin .add) [.inp 75, zi 1] <|
.again 0 [q2_121]))
 (.ret (.tup [zi 0, bF]))
theorem run_lockbarref18_Wanted : runF E 27 [.agg (ips 0 74), .inp 74] 75 = rt_lockbarref18_Wanted := by kernel_rfl
def rt_lockbarref18_Locked : RT :=
 ck (.isAgg 74) [.agg (ipx 0 74)] <|
.loop 0 75 [zi 0] <|
 ck .len [.inp 1] <|
 ck (.bin .lss) [.inp 75, ln (.inp 1)] <|
.cond (q2_106)
 (ck (.eidx 23) [.inp 1, .inp 75] <|
 ck (.eload 23 true) [q2_107] <|
.seg [.call 76 [] 68 [q2_108, .inp 74] false] <|
 ck (.tproj 0) [.inp 76] <|
 ck (.tproj 1) [.inp 76] <|
 ckg (tp 1 (.inp 76)) true (.eidx 23) [.inp 1, .inp 75] <|
 ckg (tp 1 (.inp 76)) true (.eoff 6) [q2_107] <|
 ckg (tp 1 (.inp 76)) true (.eload 1 false) [q2_124] <|
 ckg (tp 1 (.inp 76)) true (.bin .neq) [q2_125, .int .u8 1] <|
 ck .pick [tp 1 (.inp 76), q2_126, bF] <|
.seg [.bind 77 (pk (tp 1 (.inp 76)) q2_126 bF)] <|
.cond (.inp 77)
 (.ret (bT))
 (ck (.bin .add) [.inp 75, zi 1] <|
.again 0 [q2_121]))
 (.ret (bF))
theorem run_lockbarref18_Locked : runF E 152 [.agg (ips 0 74), .inp 74] 75 = rt_lockbarref18_Locked := by kernel_rfl
def rt_lockbarref18_Free : RT :=
 ck (.isAgg 11) [.agg (ipx 0 11)] <|
 ck (.isAgg 29) [.agg (ipx 11 29)] <|
 ck (.isAgg 74) [.agg (ipx 40 74)] <|
.seg [.call 115 [] 25 [.agg (ipx 40 74), .inp 114] false] <|
 ck (.tproj 0) [.inp 115] <|
 ck (.tproj 1) [.inp 115] <|
 ck (.un .not) [tp 1 (.inp 115)] <|
.seg [.call 116 [(nt (tp 1 (.inp 115)), true)] 26 [.agg (ipx 0 11), .agg (ipx 11 29), .inp 114] false] <|
 ckg (nt (tp 1 (.inp 115))) true (.un .not) [.inp 116] <|
 ck .pick [nt (tp 1 (.inp 115)), nt (.inp 116), bF] <|
.ret (pk (nt (tp 1 (.inp 115))) (nt (.inp 116)) bF)
theorem run_lockbarref18_Free : runF E 110 [.agg (ips 0 11), .agg (ips 11 29), .agg (ips 40 74), .inp 114] 115 = rt_lockbarref18_Free := by kernel_rfl
def rt_lockbarref18_Meets : RT :=
 ck (.isAgg 11) [.agg (ipx 0 11)] <|
 ck (.isAgg 29) [.agg (ipx 11 29)] <|
 ck (.isAgg 74) [.agg (ipx 40 74)] <|
 ck (.isAgg 3) [q2_127] <|
 ck (.bin .lss) [.inp 114, zi 0] <|
 ckg (q2_128) false (.bin .geq) [.inp 114, zi 24] <|
 ck .pick [q2_128, bT, q2_129] <|
.cond (pk q2_128 bT q2_129)
 (.ret (bF))
 (.seg [.call 117 [] 28 [.agg (ipx 0 11), .agg (ipx 11 29), .inp 114] false] <|
.seg [.call 118 [] 27 [.agg (ipx 40 74), .inp 114] false] <|
 ck (.tproj 0) [.inp 118] <|
 ck (.tproj 1) [.inp 118] <|
.cond (tp 1 (.inp 118))
 (ck (.bin .eql) [tp 0 (.inp 118), .inp 115] <|
.seg [.call 119 [(q2_130, true)] 152 [.agg (ipx 40 74), .inp 114] false] <|
 ckg (q2_130) true (.un .not) [.inp 119] <|
.seg [.chk [(nt (.inp 119), false), (q2_130, true)] (.bin .eql) [.inp 117, .inp 115]] <|
 ckg (q2_130) true .pick [nt (.inp 119), bT, q2_131] <|
 ck .pick [q2_130, q2_132, bF] <|
.seg [.bind 120 (pk q2_130 q2_132 bF)] <|
.ret (.inp 120))
 (ck (.bin .eql) [.inp 117, .inp 115] <|
 ckg (q2_131) false (.inr 24) [.inp 114] <|
 ckg (q2_131) false (.inr 24) [.inp 114] <|
 ckg (q2_131) false (.aidx 24 3 4 1 false) [.agg (ipx 40 74), .inp 114] <|
 ckg (q2_131) false (.un .not) [q2_133] <|
.seg [.call 119 [(q2_134, true), (q2_131, false)] 110 [.agg (ipx 0 11), .agg (ipx 11 29), .agg (ipx 40 74), .inp 114] false] <|
 ckg (q2_131) false .pick [q2_134, .inp 119, bF] <|
 ck .pick [q2_131, bT, q2_135] <|
.seg [.bind 120 (pk q2_131 bT q2_135),
.bind 121 (q2_133),
.bind 122 (q2_134),
.bind 123 (q2_135)] <|
.ret (.inp 120)))
theorem run_lockbarref18_Meets : runF E 111 [.agg (ips 0 11), .agg (ips 11 29), .agg (ips 40 74), .agg [.inp 114, .inp 115, .inp 116]] 117 = rt_lockbarref18_Meets := by kernel_rfl
def rt_lockbarref18_Can : RT :=
 ck (.isAgg 11) [.agg (ipx 0 11)] <|
 ck (.isAgg 29) [.agg (ipx 11 29)] <|
 ck (.isAgg 74) [.agg (ipx 40 74)] <|
 ck (.isAgg 3) [q2_127] <|
.loop 0 117 [zi 0] <|
 ck .len [.inp 41] <|
 ck (.bin .lss) [.inp 117, ln (.inp 41)] <|
.cond (bi .lss (.inp 117) (ln (.inp 41)))
 (.seg [.chk [] (.eidx 23) [.inp 41, .inp 117],
.chk [] (.eoff 1) [q2_136],
.chk [] (.eoff 0) [q2_137],
.chk [] (.eload 1 false) [q2_138],
.chk [] (.bin .eql) [q2_139, .inp 114],
.chk [(q2_140, true)] (.eidx 23) [.inp 41, .inp 117],
.chk [(q2_140, true)] (.eoff 6) [q2_136],
.chk [(q2_140, true)] (.eload 1 false) [q2_141],
.chk [(q2_140, true)] (.bin .neq) [q2_142, .int .u8 3],
.chk [] .pick [q2_140, q2_143, bF]] <|
.seg [.bind 118 (pk q2_140 q2_143 bF)] <|
.cond (.inp 118)
 (.ret (zi 190))
 (ck (.bin .add) [.inp 117, zi 1] <|
.again 0 [bi .add (.inp 117) (zi 1)]))
 (.seg [.chk [] (.szs 3) [.inp 116],
.chk [] .app [.app .lst [], .inp 116],
.call 118 [] 31 [.agg (ipx 0 11), .inp 115] false,
.chk [] (.szs 3) [.inp 118],
.chk [] .app [q2_144, .inp 118]] <|
.loop 0 119 [zi 0] <|
 ck .len [q2_145] <|
 ck (.bin .lss) [.inp 119, q2_146] <|
.cond (bi .lss (.inp 119) q2_146)
 (.seg [.chk [] (.eidx 3) [q2_145, .inp 119],
.chk [] (.inr 4294967296) [.inp 119],
.chk [] (.rowget 3 0 1 false) [q2_145, .inp 119],
.call 120 [] 110 [.agg (ipx 0 11), .agg (ipx 11 29), .agg (ipx 40 74), .app (.rowget 3 0 1 false) [q2_145, .inp 119]] false,
.chk [] (.un .not) [.inp 120]] <|
.cond (.inp 120)
 (ck (.bin .add) [.inp 119, zi 1] <|
.again 0 [bi .add (.inp 119) (zi 1)])
 (.ret (zi 190)))
 (.seg [.call 120 [] 32 [.agg (ipx 0 11), q2_127] false] <|
.loop 0 121 [zi 0] <|
 ck .len [.inp 120] <|
 ck (.bin .lss) [.inp 121, ln (.inp 120)] <|
.cond (bi .lss (.inp 121) (ln (.inp 120)))
 (.seg [.chk [] (.eidx 3) [.inp 120, .inp 121],
.chk [] (.eload 3 true) [q2_147],
.call 122 [] 111 [.agg (ipx 0 11), .agg (ipx 11 29), .agg (ipx 40 74), el 3 q2_147] false,
.chk [] (.un .not) [.inp 122]] <|
.cond (.inp 122)
 (ck (.bin .add) [.inp 121, zi 1] <|
.again 0 [bi .add (.inp 121) (zi 1)])
 (.ret (zi 190)))
 (ck .len [.inp 41] <|
 ck (.bin .geq) [ln (.inp 41), zi 6] <|
.cond (bi .geq (ln (.inp 41)) (zi 6))
 (.ret (zi 191))
 (.ret (zi 0)))))
theorem run_lockbarref18_Can : runF E 59 [.agg (ips 0 11), .agg (ips 11 29), .agg (ips 40 74), .agg [.inp 114, .inp 115, .inp 116]] 117 = rt_lockbarref18_Can := by kernel_rfl
def rt_lockbarref05_Ports : RT :=
 ck (.bin .eql) [.inp 0, .int .u8 1] <|
.cond (bi .eql (.inp 0) (.int .u8 1))
 (.ret (zi 2))
 (ck (.bin .eql) [.inp 0, .int .u8 2] <|
.cond (bi .eql (.inp 0) (.int .u8 2))
 (.ret (zi 3))
 (ck (.bin .eql) [.inp 0, .int .u8 3] <|
.cond (bi .eql (.inp 0) (.int .u8 3))
 (.ret (zi 4))
 (.ret (zi 0))))
theorem run_lockbarref05_Ports : runF E 194 [.inp 0] 1 = rt_lockbarref05_Ports := by kernel_rfl
def rt_lockbarref05_May : RT :=
 ck (.isAgg 2) [.agg [.inp 0, .inp 1]] <|
 ck (.eqa [ some .i64, some .i64] false) [.agg [.inp 0, .inp 1], .agg [zi (-1), zi 0]] <|
 ckg (q2_148) false (.bin .geq) [.inp 0, zi 0] <|
.seg [.chk [(bi .geq (.inp 0) (zi 0), true), (q2_148, false)] (.bin .lss) [.inp 0, zi 24]] <|
 ckg (q2_148) false .pick [bi .geq (.inp 0) (zi 0), q2_149, bF] <|
.seg [.chk [(q2_150, true), (q2_148, false)] (.bin .geq) [.inp 1, zi 0]] <|
 ckg (q2_148) false .pick [q2_150, bi .geq (.inp 1) (zi 0), bF] <|
.seg [.chk [(q2_151, true), (q2_148, false)] (.bin .lss) [.inp 1, zi 4]] <|
 ckg (q2_148) false .pick [q2_151, bi .lss (.inp 1) (zi 4), bF] <|
 ck .pick [q2_148, bT, q2_152] <|
.seg [.bind 2 (pk q2_148 bT q2_152),
.bind 3 (q2_151),
.bind 4 (q2_152)] <|
.ret (.inp 2)
theorem run_lockbarref05_May : runF E 242 [.agg [.inp 0, .inp 1]] 2 = rt_lockbarref05_May := by kernel_rfl
def rt_lockbarref05_Right : RT :=
 ck (.isAgg 11) [.agg (ipx 0 11)] <|
.loop 0 11 [zi 0] <|
 ck (.bin .lss) [.inp 11, zi 4] <|
.cond (bi .lss (.inp 11) (zi 4))
 (.seg [.call 12 [] 194 [.inp 0] false] <|
 ck (.bin .lss) [.inp 11, .inp 12] <|
 ckg (q2_153) true (.inr 4) [.inp 11] <|
 ckg (q2_153) true (.aidx 4 2 1 2 true) [.agg (ipx 0 11), .inp 11] <|
.seg [.call 13 [(q2_153, true)] 242 [q2_154] false] <|
 ckg (q2_153) true (.un .not) [.inp 13] <|
 ck .pick [q2_153, nt (.inp 13), bF] <|
.seg [.call 14 [(q2_155, false)] 194 [.inp 0] false] <|
 ckg (q2_155) false (.bin .geq) [.inp 11, .inp 14] <|
.seg [.chk [(q2_156, true), (q2_155, false)] (.inr 4) [.inp 11]] <|
.seg [.chk [(q2_156, true), (q2_155, false)] (.aidx 4 2 1 2 true) [.agg (ipx 0 11), .inp 11]] <|
.seg [.chk [(q2_156, true), (q2_155, false)] (.eqa [ some .i64, some .i64] true) [q2_154, .agg [zi (-1), zi 0]]] <|
 ckg (q2_155) false .pick [q2_156, q2_157, bF] <|
 ck .pick [q2_155, bT, q2_158] <|
.seg [.bind 15 (q2_154),
.bind 16 (q2_157),
.bind 17 (q2_158),
.bind 18 (pk q2_155 bT q2_158)] <|
.cond (.inp 18)
 (.ret (bF))
 (ck (.bin .add) [.inp 11, zi 1] <|
.again 0 [bi .add (.inp 11) (zi 1)]))
 (.loop 0 12 [zi 0] <|
 ck (.bin .lss) [.inp 12, zi 2] <|
.cond (bi .lss (.inp 12) (zi 2))
 (ck (.inr 2) [.inp 12] <|
 ck (.aidx 2 1 9 1 false) [.agg (ipx 0 11), .inp 12] <|
 ck (.bin .lss) [q2_159, zi 0] <|
 ckg (q2_160) false (.inr 2) [.inp 12] <|
 ckg (q2_160) false (.aidx 2 1 9 1 false) [.agg (ipx 0 11), .inp 12] <|
 ckg (q2_160) false (.bin .gtr) [q2_159, zi 3] <|
 ck .pick [q2_160, bT, q2_161] <|
.seg [.call 13 [(q2_162, false)] 196 [.inp 0] false] <|
 ckg (q2_162) false (.bin .geq) [.inp 12, .inp 13] <|
.seg [.chk [(q2_163, true), (q2_162, false)] (.inr 2) [.inp 12]] <|
.seg [.chk [(q2_163, true), (q2_162, false)] (.aidx 2 1 9 1 false) [.agg (ipx 0 11), .inp 12]] <|
.seg [.chk [(q2_163, true), (q2_162, false)] (.bin .neq) [q2_159, zi 0]] <|
 ckg (q2_162) false .pick [q2_163, q2_164, bF] <|
 ck .pick [q2_162, bT, q2_165] <|
.seg [.bind 14 (q2_159),
.bind 15 (q2_160),
.bind 16 (q2_161),
.bind 17 (q2_162),
.bind 18 (q2_164),
.bind 19 (q2_165),
.bind 20 (pk q2_162 bT q2_165)] <|
.cond (.inp 20)
 (.ret (bF))
 (ck (.bin .add) [.inp 12, zi 1] <|
.again 0 [bi .add (.inp 12) (zi 1)]))
 (.seg [.call 13 [] 194 [.inp 0] false] <|
 ck (.bin .gtr) [.inp 13, zi 0] <|
.ret (bi .gtr (.inp 13) (zi 0))))
theorem run_lockbarref05_Right : runF E 193 [.agg (ips 0 11)] 11 = rt_lockbarref05_Right := by kernel_rfl
def rt_lockbarref06_there : RT :=
 ck (.isAgg 11) [.agg (ipx 0 11)] <|
 ck (.isAgg 2) [.agg [.inp 11, .inp 12]] <|
.seg [.call 13 [] 241 [.agg (ipx 0 11), .agg [.inp 11, .inp 12]] false] <|
 ck (.tproj 0) [.inp 13] <|
 ck (.tproj 1) [.inp 13] <|
 ck (.isAgg 11) [tp 0 (.inp 13)] <|
.ret (tp 1 (.inp 13))
theorem run_lockbarref06_there : runF E 189 [.agg (ips 0 11), .agg [.inp 11, .inp 12]] 13 = rt_lockbarref06_there := by kernel_rfl
def rt_lockbarref06_section : RT :=
 ck (.isAgg 11) [.agg (ipx 0 11)] <|
 ck (.isAgg 11) [.agg (ipx 11 11)] <|
.loop 0 22 [zi 0] <|
 ck (.bin .lss) [.inp 22, zi 4] <|
.cond (bi .lss (.inp 22) (zi 4))
 (.seg [.chk [] (.inr 4) [.inp 22],
.chk [] (.inr 4) [.inp 22],
.chk [] (.aidx 4 2 1 1 false) [.agg (ipx 11 11), .inp 22],
.chk [] (.bin .geq) [q2_166, zi 0],
.chk [(q2_167, true)] (.inr 4) [.inp 22],
.chk [(q2_167, true)] (.aidx 4 2 1 2 true) [.agg (ipx 11 11), .inp 22],
.call 23 [(q2_167, true)] 189 [.agg (ipx 0 11), q2_168] false,
.chk [(q2_167, true)] (.un .not) [.inp 23],
.chk [] .pick [q2_167, nt (.inp 23), bF]] <|
.seg [.bind 24 (q2_166),
.bind 25 (q2_167),
.bind 26 (q2_168),
.bind 27 (pk q2_167 (nt (.inp 23)) bF)] <|
.cond (.inp 27)
 (.ret (bF))
 (ck (.bin .add) [.inp 22, zi 1] <|
.again 0 [bi .add (.inp 22) (zi 1)]))
 (.seg [.call 23 [] 193 [.agg (ipx 11 11)] false] <|
.ret (.inp 23))
theorem run_lockbarref06_section : runF E 188 [.agg (ips 0 11), .agg (ips 11 11)] 22 = rt_lockbarref06_section := by kernel_rfl
def rt_lockbarref06_exit : RT :=
 ck (.isAgg 11) [.agg (ipx 0 11)] <|
 ck (.isAgg 3) [.agg [.inp 11, .inp 12, .inp 13]] <|
.loop 0 14 [zi 0] <|
 ck .len [.inp 13] <|
 ck (.bin .lss) [.inp 14, ln (.inp 13)] <|
.cond (bi .lss (.inp 14) (ln (.inp 13)))
 (.seg [.chk [] (.eidx 3) [.inp 13, .inp 14],
.chk [] (.eload 3 true) [q2_169],
.call 15 [] 114 [.agg (ipx 0 11), el 3 q2_169] false,
.chk [] (.tproj 0) [.inp 15],
.chk [] (.tproj 1) [.inp 15]] <|
 ck (.un .not) [tp 1 (.inp 15)] <|
.cond (tp 1 (.inp 15))
 (ck (.bin .add) [.inp 14, zi 1] <|
.again 0 [bi .add (.inp 14) (zi 1)])
 (.ret (bF)))
 (.seg [.call 15 [] 189 [.agg (ipx 0 11), .agg [.inp 11, .inp 12]] false] <|
 ckg (.inp 15) true .len [.inp 13] <|
 ckg (.inp 15) true (.bin .leq) [ln (.inp 13), zi 2] <|
 ck .pick [.inp 15, q2_170, bF] <|
.ret (pk (.inp 15) q2_170 bF))
theorem run_lockbarref06_exit : runF E 190 [.agg (ips 0 11), .agg [.inp 11, .inp 12, .inp 13]] 14 = rt_lockbarref06_exit := by kernel_rfl
end
end Go.Lb.LK
namespace Go.Lb.LK
open Go Go.Lb Go.Proofs
noncomputable section
@[simp] def q3_0 : SE := bi .lss (.inp 11) (zi 0)
@[simp] def q3_1 : SE := bi .geq (.inp 11) (ln (.inp 0))
@[simp] def q3_2 : SE := pk q3_0 bT q3_1
@[simp] def q3_3 : SE := bi .lss (.inp 13) (zi 0)
@[simp] def q3_4 : SE := pk q3_2 bT q3_3
@[simp] def q3_5 : SE := bi .geq (.inp 13) (ln (.inp 0))
@[simp] def q3_6 : SE := pk q3_4 bT q3_5
@[simp] def q3_7 : SE := bi .eql (.inp 11) (.inp 13)
@[simp] def q3_8 : SE := pk q3_6 bT q3_7
@[simp] def q3_9 : SE := bi .lss (.inp 14) (zi 0)
@[simp] def q3_10 : SE := pk q3_8 bT q3_9
@[simp] def q3_11 : SE := bi .gtr (.inp 14) (zi 1)
@[simp] def q3_12 : SE := bi .geq (.inp 12) (zi 0)
@[simp] def q3_13 : SE := ei 11 (.inp 0) (.inp 11)
@[simp] def q3_14 : SE := .app (.eoff 0) [q3_13]
@[simp] def q3_15 : SE := e1 q3_14
@[simp] def q3_16 : SE := bi .lss (.inp 12) (.inp 20)
@[simp] def q3_17 : SE := pk q3_12 q3_16 bF
@[simp] def q3_18 : SE := ei 11 (.inp 0) (.inp 13)
@[simp] def q3_19 : SE := .app (.eoff 0) [q3_18]
@[simp] def q3_20 : SE := e1 q3_19
@[simp] def q3_21 : SE := bi .eql q3_20 (.int .u8 2)
@[simp] def q3_22 : SE := .app (.aidx 7 1 0 1 false) [.agg (ipx 0 7), .inp 7]
@[simp] def q3_23 : SE := bi .lss q3_22 (zi 1)
@[simp] def q3_24 : SE := bi .gtr q3_22 (zi 1000)
@[simp] def q3_25 : SE := bi .lss (.inp 11) (ln (.inp 0))
@[simp] def q3_26 : SE := el 11 q3_13
@[simp] def q3_27 : SE := bi .add (.inp 11) (zi 1)
@[simp] def q3_28 : SE := .app (.eoff 0) [ei 2 (.inp 1) (.inp 12)]
@[simp] def q3_29 : SE := el 2 q3_28
@[simp] def q3_30 : SE := bi .add (.inp 12) (zi 1)
@[simp] def q3_31 : SE := bi .add (.inp 13) (zi 1)
@[simp] def q3_32 : SE := bi .add (.inp 14) (zi 1)
@[simp] def q3_33 : SE := bi .leq (ln (.inp 0)) (zi 24)
@[simp] def q3_34 : SE := bi .leq (ln (.inp 1)) (zi 12)
@[simp] def q3_35 : SE := pk q3_33 q3_34 bF
@[simp] def q3_36 : SE := bi .leq (ln (.inp 2)) (zi 12)
@[simp] def q3_37 : SE := pk q3_35 q3_36 bF
@[simp] def q3_38 : SE := bi .leq (ln (.inp 3)) (zi 16)
@[simp] def q3_39 : SE := pk q3_37 q3_38 bF
@[simp] def q3_40 : SE := .app (.eoff 0) [ei 2 (.inp 1) (.inp 13)]
@[simp] def q3_41 : SE := el 2 q3_40
@[simp] def q3_42 : SE := bi .geq (.inp 11) (zi 0)
@[simp] def q3_43 : SE := pk q3_42 q3_25 bF
@[simp] def q3_44 : SE := pk q3_43 q3_12 bF
@[simp] def q3_45 : SE := bi .lss (.inp 12) (.inp 13)
@[simp] def q3_46 : SE := .app (.eoff 1) [q3_13]
@[simp] def q3_47 : SE := .app (.eaidx 4 2) [q3_46, .inp 12]
@[simp] def q3_48 : SE := el 2 q3_47
@[simp] def q3_49 : SE := bi .lss (.inp 11) (zi 24)
@[simp] def q3_50 : SE := .agg (ptx (q3_26) 0 11)
@[simp] def q3_51 : SE := .app (.aidx 4 2 1 2 true) [q3_50, .inp 13]
@[simp] def q3_52 : SE := .app (.eqa [ some .i64, some .i64] true) [.agg [.inp 16, .inp 17], .inp 18]
@[simp] def q3_53 : SE := bi .eql (.inp 16) (.inp 11)
@[simp] def q3_54 : SE := pk (nt (.inp 19)) bT q3_53
@[simp] def q3_55 : SE := .app (.eqa [ some .i64, some .i64] true) [.inp 20, .agg [.inp 11, .inp 13]]
@[simp] def q3_56 : SE := pk q3_54 bT q3_55
@[simp] def q3_57 : SE := bi .lss (.inp 12) (.inp 11)
@[simp] def q3_58 : SE := .app (.eoff 0) [ei 2 (.inp 1) (.inp 11)]
@[simp] def q3_59 : SE := el 2 q3_58
@[simp] def q3_60 : SE := bi .lss (.inp 11) (ln (.inp 2))
@[simp] def q3_61 : SE := .app (.eoff 0) [ei 3 (.inp 2) (.inp 12)]
@[simp] def q3_62 : SE := .app (.eoff 0) [ei 3 (.inp 2) (.inp 11)]
@[simp] def q3_63 : SE := el 2 q3_61
@[simp] def q3_64 : SE := el 2 q3_62
@[simp] def q3_65 : SE := pk (nt (.inp 12)) bT q3_0
@[simp] def q3_66 : SE := bi .geq (.inp 11) (ln (.inp 2))
@[simp] def q3_67 : SE := .app (.eoff 2) [ei 3 (.inp 2) (.inp 11)]
@[simp] def q3_68 : SE := e1 q3_67
@[simp] def q3_69 : SE := ln q3_68
@[simp] def q3_70 : SE := ei 3 q3_68 (.inp 14)
@[simp] def q3_71 : SE := .app (.eoff 0) [q3_70]
@[simp] def q3_72 : SE := .app (.eoff 1) [q3_70]
@[simp] def q3_73 : SE := e1 q3_71
@[simp] def q3_74 : SE := e1 q3_72
@[simp] def q3_75 : SE := .agg [q3_73, q3_74]
@[simp] def q3_76 : SE := .app (.eqa [ some .i64, some .i64] true) [.inp 17, q3_75]
@[simp] def q3_77 : SE := .app (.eoff 0) [q3_62]
@[simp] def q3_78 : SE := e1 q3_77
@[simp] def q3_79 : SE := bi .eql q3_73 q3_78
@[simp] def q3_80 : SE := ei 3 q3_68 (.inp 21)
@[simp] def q3_81 : SE := .app (.eoff 0) [q3_80]
@[simp] def q3_82 : SE := e1 q3_81
@[simp] def q3_83 : SE := .app (.eoff 2) [q3_70]
@[simp] def q3_84 : SE := e1 q3_83
@[simp] def q3_85 : SE := el 4 (ei 4 (.inp 3) (.inp 12))
@[simp] def q3_86 : SE := el 4 (ei 4 (.inp 3) (.inp 11))
@[simp] def q3_87 : SE := pt 0 q3_85
@[simp] def q3_88 : SE := pt 0 q3_86
@[simp] def q3_89 : SE := bi .eql q3_87 q3_88
@[simp] def q3_90 : SE := pt 1 q3_85
@[simp] def q3_91 : SE := pt 1 q3_86
@[simp] def q3_92 : SE := bi .eql q3_90 q3_91
@[simp] def q3_93 : SE := pk q3_89 q3_92 bF
@[simp] def q3_94 : SE := pt 2 q3_85
@[simp] def q3_95 : SE := pt 2 q3_86
@[simp] def q3_96 : SE := bi .eql q3_94 q3_95
@[simp] def q3_97 : SE := .app (.aidx 4 1 0 1 false) [.agg (ipx 13 4), .inp 17]
@[simp] def q3_98 : SE := ei 3 (.inp 11) (.inp 12)
@[simp] def q3_99 : SE := bi .gtr (.inp 12) (zi 0)
@[simp] def q3_100 : SE := bi .sub (.inp 12) (zi 1)
@[simp] def q3_101 : SE := ei 3 (.inp 11) q3_100
@[simp] def q3_102 : SE := .app (.eoff 0) [q3_101]
@[simp] def q3_103 : SE := .app (.eoff 2) [q3_101]
@[simp] def q3_104 : SE := e1 q3_102
@[simp] def q3_105 : SE := e1 q3_103
@[simp] def q3_106 : SE := .app (.eoff 0) [q3_98]
@[simp] def q3_107 : SE := .app (.eoff 1) [q3_98]
@[simp] def q3_108 : SE := e1 q3_106
@[simp] def q3_109 : SE := e1 q3_107
@[simp] def q3_110 : SE := .agg [q3_108, q3_109]
@[simp] def q3_111 : SE := .app (.eqa [ some .i64, some .i64] true) [.inp 14, q3_110]
@[simp] def q3_112 : SE := pk q3_99 q3_111 bF
@[simp] def q3_113 : SE := bi .lss (.inp 3) (.inp 2)
@[simp] def q3_114 : SE := .app (.eoff 0) [ei 3 (.inp 0) (.inp 3)]
@[simp] def q3_115 : SE := .app (.eoff 0) [ei 3 (.inp 0) (.inp 2)]
@[simp] def q3_116 : SE := e1 q3_114
@[simp] def q3_117 : SE := e1 q3_115
@[simp] def q3_118 : SE := .app (.eoff 0) [ei 3 (.inp 1) (.inp 4)]
@[simp] def q3_119 : SE := e1 q3_118
@[simp] def q3_120 : SE := .agg [.inp 0, .inp 1, .inp 2]
@[simp] def q3_121 : SE := bi .lss (.inp 6) (ln (.inp 2))
@[simp] def q3_122 : SE := .app (.eoff 0) [ei 3 (.inp 2) (.inp 6)]
@[simp] def q3_123 : SE := e1 q3_122
@[simp] def q3_124 : SE := e1 (ei 1 (.inp 3) (.inp 5))
@[simp] def q3_125 : SE := bi .neq q3_123 q3_124
@[simp] def q3_126 : SE := .agg [.inp 11, .inp 12, .inp 13]
@[simp] def q3_127 : SE := pk (nt (.inp 15)) bT q3_0
@[simp] def q3_128 : SE := bi .geq (.inp 11) (ln (.inp 1))
@[simp] def q3_129 : SE := pk q3_127 bT q3_128
@[simp] def q3_130 : SE := bi .lss (.inp 12) (zi 0)
@[simp] def q3_131 : SE := pk q3_129 bT q3_130
@[simp] def q3_132 : SE := bi .geq (.inp 12) (ln (.inp 2))
@[simp] def q3_133 : SE := pk q3_131 bT q3_132
@[simp] def q3_134 : SE := bi .gtr (ln (.inp 14)) (zi 2)
@[simp] def q3_135 : SE := ei 1 (.inp 14) (.inp 20)
@[simp] def q3_136 : SE := e1 q3_135
@[simp] def q3_137 : SE := bi .lss q3_136 (zi 0)
@[simp] def q3_138 : SE := bi .geq q3_136 (ln (.inp 0))
@[simp] def q3_139 : SE := bi .lss (ln (.inp 13)) (zi 1)
@[simp] def q3_140 : SE := bi .gtr (ln (.inp 13)) (zi 12)
@[simp] def q3_141 : SE := pk q3_139 bT q3_140
@[simp] def q3_142 : SE := pk q3_141 bT (nt (.inp 21))
@[simp] def q3_143 : SE := .app (.eoff 2) [ei 3 (.inp 2) (.inp 12)]
@[simp] def q3_144 : SE := pk q3_142 bT (nt (.inp 22))
@[simp] def q3_145 : SE := .app (.eoff 0) [ei 3 (.inp 13) (zi 0)]
@[simp] def q3_146 : SE := .app (.eoff 1) [ei 3 (.inp 13) (zi 0)]
@[simp] def q3_147 : SE := e1 q3_145
@[simp] def q3_148 : SE := e1 q3_146
@[simp] def q3_149 : SE := .agg [q3_147, q3_148]
@[simp] def q3_150 : SE := .app (.eqa [ some .i64, some .i64] true) [q3_59, q3_149]
@[simp] def q3_151 : SE := bi .sub (ln (.inp 13)) (zi 1)
@[simp] def q3_152 : SE := ei 3 (.inp 13) q3_151
@[simp] def q3_153 : SE := .app (.eoff 0) [q3_152]
@[simp] def q3_154 : SE := .app (.eoff 2) [q3_152]
@[simp] def q3_155 : SE := e1 q3_153
@[simp] def q3_156 : SE := e1 q3_154
@[simp] def q3_157 : SE := .agg [q3_155, q3_156]
@[simp] def q3_158 : SE := .app (.eqa [ some .i64, some .i64] true) [q3_63, q3_157]
@[simp] def q3_159 : SE := ei 3 (.inp 13) (.inp 31)
@[simp] def q3_160 : SE := .app (.eoff 0) [q3_159]
@[simp] def q3_161 : SE := .app (.eoff 1) [q3_159]
@[simp] def q3_162 : SE := e1 q3_160
@[simp] def q3_163 : SE := e1 q3_161
@[simp] def q3_164 : SE := .app .app [.app .lst [], .inp 0]
@[simp] def q3_165 : SE := .app .app [q3_164, .inp 1]
@[simp] def q3_166 : SE := ln q3_165
@[simp] def q3_167 : SE := .app (.rowget 3 0 1 false) [q3_165, .inp 2]
@[simp] def q3_168 : SE := .app (.rowget 3 0 1 false) [q3_165, .inp 3]
@[simp] def q3_169 : SE := bi .eql q3_167 q3_168
@[simp] def q3_170 : SE := .app (.rowget 3 1 1 false) [q3_165, .inp 2]
@[simp] def q3_171 : SE := .app (.rowget 3 1 1 false) [q3_165, .inp 3]
@[simp] def q3_172 : SE := bi .neq q3_170 q3_171
@[simp] def q3_173 : SE := bi .leq (.inp 11) (zi 20)
@[simp] def q3_174 : SE := bi .gtr (ln (.inp 0)) (zi 30)
@[simp] def q3_175 : SE := bi .gtr (ln (.inp 1)) (zi 20)
@[simp] def q3_176 : SE := pk q3_174 bT q3_175
@[simp] def q3_177 : SE := bi .gtr (ln (.inp 2)) (zi 20)
@[simp] def q3_178 : SE := pk q3_176 bT q3_177
@[simp] def q3_179 : SE := bi .gtr (ln (.inp 3)) (zi 30)
@[simp] def q3_180 : SE := bi .gtr (ln (.inp 4)) (zi 20)
@[simp] def q3_181 : SE := pk q3_179 bT q3_180
@[simp] def q3_182 : SE := bi .gtr (ln (.inp 5)) (zi 60)
@[simp] def q3_183 : SE := pk (bi .neq (.inp 3) (zi 0)) (bi .neq (.inp 3) (zi 1)) bF
@[simp] def q3_184 : SE := bi .eql (.inp 0) (.inp 3)
def rt_lockbarref06_flank : RT :=
 ck (.isAgg 11) [.agg (ipx 0 11)] <|
 ck (.isAgg 4) [.agg (ipx 11 4)] <|
 ck .len [.inp 0] <|
 ck (.bin .lss) [.inp 11, zi 0] <|
 ckg (q3_0) false (.bin .geq) [.inp 11, ln (.inp 0)] <|
 ck .pick [q3_0, bT, q3_1] <|
 ckg (q3_2) false (.bin .lss) [.inp 13, zi 0] <|
 ck .pick [q3_2, bT, q3_3] <|
 ckg (q3_4) false (.bin .geq) [.inp 13, ln (.inp 0)] <|
 ck .pick [q3_4, bT, q3_5] <|
 ckg (q3_6) false (.bin .eql) [.inp 11, .inp 13] <|
 ck .pick [q3_6, bT, q3_7] <|
 ckg (q3_8) false (.bin .lss) [.inp 14, zi 0] <|
 ck .pick [q3_8, bT, q3_9] <|
 ckg (q3_10) false (.bin .gtr) [.inp 14, zi 1] <|
 ck .pick [q3_10, bT, q3_11] <|
.seg [.bind 15 (q3_4),
.bind 16 (q3_6),
.bind 17 (q3_8),
.bind 18 (q3_10),
.bind 19 (pk q3_10 bT q3_11)] <|
.cond (.inp 19)
 (.ret (bF))
 (.seg [.chk [] (.bin .geq) [.inp 12, zi 0],
.chk [(q3_12, true)] (.eidx 11) [.inp 0, .inp 11],
.chk [(q3_12, true)] (.eoff 0) [q3_13],
.chk [(q3_12, true)] (.eload 1 false) [q3_14],
.call 20 [(q3_12, true)] 196 [q3_15] false,
.chk [(q3_12, true)] (.bin .lss) [.inp 12, .inp 20],
.chk [] .pick [q3_12, q3_16, bF],
.chk [(q3_17, true)] (.eidx 11) [.inp 0, .inp 13],
.chk [(q3_17, true)] (.eoff 0) [q3_18],
.chk [(q3_17, true)] (.eload 1 false) [q3_19],
.chk [(q3_17, true)] (.bin .eql) [q3_20, .int .u8 2],
.chk [] .pick [q3_17, q3_21, bF]] <|
.seg [.bind 21 (pk q3_17 q3_21 bF)] <|
.ret (.inp 21))
theorem run_lockbarref06_flank : runF E 191 [.agg (ips 0 11), .agg (ips 11 4)] 15 = rt_lockbarref06_flank := by kernel_rfl
def rt_lockbarref06_times : RT :=
 ck (.isAgg 7) [.agg (ipx 0 7)] <|
.seg [.chk [] .isOne [.inp 0],
.chk [] .isOne [.inp 1],
.chk [] .isOne [.inp 2],
.chk [] .isOne [.inp 3],
.chk [] .isOne [.inp 4],
.chk [] .isOne [.inp 5],
.chk [] .isOne [.inp 6]] <|
 ck (.isAgg 7) [.agg (ipx 0 7)] <|
.loop 0 7 [zi 0] <|
 ck (.bin .lss) [.inp 7, zi 7] <|
.cond (bi .lss (.inp 7) (zi 7))
 (ck (.inr 7) [.inp 7] <|
 ck (.aidx 7 1 0 1 false) [.agg (ipx 0 7), .inp 7] <|
 ck (.bin .lss) [q3_22, zi 1] <|
 ckg (q3_23) false (.inr 7) [.inp 7] <|
 ckg (q3_23) false (.aidx 7 1 0 1 false) [.agg (ipx 0 7), .inp 7] <|
 ckg (q3_23) false (.bin .gtr) [q3_22, zi 1000] <|
 ck .pick [q3_23, bT, q3_24] <|
.seg [.bind 8 (q3_22),
.bind 9 (q3_23),
.bind 10 (q3_24),
.bind 11 (pk q3_23 bT q3_24)] <|
.cond (.inp 11)
 (.ret (bF))
 (ck (.bin .add) [.inp 7, zi 1] <|
.again 0 [bi .add (.inp 7) (zi 1)]))
 (.ret (bT))
theorem run_lockbarref06_times : runF E 192 [.agg (ips 0 7)] 7 = rt_lockbarref06_times := by kernel_rfl
def rt_lockbarref06_Right : RT :=
 ck (.isAgg 11) [.agg (ipx 0 11)] <|
.loop 0 11 [zi 0] <|
 ck .len [.inp 0] <|
 ck (.bin .lss) [.inp 11, ln (.inp 0)] <|
.cond (q3_25)
 (.seg [.chk [] (.eidx 11) [.inp 0, .inp 11],
.chk [] (.eload 11 true) [q3_13],
.call 12 [] 188 [.agg (ipx 0 11), q3_26] false,
.chk [] (.un .not) [.inp 12]] <|
.cond (.inp 12)
 (ck (.bin .add) [.inp 11, zi 1] <|
.again 0 [q3_27])
 (.ret (bF)))
 (.loop 0 12 [zi 0] <|
 ck .len [.inp 1] <|
 ck (.bin .lss) [.inp 12, ln (.inp 1)] <|
.cond (bi .lss (.inp 12) (ln (.inp 1)))
 (.seg [.chk [] (.eidx 2) [.inp 1, .inp 12],
.chk [] (.eoff 0) [ei 2 (.inp 1) (.inp 12)],
.chk [] (.eload 2 true) [q3_28],
.call 13 [] 189 [.agg (ipx 0 11), q3_29] false,
.chk [] (.un .not) [.inp 13]] <|
.cond (.inp 13)
 (ck (.bin .add) [.inp 12, zi 1] <|
.again 0 [q3_30])
 (.ret (bF)))
 (.loop 0 13 [zi 0] <|
 ck .len [.inp 2] <|
 ck (.bin .lss) [.inp 13, ln (.inp 2)] <|
.cond (bi .lss (.inp 13) (ln (.inp 2)))
 (.seg [.chk [] (.eidx 3) [.inp 2, .inp 13],
.chk [] (.eload 3 true) [ei 3 (.inp 2) (.inp 13)],
.call 14 [] 190 [.agg (ipx 0 11), el 3 (ei 3 (.inp 2) (.inp 13))] false,
.chk [] (.un .not) [.inp 14]] <|
.cond (.inp 14)
 (ck (.bin .add) [.inp 13, zi 1] <|
.again 0 [q3_31])
 (.ret (bF)))
 (.loop 0 14 [zi 0] <|
 ck .len [.inp 3] <|
 ck (.bin .lss) [.inp 14, ln (.inp 3)] <|
.cond (bi .lss (.inp 14) (ln (.inp 3)))
 (.seg [.chk [] (.eidx 4) [.inp 3, .inp 14],
.chk [] (.eload 4 true) [ei 4 (.inp 3) (.inp 14)],
.call 15 [] 191 [.agg (ipx 0 11), el 4 (ei 4 (.inp 3) (.inp 14))] false,
.chk [] (.un .not) [.inp 15]] <|
.cond (.inp 15)
 (ck (.bin .add) [.inp 14, zi 1] <|
.again 0 [q3_32])
 (.ret (bF)))
 (ck .len [.inp 0] <|
 ck (.bin .leq) [ln (.inp 0), zi 24] <|
 ckg (q3_33) true .len [.inp 1] <|
 ckg (q3_33) true (.bin .leq) [ln (.inp 1), zi 12] <|
 ck .pick [q3_33, q3_34, bF] <|
 ckg (q3_35) true .len [.inp 2] <|
 ckg (q3_35) true (.bin .leq) [ln (.inp 2), zi 12] <|
 ck .pick [q3_35, q3_36, bF] <|
 ckg (q3_37) true .len [.inp 3] <|
 ckg (q3_37) true (.bin .leq) [ln (.inp 3), zi 16] <|
 ck .pick [q3_37, q3_38, bF] <|
.seg [.call 15 [(q3_39, true)] 192 [.agg (ipx 4 7)] false] <|
 ck .pick [q3_39, .inp 15, bF] <|
.seg [.bind 16 (pk q3_39 (.inp 15) bF),
.bind 17 (q3_35),
.bind 18 (q3_37),
.bind 19 (q3_39)] <|
.ret (.inp 16)))))
theorem run_lockbarref06_Right : runF E 153 [.agg (ips 0 11)] 11 = rt_lockbarref06_Right := by kernel_rfl
def rt_lockbarref06_Signal : RT :=
 ck (.isAgg 11) [.agg (ipx 0 11)] <|
 ck (.isAgg 2) [.agg [.inp 11, .inp 12]] <|
.loop 0 13 [zi 0] <|
 ck .len [.inp 1] <|
 ck (.bin .lss) [.inp 13, ln (.inp 1)] <|
.cond (bi .lss (.inp 13) (ln (.inp 1)))
 (.seg [.chk [] (.eidx 2) [.inp 1, .inp 13],
.chk [] (.eoff 0) [ei 2 (.inp 1) (.inp 13)],
.chk [] (.eload 2 true) [q3_40],
.chk [] (.eqa [ some .i64, some .i64] false) [q3_41, .agg [.inp 11, .inp 12]]] <|
.cond (.app (.eqa [ some .i64, some .i64] false) [q3_41, .agg [.inp 11, .inp 12]])
 (.ret (.inp 13))
 (ck (.bin .add) [.inp 13, zi 1] <|
.again 0 [q3_31]))
 (.ret (zi (-1)))
theorem run_lockbarref06_Signal : runF E 73 [.agg (ips 0 11), .agg [.inp 11, .inp 12]] 13 = rt_lockbarref06_Signal := by kernel_rfl
def rt_lockbarref07_Has : RT :=
 ck (.isAgg 11) [.agg (ipx 0 11)] <|
 ck (.isAgg 2) [.agg [.inp 11, .inp 12]] <|
.seg [.chk [] (.bin .geq) [.inp 11, zi 0],
.chk [(q3_42, true)] .len [.inp 0],
.chk [(q3_42, true)] (.bin .lss) [.inp 11, ln (.inp 0)],
.chk [] .pick [q3_42, q3_25, bF],
.chk [(q3_43, true)] (.bin .geq) [.inp 12, zi 0],
.chk [] .pick [q3_43, q3_12, bF],
.chk [(q3_44, true)] (.eidx 11) [.inp 0, .inp 11],
.chk [(q3_44, true)] (.eoff 0) [q3_13],
.chk [(q3_44, true)] (.eload 1 false) [q3_14],
.call 13 [(q3_44, true)] 194 [q3_15] false,
.chk [(q3_44, true)] (.bin .lss) [.inp 12, .inp 13],
.chk [] .pick [q3_44, q3_45, bF]] <|
.seg [.bind 14 (pk q3_44 q3_45 bF),
.bind 15 (q3_44)] <|
.ret (.inp 14)
theorem run_lockbarref07_Has : runF E 160 [.agg (ips 0 11), .agg [.inp 11, .inp 12]] 13 = rt_lockbarref07_Has := by kernel_rfl
def rt_lockbarref07_none : RT :=
.ret (.agg [zi (-1), zi 0])
theorem run_lockbarref07_none : runF E 161 [] 0 = rt_lockbarref07_none := by kernel_rfl
def rt_lockbarref07_Beyond : RT :=
 ck (.isAgg 11) [.agg (ipx 0 11)] <|
 ck (.isAgg 2) [.agg [.inp 11, .inp 12]] <|
.seg [.call 13 [] 160 [.agg (ipx 0 11), .agg [.inp 11, .inp 12]] false] <|
 ck (.un .not) [.inp 13] <|
.cond (.inp 13)
 (.seg [.chk [] (.eidx 11) [.inp 0, .inp 11],
.chk [] (.eoff 1) [q3_13],
.chk [] (.eaidx 4 2) [q3_46, .inp 12],
.chk [] (.eload 2 true) [q3_47],
.chk [] (.isAgg 2) [q3_48]] <|
.ret (.agg [pt 0 q3_48, pt 1 q3_48]))
 (.seg [.call 14 [] 161 [] false] <|
 ck (.isAgg 2) [.inp 14] <|
.ret (.agg [pt 0 (.inp 14), pt 1 (.inp 14)]))
theorem run_lockbarref07_Beyond : runF E 115 [.agg (ips 0 11), .agg [.inp 11, .inp 12]] 13 = rt_lockbarref07_Beyond := by kernel_rfl
def rt_lockbarref07_Joined : RT :=
 ck (.isAgg 11) [.agg (ipx 0 11)] <|
.loop 0 11 [zi 0] <|
 ck .len [.inp 0] <|
 ck (.bin .lss) [.inp 11, ln (.inp 0)] <|
 ckg (q3_25) true (.bin .lss) [.inp 11, zi 24] <|
 ck .pick [q3_25, q3_49, bF] <|
.cond (pk q3_25 q3_49 bF)
 (ck (.eidx 11) [.inp 0, .inp 11] <|
 ck (.eload 11 true) [q3_13] <|
 ck (.isAgg 11) [q3_26] <|
.seg [.call 12 [] 193 [q3_50] false] <|
 ck (.un .not) [.inp 12] <|
.cond (.inp 12)
 (.loop 1 13 [zi 0] <|
.seg [.call 14 [] 194 [pt 0 q3_26] false] <|
 ck (.bin .lss) [.inp 13, .inp 14] <|
.cond (bi .lss (.inp 13) (.inp 14))
 (ck (.inr 4) [.inp 13] <|
 ck (.aidx 4 2 1 2 true) [q3_50, .inp 13] <|
 ck (.isAgg 2) [q3_51] <|
.seg [.bind 15 (q3_51),
.bind 16 (pt 0 q3_51),
.bind 17 (pt 1 q3_51)] <|
.seg [.call 18 [] 161 [] false,
.chk [] (.eqa [ some .i64, some .i64] true) [.agg [.inp 16, .inp 17], .inp 18],
.call 19 [(q3_52, true)] 160 [.agg (ipx 0 11), .agg [.inp 16, .inp 17]] false,
.chk [(q3_52, true)] (.un .not) [.inp 19],
.chk [(nt (.inp 19), false), (q3_52, true)] (.bin .eql) [.inp 16, .inp 11],
.chk [(q3_52, true)] .pick [nt (.inp 19), bT, q3_53],
.call 20 [(q3_54, false), (q3_52, true)] 115 [.agg (ipx 0 11), .agg [.inp 16, .inp 17]] false,
.chk [(q3_54, false), (q3_52, true)] .isOne [.inp 11],
.chk [(q3_54, false), (q3_52, true)] .isOne [.inp 13],
.chk [(q3_54, false), (q3_52, true)] (.eqa [ some .i64, some .i64] true) [.inp 20, .agg [.inp 11, .inp 13]],
.chk [(q3_52, true)] .pick [q3_54, bT, q3_55],
.chk [] .pick [q3_52, q3_56, bF]] <|
.seg [.bind 21 (q3_56),
.bind 22 (pk q3_52 q3_56 bF)] <|
.cond (.inp 22)
 (.ret (bF))
 (ck (.bin .add) [.inp 13, zi 1] <|
.again 1 [q3_31]))
 (ck (.bin .add) [.inp 11, zi 1] <|
.again 0 [q3_27]))
 (.ret (bF)))
 (ck .len [.inp 0] <|
 ck (.bin .leq) [ln (.inp 0), zi 24] <|
.ret (q3_33))
theorem run_lockbarref07_Joined : runF E 154 [.agg (ips 0 11)] 11 = rt_lockbarref07_Joined := by kernel_rfl
def rt_lockbarref09_signals : RT :=
 ck (.isAgg 11) [.agg (ipx 0 11)] <|
.loop 0 11 [zi 0] <|
 ck .len [.inp 1] <|
 ck (.bin .lss) [.inp 11, ln (.inp 1)] <|
.cond (bi .lss (.inp 11) (ln (.inp 1)))
 (.loop 1 12 [zi 0] <|
 ck (.bin .lss) [.inp 12, .inp 11] <|
.cond (q3_57)
 (.seg [.chk [] (.eidx 2) [.inp 1, .inp 12],
.chk [] (.eoff 0) [ei 2 (.inp 1) (.inp 12)],
.chk [] (.eload 2 true) [q3_28],
.chk [] (.eidx 2) [.inp 1, .inp 11],
.chk [] (.eoff 0) [ei 2 (.inp 1) (.inp 11)],
.chk [] (.eload 2 true) [q3_58],
.chk [] (.eqa [ some .i64, some .i64] false) [q3_29, q3_59]] <|
.seg [.bind 13 (.app (.eqa [ some .i64, some .i64] false) [q3_29, q3_59])] <|
.cond (.inp 13)
 (.ret (.inp 11))
 (ck (.bin .add) [.inp 12, zi 1] <|
.again 1 [q3_30]))
 (ck (.bin .add) [.inp 11, zi 1] <|
.again 0 [q3_27]))
 (.ret (zi (-1)))
theorem run_lockbarref09_signals : runF E 155 [.agg (ips 0 11)] 11 = rt_lockbarref09_signals := by kernel_rfl
def rt_lockbarref09_exits : RT :=
 ck (.isAgg 11) [.agg (ipx 0 11)] <|
.loop 0 11 [zi 0] <|
 ck .len [.inp 2] <|
 ck (.bin .lss) [.inp 11, ln (.inp 2)] <|
.cond (q3_60)
 (.loop 1 12 [zi 0] <|
 ck (.bin .lss) [.inp 12, .inp 11] <|
.cond (q3_57)
 (.seg [.chk [] (.eidx 3) [.inp 2, .inp 12],
.chk [] (.eoff 0) [ei 3 (.inp 2) (.inp 12)],
.chk [] (.eload 2 true) [q3_61],
.chk [] (.eidx 3) [.inp 2, .inp 11],
.chk [] (.eoff 0) [ei 3 (.inp 2) (.inp 11)],
.chk [] (.eload 2 true) [q3_62],
.chk [] (.eqa [ some .i64, some .i64] false) [q3_63, q3_64]] <|
.seg [.bind 13 (.app (.eqa [ some .i64, some .i64] false) [q3_63, q3_64])] <|
.cond (.inp 13)
 (.ret (.inp 11))
 (ck (.bin .add) [.inp 12, zi 1] <|
.again 1 [q3_30]))
 (ck (.bin .add) [.inp 11, zi 1] <|
.again 0 [q3_27]))
 (.ret (zi (-1)))
theorem run_lockbarref09_exits : runF E 156 [.agg (ips 0 11)] 11 = rt_lockbarref09_exits := by kernel_rfl
def rt_lockbarref09_Over : RT :=
 ck (.isAgg 11) [.agg (ipx 0 11)] <|
.seg [.call 12 [] 153 [.agg (ipx 0 11)] false] <|
 ck (.un .not) [.inp 12] <|
 ckg (nt (.inp 12)) false (.bin .lss) [.inp 11, zi 0] <|
 ck .pick [nt (.inp 12), bT, q3_0] <|
 ckg (q3_65) false .len [.inp 2] <|
 ckg (q3_65) false (.bin .geq) [.inp 11, ln (.inp 2)] <|
 ck .pick [q3_65, bT, q3_66] <|
.seg [.bind 13 (pk q3_65 bT q3_66)] <|
.cond (.inp 13)
 (.ret (bF))
 (ck (.eidx 3) [.inp 2, .inp 11] <|
 ck (.eoff 0) [ei 3 (.inp 2) (.inp 11)] <|
 ck (.eload 2 true) [q3_62] <|
 ck (.isAgg 2) [q3_64] <|
 ck (.eidx 3) [.inp 2, .inp 11] <|
 ck (.eoff 2) [ei 3 (.inp 2) (.inp 11)] <|
 ck (.eload 1 false) [q3_67] <|
.loop 0 14 [zi 0, pt 0 q3_64, pt 1 q3_64] <|
 ck .len [q3_68] <|
 ck (.bin .lss) [.inp 14, q3_69] <|
.cond (bi .lss (.inp 14) q3_69)
 (.seg [.call 17 [] 115 [.agg (ipx 0 11), .agg [.inp 15, .inp 16]] false,
.chk [] (.eidx 3) [q3_68, .inp 14],
.chk [] (.eoff 0) [q3_70],
.chk [] (.eload 1 false) [q3_71],
.chk [] (.eidx 3) [q3_68, .inp 14],
.chk [] (.eoff 1) [q3_70],
.chk [] (.eload 1 false) [q3_72],
.chk [] .isOne [q3_73],
.chk [] .isOne [q3_74],
.chk [] (.eqa [ some .i64, some .i64] true) [.inp 17, q3_75],
.chk [(q3_76, false)] (.eidx 3) [q3_68, .inp 14],
.chk [(q3_76, false)] (.eoff 0) [q3_70],
.chk [(q3_76, false)] (.eload 1 false) [q3_71],
.chk [(q3_76, false)] (.eidx 3) [.inp 2, .inp 11],
.chk [(q3_76, false)] (.eoff 0) [ei 3 (.inp 2) (.inp 11)],
.chk [(q3_76, false)] (.eoff 0) [q3_62],
.chk [(q3_76, false)] (.eload 1 false) [q3_77],
.chk [(q3_76, false)] (.bin .eql) [q3_73, q3_78],
.chk [] .pick [q3_76, bT, q3_79]] <|
.seg [.bind 18 (q3_76),
.bind 19 (q3_79),
.bind 20 (pk q3_76 bT q3_79)] <|
.cond (.inp 20)
 (.ret (bF))
 (.loop 1 21 [zi 0] <|
 ck (.bin .lss) [.inp 21, .inp 14] <|
.cond (bi .lss (.inp 21) (.inp 14))
 (.seg [.chk [] (.eidx 3) [q3_68, .inp 21],
.chk [] (.eoff 0) [q3_80],
.chk [] (.eload 1 false) [q3_81],
.chk [] (.eidx 3) [q3_68, .inp 14],
.chk [] (.eoff 0) [q3_70],
.chk [] (.eload 1 false) [q3_71],
.chk [] (.bin .eql) [q3_82, q3_73]] <|
.seg [.bind 22 (bi .eql q3_82 q3_73)] <|
.cond (.inp 22)
 (.ret (bF))
 (ck (.bin .add) [.inp 21, zi 1] <|
.again 1 [bi .add (.inp 21) (zi 1)]))
 (.seg [.chk [] (.eidx 3) [q3_68, .inp 14],
.chk [] (.eoff 0) [q3_70],
.chk [] (.eload 1 false) [q3_71],
.chk [] (.eidx 3) [q3_68, .inp 14],
.chk [] (.eoff 2) [q3_70],
.chk [] (.eload 1 false) [q3_83],
.chk [] .isOne [q3_73],
.chk [] .isOne [q3_84],
.chk [] (.isAgg 2) [.agg [q3_73, q3_84]]] <|
 ck (.bin .add) [.inp 14, zi 1] <|
.again 0 [q3_32, q3_73, q3_84])))
 (.ret (bT)))
theorem run_lockbarref09_Over : runF E 195 [.agg (ips 0 11), .inp 11] 12 = rt_lockbarref09_Over := by kernel_rfl
def rt_lockbarref09_overs : RT :=
 ck (.isAgg 11) [.agg (ipx 0 11)] <|
.loop 0 11 [zi 0] <|
 ck .len [.inp 2] <|
 ck (.bin .lss) [.inp 11, ln (.inp 2)] <|
.cond (q3_60)
 (.seg [.call 12 [] 195 [.agg (ipx 0 11), .inp 11] false] <|
 ck (.un .not) [.inp 12] <|
.cond (.inp 12)
 (ck (.bin .add) [.inp 11, zi 1] <|
.again 0 [q3_27])
 (.ret (.inp 11)))
 (.ret (zi (-1)))
theorem run_lockbarref09_overs : runF E 157 [.agg (ips 0 11)] 11 = rt_lockbarref09_overs := by kernel_rfl
def rt_lockbarref09_flanks : RT :=
 ck (.isAgg 11) [.agg (ipx 0 11)] <|
.loop 0 11 [zi 0] <|
 ck .len [.inp 3] <|
 ck (.bin .lss) [.inp 11, ln (.inp 3)] <|
.cond (bi .lss (.inp 11) (ln (.inp 3)))
 (.loop 1 12 [zi 0] <|
 ck (.bin .lss) [.inp 12, .inp 11] <|
.cond (q3_57)
 (.seg [.chk [] (.eidx 4) [.inp 3, .inp 12],
.chk [] (.eload 4 true) [ei 4 (.inp 3) (.inp 12)],
.chk [] (.eidx 4) [.inp 3, .inp 11],
.chk [] (.eload 4 true) [ei 4 (.inp 3) (.inp 11)],
.chk [] (.isAgg 4) [q3_85],
.chk [] (.isAgg 4) [q3_86]] <|
 ck (.bin .eql) [q3_87, q3_88] <|
 ckg (q3_89) true (.bin .eql) [q3_90, q3_91] <|
 ck .pick [q3_89, q3_92, bF] <|
 ckg (q3_93) true (.bin .eql) [q3_94, q3_95] <|
 ck .pick [q3_93, q3_96, bF] <|
.seg [.bind 13 (q3_89),
.bind 14 (q3_92),
.bind 15 (q3_93),
.bind 16 (q3_96),
.bind 17 (pk q3_93 q3_96 bF)] <|
.cond (.inp 17)
 (.ret (.inp 11))
 (ck (.bin .add) [.inp 12, zi 1] <|
.again 1 [q3_30]))
 (ck (.bin .add) [.inp 11, zi 1] <|
.again 0 [q3_27]))
 (.ret (zi (-1)))
theorem run_lockbarref09_flanks : runF E 158 [.agg (ips 0 11)] 11 = rt_lockbarref09_flanks := by kernel_rfl
def rt_lockbarref09_Check : RT :=
 ck (.isAgg 11) [.agg (ipx 0 11)] <|
.seg [.call 11 [] 153 [.agg (ipx 0 11)] false] <|
 ck (.un .not) [.inp 11] <|
.cond (.inp 11)
 (.seg [.call 12 [] 154 [.agg (ipx 0 11)] false] <|
 ck (.un .not) [.inp 12] <|
.cond (.inp 12)
 (.seg [.call 13 [] 155 [.agg (ipx 0 11)] false,
.call 14 [] 156 [.agg (ipx 0 11)] false,
.call 15 [] 157 [.agg (ipx 0 11)] false,
.call 16 [] 158 [.agg (ipx 0 11)] false,
.chk [] .isOne [.inp 13],
.chk [] .isOne [.inp 14],
.chk [] .isOne [.inp 15],
.chk [] .isOne [.inp 16],
.chk [] (.isAgg 4) [.agg (ipx 13 4)]] <|
.loop 0 17 [zi 0] <|
 ck (.bin .lss) [.inp 17, zi 4] <|
.cond (bi .lss (.inp 17) (zi 4))
 (ck (.inr 4) [.inp 17] <|
 ck (.aidx 4 1 0 1 false) [.agg (ipx 13 4), .inp 17] <|
 ck (.bin .geq) [q3_97, zi 0] <|
.cond (bi .geq q3_97 (zi 0))
 (.seg [.chk [] (.bin .add) [.inp 17, zi 2],
.chk [] (.inr 4) [.inp 17],
.chk [] (.aidx 4 1 0 1 false) [.agg (ipx 13 4), .inp 17]] <|
.ret (.tup [bi .add (.inp 17) (zi 2), q3_97, zi 90]))
 (ck (.bin .add) [.inp 17, zi 1] <|
.again 0 [bi .add (.inp 17) (zi 1)]))
 (.ret (.tup [zi 0, zi 0, zi 0])))
 (.ret (.tup [zi 1, zi 0, zi 90])))
 (.ret (.tup [zi 0, zi 0, zi 60]))
theorem run_lockbarref09_Check : runF E 113 [.agg (ips 0 11)] 11 = rt_lockbarref09_Check := by kernel_rfl
def rt_lockbarref09_Right : RT :=
 ck (.isAgg 11) [.agg (ipx 0 11)] <|
.seg [.call 11 [] 113 [.agg (ipx 0 11)] false] <|
 ck (.tproj 0) [.inp 11] <|
 ck (.tproj 1) [.inp 11] <|
 ck (.tproj 2) [.inp 11] <|
 ck (.bin .eql) [tp 2 (.inp 11), zi 0] <|
.ret (bi .eql (tp 2 (.inp 11)) (zi 0))
theorem run_lockbarref09_Right : runF E 69 [.agg (ips 0 11)] 11 = rt_lockbarref09_Right := by kernel_rfl
def rt_lockbarref11_Goes : RT :=
 ck (.isAgg 11) [.agg (ipx 0 11)] <|
.loop 0 12 [zi 0] <|
 ck .len [.inp 11] <|
 ck (.bin .lss) [.inp 12, ln (.inp 11)] <|
.cond (bi .lss (.inp 12) (ln (.inp 11)))
 (.seg [.chk [] (.eidx 3) [.inp 11, .inp 12],
.chk [] (.eload 3 true) [q3_98],
.call 13 [] 114 [.agg (ipx 0 11), el 3 q3_98] false,
.chk [] (.tproj 0) [.inp 13],
.chk [] (.tproj 1) [.inp 13]] <|
.seg [.chk [] (.un .not) [tp 1 (.inp 13)],
.chk [(nt (tp 1 (.inp 13)), false)] (.bin .gtr) [.inp 12, zi 0],
.chk [(q3_99, true), (nt (tp 1 (.inp 13)), false)] (.bin .sub) [.inp 12, zi 1],
.chk [(q3_99, true), (nt (tp 1 (.inp 13)), false)] (.eidx 3) [.inp 11, q3_100],
.chk [(q3_99, true), (nt (tp 1 (.inp 13)), false)] (.eoff 0) [q3_101],
.chk [(q3_99, true), (nt (tp 1 (.inp 13)), false)] (.eload 1 false) [q3_102],
.chk [(q3_99, true), (nt (tp 1 (.inp 13)), false)] (.bin .sub) [.inp 12, zi 1],
.chk [(q3_99, true), (nt (tp 1 (.inp 13)), false)] (.eidx 3) [.inp 11, q3_100],
.chk [(q3_99, true), (nt (tp 1 (.inp 13)), false)] (.eoff 2) [q3_101],
.chk [(q3_99, true), (nt (tp 1 (.inp 13)), false)] (.eload 1 false) [q3_103],
.chk [(q3_99, true), (nt (tp 1 (.inp 13)), false)] .isOne [q3_104],
.chk [(q3_99, true), (nt (tp 1 (.inp 13)), false)] .isOne [q3_105],
.call 14 [(q3_99, true), (nt (tp 1 (.inp 13)), false)] 115 [.agg (ipx 0 11), .agg [q3_104, q3_105]] false,
.chk [(q3_99, true), (nt (tp 1 (.inp 13)), false)] (.eidx 3) [.inp 11, .inp 12],
.chk [(q3_99, true), (nt (tp 1 (.inp 13)), false)] (.eoff 0) [q3_98],
.chk [(q3_99, true), (nt (tp 1 (.inp 13)), false)] (.eload 1 false) [q3_106],
.chk [(q3_99, true), (nt (tp 1 (.inp 13)), false)] (.eidx 3) [.inp 11, .inp 12],
.chk [(q3_99, true), (nt (tp 1 (.inp 13)), false)] (.eoff 1) [q3_98],
.chk [(q3_99, true), (nt (tp 1 (.inp 13)), false)] (.eload 1 false) [q3_107],
.chk [(q3_99, true), (nt (tp 1 (.inp 13)), false)] .isOne [q3_108],
.chk [(q3_99, true), (nt (tp 1 (.inp 13)), false)] .isOne [q3_109],
.chk [(q3_99, true), (nt (tp 1 (.inp 13)), false)] (.eqa [ some .i64, some .i64] true) [.inp 14, q3_110],
.chk [(nt (tp 1 (.inp 13)), false)] .pick [q3_99, q3_111, bF],
.chk [] .pick [nt (tp 1 (.inp 13)), bT, q3_112]] <|
.seg [.bind 15 (q3_111),
.bind 16 (q3_112),
.bind 17 (pk (nt (tp 1 (.inp 13))) bT q3_112)] <|
.cond (.inp 17)
 (.ret (bF))
 (ck (.bin .add) [.inp 12, zi 1] <|
.again 0 [q3_30]))
 (.ret (bT))
theorem run_lockbarref11_Goes : runF E 70 [.agg (ips 0 11), .inp 11] 12 = rt_lockbarref11_Goes := by kernel_rfl
def rt_lockbarref11_simple : RT :=
.loop 0 2 [zi 0] <|
 ck .len [.inp 0] <|
 ck (.bin .lss) [.inp 2, ln (.inp 0)] <|
.cond (bi .lss (.inp 2) (ln (.inp 0)))
 (.loop 1 3 [zi 0] <|
 ck (.bin .lss) [.inp 3, .inp 2] <|
.cond (q3_113)
 (.seg [.chk [] (.eidx 3) [.inp 0, .inp 3],
.chk [] (.eoff 0) [ei 3 (.inp 0) (.inp 3)],
.chk [] (.eload 1 false) [q3_114],
.chk [] (.eidx 3) [.inp 0, .inp 2],
.chk [] (.eoff 0) [ei 3 (.inp 0) (.inp 2)],
.chk [] (.eload 1 false) [q3_115],
.chk [] (.bin .eql) [q3_116, q3_117]] <|
.seg [.bind 4 (bi .eql q3_116 q3_117)] <|
.cond (.inp 4)
 (.ret (bF))
 (ck (.bin .add) [.inp 3, zi 1] <|
.again 1 [bi .add (.inp 3) (zi 1)]))
 (.loop 1 4 [zi 0] <|
 ck .len [.inp 1] <|
 ck (.bin .lss) [.inp 4, ln (.inp 1)] <|
.cond (bi .lss (.inp 4) (ln (.inp 1)))
 (.seg [.chk [] (.eidx 3) [.inp 1, .inp 4],
.chk [] (.eoff 0) [ei 3 (.inp 1) (.inp 4)],
.chk [] (.eload 1 false) [q3_118],
.chk [] (.eidx 3) [.inp 0, .inp 2],
.chk [] (.eoff 0) [ei 3 (.inp 0) (.inp 2)],
.chk [] (.eload 1 false) [q3_115],
.chk [] (.bin .eql) [q3_119, q3_117]] <|
.seg [.bind 5 (bi .eql q3_119 q3_117)] <|
.cond (.inp 5)
 (.ret (bF))
 (ck (.bin .add) [.inp 4, zi 1] <|
.again 1 [bi .add (.inp 4) (zi 1)]))
 (ck (.bin .add) [.inp 2, zi 1] <|
.again 0 [bi .add (.inp 2) (zi 1)])))
 (.ret (bT))
theorem run_lockbarref11_simple : runF E 71 [.inp 0, .inp 1] 2 = rt_lockbarref11_simple := by kernel_rfl
def rt_lockbarref11_Through : RT :=
 ck (.isAgg 3) [q3_120] <|
.loop 0 4 [zi 0, zi 0] <|
 ck .len [.inp 3] <|
 ck (.bin .lss) [.inp 5, ln (.inp 3)] <|
.cond (bi .lss (.inp 5) (ln (.inp 3)))
 (.loop 1 6 [.inp 4] <|
.seg [.chk [] .len [.inp 2],
.chk [] (.bin .lss) [.inp 6, ln (.inp 2)],
.chk [(q3_121, true)] (.eidx 3) [.inp 2, .inp 6],
.chk [(q3_121, true)] (.eoff 0) [ei 3 (.inp 2) (.inp 6)],
.chk [(q3_121, true)] (.eload 1 false) [q3_122],
.chk [(q3_121, true)] (.eidx 1) [.inp 3, .inp 5],
.chk [(q3_121, true)] (.eload 1 false) [ei 1 (.inp 3) (.inp 5)],
.chk [(q3_121, true)] (.bin .neq) [q3_123, q3_124],
.chk [] .pick [q3_121, q3_125, bF]] <|
.seg [.bind 7 (q3_125),
.bind 8 (pk q3_121 q3_125 bF)] <|
.cond (.inp 8)
 (ck (.bin .add) [.inp 6, zi 1] <|
.again 1 [bi .add (.inp 6) (zi 1)])
 (ck .len [.inp 2] <|
 ck (.bin .geq) [.inp 6, ln (.inp 2)] <|
.cond (bi .geq (.inp 6) (ln (.inp 2)))
 (.ret (bF))
 (ck (.bin .add) [.inp 6, zi 1] <|
 ck (.bin .add) [.inp 5, zi 1] <|
.again 0 [bi .add (.inp 6) (zi 1), bi .add (.inp 5) (zi 1)])))
 (.ret (bT))
theorem run_lockbarref11_Through : runF E 72 [.agg [.inp 0, .inp 1, .inp 2], .inp 3] 4 = rt_lockbarref11_Through := by kernel_rfl
def rt_lockbarref11_Check : RT :=
 ck (.isAgg 11) [.agg (ipx 0 11)] <|
 ck (.isAgg 3) [q3_126] <|
.seg [.call 15 [] 69 [.agg (ipx 0 11)] false] <|
 ck (.un .not) [.inp 15] <|
 ckg (nt (.inp 15)) false (.bin .lss) [.inp 11, zi 0] <|
 ck .pick [nt (.inp 15), bT, q3_0] <|
 ckg (q3_127) false .len [.inp 1] <|
 ckg (q3_127) false (.bin .geq) [.inp 11, ln (.inp 1)] <|
 ck .pick [q3_127, bT, q3_128] <|
 ckg (q3_129) false (.bin .lss) [.inp 12, zi 0] <|
 ck .pick [q3_129, bT, q3_130] <|
 ckg (q3_131) false .len [.inp 2] <|
 ckg (q3_131) false (.bin .geq) [.inp 12, ln (.inp 2)] <|
 ck .pick [q3_131, bT, q3_132] <|
 ckg (q3_133) false .len [.inp 14] <|
 ckg (q3_133) false (.bin .gtr) [ln (.inp 14), zi 2] <|
 ck .pick [q3_133, bT, q3_134] <|
.seg [.bind 16 (q3_129),
.bind 17 (q3_131),
.bind 18 (q3_133),
.bind 19 (pk q3_133 bT q3_134)] <|
.cond (.inp 19)
 (.ret (zi 2))
 (.loop 0 20 [zi 0] <|
 ck .len [.inp 14] <|
 ck (.bin .lss) [.inp 20, ln (.inp 14)] <|
.cond (bi .lss (.inp 20) (ln (.inp 14)))
 (.seg [.chk [] (.eidx 1) [.inp 14, .inp 20],
.chk [] (.eload 1 false) [q3_135],
.chk [] (.bin .lss) [q3_136, zi 0],
.chk [(q3_137, false)] (.eidx 1) [.inp 14, .inp 20],
.chk [(q3_137, false)] (.eload 1 false) [q3_135],
.chk [(q3_137, false)] .len [.inp 0],
.chk [(q3_137, false)] (.bin .geq) [q3_136, ln (.inp 0)],
.chk [] .pick [q3_137, bT, q3_138]] <|
.seg [.bind 21 (pk q3_137 bT q3_138)] <|
.cond (.inp 21)
 (.ret (zi 2))
 (ck (.bin .add) [.inp 20, zi 1] <|
.again 0 [bi .add (.inp 20) (zi 1)]))
 (ck .len [.inp 13] <|
.seg [.chk [] (.bin .lss) [ln (.inp 13), zi 1],
.chk [(q3_139, false)] (.bin .gtr) [ln (.inp 13), zi 12],
.chk [] .pick [q3_139, bT, q3_140],
.call 21 [(q3_141, false)] 70 [.agg (ipx 0 11), .inp 13] false,
.chk [(q3_141, false)] (.un .not) [.inp 21],
.chk [] .pick [q3_141, bT, nt (.inp 21)],
.chk [(q3_142, false)] (.eidx 3) [.inp 2, .inp 12],
.chk [(q3_142, false)] (.eoff 2) [ei 3 (.inp 2) (.inp 12)],
.chk [(q3_142, false)] (.eload 1 false) [q3_143],
.call 22 [(q3_142, false)] 71 [.inp 13, e1 q3_143] false,
.chk [(q3_142, false)] (.un .not) [.inp 22],
.chk [] .pick [q3_142, bT, nt (.inp 22)],
.call 23 [(q3_144, false)] 72 [q3_126, .inp 14] false,
.chk [(q3_144, false)] (.un .not) [.inp 23],
.chk [] .pick [q3_144, bT, nt (.inp 23)]] <|
.seg [.bind 24 (q3_141),
.bind 25 (q3_142),
.bind 26 (q3_144),
.bind 27 (pk q3_144 bT (nt (.inp 23)))] <|
.cond (.inp 27)
 (.ret (zi 110))
 (.seg [.chk [] (.eidx 2) [.inp 1, .inp 11],
.chk [] (.eoff 0) [ei 2 (.inp 1) (.inp 11)],
.chk [] (.eload 2 true) [q3_58],
.chk [] (.eidx 3) [.inp 13, zi 0],
.chk [] (.eoff 0) [ei 3 (.inp 13) (zi 0)],
.chk [] (.eload 1 false) [q3_145],
.chk [] (.eidx 3) [.inp 13, zi 0],
.chk [] (.eoff 1) [ei 3 (.inp 13) (zi 0)],
.chk [] (.eload 1 false) [q3_146],
.chk [] .isOne [q3_147],
.chk [] .isOne [q3_148],
.chk [] (.eqa [ some .i64, some .i64] true) [q3_59, q3_149],
.chk [(q3_150, false)] (.eidx 3) [.inp 2, .inp 12],
.chk [(q3_150, false)] (.eoff 0) [ei 3 (.inp 2) (.inp 12)],
.chk [(q3_150, false)] (.eload 2 true) [q3_61],
.chk [(q3_150, false)] (.bin .sub) [ln (.inp 13), zi 1],
.chk [(q3_150, false)] (.eidx 3) [.inp 13, q3_151],
.chk [(q3_150, false)] (.eoff 0) [q3_152],
.chk [(q3_150, false)] (.eload 1 false) [q3_153],
.chk [(q3_150, false)] (.bin .sub) [ln (.inp 13), zi 1],
.chk [(q3_150, false)] (.eidx 3) [.inp 13, q3_151],
.chk [(q3_150, false)] (.eoff 2) [q3_152],
.chk [(q3_150, false)] (.eload 1 false) [q3_154],
.chk [(q3_150, false)] .isOne [q3_155],
.chk [(q3_150, false)] .isOne [q3_156],
.chk [(q3_150, false)] (.eqa [ some .i64, some .i64] true) [q3_63, q3_157],
.chk [] .pick [q3_150, bT, q3_158]] <|
.seg [.bind 28 (q3_150),
.bind 29 (q3_158),
.bind 30 (pk q3_150 bT q3_158)] <|
.cond (.inp 30)
 (.ret (zi 110))
 (.loop 0 31 [zi 1] <|
 ck (.bin .lss) [.inp 31, ln (.inp 13)] <|
.cond (bi .lss (.inp 31) (ln (.inp 13)))
 (.seg [.chk [] (.eidx 3) [.inp 13, .inp 31],
.chk [] (.eoff 0) [q3_159],
.chk [] (.eload 1 false) [q3_160],
.chk [] (.eidx 3) [.inp 13, .inp 31],
.chk [] (.eoff 1) [q3_159],
.chk [] (.eload 1 false) [q3_161],
.chk [] .isOne [q3_162],
.chk [] .isOne [q3_163],
.call 32 [] 73 [.agg (ipx 0 11), .agg [q3_162, q3_163]] false,
.chk [] (.bin .geq) [.inp 32, zi 0]] <|
.cond (bi .geq (.inp 32) (zi 0))
 (.ret (zi 110))
 (ck (.bin .add) [.inp 31, zi 1] <|
.again 0 [bi .add (.inp 31) (zi 1)]))
 (.ret (zi 0))))))
theorem run_lockbarref11_Check : runF E 29 [.agg (ips 0 11), .agg [.inp 11, .inp 12, .inp 13], .inp 14] 15 = rt_lockbarref11_Check := by kernel_rfl
def rt_lockbarref13_Clash : RT :=
.seg [.chk [] (.szs 3) [.inp 0],
.chk [] .app [.app .lst [], .inp 0]] <|
.seg [.chk [] (.szs 3) [.inp 1],
.chk [] .app [q3_164, .inp 1]] <|
.loop 0 2 [zi 0] <|
 ck .len [q3_165] <|
 ck (.bin .lss) [.inp 2, q3_166] <|
.cond (bi .lss (.inp 2) q3_166)
 (.loop 1 3 [zi 0] <|
 ck (.bin .lss) [.inp 3, .inp 2] <|
.cond (q3_113)
 (.seg [.chk [] (.eidx 3) [q3_165, .inp 2],
.chk [] (.inr 4294967296) [.inp 2],
.chk [] (.rowget 3 0 1 false) [q3_165, .inp 2],
.chk [] (.eidx 3) [q3_165, .inp 3],
.chk [] (.inr 4294967296) [.inp 3],
.chk [] (.rowget 3 0 1 false) [q3_165, .inp 3],
.chk [] (.bin .eql) [q3_167, q3_168],
.chk [(q3_169, true)] (.eidx 3) [q3_165, .inp 2],
.chk [(q3_169, true)] (.inr 4294967296) [.inp 2],
.chk [(q3_169, true)] (.rowget 3 1 1 false) [q3_165, .inp 2],
.chk [(q3_169, true)] (.eidx 3) [q3_165, .inp 3],
.chk [(q3_169, true)] (.inr 4294967296) [.inp 3],
.chk [(q3_169, true)] (.rowget 3 1 1 false) [q3_165, .inp 3],
.chk [(q3_169, true)] (.bin .neq) [q3_170, q3_171],
.chk [] .pick [q3_169, q3_172, bF]] <|
.seg [.bind 4 (q3_169),
.bind 5 (q3_172),
.bind 6 (pk q3_169 q3_172 bF)] <|
.cond (.inp 6)
 (.ret (bT))
 (ck (.bin .add) [.inp 3, zi 1] <|
.again 1 [bi .add (.inp 3) (zi 1)]))
 (ck (.bin .add) [.inp 2, zi 1] <|
.again 0 [bi .add (.inp 2) (zi 1)]))
 (.ret (bF))
theorem run_lockbarref13_Clash : runF E 74 [.inp 0, .inp 1] 2 = rt_lockbarref13_Clash := by kernel_rfl
def rt_lockbarref13_Fine : RT :=
 ck (.isAgg 11) [.agg (ipx 0 11)] <|
 ck (.isAgg 3) [q3_126] <|
.seg [.call 14 [] 32 [.agg (ipx 0 11), q3_126] false] <|
.seg [.call 15 [] 74 [.inp 14, .nils] false] <|
 ck (.un .not) [.inp 15] <|
.ret (nt (.inp 15))
theorem run_lockbarref13_Fine : runF E 30 [.agg (ips 0 11), .agg [.inp 11, .inp 12, .inp 13]] 14 = rt_lockbarref13_Fine := by kernel_rfl
def rt_lockbarref07_Great : RT :=
 ck (.isAgg 11) [.agg (ipx 0 11)] <|
.loop 0 11 [zi 0] <|
 ck .len [.inp 2] <|
 ck (.bin .lss) [.inp 11, ln (.inp 2)] <|
 ckg (q3_60) true (.bin .leq) [.inp 11, zi 20] <|
 ck .pick [q3_60, q3_173, bF] <|
.cond (pk q3_60 q3_173 bF)
 (ck (.eidx 3) [.inp 2, .inp 11] <|
 ck (.eoff 2) [ei 3 (.inp 2) (.inp 11)] <|
 ck (.eload 1 false) [q3_67] <|
 ck .len [q3_68] <|
 ck (.bin .gtr) [q3_69, zi 20] <|
.cond (bi .gtr q3_69 (zi 20))
 (.ret (bT))
 (ck (.bin .add) [.inp 11, zi 1] <|
.again 0 [q3_27]))
 (ck .len [.inp 0] <|
 ck (.bin .gtr) [ln (.inp 0), zi 30] <|
 ckg (q3_174) false .len [.inp 1] <|
 ckg (q3_174) false (.bin .gtr) [ln (.inp 1), zi 20] <|
 ck .pick [q3_174, bT, q3_175] <|
 ckg (q3_176) false .len [.inp 2] <|
 ckg (q3_176) false (.bin .gtr) [ln (.inp 2), zi 20] <|
 ck .pick [q3_176, bT, q3_177] <|
 ckg (q3_178) false .len [.inp 3] <|
 ckg (q3_178) false (.bin .gtr) [ln (.inp 3), zi 30] <|
 ck .pick [q3_178, bT, q3_179] <|
.seg [.bind 12 (pk q3_178 bT q3_179),
.bind 13 (q3_176),
.bind 14 (q3_178)] <|
.ret (.inp 12))
theorem run_lockbarref07_Great : runF E 35 [.agg (ips 0 11)] 11 = rt_lockbarref07_Great := by kernel_rfl
def rt_lockbarref17_Great : RT :=
 ck (.isAgg 23) [.agg (ipx 0 23)] <|
 ck .len [.inp 3] <|
 ck (.bin .gtr) [ln (.inp 3), zi 30] <|
 ckg (q3_179) false .len [.inp 4] <|
 ckg (q3_179) false (.bin .gtr) [ln (.inp 4), zi 20] <|
 ck .pick [q3_179, bT, q3_180] <|
 ckg (q3_181) false .len [.inp 5] <|
 ckg (q3_181) false (.bin .gtr) [ln (.inp 5), zi 60] <|
 ck .pick [q3_181, bT, q3_182] <|
.seg [.bind 23 (pk q3_181 bT q3_182),
.bind 24 (q3_181)] <|
.ret (.inp 23)
theorem run_lockbarref17_Great : runF E 34 [.agg (ips 0 23)] 23 = rt_lockbarref17_Great := by kernel_rfl
def rt_lockbarref16_Call : RT :=
 ck (.isAgg 3) [q3_120] <|
.seg [.call 4 [] 62 [q3_120] false] <|
 ck (.un .not) [.inp 4] <|
 ckg (nt (.inp 4)) false (.bin .neq) [.inp 3, zi 0] <|
.seg [.chk [(bi .neq (.inp 3) (zi 0), true), (nt (.inp 4), false)] (.bin .neq) [.inp 3, zi 1]] <|
 ckg (nt (.inp 4)) false .pick [bi .neq (.inp 3) (zi 0), bi .neq (.inp 3) (zi 1), bF] <|
 ck .pick [nt (.inp 4), bT, q3_183] <|
.seg [.bind 5 (pk (nt (.inp 4)) bT q3_183)] <|
.cond (.inp 5)
 (.seg [.call 6 [] 46 [] false] <|
 ck (.isAgg 3) [.inp 6] <|
.ret (.agg [pt 0 (.inp 6), pt 1 (.inp 6), pt 2 (.inp 6)]))
 (ck (.bin .eql) [.inp 0, .inp 3] <|
 ckg (q3_184) true (.un .not) [.inp 2] <|
 ck .pick [q3_184, nt (.inp 2), bF] <|
.cond (pk q3_184 (nt (.inp 2)) bF)
 (ck (.isAgg 3) [q3_120] <|
.ret (q3_120))
 (ck .isOne [.inp 3] <|
 ck (.isAgg 3) [.agg [.inp 3, zi 0, bF]] <|
.ret (.agg [.inp 3, zi 0, bF])))
theorem run_lockbarref16_Call : runF E 47 [.agg [.inp 0, .inp 1, .inp 2], .inp 3] 4 = rt_lockbarref16_Call := by kernel_rfl
end
end Go.Lb.LK
namespace Go.Lb.LK
open Go Go.Lb Go.Proofs
noncomputable section
@[simp] def q4_0 : SE := ei 23 (.inp 1) (.inp 75)
@[simp] def q4_1 : SE := .app (.eoff 0) [q4_0]
@[simp] def q4_2 : SE := e1 q4_1
@[simp] def q4_3 : SE := .agg [.inp 114, .inp 115, .inp 116]
@[simp] def q4_4 : SE := bi .geq (.inp 40) (zi 1073741824)
@[simp] def q4_5 : SE := ei 23 (.inp 41) (.inp 117)
@[simp] def q4_6 : SE := .app .lst [.agg (pts (.inp 119) 0 23)]
@[simp] def q4_7 : SE := .agg (ap [.inp 40, .row 32] (ips 42 72))
@[simp] def q4_8 : SE := .agg (ap [.inp 40, .inp 118] (ips 42 72))
@[simp] def q4_9 : SE := .agg [.inp 40, pt 0 (.inp 120), pt 1 (.inp 120), pt 2 (.inp 120), .inp 121, .inp 122, .int .u8 1, zi 0, bF, bF, bF, bF, bF, bF, bF, bF, bF, bF, bF, bF, bF, zi 0, bF]
@[simp] def q4_10 : SE := .app .lst [q4_9]
@[simp] def q4_11 : SE := bi .add (.inp 40) (zi 1)
@[simp] def q4_12 : SE := ei 3 (.inp 122) (.inp 125)
@[simp] def q4_13 : SE := el 3 q4_12
@[simp] def q4_14 : SE := pt 0 q4_13
@[simp] def q4_15 : SE := pt 1 q4_13
@[simp] def q4_16 : SE := .agg [pt 0 (.inp 199), pt 1 (.inp 199), pt 2 (.inp 199)]
@[simp] def q4_17 : SE := bi .add (.inp 125) (zi 1)
@[simp] def q4_18 : SE := .agg (ap [q4_11, .undef] (ips 126 72))
@[simp] def q4_19 : SE := .app (.aidx 24 3 2 3 true) [q4_18, q4_14]
def rt_lockbarref19_New : RT :=
.loop 0 0 [zi 0, zi 0, zi 0, bF, zi 0, zi 0, bF, zi 0, zi 0, bF, zi 0, zi 0, bF, zi 0, zi 0, bF, zi 0, zi 0, bF, zi 0, zi 0, bF, zi 0, zi 0, bF, zi 0, zi 0, bF, zi 0, zi 0, bF, zi 0, zi 0, bF, zi 0, zi 0, bF, zi 0, zi 0, bF, zi 0, zi 0, bF, zi 0, zi 0, bF, zi 0, zi 0, bF, zi 0, zi 0, bF, zi 0, zi 0, bF, zi 0, zi 0, bF, zi 0, zi 0, bF, zi 0, zi 0, bF, zi 0, zi 0, bF, zi 0, zi 0, bF, zi 0, zi 0, bF] <|
 ck (.bin .lss) [.inp 0, zi 24] <|
.cond (bi .lss (.inp 0) (zi 24))
 (.seg [.call 73 [] 46 [] false] <|
 ck (.inr 24) [.inp 0] <|
.seg [.chk [] (.inr 24) [.inp 0],
.chk [] (.isAgg 3) [.inp 73]] <|
.seg (csB 2 (.inp 0) (.agg [pt 0 (.inp 73), pt 1 (.inp 73), pt 2 (.inp 73)]) 74 2 (ips 1 72)) <|
 ck (.bin .add) [.inp 0, zi 1] <|
.again 0 (ap [bi .add (.inp 0) (zi 1)] (ips 74 72)))
 (ck (.isAgg 74) [.agg (ap [zi 1, .enil] (ips 1 72))] <|
.ret (.agg (ap [zi 1, .nils] (ips 1 72))))
theorem run_lockbarref19_New : runF E 21 [] 0 = rt_lockbarref19_New := by kernel_rfl
def rt_lockbarref19_Find : RT :=
 ck (.isAgg 74) [.agg (ips 0 74)] <|
.loop 0 75 [zi 0] <|
 ck .len [.inp 1] <|
 ck (.bin .lss) [.inp 75, ln (.inp 1)] <|
.cond (bi .lss (.inp 75) (ln (.inp 1)))
 (ck (.eidx 23) [.inp 1, .inp 75] <|
 ck (.eoff 0) [q4_0] <|
 ck (.eload 1 false) [q4_1] <|
 ck (.bin .eql) [q4_2, .inp 74] <|
.cond (bi .eql q4_2 (.inp 74))
 (ck (.eidx 23) [.inp 1, .inp 75] <|
 ck (.eload 23 true) [q4_0] <|
.seg [.call 76 [] 51 [el 23 q4_0] false] <|
 ck (.isAgg 23) [.inp 76] <|
.ret (.tup [.agg (pts (.inp 76) 0 23), bT]))
 (ck (.bin .add) [.inp 75, zi 1] <|
.again 0 [bi .add (.inp 75) (zi 1)]))
 (.ret (.tup [.agg [zi 0, zi 0, zi 0, .nils, .nils, .nils, .int .u8 0, zi 0, bF, bF, bF, bF, bF, bF, bF, bF, bF, bF, bF, bF, bF, zi 0, bF], bF]))
theorem run_lockbarref19_Find : runF E 13 [.agg (ips 0 74), .inp 74] 75 = rt_lockbarref19_Find := by kernel_rfl
def rt_lockbarref19_Look : RT :=
 ck (.isAgg 11) [.agg (ips 0 11)] <|
 ck (.isAgg 29) [.agg (ips 11 29)] <|
 ck (.isAgg 74) [.agg (ips 40 74)] <|
 ck (.isAgg 3) [q4_3] <|
.seg [.call 117 [] 29 [.agg (ips 0 11), q4_3, .nils] false] <|
 ck (.bin .neq) [.inp 117, zi 0] <|
.cond (bi .neq (.inp 117) (zi 0))
 (.ret (.inp 117))
 (.seg [.call 118 [] 30 [.agg (ips 0 11), q4_3] false] <|
 ck (.un .not) [.inp 118] <|
.cond (.inp 118)
 (.seg [.call 119 [] 22 [.agg (ips 40 74)] false] <|
 ck (.un .not) [.inp 119] <|
 ckg (nt (.inp 119)) false (.bin .geq) [.inp 40, zi 1073741824] <|
 ck .pick [nt (.inp 119), bT, q4_4] <|
.cond (pk (nt (.inp 119)) bT q4_4)
 (.ret (zi 2))
 (.seg [.call 120 [] 59 [.agg (ips 0 11), .agg (ips 11 29), .agg (ips 40 74), q4_3] false] <|
.ret (.inp 120)))
 (.ret (zi 110)))
theorem run_lockbarref19_Look : runF E 19 [.agg (ips 0 11), .agg (ips 11 29), .agg (ips 40 74), .agg [.inp 114, .inp 115, .inp 116]] 117 = rt_lockbarref19_Look := by kernel_rfl
def rt_lockbarref19_Commit : RT :=
 ck (.isAgg 11) [.agg (ips 0 11)] <|
 ck (.isAgg 29) [.agg (ips 11 29)] <|
 ck (.isAgg 74) [.agg (ips 40 74)] <|
 ck (.isAgg 3) [q4_3] <|
 ck (.isAgg 74) [.agg (ips 40 74)] <|
.loop 0 117 [zi 0, .nils] <|
 ck .len [.inp 41] <|
 ck (.bin .lss) [.inp 117, ln (.inp 41)] <|
.cond (bi .lss (.inp 117) (ln (.inp 41)))
 (.seg [.chk [] (.eidx 23) [.inp 41, .inp 117],
.chk [] (.eload 23 true) [q4_5],
.call 119 [] 51 [el 23 q4_5] false,
.chk [] (.isAgg 23) [.inp 119],
.chk [] (.szs 23) [q4_6],
.chk [] .app [.inp 118, q4_6]] <|
.seg [.bind 120 (q4_6),
.bind 121 (.app .app [.inp 118, q4_6])] <|
 ck (.bin .add) [.inp 117, zi 1] <|
.again 0 [bi .add (.inp 117) (zi 1), .inp 121])
 (ck (.isAgg 74) [q4_7] <|
 ck (.isAgg 74) [q4_7] <|
.seg [.call 119 [] 19 [.agg (ips 0 11), .agg (ips 11 29), q4_8, q4_3] true] <|
 ck (.bin .neq) [.inp 119, zi 0] <|
.cond (bi .neq (.inp 119) (zi 0))
 (ck (.isAgg 74) [q4_7] <|
.ret (.tup [q4_8, zi 0, .inp 119]))
 (.seg [.call 120 [] 45 [q4_3] false,
.call 121 [] 31 [.agg (ips 0 11), .inp 115] false,
.call 122 [] 32 [.agg (ips 0 11), q4_3] false,
.chk [] .isOne [.inp 40],
.chk [] (.isAgg 3) [.inp 120],
.chk [] .isOne [.inp 121],
.chk [] .isOne [.inp 122],
.chk [] (.isAgg 23) [q4_9]] <|
 ck (.isAgg 23) [q4_9] <|
.seg [.chk [] (.szs 23) [q4_10],
.chk [] .app [.inp 118, q4_10]] <|
.seg [.bind 123 (q4_10),
.bind 124 (.app .app [.inp 118, q4_10])] <|
 ck (.bin .add) [.inp 40, zi 1] <|
 ck .isOne [q4_11] <|
.loop 0 125 (ap [zi 0] (ips 42 72)) <|
 ck .len [.inp 122] <|
 ck (.bin .lss) [.inp 125, ln (.inp 122)] <|
.cond (bi .lss (.inp 125) (ln (.inp 122)))
 (ck (.eidx 3) [.inp 122, .inp 125] <|
 ck (.eload 3 true) [q4_12] <|
 ck (.isAgg 3) [q4_13] <|
.seg [.call 198 [] 28 [.agg (ips 0 11), .agg (ips 11 29), q4_14] false,
.chk [] (.bin .eql) [.inp 198, q4_15]] <|
.cond (bi .eql (.inp 198) q4_15)
 (.seg [.call 199 [] 46 [] false,
.chk [] (.inr 24) [q4_14],
.chk [] (.inr 24) [q4_14],
.chk [] (.isAgg 3) [.inp 199]] <|
.seg (csB 2 (q4_14) (q4_16) 200 2 (ips 126 72)) <|
 ck (.bin .add) [.inp 125, zi 1] <|
.again 0 (ap [q4_17] (ips 200 72)))
 (.seg [.chk [] (.inr 24) [q4_14],
.chk [] (.aidx 24 3 2 3 true) [q4_18, q4_14],
.call 199 [] 47 [q4_19, q4_15] false,
.chk [] (.inr 24) [q4_14],
.chk [] (.inr 24) [q4_14],
.chk [] (.isAgg 3) [.inp 199]] <|
.seg (ap [.bind 200 (q4_19)] (csB 2 (q4_14) (q4_16) 201 2 (ips 126 72))) <|
 ck (.bin .add) [.inp 125, zi 1] <|
.again 0 (ap [q4_17] (ips 201 72))))
 (ck (.isAgg 74) [.agg (ap [q4_11, .row 101] (ips 126 72))] <|
.ret (.tup [.agg (ap [q4_11, .inp 124] (ips 126 72)), .inp 40, zi 0]))))
theorem run_lockbarref19_Commit : runF E 11 [.agg (ips 0 11), .agg (ips 11 29), .agg (ips 40 74), .agg [.inp 114, .inp 115, .inp 116]] 117 = rt_lockbarref19_Commit := by kernel_rfl
end
end Go.Lb.LK
