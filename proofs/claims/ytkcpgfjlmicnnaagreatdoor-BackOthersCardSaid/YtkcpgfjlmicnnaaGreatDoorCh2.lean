/- What functions come to, printed by a program, checked by the kernel. -/
import Derived.Test.YtkcpgfjlmicnnaaGreatDoorCh1
import Derived.Shelf.Small.Bits
import Derived.Shelf.Strconv.Itoa0
import Derived.Shelf.Sort.Plain
import Derived.Ground.Names2Prog
import Derived.Shelf.Slices.CompactI
import Derived.Test.YtkcpgfjlmicnnaaGreatDoorProg
import Derived.Test.YtkcpgfjlmicnnaaGreatDoorFw11
import Derived.WalkKit
import Derived.Deep.LoopGhost
import Derived.Deep.RegionLaw
import Derived.Lib.Walk
import Derived.Lib.SliceRun
import Derived.KernelRfl
import Derived.Deep.MidRow
import Derived.Shelf.RegionOpenPlain
set_option linter.unusedSimpArgs false
set_option linter.unusedVariables false
namespace Go.Lb.LK
open Go Go.Lb Go.Proofs
noncomputable section
@[simp] def q2_0 : SE := bi .gtr (.inp 0) (zi 1073741824)
@[simp] def q2_1 : SE := pk (bi .lss (.inp 0) (zi 1)) bT q2_0
@[simp] def q2_2 : SE := bi .lss (ln (.inp 3)) (zi 1)
@[simp] def q2_3 : SE := pk q2_1 bT q2_2
@[simp] def q2_4 : SE := bi .gtr (ln (.inp 3)) (zi 12)
@[simp] def q2_5 : SE := pk q2_3 bT q2_4
@[simp] def q2_6 : SE := bi .gtr (ln (.inp 4)) (zi 2)
@[simp] def q2_7 : SE := pk q2_5 bT q2_6
@[simp] def q2_8 : SE := bi .lss (.inp 6) (.int .u8 1)
@[simp] def q2_9 : SE := pk q2_7 bT q2_8
@[simp] def q2_10 : SE := bi .geq (.inp 6) (.int .u8 5)
@[simp] def q2_11 : SE := pk q2_9 bT q2_10
@[simp] def q2_12 : SE := pk q2_11 bT (bi .lss (.inp 7) (zi 0))
@[simp] def q2_13 : SE := bi .gtr (.inp 7) (ln (.inp 3))
@[simp] def q2_14 : SE := pk q2_12 bT q2_13
@[simp] def q2_15 : SE := bi .lss (.inp 21) (zi 0)
@[simp] def q2_16 : SE := pk q2_14 bT q2_15
@[simp] def q2_17 : SE := bi .gtr (.inp 21) (zi 1073741824)
@[simp] def q2_18 : SE := pk q2_16 bT q2_17
@[simp] def q2_19 : SE := .app .app [.app .lst [], .inp 3]
@[simp] def q2_20 : SE := .app .app [q2_19, .inp 4]
@[simp] def q2_21 : SE := ln q2_20
@[simp] def q2_22 : SE := .app (.rowget 3 0 1 false) [q2_20, .inp 35]
@[simp] def q2_23 : SE := .app (.rowget 3 0 1 false) [q2_20, .inp 34]
@[simp] def q2_24 : SE := bi .add (.inp 35) (zi 1)
@[simp] def q2_25 : SE := el 3 (ei 3 (.inp 5) (.inp 36))
@[simp] def q2_26 : SE := pt 2 q2_25
@[simp] def q2_27 : SE := bi .lss q2_26 (zi 0)
@[simp] def q2_28 : SE := bi .gtr q2_26 (ln (.inp 3))
@[simp] def q2_29 : SE := pk q2_27 bT q2_28
@[simp] def q2_30 : SE := pt 0 q2_25
@[simp] def q2_31 : SE := bi .lss q2_30 (zi 0)
@[simp] def q2_32 : SE := pk q2_29 bT q2_31
@[simp] def q2_33 : SE := bi .geq q2_30 (zi 24)
@[simp] def q2_34 : SE := pk q2_32 bT q2_33
@[simp] def q2_35 : SE := pt 1 q2_25
@[simp] def q2_36 : SE := bi .lss q2_35 (zi 0)
@[simp] def q2_37 : SE := pk q2_34 bT q2_36
@[simp] def q2_38 : SE := bi .gtr q2_35 (zi 1)
@[simp] def q2_39 : SE := .app (.mm true) [.inp 7, zi 0]
@[simp] def q2_40 : SE := .app (.eoff 0) [ei 3 (.inp 3) (.inp 24)]
@[simp] def q2_41 : SE := e1 q2_40
@[simp] def q2_42 : SE := .app .lst [q2_41]
@[simp] def q2_43 : SE := bi .add (.inp 24) (zi 1)
@[simp] def q2_44 : SE := bi .lss (.inp 26) (ln (.inp 4))
@[simp] def q2_45 : SE := .app (.eoff 0) [ei 3 (.inp 4) (.inp 26)]
@[simp] def q2_46 : SE := e1 q2_45
@[simp] def q2_47 : SE := .app .lst [q2_46]
@[simp] def q2_48 : SE := ei 1 (.inp 24) (.inp 25)
@[simp] def q2_49 : SE := e1 q2_48
@[simp] def q2_50 : SE := el 3 (ei 3 (.inp 5) (.inp 24))
@[simp] def q2_51 : SE := pt 2 q2_50
@[simp] def q2_52 : SE := bi .geq q2_51 q2_39
@[simp] def q2_53 : SE := bi .eql q2_51 (ln (.inp 3))
@[simp] def q2_54 : SE := pk q2_53 (.inp 20) bF
@[simp] def q2_55 : SE := nt q2_54
@[simp] def q2_56 : SE := .agg [pt 0 q2_50, pt 1 q2_50, q2_51]
@[simp] def q2_57 : SE := .app .lst [q2_56]
@[simp] def q2_58 : SE := .agg [.inp 1, .inp 2, .inp 3]
@[simp] def q2_59 : SE := el 3 (ei 3 (.inp 0) (.inp 2))
@[simp] def q2_60 : SE := el 3 (ei 3 (.inp 1) (.inp 2))
@[simp] def q2_61 : SE := bi .eql (.inp 0) (.inp 23)
@[simp] def q2_62 : SE := pk q2_61 (.inp 46) bF
@[simp] def q2_63 : SE := pk q2_62 (.inp 47) bF
@[simp] def q2_64 : SE := pk q2_63 (.inp 48) bF
@[simp] def q2_65 : SE := bi .eql (.inp 6) (.inp 29)
@[simp] def q2_66 : SE := pk q2_64 q2_65 bF
@[simp] def q2_67 : SE := bi .eql (.inp 7) (.inp 30)
@[simp] def q2_68 : SE := pk q2_66 q2_67 bF
@[simp] def q2_69 : SE := .app (.eqa [ none, none, none, none, none, none, none, none, none, none, none, none] false) [.agg (ipx 8 12), .agg (ipx 31 12)]
@[simp] def q2_70 : SE := pk q2_68 q2_69 bF
@[simp] def q2_71 : SE := .app (.eqb false) [.inp 20, .inp 43]
@[simp] def q2_72 : SE := pk q2_70 q2_71 bF
@[simp] def q2_73 : SE := bi .eql (.inp 21) (.inp 44)
@[simp] def q2_74 : SE := pk q2_72 q2_73 bF
@[simp] def q2_75 : SE := .app (.eqb false) [.inp 22, .inp 45]
@[simp] def q2_76 : SE := .agg (ptx (.inp 63) 0 23)
@[simp] def q2_77 : SE := ei 3 (pt 3 (.inp 63)) (.inp 66)
@[simp] def q2_78 : SE := .app (.eoff 0) [q2_77]
@[simp] def q2_79 : SE := bi .eql (.inp 66) (zi 0)
@[simp] def q2_80 : SE := bi .sub (.inp 66) (zi 1)
@[simp] def q2_81 : SE := .agg (ap (ptx (.inp 63) 0 8) (ap (ipx 67 12) [pt 20 (.inp 63), pt 21 (.inp 63), pt 22 (.inp 63)]))
@[simp] def q2_82 : SE := .app (.aidx 12 1 8 1 false) [q2_81, q2_80]
@[simp] def q2_83 : SE := pk q2_79 bT q2_82
@[simp] def q2_84 : SE := bi .add (.inp 66) (zi 1)
@[simp] def q2_85 : SE := bi .lss (.inp 79) (ln (pt 3 (.inp 63)))
@[simp] def q2_86 : SE := .agg (ap (ptx (.inp 63) 0 7) (ap [.inp 79] (ap (ipx 67 12) [pt 20 (.inp 63), pt 21 (.inp 63), pt 22 (.inp 63)])))
@[simp] def q2_87 : SE := .app (.aidx 12 1 8 1 false) [q2_86, .inp 79]
@[simp] def q2_88 : SE := pk q2_85 q2_87 bF
@[simp] def q2_89 : SE := ei 3 (pt 3 (.inp 63)) (.inp 79)
@[simp] def q2_90 : SE := .app (.eoff 0) [q2_89]
@[simp] def q2_91 : SE := pk q2_88 (nt (.inp 80)) bF
@[simp] def q2_92 : SE := bi .sub (ln (pt 3 (.inp 63))) (zi 1)
@[simp] def q2_93 : SE := bi .eql (.inp 79) q2_92
@[simp] def q2_94 : SE := bi .add (.inp 79) (zi 1)
@[simp] def q2_95 : SE := .app (.aidx 12 1 8 1 false) [q2_86, q2_94]
@[simp] def q2_96 : SE := pk q2_93 bT q2_95
@[simp] def q2_97 : SE := .app (.aidx 12 1 8 1 false) [q2_86, q2_92]
@[simp] def q2_98 : SE := bi .eql (.inp 79) (ln (pt 3 (.inp 63)))
@[simp] def q2_99 : SE := pk (pt 20 (.inp 63)) bT q2_98
@[simp] def q2_100 : SE := .agg (ap (ptx (.inp 63) 0 7) (ap [.inp 79] (ap (ipx 67 12) [pt 20 (.inp 63), .inp 88, pt 22 (.inp 63)])))
@[simp] def q2_101 : SE := .app (.aidx 12 1 8 1 false) [q2_100, q2_92]
@[simp] def q2_102 : SE := bi .geq (.inp 88) (.inp 8)
@[simp] def q2_103 : SE := pk q2_101 q2_102 bF
@[simp] def q2_104 : SE := pk q2_99 bT q2_103
@[simp] def q2_105 : SE := .agg (ap (ptx (.inp 63) 0 7) (ap [.inp 79] (ap (ipx 67 12) [.inp 91, .inp 88, pt 22 (.inp 63)])))
@[simp] def q2_106 : SE := bi .geq (pt 21 (.inp 63)) (.inp 8)
@[simp] def q2_107 : SE := pk q2_97 q2_106 bF
@[simp] def q2_108 : SE := pk q2_99 bT q2_107
@[simp] def q2_109 : SE := .agg (ap (ptx (.inp 63) 0 7) (ap [.inp 79] (ap (ipx 67 12) [.inp 90, pt 21 (.inp 63), pt 22 (.inp 63)])))
@[simp] def q2_110 : SE := .app (.mm true) [.inp 0, zi 1]
@[simp] def q2_111 : SE := bi .lss (.inp 63) (ln (.inp 43))
@[simp] def q2_112 : SE := ei 3 (.inp 43) (.inp 63)
@[simp] def q2_113 : SE := el 3 q2_112
@[simp] def q2_114 : SE := bi .geq (.inp 63) (.inp 47)
@[simp] def q2_115 : SE := pt 0 q2_113
@[simp] def q2_116 : SE := bi .add (.inp 63) (zi 1)
@[simp] def q2_117 : SE := bi .geq (pt 0 (.inp 41)) (zi 0)
@[simp] def q2_118 : SE := el 11 (.ref (ipx 23 11) 0)
@[simp] def q2_119 : SE := el 29 (.ref (ipx 34 29) 0)
def rt_lockbarref17_Right : RT :=
 ck (.isAgg 23) [.agg (ipx 0 23)] <|
 ck .len [.inp 3] <|
 ck (.bin .lss) [.inp 0, zi 1] <|
 ckg (bi .lss (.inp 0) (zi 1)) false (.bin .gtr) [.inp 0, zi 1073741824] <|
 ck .pick [bi .lss (.inp 0) (zi 1), bT, q2_0] <|
 ckg (q2_1) false (.bin .lss) [ln (.inp 3), zi 1] <|
 ck .pick [q2_1, bT, q2_2] <|
 ckg (q2_3) false (.bin .gtr) [ln (.inp 3), zi 12] <|
 ck .pick [q2_3, bT, q2_4] <|
 ckg (q2_5) false .len [.inp 4] <|
 ckg (q2_5) false (.bin .gtr) [ln (.inp 4), zi 2] <|
 ck .pick [q2_5, bT, q2_6] <|
 ckg (q2_7) false (.bin .lss) [.inp 6, .int .u8 1] <|
 ck .pick [q2_7, bT, q2_8] <|
 ckg (q2_9) false (.bin .geq) [.inp 6, .int .u8 5] <|
 ck .pick [q2_9, bT, q2_10] <|
 ckg (q2_11) false (.bin .lss) [.inp 7, zi 0] <|
 ck .pick [q2_11, bT, bi .lss (.inp 7) (zi 0)] <|
 ckg (q2_12) false (.bin .gtr) [.inp 7, ln (.inp 3)] <|
 ck .pick [q2_12, bT, q2_13] <|
 ckg (q2_14) false (.bin .lss) [.inp 21, zi 0] <|
 ck .pick [q2_14, bT, q2_15] <|
 ckg (q2_16) false (.bin .gtr) [.inp 21, zi 1073741824] <|
 ck .pick [q2_16, bT, q2_17] <|
.seg [.call 23 [(q2_18, false)] 75 [.inp 5, .inp 5] false] <|
 ck .pick [q2_18, bT, .inp 23] <|
.seg [.bind 24 (q2_3),
.bind 25 (q2_5),
.bind 26 (q2_7),
.bind 27 (q2_9),
.bind 28 (q2_11),
.bind 29 (q2_12),
.bind 30 (q2_14),
.bind 31 (q2_16),
.bind 32 (q2_18),
.bind 33 (pk q2_18 bT (.inp 23))] <|
.cond (.inp 33)
 (.ret (bF))
 (.seg [.chk [] (.szs 3) [.inp 3],
.chk [] .app [.app .lst [], .inp 3],
.chk [] (.szs 3) [.inp 4],
.chk [] .app [q2_19, .inp 4]] <|
.loop 0 34 [zi 0] <|
 ck .len [q2_20] <|
 ck (.bin .lss) [.inp 34, q2_21] <|
.cond (bi .lss (.inp 34) q2_21)
 (.loop 1 35 [zi 0] <|
 ck (.bin .lss) [.inp 35, .inp 34] <|
.cond (bi .lss (.inp 35) (.inp 34))
 (.seg [.chk [] (.eidx 3) [q2_20, .inp 35],
.chk [] (.inr 4294967296) [.inp 35],
.chk [] (.rowget 3 0 1 false) [q2_20, .inp 35],
.chk [] (.eidx 3) [q2_20, .inp 34],
.chk [] (.inr 4294967296) [.inp 34],
.chk [] (.rowget 3 0 1 false) [q2_20, .inp 34],
.chk [] (.bin .eql) [q2_22, q2_23]] <|
.seg [.bind 36 (bi .eql q2_22 q2_23)] <|
.cond (.inp 36)
 (.ret (bF))
 (ck (.bin .add) [.inp 35, zi 1] <|
.again 1 [q2_24]))
 (ck (.bin .add) [.inp 34, zi 1] <|
.again 0 [bi .add (.inp 34) (zi 1)]))
 (.loop 0 35 [ln (.inp 3)] <|
 ck (.bin .lss) [.inp 35, zi 12] <|
.cond (bi .lss (.inp 35) (zi 12))
 (ck (.inr 12) [.inp 35] <|
 ck (.aidx 12 1 8 1 false) [.agg (ipx 0 23), .inp 35] <|
.seg [.bind 36 (.app (.aidx 12 1 8 1 false) [.agg (ipx 0 23), .inp 35])] <|
.cond (.inp 36)
 (.ret (bF))
 (ck (.bin .add) [.inp 35, zi 1] <|
.again 0 [q2_24]))
 (.loop 0 36 [zi 0] <|
 ck .len [.inp 5] <|
 ck (.bin .lss) [.inp 36, ln (.inp 5)] <|
.cond (bi .lss (.inp 36) (ln (.inp 5)))
 (ck (.eidx 3) [.inp 5, .inp 36] <|
 ck (.eload 3 true) [ei 3 (.inp 5) (.inp 36)] <|
 ck (.isAgg 3) [q2_25] <|
 ck (.bin .lss) [q2_26, zi 0] <|
 ckg (q2_27) false (.bin .gtr) [q2_26, ln (.inp 3)] <|
 ck .pick [q2_27, bT, q2_28] <|
 ckg (q2_29) false (.bin .lss) [q2_30, zi 0] <|
 ck .pick [q2_29, bT, q2_31] <|
 ckg (q2_32) false (.bin .geq) [q2_30, zi 24] <|
 ck .pick [q2_32, bT, q2_33] <|
 ckg (q2_34) false (.bin .lss) [q2_35, zi 0] <|
 ck .pick [q2_34, bT, q2_36] <|
 ckg (q2_37) false (.bin .gtr) [q2_35, zi 1] <|
 ck .pick [q2_37, bT, q2_38] <|
.seg [.bind 37 (q2_29),
.bind 38 (q2_32),
.bind 39 (q2_34),
.bind 40 (q2_37),
.bind 41 (pk q2_37 bT q2_38)] <|
.cond (.inp 41)
 (.ret (bF))
 (ck (.bin .add) [.inp 36, zi 1] <|
.again 0 [bi .add (.inp 36) (zi 1)]))
 (.ret (bT)))))
theorem run_lockbarref17_Right : runF E 48 [.agg (ips 0 23)] 23 = rt_lockbarref17_Right := by kernel_rfl
def rt_lockbarref17_Sections : RT :=
 ck (.isAgg 23) [.agg (ipx 0 23)] <|
 ck (.mm true) [.inp 7, zi 0] <|
.loop 0 23 [.nils, q2_39] <|
 ck .len [.inp 3] <|
 ck (.bin .lss) [.inp 24, ln (.inp 3)] <|
.cond (bi .lss (.inp 24) (ln (.inp 3)))
 (ck (.eidx 3) [.inp 3, .inp 24] <|
 ck (.eoff 0) [ei 3 (.inp 3) (.inp 24)] <|
 ck (.eload 1 false) [q2_40] <|
.seg [.chk [] .isOne [q2_41],
.chk [] .isOne [q2_41]] <|
.seg [.chk [] (.szs 1) [q2_42],
.chk [] .app [.inp 23, q2_42]] <|
 ck (.bin .add) [.inp 24, zi 1] <|
.again 0 [.app .app [.inp 23, q2_42], q2_43])
 (.loop 0 25 [.inp 23, zi 0] <|
 ck .len [.inp 4] <|
 ck (.bin .lss) [.inp 26, ln (.inp 4)] <|
 ckg (q2_44) true (.un .not) [.inp 20] <|
 ck .pick [q2_44, nt (.inp 20), bF] <|
.cond (pk q2_44 (nt (.inp 20)) bF)
 (ck (.eidx 3) [.inp 4, .inp 26] <|
 ck (.eoff 0) [ei 3 (.inp 4) (.inp 26)] <|
 ck (.eload 1 false) [q2_45] <|
.seg [.chk [] .isOne [q2_46],
.chk [] .isOne [q2_46]] <|
.seg [.chk [] (.szs 1) [q2_47],
.chk [] .app [.inp 25, q2_47]] <|
 ck (.bin .add) [.inp 26, zi 1] <|
.again 0 [.app .app [.inp 25, q2_47], bi .add (.inp 26) (zi 1)])
 (.ret (.inp 25)))
theorem run_lockbarref17_Sections : runF E 76 [.agg (ips 0 23)] 23 = rt_lockbarref17_Sections := by kernel_rfl
def rt_lockbarref17_Has : RT :=
 ck (.isAgg 23) [.agg (ipx 0 23)] <|
.seg [.call 24 [] 76 [.agg (ipx 0 23)] false] <|
.loop 0 25 [zi 0] <|
 ck .len [.inp 24] <|
 ck (.bin .lss) [.inp 25, ln (.inp 24)] <|
.cond (bi .lss (.inp 25) (ln (.inp 24)))
 (ck (.eidx 1) [.inp 24, .inp 25] <|
 ck (.eload 1 false) [q2_48] <|
 ck (.bin .eql) [q2_49, .inp 23] <|
.cond (bi .eql q2_49 (.inp 23))
 (.ret (bT))
 (ck (.bin .add) [.inp 25, zi 1] <|
.again 0 [bi .add (.inp 25) (zi 1)]))
 (.ret (bF))
theorem run_lockbarref17_Has : runF E 77 [.agg (ips 0 23), .inp 23] 24 = rt_lockbarref17_Has := by kernel_rfl
def rt_lockbarref17_Needs : RT :=
 ck (.isAgg 23) [.agg (ipx 0 23)] <|
.loop 0 23 [.nils, zi 0] <|
 ck .len [.inp 5] <|
 ck (.bin .lss) [.inp 24, ln (.inp 5)] <|
.cond (bi .lss (.inp 24) (ln (.inp 5)))
 (ck (.eidx 3) [.inp 5, .inp 24] <|
 ck (.eload 3 true) [ei 3 (.inp 5) (.inp 24)] <|
 ck (.isAgg 3) [q2_50] <|
 ck (.mm true) [.inp 7, zi 0] <|
 ck (.bin .geq) [q2_51, q2_39] <|
 ckg (q2_52) true .len [.inp 3] <|
 ckg (q2_52) true (.bin .eql) [q2_51, ln (.inp 3)] <|
 ckg (q2_52) true .pick [q2_53, .inp 20, bF] <|
 ckg (q2_52) true (.un .not) [q2_54] <|
 ck .pick [q2_52, q2_55, bF] <|
.seg [.bind 25 (q2_54),
.bind 26 (q2_55),
.bind 27 (pk q2_52 q2_55 bF)] <|
.cond (.inp 27)
 (ck (.isAgg 3) [q2_56] <|
.seg [.chk [] (.szs 3) [q2_57],
.chk [] .app [.inp 23, q2_57]] <|
.seg [.bind 28 (q2_57),
.bind 29 (.app .app [.inp 23, q2_57])] <|
 ck (.bin .add) [.inp 24, zi 1] <|
.again 0 [.inp 29, q2_43])
 (ck (.bin .add) [.inp 24, zi 1] <|
.again 0 [.inp 23, q2_43]))
 (.ret (.inp 23))
theorem run_lockbarref17_Needs : runF E 78 [.agg (ips 0 23)] 23 = rt_lockbarref17_Needs := by kernel_rfl
def rt_lockbarref17_Own : RT :=
 ck (.isAgg 23) [.agg (ipx 0 23)] <|
.seg [.call 23 [] 69 [q2_58] false] <|
 ck (.isAgg 3) [.inp 23] <|
.seg [.chk [] (.szs 3) [.inp 4],
.chk [] .app [.app .lst [], .inp 4]] <|
.seg [.chk [] (.szs 3) [.inp 5],
.chk [] .app [.app .lst [], .inp 5]] <|
 ck (.isAgg 23) [.agg (ap [.inp 0, pt 0 (.inp 23), pt 1 (.inp 23), pt 2 (.inp 23), .row 20, .row 32] (ipx 6 17))] <|
.ret (.agg (ap [.inp 0, pt 0 (.inp 23), pt 1 (.inp 23), pt 2 (.inp 23), .app .app [.app .lst [], .inp 4], .app .app [.app .lst [], .inp 5]] (ipx 6 17)))
theorem run_lockbarref17_Own : runF E 39 [.agg (ips 0 23)] 23 = rt_lockbarref17_Own := by kernel_rfl
def rt_lockbarref17_All : RT :=
 ck .len [.inp 0] <|
 ck .len [.inp 1] <|
 ck (.bin .neq) [ln (.inp 0), ln (.inp 1)] <|
.cond (bi .neq (ln (.inp 0)) (ln (.inp 1)))
 (.ret (bF))
 (.loop 0 2 [zi 0] <|
 ck .len [.inp 0] <|
 ck (.bin .lss) [.inp 2, ln (.inp 0)] <|
.cond (bi .lss (.inp 2) (ln (.inp 0)))
 (.seg [.chk [] (.eidx 3) [.inp 0, .inp 2],
.chk [] (.eload 3 true) [ei 3 (.inp 0) (.inp 2)],
.chk [] (.eidx 3) [.inp 1, .inp 2],
.chk [] (.eload 3 true) [ei 3 (.inp 1) (.inp 2)],
.chk [] (.eqa [ some .i64, some .i64, some .i64] true) [q2_59, q2_60]] <|
.cond (.app (.eqa [ some .i64, some .i64, some .i64] true) [q2_59, q2_60])
 (.ret (bF))
 (ck (.bin .add) [.inp 2, zi 1] <|
.again 0 [bi .add (.inp 2) (zi 1)]))
 (.ret (bT)))
theorem run_lockbarref17_All : runF E 43 [.inp 0, .inp 1] 2 = rt_lockbarref17_All := by kernel_rfl
def rt_lockbarref17_Same : RT :=
 ck (.isAgg 23) [.agg (ipx 0 23)] <|
 ck (.isAgg 23) [.agg (ipx 23 23)] <|
 ck (.bin .eql) [.inp 0, .inp 23] <|
.seg [.call 46 [(q2_61, true)] 41 [q2_58, .agg [.inp 24, .inp 25, .inp 26]] false] <|
 ck .pick [q2_61, .inp 46, bF] <|
.seg [.call 47 [(q2_62, true)] 42 [.inp 4, .inp 27] false] <|
 ck .pick [q2_62, .inp 47, bF] <|
.seg [.call 48 [(q2_63, true)] 43 [.inp 5, .inp 28] false] <|
 ck .pick [q2_63, .inp 48, bF] <|
 ckg (q2_64) true (.bin .eql) [.inp 6, .inp 29] <|
 ck .pick [q2_64, q2_65, bF] <|
 ckg (q2_66) true (.bin .eql) [.inp 7, .inp 30] <|
 ck .pick [q2_66, q2_67, bF] <|
 ckg (q2_68) true (.eqa [ none, none, none, none, none, none, none, none, none, none, none, none] false) [.agg (ipx 8 12), .agg (ipx 31 12)] <|
 ck .pick [q2_68, q2_69, bF] <|
 ckg (q2_70) true (.eqb false) [.inp 20, .inp 43] <|
 ck .pick [q2_70, q2_71, bF] <|
 ckg (q2_72) true (.bin .eql) [.inp 21, .inp 44] <|
 ck .pick [q2_72, q2_73, bF] <|
 ckg (q2_74) true (.eqb false) [.inp 22, .inp 45] <|
 ck .pick [q2_74, q2_75, bF] <|
.seg [.bind 49 (pk q2_74 q2_75 bF),
.bind 50 (q2_64),
.bind 51 (q2_66),
.bind 52 (q2_68),
.bind 53 (q2_69),
.bind 54 (q2_70),
.bind 55 (q2_72),
.bind 56 (q2_74)] <|
.ret (.inp 49)
theorem run_lockbarref17_Same : runF E 15 [.agg (ips 0 23), .agg (ips 23 23)] 46 = rt_lockbarref17_Same := by kernel_rfl
def rt_lockbarref21_Run : RT :=
 ck (.isAgg 11) [.agg (ipx 0 11)] <|
 ck (.isAgg 29) [.agg (ipx 11 29)] <|
 ck (.isAgg 23) [.agg (ipx 40 23)] <|
.seg [.call 63 [] 39 [.agg (ipx 40 23)] false] <|
 ck (.isAgg 23) [.inp 63] <|
.seg [.call 64 [] 48 [q2_76] false] <|
 ck (.un .not) [.inp 64] <|
.seg [.call 65 [(nt (.inp 64), false)] 25 [.agg (ipx 0 11), .agg (ipx 11 29)] false] <|
 ck .pick [nt (.inp 64), bT, .inp 65] <|
.cond (pk (nt (.inp 64)) bT (.inp 65))
 (ck (.isAgg 23) [q2_76] <|
.ret (q2_76))
 (ck .len [pt 3 (.inp 63)] <|
.loop 0 66 (ptx (.inp 63) 7 13) <|
 ck (.bin .lss) [.inp 66, ln (pt 3 (.inp 63))] <|
.cond (bi .lss (.inp 66) (ln (pt 3 (.inp 63))))
 (.seg [.chk [] (.eidx 3) [pt 3 (.inp 63), .inp 66],
.chk [] (.eoff 0) [q2_77],
.chk [] (.eload 1 false) [q2_78],
.call 79 [] 24 [.agg (ipx 0 11), .agg (ipx 11 29), e1 q2_78] false,
.chk [(.inp 79, true)] (.bin .eql) [.inp 66, zi 0],
.chk [(q2_79, false), (.inp 79, true)] (.bin .sub) [.inp 66, zi 1],
.chk [(q2_79, false), (.inp 79, true)] (.inr 12) [q2_80],
.chk [(q2_79, false), (.inp 79, true)] (.aidx 12 1 8 1 false) [q2_81, q2_80],
.chk [(.inp 79, true)] .pick [q2_79, bT, q2_82],
.chk [] .pick [.inp 79, q2_83, bF]] <|
.seg [.bind 80 (q2_82),
.bind 81 (q2_83),
.bind 82 (pk (.inp 79) q2_83 bF)] <|
.cond (.inp 82)
 (ck (.inr 12) [.inp 66] <|
 ck (.inr 12) [.inp 66] <|
 ck (.bin .add) [.inp 66, zi 1] <|
.again 0 [q2_84, .app (.cellset 8 12 1 0 1 8) [.inp 66, .inp 67, .agg [bT]], .app (.cellset 8 12 1 0 1 9) [.inp 66, .inp 68, .agg [bT]], .app (.cellset 8 12 1 0 1 10) [.inp 66, .inp 69, .agg [bT]], .app (.cellset 8 12 1 0 1 11) [.inp 66, .inp 70, .agg [bT]], .app (.cellset 8 12 1 0 1 12) [.inp 66, .inp 71, .agg [bT]], .app (.cellset 8 12 1 0 1 13) [.inp 66, .inp 72, .agg [bT]], .app (.cellset 8 12 1 0 1 14) [.inp 66, .inp 73, .agg [bT]], .app (.cellset 8 12 1 0 1 15) [.inp 66, .inp 74, .agg [bT]], .app (.cellset 8 12 1 0 1 16) [.inp 66, .inp 75, .agg [bT]], .app (.cellset 8 12 1 0 1 17) [.inp 66, .inp 76, .agg [bT]], .app (.cellset 8 12 1 0 1 18) [.inp 66, .inp 77, .agg [bT]], .app (.cellset 8 12 1 0 1 19) [.inp 66, .inp 78, .agg [bT]]])
 (ck (.bin .add) [.inp 66, zi 1] <|
.again 0 (ap [q2_84] (ipx 67 12))))
 (.loop 0 79 [pt 7 (.inp 63)] <|
.seg [.chk [] (.bin .lss) [.inp 79, ln (pt 3 (.inp 63))],
.chk [(q2_85, true)] (.inr 12) [.inp 79],
.chk [(q2_85, true)] (.aidx 12 1 8 1 false) [q2_86, .inp 79],
.chk [] .pick [q2_85, q2_87, bF],
.chk [(q2_88, true)] (.eidx 3) [pt 3 (.inp 63), .inp 79],
.chk [(q2_88, true)] (.eoff 0) [q2_89],
.chk [(q2_88, true)] (.eload 1 false) [q2_90],
.call 80 [(q2_88, true)] 23 [.agg (ipx 0 11), .agg (ipx 11 29), e1 q2_90] false,
.chk [(q2_88, true)] (.un .not) [.inp 80],
.chk [] .pick [q2_88, nt (.inp 80), bF],
.chk [(q2_91, true)] (.bin .sub) [ln (pt 3 (.inp 63)), zi 1],
.chk [(q2_91, true)] (.bin .eql) [.inp 79, q2_92],
.chk [(q2_93, false), (q2_91, true)] (.bin .add) [.inp 79, zi 1],
.chk [(q2_93, false), (q2_91, true)] (.inr 12) [q2_94],
.chk [(q2_93, false), (q2_91, true)] (.aidx 12 1 8 1 false) [q2_86, q2_94],
.chk [(q2_91, true)] .pick [q2_93, bT, q2_95],
.chk [] .pick [q2_91, q2_96, bF]] <|
.seg [.bind 81 (q2_87),
.bind 82 (q2_88),
.bind 83 (q2_91),
.bind 84 (q2_95),
.bind 85 (q2_96),
.bind 86 (pk q2_91 q2_96 bF)] <|
.cond (.inp 86)
 (ck (.bin .add) [.inp 79, zi 1] <|
 ck .isOne [q2_94] <|
.again 0 [q2_94])
 (ck (.bin .sub) [ln (pt 3 (.inp 63)), zi 1] <|
 ck (.inr 12) [q2_92] <|
 ck (.aidx 12 1 8 1 false) [q2_86, q2_92] <|
.seg [.bind 87 (q2_97)] <|
.cond (.inp 87)
 (.seg [.call 88 [] 54 [pt 21 (.inp 63)] false] <|
 ck .isOne [.inp 88] <|
 ckg (pt 20 (.inp 63)) false (.bin .eql) [.inp 79, ln (pt 3 (.inp 63))] <|
 ck .pick [pt 20 (.inp 63), bT, q2_98] <|
 ckg (q2_99) false (.bin .sub) [ln (pt 3 (.inp 63)), zi 1] <|
 ckg (q2_99) false (.inr 12) [q2_92] <|
 ckg (q2_99) false (.aidx 12 1 8 1 false) [q2_100, q2_92] <|
.seg [.chk [(q2_101, true), (q2_99, false)] (.bin .geq) [.inp 88, .inp 8]] <|
 ckg (q2_99) false .pick [q2_101, q2_102, bF] <|
 ck .pick [q2_99, bT, q2_103] <|
 ck .isOne [q2_104] <|
.seg [.bind 89 (q2_101),
.bind 90 (q2_103),
.bind 91 (q2_104)] <|
 ck (.isAgg 23) [q2_105] <|
.ret (q2_105))
 (ckg (pt 20 (.inp 63)) false (.bin .eql) [.inp 79, ln (pt 3 (.inp 63))] <|
 ck .pick [pt 20 (.inp 63), bT, q2_98] <|
 ckg (q2_99) false (.bin .sub) [ln (pt 3 (.inp 63)), zi 1] <|
 ckg (q2_99) false (.inr 12) [q2_92] <|
 ckg (q2_99) false (.aidx 12 1 8 1 false) [q2_86, q2_92] <|
.seg [.chk [(q2_97, true), (q2_99, false)] (.bin .geq) [pt 21 (.inp 63), .inp 8]] <|
 ckg (q2_99) false .pick [q2_97, q2_106, bF] <|
 ck .pick [q2_99, bT, q2_107] <|
 ck .isOne [q2_108] <|
.seg [.bind 88 (q2_97),
.bind 89 (q2_107),
.bind 90 (q2_108)] <|
 ck (.isAgg 23) [q2_109] <|
.ret (q2_109)))))
theorem run_lockbarref21_Run : runF E 26 [.agg (ips 0 11), .agg (ips 11 29), .agg (ips 40 23)] 63 = rt_lockbarref21_Run := by kernel_rfl
def rt_tick_Down : RT :=
 ck (.mm true) [.inp 0, zi 1] <|
 ck (.bin .sub) [q2_110, zi 1] <|
.ret (bi .sub q2_110 (zi 1))
theorem run_tick_Down : runF E 38 [.inp 0] 1 = rt_tick_Down := by kernel_rfl
def rt_back_In : RT :=
 ck (.isAgg 11) [.agg (ipx 0 11)] <|
 ck (.isAgg 29) [.agg (ipx 11 29)] <|
 ck (.isAgg 23) [.agg (ipx 40 23)] <|
 ck (.isAgg 11) [.agg (ipx 0 11)] <|
 ck (.isAgg 29) [.agg (ipx 11 29)] <|
 ck (.isAgg 23) [.agg (ipx 40 23)] <|
 ck (.isAgg 23) [.agg (ipx 40 23)] <|
 ck .len [.inp 43] <|
.loop 0 63 [zi 0] <|
 ck (.bin .lss) [.inp 63, ln (.inp 43)] <|
.cond (q2_111)
 (ck (.eidx 3) [.inp 43, .inp 63] <|
 ck (.eload 3 true) [q2_112] <|
 ck (.isAgg 3) [q2_113] <|
 ck (.bin .geq) [.inp 63, .inp 47] <|
.cond (q2_114)
 (.seg [.call 64 [] 45 [.agg (ipx 0 11), .agg (ipx 11 29), q2_115] false] <|
.cond (.inp 64)
 (ck (.un .not) [bF] <|
.ret (bT))
 (ck (.un .not) [bT] <|
 ck (.bin .add) [.inp 63, zi 1] <|
.again 0 [q2_116]))
 (ck (.bin .add) [.inp 63, zi 1] <|
.again 0 [q2_116]))
 (.ret (bF))
theorem run_back_In : runF E 16 [.agg (ips 0 11), .agg (ips 11 29), .agg (ips 40 23)] 63 = rt_back_In := by kernel_rfl
def rt_back_told : RT :=
 ck (.isAgg 11) [.agg (ipx 0 11)] <|
 ck (.isAgg 29) [.agg (ipx 11 29)] <|
 ck (.isAgg 23) [.agg (ipx 40 23)] <|
 ck (.isAgg 11) [.agg (ipx 0 11)] <|
 ck (.isAgg 29) [.agg (ipx 11 29)] <|
 ck (.isAgg 23) [.agg (ipx 40 23)] <|
 ck (.isAgg 23) [.agg (ipx 40 23)] <|
 ck .len [.inp 43] <|
.loop 0 63 [zi 0] <|
 ck (.bin .lss) [.inp 63, ln (.inp 43)] <|
.cond (q2_111)
 (ck (.eidx 3) [.inp 43, .inp 63] <|
 ck (.eload 3 true) [q2_112] <|
 ck (.isAgg 3) [q2_113] <|
 ck (.bin .geq) [.inp 63, .inp 47] <|
.cond (q2_114)
 (.seg [.call 64 [] 63 [.agg (ipx 0 11), .agg (ipx 11 29), q2_115] false] <|
.cond (.inp 64)
 (ck (.un .not) [bF] <|
.ret (bT))
 (ck (.un .not) [bT] <|
 ck (.bin .add) [.inp 63, zi 1] <|
.again 0 [q2_116]))
 (ck (.bin .add) [.inp 63, zi 1] <|
.again 0 [q2_116]))
 (.ret (bF))
theorem run_back_told : runF E 36 [.agg (ips 0 11), .agg (ips 11 29), .agg (ips 40 23)] 63 = rt_back_told := by kernel_rfl
def rt_back_Rear : RT :=
 ck (.isAgg 11) [.agg (ipx 0 11)] <|
 ck (.isAgg 29) [.agg (ipx 11 29)] <|
.seg [.call 41 [] 46 [.agg (ipx 0 11), .inp 40] false] <|
 ck (.isAgg 2) [.inp 41] <|
 ck (.bin .geq) [pt 0 (.inp 41), zi 0] <|
.seg [.call 42 [(q2_117, true)] 45 [.agg (ipx 0 11), .agg (ipx 11 29), pt 0 (.inp 41)] false] <|
 ck .pick [q2_117, .inp 42, bF] <|
.ret (pk q2_117 (.inp 42) bF)
theorem run_back_Rear : runF E 18 [.agg (ips 0 11), .agg (ips 11 29), .inp 40] 41 = rt_back_Rear := by kernel_rfl
def rt_back_comes_1 : RT :=
 ck (.isAgg 23) [.agg (ipx 0 23)] <|
.ret (zi 1)
theorem run_back_comes_1 : runF E 55 [.agg (ips 0 23)] 23 = rt_back_comes_1 := by kernel_rfl
def rt_back_comes_2 : RT :=
 ck (.isAgg 23) [.agg (ipx 0 23)] <|
 ckg (.inp 22) true (.eload 11 true) [.ref (ipx 23 11) 0] <|
 ckg (.inp 22) true (.eload 29 true) [.ref (ipx 34 29) 0] <|
.seg [.call 63 [(.inp 22, true)] 18 [q2_118, q2_119, .inp 1] false] <|
 ck .pick [.inp 22, .inp 63, bF] <|
.seg [.bind 64 (q2_118),
.bind 65 (q2_119)] <|
.cond (pk (.inp 22) (.inp 63) bF)
 (.ret (zi 2))
 (.ret (zi 1))
theorem run_back_comes_2 : runF E 56 [.agg (ips 0 23), .ref (ips 23 11) 0, .ref (ips 34 29) 0] 63 = rt_back_comes_2 := by kernel_rfl
def rt_back_comes_3 : RT :=
 ck (.isAgg 23) [.agg (ipx 0 23)] <|
 ck (.eload 11 true) [.ref (ipx 23 11) 0] <|
 ck (.eload 29 true) [.ref (ipx 34 29) 0] <|
.seg [.call 63 [] 16 [q2_118, q2_119, .agg (ipx 0 23)] false] <|
.seg [.bind 64 (q2_118),
.bind 65 (q2_119)] <|
.cond (.inp 63)
 (.ret (zi 0))
 (.ret (zi 2))
theorem run_back_comes_3 : runF E 57 [.agg (ips 0 23), .ref (ips 23 11) 0, .ref (ips 34 29) 0] 63 = rt_back_comes_3 := by kernel_rfl
end
end Go.Lb.LK
namespace Go.Lb.LK
open Go Go.Lb Go.Proofs
noncomputable section
@[simp] def q3_0 : SE := .agg (ap [.inp 40, .enil] (ipx 42 72))
@[simp] def q3_1 : SE := .app .app [.app .lst [], .inp 41]
@[simp] def q3_2 : SE := ln q3_1
@[simp] def q3_3 : SE := .app (.rowget 23 0 23 true) [.inp 117, .inp 116]
@[simp] def q3_4 : SE := .agg (ptx (.inp 118) 0 23)
@[simp] def q3_5 : SE := .agg (ap [.inp 40, .row 60] (ipx 42 72))
@[simp] def q3_6 : SE := .app (.rowget 23 0 23 true) [.inp 117, .inp 119]
@[simp] def q3_7 : SE := pt 1 q3_6
@[simp] def q3_8 : SE := bi .eql q3_7 (.inp 114)
@[simp] def q3_9 : SE := bi .lss (.inp 118) (zi 0)
@[simp] def q3_10 : SE := pt 0 q3_6
@[simp] def q3_11 : SE := .app (.rowget 23 0 1 false) [.inp 117, .inp 118]
@[simp] def q3_12 : SE := bi .gtr q3_10 q3_11
@[simp] def q3_13 : SE := pk q3_9 bT q3_12
@[simp] def q3_14 : SE := bi .add (.inp 119) (zi 1)
@[simp] def q3_15 : SE := .app (.rowget 23 6 1 false) [.inp 117, .inp 118]
@[simp] def q3_16 : SE := bi .eql q3_15 (.int .u8 1)
@[simp] def q3_17 : SE := bi .eql q3_15 (.int .u8 2)
@[simp] def q3_18 : SE := bi .eql q3_15 (.int .u8 3)
@[simp] def q3_19 : SE := pk q3_16 (.clo 55 [] []) (pk q3_17 (.clo 56 [] [.ptr 14 0, .ptr 16 0]) (pk q3_18 (.clo 57 [] [.ptr 14 0, .ptr 16 0]) .nilf))
@[simp] def q3_20 : SE := .app (.eqf false) [q3_19, .nilf]
@[simp] def q3_21 : SE := .tup [.agg (ap [.inp 40, .inp 117] (ipx 42 72)), bF]
@[simp] def q3_22 : SE := .app (.rowget 23 0 23 true) [.inp 117, .inp 118]
@[simp] def q3_23 : SE := bi .eql (.inp 120) (zi 1)
@[simp] def q3_24 : SE := bi .add (.inp 118) (zi 1)
@[simp] def q3_25 : SE := .agg (ap [.inp 40, .row 164] (ipx 42 72))
@[simp] def q3_26 : SE := .tup [.agg (ap [.inp 40, .app .app [.app (.slice false true) [.inp 117, .inp 118], .app (.slice true false) [.inp 117, q3_24]]] (ipx 42 72)), bT]
@[simp] def q3_27 : SE := bi .eql (.inp 120) (zi 2)
@[simp] def q3_28 : SE := .app (.rowset 23 6 1) [.inp 117, .inp 118, .agg [.int .u8 4]]
@[simp] def q3_29 : SE := .tup [.agg (ap [.inp 40, .app (.rowset 23 21 1) [q3_28, .inp 118, .agg [.inp 7]]] (ipx 42 72)), bT]
@[simp] def q3_30 : SE := bi .neq (pt 6 (.inp 63)) (.int .u8 4)
@[simp] def q3_31 : SE := .agg (ptx (.inp 63) 0 23)
@[simp] def q3_32 : SE := .tup [q3_31, bF]
@[simp] def q3_33 : SE := .agg (ptx (.inp 66) 0 23)
@[simp] def q3_34 : SE := .agg (ap (ptx (.inp 63) 0 21) [.inp 67, pt 22 (.inp 63)])
@[simp] def q3_35 : SE := bi .lss (.inp 11) (zi 0)
@[simp] def q3_36 : SE := bi .geq (.inp 11) (ln (.inp 1))
@[simp] def q3_37 : SE := pk q3_35 bT q3_36
@[simp] def q3_38 : SE := el 2 (.ref [zi (-1), zi 0] 0)
@[simp] def q3_39 : SE := .agg [pt 0 q3_38, pt 1 q3_38]
@[simp] def q3_40 : SE := .app (.eoff 0) [ei 2 (.inp 1) (.inp 11)]
@[simp] def q3_41 : SE := el 2 q3_40
@[simp] def q3_42 : SE := .agg [pt 0 (.inp 12), pt 1 (.inp 12)]
@[simp] def q3_43 : SE := ei 11 (.inp 0) (.inp 11)
@[simp] def q3_44 : SE := .app (.eoff 1) [q3_43]
@[simp] def q3_45 : SE := .app (.eaidx 4 2) [q3_44, .inp 12]
@[simp] def q3_46 : SE := el 2 q3_45
@[simp] def q3_47 : SE := .agg [pt 0 q3_46, pt 1 q3_46]
@[simp] def q3_48 : SE := bi .geq (.inp 11) (zi 0)
@[simp] def q3_49 : SE := bi .lss (.inp 11) (ln (.inp 0))
@[simp] def q3_50 : SE := pk q3_48 q3_49 bF
@[simp] def q3_51 : SE := bi .geq (.inp 12) (zi 0)
@[simp] def q3_52 : SE := pk q3_50 q3_51 bF
@[simp] def q3_53 : SE := .app (.eoff 0) [q3_43]
@[simp] def q3_54 : SE := e1 q3_53
@[simp] def q3_55 : SE := bi .lss (.inp 12) (.inp 13)
@[simp] def q3_56 : SE := pk q3_52 q3_55 bF
@[simp] def q3_61 : SE := bi .add (.inp 75) (zi 1)
@[simp] def q3_63 : SE := bi .lss (.inp 11) (ln (.inp 2))
@[simp] def q3_64 : SE := bi .leq (.inp 11) (zi 30)
@[simp] def q3_65 : SE := .app (.eoff 2) [ei 3 (.inp 2) (.inp 11)]
@[simp] def q3_66 : SE := e1 q3_65
@[simp] def q3_67 : SE := ln q3_66
@[simp] def q3_68 : SE := bi .gtr (ln (.inp 0)) (zi 40)
@[simp] def q3_69 : SE := bi .gtr (ln (.inp 1)) (zi 30)
@[simp] def q3_70 : SE := pk q3_68 bT q3_69
@[simp] def q3_71 : SE := bi .gtr (ln (.inp 2)) (zi 30)
@[simp] def q3_72 : SE := pk q3_70 bT q3_71
@[simp] def q3_73 : SE := bi .gtr (ln (.inp 3)) (zi 40)
@[simp] def q3_74 : SE := .agg [.inp 0, .inp 1, .inp 2]
@[simp] def q3_75 : SE := bi .lss (.inp 0) (zi (-1))
@[simp] def q3_76 : SE := pk q3_75 bT (bi .gtr (.inp 0) (zi 1))
@[simp] def q3_77 : SE := pk q3_76 bT (bi .lss (.inp 1) (zi 0))
@[simp] def q3_78 : SE := bi .gtr (.inp 1) (zi 1000)
@[simp] def q3_79 : SE := .app (.eqa [ some .i64, some .i64, none] false) [q3_74, .inp 5]
@[simp] def q3_80 : SE := .app (.conv .i64) [.inp 0]
@[simp] def q3_81 : SE := .ref [zi 0, zi 0, zi 0, zi 0, zi 0, zi 0, bF, zi 2, zi 0, zi 1, zi 0, zi 0, zi 1, bF, zi 3, zi 0, zi 1, zi 0, zi 2, zi 2, bT, zi 4, zi 0, zi 1, zi 2, zi 3, zi 2, bF] 0
@[simp] def q3_82 : SE := .app (.eaidx 4 7) [q3_81, .inp 0]
@[simp] def q3_83 : SE := el 7 q3_82
@[simp] def q3_84 : SE := ei 1 (.inp 46) (.inp 47)
@[simp] def q3_91 : SE := ei 23 (.inp 1) (.inp 148)
@[simp] def q3_92 : SE := ei 23 (.inp 75) (.inp 148)
@[simp] def q3_93 : SE := bi .eql (.inp 0) (.inp 74)
@[simp] def q3_94 : SE := .app (.eqa [ some .i64, some .i64, none, some .i64, some .i64, none, some .i64, some .i64, none, some .i64, some .i64, none, some .i64, some .i64, none, some .i64, some .i64, none, some .i64, some .i64, none, some .i64, some .i64, none, some .i64, some .i64, none, some .i64, some .i64, none, some .i64, some .i64, none, some .i64, some .i64, none, some .i64, some .i64, none, some .i64, some .i64, none, some .i64, some .i64, none, some .i64, some .i64, none, some .i64, some .i64, none, some .i64, some .i64, none, some .i64, some .i64, none, some .i64, some .i64, none, some .i64, some .i64, none, some .i64, some .i64, none, some .i64, some .i64, none, some .i64, some .i64, none] false) [.agg (ipx 2 72), .agg (ipx 76 72)]
@[simp] def q3_95 : SE := bi .gtr (ln (.inp 1)) (zi 6)
@[simp] def q3_96 : SE := pk q3_95 bT (bi .lss (.inp 0) (zi 1))
@[simp] def q3_97 : SE := bi .gtr (.inp 0) (zi 1073741824)
@[simp] def q3_98 : SE := ei 23 (.inp 1) (.inp 75)
@[simp] def q3_99 : SE := el 23 q3_98
@[simp] def q3_100 : SE := .agg (ptx (q3_99) 0 23)
@[simp] def q3_101 : SE := pt 0 q3_99
@[simp] def q3_102 : SE := bi .geq q3_101 (.inp 0)
@[simp] def q3_103 : SE := pk (nt (.inp 76)) bT q3_102
@[simp] def q3_104 : SE := bi .gtr (.inp 75) (zi 0)
@[simp] def q3_105 : SE := bi .sub (.inp 75) (zi 1)
@[simp] def q3_106 : SE := ei 23 (.inp 1) q3_105
@[simp] def q3_107 : SE := .app (.eoff 0) [q3_106]
@[simp] def q3_108 : SE := e1 q3_107
@[simp] def q3_109 : SE := bi .leq q3_101 q3_108
@[simp] def q3_110 : SE := pk q3_104 q3_109 bF
@[simp] def q3_111 : SE := ei 23 (.inp 1) (.inp 81)
@[simp] def q3_112 : SE := .app (.aidx 24 3 2 3 true) [.agg (ipx 0 74), .inp 76]
@[simp] def q3_113 : SE := bi .add (.inp 76) (zi 1)
def rt_back_Cancel : RT :=
 ck (.isAgg 11) [.agg (ipx 0 11)] <|
 ck (.isAgg 29) [.agg (ipx 11 29)] <|
 ck (.isAgg 74) [.agg (ipx 40 74)] <|
 ck (.isAgg 11) [.agg (ipx 0 11)] <|
 ck (.isAgg 29) [.agg (ipx 11 29)] <|
 ck (.isAgg 74) [.agg (ipx 40 74)] <|
.seg [.chk [] .len [.inp 41],
.isNil 115 [] (.inp 41)] <|
.cond (.inp 115)
 (ck .len [.nils] <|
.loop 0 116 [] <|
 ck (.bin .lss) [zi 0, zi 0] <|
 ck (.isAgg 74) [q3_0] <|
 ck (.isAgg 74) [q3_0] <|
 ck .len [.nils] <|
.loop 0 116 [] <|
 ck (.bin .lss) [zi 0, zi 0] <|
 ck (.bin .lss) [zi (-1), zi 0] <|
 ck (.isAgg 74) [q3_0] <|
.ret (.tup [.agg (ap [.inp 40, .nils] (ipx 42 72)), bF]))
 (.seg [.chk [] (.szs 23) [.inp 41],
.chk [] .app [.app .lst [], .inp 41],
.chk [] (.inr 4294967297) [q3_2]] <|
 ck .len [q3_1] <|
.loop 0 116 [zi 0, q3_1] <|
 ck (.bin .lss) [.inp 116, q3_2] <|
.cond (bi .lss (.inp 116) q3_2)
 (ck (.eidx 23) [.inp 117, .inp 116] <|
 ck (.rowget 23 0 23 true) [.inp 117, .inp 116] <|
 ck (.isAgg 23) [q3_3] <|
.seg [.call 118 [] 34 [.agg (ptx (q3_3) 0 23)] false,
.chk [] (.eidx 23) [.inp 117, .inp 116],
.chk [] (.rowset 23 0 23) [.inp 117, .inp 116, q3_4],
.chk [] (.isAgg 23) [.inp 118]] <|
.seg [.bind 119 (.app (.rowset 23 0 23) [.inp 117, .inp 116, q3_4])] <|
 ck (.bin .add) [.inp 116, zi 1] <|
.again 0 [bi .add (.inp 116) (zi 1), .inp 119])
 (ck (.isAgg 74) [q3_5] <|
 ck (.isAgg 74) [q3_5] <|
 ck .len [.inp 117] <|
.loop 0 118 [zi (-1), zi 0] <|
 ck (.bin .lss) [.inp 119, ln (.inp 117)] <|
.cond (bi .lss (.inp 119) (ln (.inp 117)))
 (ck (.eidx 23) [.inp 117, .inp 119] <|
 ck (.rowget 23 0 23 true) [.inp 117, .inp 119] <|
 ck (.isAgg 23) [q3_6] <|
.seg [.chk [] (.bin .eql) [q3_7, .inp 114],
.chk [(q3_8, true)] (.bin .lss) [.inp 118, zi 0],
.chk [(q3_9, false), (q3_8, true)] (.eidx 23) [.inp 117, .inp 118],
.chk [(q3_9, false), (q3_8, true)] (.inr 4294967296) [.inp 118],
.chk [(q3_9, false), (q3_8, true)] (.rowget 23 0 1 false) [.inp 117, .inp 118],
.chk [(q3_9, false), (q3_8, true)] (.bin .gtr) [q3_10, q3_11],
.chk [(q3_8, true)] .pick [q3_9, bT, q3_12],
.chk [] .pick [q3_8, q3_13, bF]] <|
.seg [.bind 120 (q3_13),
.bind 121 (pk q3_8 q3_13 bF)] <|
.cond (.inp 121)
 (ck (.bin .add) [.inp 119, zi 1] <|
.again 0 [.inp 119, q3_14])
 (ck (.bin .add) [.inp 119, zi 1] <|
.again 0 [.inp 118, q3_14]))
 (ck (.bin .lss) [.inp 118, zi 0] <|
 ckg (q3_9) false (.eidx 23) [.inp 117, .inp 118] <|
 ckg (q3_9) false (.inr 4294967296) [.inp 118] <|
 ckg (q3_9) false (.rowget 23 6 1 false) [.inp 117, .inp 118] <|
 ckg (q3_9) false (.bin .eql) [q3_15, .int .u8 0] <|
 ckg (q3_9) false (.eqf false) [q3_19, .nilf] <|
 ck .pick [q3_9, bT, q3_20] <|
.cond (pk q3_9 bT q3_20)
 (ck (.isAgg 74) [q3_5] <|
.ret (q3_21))
 (.cond (q3_16)
 (.seg [.chk [] (.eidx 23) [.inp 117, .inp 118],
.chk [] (.inr 4294967296) [.inp 118],
.chk [] (.rowget 23 6 1 false) [.inp 117, .inp 118],
.chk [] (.bin .eql) [q3_15, .int .u8 0],
.chk [] (.eidx 23) [.inp 117, .inp 118],
.chk [] (.rowget 23 0 23 true) [.inp 117, .inp 118],
.call 120 [] 55 [q3_22] false] <|
 ck (.bin .eql) [.inp 120, zi 1] <|
.cond (q3_23)
 (ck (.bin .add) [.inp 118, zi 1] <|
.seg [.chk [] (.szs 23) [.inp 117],
.chk [] .app [.inp 117, .nils],
.chk [] (.bin .add) [.inp 118, zi 1],
.chk [] (.bin .lss) [q3_24, zi 0],
.chk [] (.slice true true) [.inp 117, .inp 118, q3_24],
.chk [] (.slice true true) [.inp 117, q3_24, q3_24]] <|
 ck (.isAgg 74) [q3_25] <|
.ret (q3_26))
 (ck (.bin .eql) [.inp 120, zi 2] <|
.cond (q3_27)
 (.seg [.chk [] (.eidx 23) [.inp 117, .inp 118],
.chk [] (.inr 4294967296) [.inp 118],
.chk [] (.rowset 23 6 1) [.inp 117, .inp 118, .agg [.int .u8 4]],
.chk [] (.eidx 23) [q3_28, .inp 118],
.chk [] (.inr 4294967296) [.inp 118],
.chk [] (.rowset 23 21 1) [q3_28, .inp 118, .agg [.inp 7]],
.chk [] .isOne [.inp 7]] <|
 ck (.isAgg 74) [q3_5] <|
.ret (q3_29))
 (ck (.isAgg 74) [q3_5] <|
.ret (q3_21))))
 (.cond (q3_17)
 (.seg [.chk [] (.eidx 23) [.inp 117, .inp 118],
.chk [] (.inr 4294967296) [.inp 118],
.chk [] (.rowget 23 6 1 false) [.inp 117, .inp 118],
.chk [] (.bin .eql) [q3_15, .int .u8 0],
.chk [] (.eidx 23) [.inp 117, .inp 118],
.chk [] (.rowget 23 0 23 true) [.inp 117, .inp 118],
.call 120 [] 56 [q3_22, .ref (ipx 0 11) 0, .ref (ipx 11 29) 0] true] <|
 ck (.bin .eql) [.inp 120, zi 1] <|
.cond (q3_23)
 (ck (.bin .add) [.inp 118, zi 1] <|
.seg [.chk [] (.szs 23) [.inp 117],
.chk [] .app [.inp 117, .nils],
.chk [] (.bin .add) [.inp 118, zi 1],
.chk [] (.bin .lss) [q3_24, zi 0],
.chk [] (.slice true true) [.inp 117, .inp 118, q3_24],
.chk [] (.slice true true) [.inp 117, q3_24, q3_24]] <|
 ck (.isAgg 74) [q3_25] <|
.ret (q3_26))
 (ck (.bin .eql) [.inp 120, zi 2] <|
.cond (q3_27)
 (.seg [.chk [] (.eidx 23) [.inp 117, .inp 118],
.chk [] (.inr 4294967296) [.inp 118],
.chk [] (.rowset 23 6 1) [.inp 117, .inp 118, .agg [.int .u8 4]],
.chk [] (.eidx 23) [q3_28, .inp 118],
.chk [] (.inr 4294967296) [.inp 118],
.chk [] (.rowset 23 21 1) [q3_28, .inp 118, .agg [.inp 7]],
.chk [] .isOne [.inp 7]] <|
 ck (.isAgg 74) [q3_5] <|
.ret (q3_29))
 (ck (.isAgg 74) [q3_5] <|
.ret (q3_21))))
 (.cond (q3_18)
 (.seg [.chk [] (.eidx 23) [.inp 117, .inp 118],
.chk [] (.inr 4294967296) [.inp 118],
.chk [] (.rowget 23 6 1 false) [.inp 117, .inp 118],
.chk [] (.bin .eql) [q3_15, .int .u8 0],
.chk [] (.eidx 23) [.inp 117, .inp 118],
.chk [] (.rowget 23 0 23 true) [.inp 117, .inp 118],
.call 120 [] 57 [q3_22, .ref (ipx 0 11) 0, .ref (ipx 11 29) 0] true] <|
 ck (.bin .eql) [.inp 120, zi 1] <|
.cond (q3_23)
 (ck (.bin .add) [.inp 118, zi 1] <|
.seg [.chk [] (.szs 23) [.inp 117],
.chk [] .app [.inp 117, .nils],
.chk [] (.bin .add) [.inp 118, zi 1],
.chk [] (.bin .lss) [q3_24, zi 0],
.chk [] (.slice true true) [.inp 117, .inp 118, q3_24],
.chk [] (.slice true true) [.inp 117, q3_24, q3_24]] <|
 ck (.isAgg 74) [q3_25] <|
.ret (q3_26))
 (ck (.bin .eql) [.inp 120, zi 2] <|
.cond (q3_27)
 (.seg [.chk [] (.eidx 23) [.inp 117, .inp 118],
.chk [] (.inr 4294967296) [.inp 118],
.chk [] (.rowset 23 6 1) [.inp 117, .inp 118, .agg [.int .u8 4]],
.chk [] (.eidx 23) [q3_28, .inp 118],
.chk [] (.inr 4294967296) [.inp 118],
.chk [] (.rowset 23 21 1) [q3_28, .inp 118, .agg [.inp 7]],
.chk [] .isOne [.inp 7]] <|
 ck (.isAgg 74) [q3_5] <|
.ret (q3_29))
 (ck (.isAgg 74) [q3_5] <|
.ret (q3_21))))
 (.seg [.chk [] (.eidx 23) [.inp 117, .inp 118],
.chk [] (.inr 4294967296) [.inp 118],
.chk [] (.rowget 23 6 1 false) [.inp 117, .inp 118],
.chk [] (.bin .eql) [q3_15, .int .u8 0],
.chk [] (.eidx 23) [.inp 117, .inp 118],
.chk [] (.rowget 23 0 23 true) [.inp 117, .inp 118]] <|
.dead 6 [zi 1, .nilf, q3_22])))))))
theorem run_back_Cancel : runF E 10 [.agg (ips 0 11), .agg (ips 11 29), .agg (ips 40 74), .inp 114] 115 = rt_back_Cancel := by kernel_rfl
def rt_back_Tick : RT :=
 ck (.isAgg 11) [.agg (ipx 0 11)] <|
 ck (.isAgg 29) [.agg (ipx 11 29)] <|
 ck (.isAgg 23) [.agg (ipx 40 23)] <|
.seg [.call 63 [] 34 [.agg (ipx 40 23)] false] <|
 ck (.isAgg 23) [.inp 63] <|
 ck (.bin .neq) [pt 6 (.inp 63), .int .u8 4] <|
.seg [.call 64 [(q3_30, false)] 35 [.agg (ipx 0 11), .agg (ipx 11 29)] false] <|
 ck .pick [q3_30, bT, .inp 64] <|
.cond (pk q3_30 bT (.inp 64))
 (ck (.isAgg 23) [q3_31] <|
.ret (q3_32))
 (.seg [.call 65 [] 36 [.agg (ipx 0 11), .agg (ipx 11 29), q3_31] false] <|
.cond (.inp 65)
 (.seg [.call 66 [] 37 [.agg (ipx 0 11), .agg (ipx 11 29), .agg (ap (ptx (.inp 63) 0 6) (ap [.int .u8 3] (ap (ptx (.inp 63) 7 14) [zi 0, pt 22 (.inp 63)])))] false] <|
 ck (.isAgg 23) [.inp 66] <|
 ck (.isAgg 23) [q3_33] <|
.ret (.tup [q3_33, bF]))
 (.seg [.call 66 [] 16 [.agg (ipx 0 11), .agg (ipx 11 29), q3_31] false] <|
.cond (.inp 66)
 (ck (.isAgg 23) [q3_31] <|
.ret (q3_32))
 (.seg [.call 67 [] 38 [pt 21 (.inp 63)] false] <|
 ck .isOne [.inp 67] <|
 ck (.bin .eql) [.inp 67, zi 0] <|
 ck (.isAgg 23) [q3_34] <|
.ret (.tup [q3_34, bi .eql (.inp 67) (zi 0)]))))
theorem run_back_Tick : runF E 12 [.agg (ips 0 11), .agg (ips 11 29), .agg (ips 40 23)] 63 = rt_back_Tick := by kernel_rfl
def rt_beyond_Rear : RT :=
 ck (.isAgg 11) [.agg (ipx 0 11)] <|
 ck (.bin .lss) [.inp 11, zi 0] <|
 ckg (q3_35) false .len [.inp 1] <|
 ckg (q3_35) false (.bin .geq) [.inp 11, ln (.inp 1)] <|
 ck .pick [q3_35, bT, q3_36] <|
.cond (q3_37)
 (ck (.eload 2 true) [.ref [zi (-1), zi 0] 0] <|
 ck (.isAgg 2) [q3_38] <|
.ret (q3_39))
 (.seg [.chk [] (.eidx 2) [.inp 1, .inp 11],
.chk [] (.eoff 0) [ei 2 (.inp 1) (.inp 11)],
.chk [] (.eload 2 true) [q3_40],
.call 12 [] 72 [.agg (ipx 0 11), q3_41] false,
.chk [] (.isAgg 2) [.inp 12]] <|
.ret (q3_42))
theorem run_beyond_Rear : runF E 46 [.agg (ips 0 11), .inp 11] 12 = rt_beyond_Rear := by kernel_rfl
def rt_join_Beyond : RT :=
 ck (.isAgg 11) [.agg (ipx 0 11)] <|
 ck (.isAgg 2) [.agg [.inp 11, .inp 12]] <|
.seg [.call 13 [] 88 [.agg (ipx 0 11), .agg [.inp 11, .inp 12]] false] <|
.cond (.inp 13)
 (.seg [.chk [] (.eidx 11) [.inp 0, .inp 11],
.chk [] (.eoff 1) [q3_43],
.chk [] (.eaidx 4 2) [q3_44, .inp 12],
.chk [] (.eload 2 true) [q3_45],
.chk [] (.isAgg 2) [q3_46]] <|
.ret (q3_47))
 (ck (.eload 2 true) [.ref [zi (-1), zi 0] 0] <|
 ck (.isAgg 2) [q3_38] <|
.ret (q3_39))
theorem run_join_Beyond : runF E 72 [.agg (ips 0 11), .agg [.inp 11, .inp 12]] 13 = rt_join_Beyond := by kernel_rfl
def rt_join_Has : RT :=
 ck (.isAgg 11) [.agg (ipx 0 11)] <|
 ck (.isAgg 2) [.agg [.inp 11, .inp 12]] <|
.seg [.chk [] (.bin .geq) [.inp 11, zi 0],
.chk [(q3_48, true)] .len [.inp 0],
.chk [(q3_48, true)] (.bin .lss) [.inp 11, ln (.inp 0)],
.chk [] .pick [q3_48, q3_49, bF],
.chk [(q3_50, true)] (.bin .geq) [.inp 12, zi 0],
.chk [] .pick [q3_50, q3_51, bF],
.chk [(q3_52, true)] (.eidx 11) [.inp 0, .inp 11],
.chk [(q3_52, true)] (.eoff 0) [q3_43],
.chk [(q3_52, true)] (.eload 1 false) [q3_53],
.call 13 [(q3_52, true)] 100 [q3_54] false,
.chk [(q3_52, true)] (.bin .lss) [.inp 12, .inp 13],
.chk [] .pick [q3_52, q3_55, bF]] <|
.seg [.bind 14 (q3_56),
.bind 15 (q3_52)] <|
.ret (.inp 14)
theorem run_join_Has : runF E 88 [.agg (ips 0 11), .agg [.inp 11, .inp 12]] 13 = rt_join_Has := by kernel_rfl
def rt_port_Ports : RT :=
.seg [.call 1 [] 111 [.inp 0] false] <|
 ck (.part 0 1 false) [.inp 1] <|
.ret (pt 0 (.inp 1))
theorem run_port_Ports : runF E 100 [.inp 0] 1 = rt_port_Ports := by kernel_rfl
def rt_lockbarref06_Great : RT :=
 ck (.isAgg 11) [.agg (ipx 0 11)] <|
.loop 0 11 [zi 0] <|
 ck .len [.inp 2] <|
 ck (.bin .lss) [.inp 11, ln (.inp 2)] <|
 ckg (q3_63) true (.bin .leq) [.inp 11, zi 30] <|
 ck .pick [q3_63, q3_64, bF] <|
.cond (pk q3_63 q3_64 bF)
 (ck (.eidx 3) [.inp 2, .inp 11] <|
 ck (.eoff 2) [ei 3 (.inp 2) (.inp 11)] <|
 ck (.eload 1 false) [q3_65] <|
 ck .len [q3_66] <|
 ck (.bin .gtr) [q3_67, zi 20] <|
.cond (bi .gtr q3_67 (zi 20))
 (.ret (bT))
 (ck (.bin .add) [.inp 11, zi 1] <|
.again 0 [bi .add (.inp 11) (zi 1)]))
 (ck .len [.inp 0] <|
 ck (.bin .gtr) [ln (.inp 0), zi 40] <|
 ckg (q3_68) false .len [.inp 1] <|
 ckg (q3_68) false (.bin .gtr) [ln (.inp 1), zi 30] <|
 ck .pick [q3_68, bT, q3_69] <|
 ckg (q3_70) false .len [.inp 2] <|
 ckg (q3_70) false (.bin .gtr) [ln (.inp 2), zi 30] <|
 ck .pick [q3_70, bT, q3_71] <|
 ckg (q3_72) false .len [.inp 3] <|
 ckg (q3_72) false (.bin .gtr) [ln (.inp 3), zi 40] <|
 ck .pick [q3_72, bT, q3_73] <|
.seg [.bind 12 (pk q3_72 bT q3_73),
.bind 13 (q3_70),
.bind 14 (q3_72)] <|
.ret (.inp 12))
theorem run_lockbarref06_Great : runF E 7 [.agg (ips 0 11)] 11 = rt_lockbarref06_Great := by kernel_rfl
def rt_lockbarref16_Rest : RT :=
.ret (.agg [zi (-1), zi 0, bF])
theorem run_lockbarref16_Rest : runF E 79 [] 0 = rt_lockbarref16_Rest := by kernel_rfl
def rt_lockbarref16_Right : RT :=
 ck (.isAgg 3) [q3_74] <|
 ck (.bin .lss) [.inp 0, zi (-1)] <|
 ckg (q3_75) false (.bin .gtr) [.inp 0, zi 1] <|
 ck .pick [q3_75, bT, bi .gtr (.inp 0) (zi 1)] <|
 ckg (q3_76) false (.bin .lss) [.inp 1, zi 0] <|
 ck .pick [q3_76, bT, bi .lss (.inp 1) (zi 0)] <|
 ckg (q3_77) false (.bin .gtr) [.inp 1, zi 1000] <|
 ck .pick [q3_77, bT, q3_78] <|
.seg [.bind 3 (q3_77),
.bind 4 (pk q3_77 bT q3_78)] <|
.cond (.inp 4)
 (.ret (bF))
 (.seg [.chk [] (.bin .geq) [.inp 0, zi 0],
.call 5 [(bi .geq (.inp 0) (zi 0), false)] 79 [] false,
.chk [(bi .geq (.inp 0) (zi 0), false)] (.eqa [ some .i64, some .i64, none] false) [q3_74, .inp 5],
.chk [] .pick [bi .geq (.inp 0) (zi 0), bT, q3_79]] <|
.seg [.bind 6 (pk (bi .geq (.inp 0) (zi 0)) bT q3_79)] <|
.ret (.inp 6))
theorem run_lockbarref16_Right : runF E 50 [.agg [.inp 0, .inp 1, .inp 2]] 3 = rt_lockbarref16_Right := by kernel_rfl
def rt_port_of : RT :=
 ck (.conv .i64) [.inp 0] <|
 ck (.bin .lss) [q3_80, zi 4] <|
.cond (bi .lss q3_80 (zi 4))
 (ck (.eaidx 4 7) [q3_81, .inp 0] <|
 ck (.eload 7 true) [q3_82] <|
 ck (.isAgg 7) [q3_83] <|
.seg [.bind 1 (q3_82),
.bind 2 (q3_83),
.bind 3 (pt 0 q3_83),
.bind 4 (pt 1 q3_83),
.bind 5 (pt 2 q3_83),
.bind 6 (pt 3 q3_83),
.bind 7 (pt 4 q3_83),
.bind 8 (pt 5 q3_83),
.bind 9 (pt 6 q3_83)] <|
.ret (.agg (ipx 3 7)))
 (.ret (.agg [zi 0, zi 0, zi 0, zi 0, zi 0, zi 0, bF]))
theorem run_port_of : runF E 111 [.inp 0] 1 = rt_port_of := by kernel_rfl
def rt_lockbarref17_Apart : RT :=
 ck (.isAgg 23) [.agg (ipx 0 23)] <|
 ck (.isAgg 23) [.agg (ipx 23 23)] <|
.seg [.call 46 [] 76 [.agg (ipx 0 23)] false] <|
.loop 0 47 [zi 0] <|
 ck .len [.inp 46] <|
 ck (.bin .lss) [.inp 47, ln (.inp 46)] <|
.cond (bi .lss (.inp 47) (ln (.inp 46)))
 (.seg [.chk [] (.eidx 1) [.inp 46, .inp 47],
.chk [] (.eload 1 false) [q3_84],
.call 48 [] 77 [.agg (ipx 23 23), e1 q3_84] false] <|
.cond (.inp 48)
 (.ret (bF))
 (ck (.bin .add) [.inp 47, zi 1] <|
.again 0 [bi .add (.inp 47) (zi 1)]))
 (.seg [.call 48 [] 78 [.agg (ipx 0 23)] false,
.call 49 [] 78 [.agg (ipx 23 23)] false,
.call 50 [] 75 [.inp 48, .inp 49] false,
.chk [] (.un .not) [.inp 50]] <|
.ret (nt (.inp 50)))
theorem run_lockbarref17_Apart : runF E 49 [.agg (ips 0 23), .agg (ips 23 23)] 46 = rt_lockbarref17_Apart := by kernel_rfl
def rt_lockbarref18_Same : RT :=
 ck (.isAgg 74) [.agg (ipx 0 74)] <|
 ck (.isAgg 74) [.agg (ipx 74 74)] <|
 ck .len [.inp 1] <|
 ck .len [.inp 75] <|
 ck (.bin .neq) [ln (.inp 1), ln (.inp 75)] <|
.cond (bi .neq (ln (.inp 1)) (ln (.inp 75)))
 (.ret (bF))
 (.loop 0 148 [zi 0] <|
 ck .len [.inp 1] <|
 ck (.bin .lss) [.inp 148, ln (.inp 1)] <|
.cond (bi .lss (.inp 148) (ln (.inp 1)))
 (.seg [.chk [] (.eidx 23) [.inp 1, .inp 148],
.chk [] (.eload 23 true) [q3_91],
.chk [] (.eidx 23) [.inp 75, .inp 148],
.chk [] (.eload 23 true) [q3_92],
.call 149 [] 15 [el 23 q3_91, el 23 q3_92] false,
.chk [] (.un .not) [.inp 149]] <|
.cond (.inp 149)
 (ck (.bin .add) [.inp 148, zi 1] <|
.again 0 [bi .add (.inp 148) (zi 1)])
 (.ret (bF)))
 (ck (.bin .eql) [.inp 0, .inp 74] <|
 ckg (q3_93) true (.eqa [ some .i64, some .i64, none, some .i64, some .i64, none, some .i64, some .i64, none, some .i64, some .i64, none, some .i64, some .i64, none, some .i64, some .i64, none, some .i64, some .i64, none, some .i64, some .i64, none, some .i64, some .i64, none, some .i64, some .i64, none, some .i64, some .i64, none, some .i64, some .i64, none, some .i64, some .i64, none, some .i64, some .i64, none, some .i64, some .i64, none, some .i64, some .i64, none, some .i64, some .i64, none, some .i64, some .i64, none, some .i64, some .i64, none, some .i64, some .i64, none, some .i64, some .i64, none, some .i64, some .i64, none, some .i64, some .i64, none, some .i64, some .i64, none] false) [.agg (ipx 2 72), .agg (ipx 76 72)] <|
 ck .pick [q3_93, q3_94, bF] <|
.seg [.bind 149 (pk q3_93 q3_94 bF),
.bind 150 (q3_94)] <|
.ret (.inp 149)))
theorem run_lockbarref18_Same : runF E 14 [.agg (ips 0 74), .agg (ips 74 74)] 148 = rt_lockbarref18_Same := by kernel_rfl
def rt_lockbarref18_Right : RT :=
 ck (.isAgg 74) [.agg (ipx 0 74)] <|
 ck .len [.inp 1] <|
 ck (.bin .gtr) [ln (.inp 1), zi 6] <|
 ckg (q3_95) false (.bin .lss) [.inp 0, zi 1] <|
 ck .pick [q3_95, bT, bi .lss (.inp 0) (zi 1)] <|
 ckg (q3_96) false (.bin .gtr) [.inp 0, zi 1073741824] <|
 ck .pick [q3_96, bT, q3_97] <|
.seg [.bind 74 (pk q3_96 bT q3_97)] <|
.cond (.inp 74)
 (.ret (bF))
 (.loop 0 75 [zi 0] <|
 ck .len [.inp 1] <|
 ck (.bin .lss) [.inp 75, ln (.inp 1)] <|
.cond (bi .lss (.inp 75) (ln (.inp 1)))
 (ck (.eidx 23) [.inp 1, .inp 75] <|
 ck (.eload 23 true) [q3_98] <|
 ck (.isAgg 23) [q3_99] <|
.seg [.call 76 [] 48 [q3_100] false,
.chk [] (.un .not) [.inp 76],
.chk [(nt (.inp 76), false)] (.bin .geq) [q3_101, .inp 0],
.chk [] .pick [nt (.inp 76), bT, q3_102],
.chk [(q3_103, false)] (.bin .gtr) [.inp 75, zi 0],
.chk [(q3_104, true), (q3_103, false)] (.bin .sub) [.inp 75, zi 1],
.chk [(q3_104, true), (q3_103, false)] (.eidx 23) [.inp 1, q3_105],
.chk [(q3_104, true), (q3_103, false)] (.eoff 0) [q3_106],
.chk [(q3_104, true), (q3_103, false)] (.eload 1 false) [q3_107],
.chk [(q3_104, true), (q3_103, false)] (.bin .leq) [q3_101, q3_108],
.chk [(q3_103, false)] .pick [q3_104, q3_109, bF],
.chk [] .pick [q3_103, bT, q3_110]] <|
.seg [.bind 77 (q3_103),
.bind 78 (q3_109),
.bind 79 (q3_110),
.bind 80 (pk q3_103 bT q3_110)] <|
.cond (.inp 80)
 (.ret (bF))
 (.loop 1 81 [zi 0] <|
 ck (.bin .lss) [.inp 81, .inp 75] <|
.cond (bi .lss (.inp 81) (.inp 75))
 (.seg [.chk [] (.eidx 23) [.inp 1, .inp 81],
.chk [] (.eload 23 true) [q3_111],
.call 82 [] 49 [q3_100, el 23 q3_111] false,
.chk [] (.un .not) [.inp 82]] <|
.cond (.inp 82)
 (ck (.bin .add) [.inp 81, zi 1] <|
.again 1 [bi .add (.inp 81) (zi 1)])
 (.ret (bF)))
 (ck (.bin .add) [.inp 75, zi 1] <|
.again 0 [q3_61])))
 (.loop 0 76 [zi 0] <|
 ck (.bin .lss) [.inp 76, zi 24] <|
.cond (bi .lss (.inp 76) (zi 24))
 (ck (.inr 24) [.inp 76] <|
 ck (.aidx 24 3 2 3 true) [.agg (ipx 0 74), .inp 76] <|
.seg [.call 77 [] 50 [q3_112] false] <|
 ck (.un .not) [.inp 77] <|
.seg [.bind 78 (q3_112)] <|
.cond (.inp 77)
 (ck (.bin .add) [.inp 76, zi 1] <|
.again 0 [q3_113])
 (.ret (bF)))
 (.ret (bT))))
theorem run_lockbarref18_Right : runF E 20 [.agg (ips 0 74)] 74 = rt_lockbarref18_Right := by kernel_rfl
end
end Go.Lb.LK
namespace Go.Lb.LK
open Go Go.Lb Go.Proofs
noncomputable section
@[simp] def q4_26 : SE := .agg [.inp 0, .app .lst [.agg [zi 1, zi 0]], .app .lst [.agg [zi 2, zi 1, .nils]], .nils, zi 1, zi 1, zi 9, zi 2, zi 1, zi 1, zi 1]
@[simp] def q4_27 : SE := .agg (ptx (.inp 2) 0 29)
@[simp] def q4_28 : SE := .agg (ptx (tp 3 (.inp 0)) 0 23)
@[simp] def q4_29 : SE := .agg (ptx (tp 0 (.inp 0)) 0 11)
@[simp] def q4_30 : SE := .agg (ptx (tp 1 (.inp 0)) 0 29)
@[simp] def q4_31 : SE := .agg [zi 6, .inp 1, zi 0, zi 0, bF, zi 0, zi 0, bF, zi 0, zi 0, bF, zi 0, zi 0, bF, zi 0, zi 0, bF, zi 0, zi 0, bF, zi 0, zi 0, bF, zi 0, zi 0, bF, zi 0, zi 0, bF, zi 0, zi 0, bF, zi 0, zi 0, bF, zi 0, zi 0, bF, zi 0, zi 0, bF, zi 0, zi 0, bF, zi 0, zi 0, bF, zi 0, zi 0, bF, zi 0, zi 0, bF, zi 0, zi 0, bF, zi 0, zi 0, bF, zi 0, zi 0, bF, zi 0, zi 0, bF, zi 0, zi 0, bF, zi 0, zi 0, bF, zi 0, zi 0, bF]
@[simp] def q4_32 : SE := .agg (ptx (tp 2 (.inp 0)) 0 29)
@[simp] def q4_33 : SE := ln (pt 1 (tp 0 (.inp 3)))
@[simp] def q4_34 : SE := ei 23 (pt 1 (tp 0 (.inp 3))) (zi 0)
@[simp] def q4_35 : SE := .agg (ptx (tp 0 (.inp 5)) 0 23)
@[simp] def q4_36 : SE := ln (pt 1 (tp 0 (.inp 2)))
@[simp] def q4_37 : SE := bi .eql q4_36 (zi 0)
@[simp] def q4_38 : SE := pk q4_37 (tp 1 (.inp 2)) bF
@[simp] def q4_39 : SE := pk q4_38 (tp 1 (.inp 3)) bF
@[simp] def q4_40 : SE := .app (.eoff 6) [q4_34]
@[simp] def q4_41 : SE := e1 q4_40
@[simp] def q4_42 : SE := bi .eql q4_41 (.int .u8 4)
@[simp] def q4_43 : SE := pk q4_39 q4_42 bF
@[simp] def q4_44 : SE := .app (.eoff 21) [q4_34]
@[simp] def q4_45 : SE := e1 q4_44
@[simp] def q4_46 : SE := bi .eql q4_45 (zi 2)
@[simp] def q4_47 : SE := pk q4_43 q4_46 bF
@[simp] def q4_48 : SE := pk q4_47 (nt (tp 1 (.inp 4))) bF
@[simp] def q4_49 : SE := pk q4_48 (.inp 9) bF
@[simp] def q4_50 : SE := pk q4_49 (nt (tp 1 (.inp 5))) bF
@[simp] def q4_51 : SE := bi .eql (pt 21 (tp 0 (.inp 5))) (zi 1)
@[simp] def q4_52 : SE := pk q4_50 q4_51 bF
@[simp] def q4_53 : SE := pk q4_52 (tp 1 (.inp 6)) bF
@[simp] def q4_54 : SE := pk q4_53 (nt (tp 1 (.inp 8))) bF
@[simp] def q4_55 : SE := bi .eql (pt 6 (tp 0 (.inp 8))) (.int .u8 3)
@[simp] def q4_56 : SE := pk q4_54 q4_55 bF
@[simp] def q4_57 : SE := bi .eql (pt 21 (tp 0 (.inp 8))) (zi 0)
@[simp] def q4_58 : SE := pk q4_56 q4_57 bF
@[simp] def q4_59 : SE := pk q4_58 (.inp 10) bF
@[simp] def q4_60 : SE := pk q4_59 (nt (.inp 11)) bF
@[simp] def q4_61 : SE := pk q4_60 (nt (.inp 12)) bF
@[simp] def q4_62 : SE := pk q4_61 (nt (.inp 13)) bF
def rt_lockbarlaw22_three : RT :=
.seg [.bind 0 (.app .lst [.agg [.int .u8 1, zi (-1), zi 0, zi 1, zi 0, zi (-1), zi 0, zi (-1), zi 0, zi 0, zi 0], .agg [.int .u8 1, zi 0, zi 1, zi 2, zi 0, zi (-1), zi 0, zi (-1), zi 0, zi 0, zi 0], .agg [.int .u8 1, zi 1, zi 1, zi (-1), zi 0, zi (-1), zi 0, zi (-1), zi 0, zi 0, zi 0]])] <|
.seg [.call 1 [] 22 [] false,
.call 2 [] 21 [q4_26, .inp 1, .agg [.int .u32 0, .int .u32 0, .int .u32 0, .int .u32 0]] true,
.chk [] (.isAgg 29) [.inp 2]] <|
.seg [.call 3 [] 21 [q4_26, q4_27, .agg [.int .u32 1, .int .u32 0, .int .u32 0, .int .u32 0]] true,
.chk [] (.isAgg 29) [q4_27],
.chk [] (.isAgg 29) [.inp 3]] <|
.ret (.tup [q4_26, q4_27, .agg (ptx (.inp 3) 0 29), .agg [zi 5, zi 0, zi 0, .app .lst [.agg [zi 1, zi 0, zi 1], .agg [zi 2, zi 0, zi 1]], .nils, .nils, .int .u8 2, zi 0, bF, bF, bF, bF, bF, bF, bF, bF, bF, bF, bF, bF, bF, zi 0, bT]])
theorem run_lockbarlaw22_three : runF E 28 [] 0 = rt_lockbarlaw22_three := by kernel_rfl
def rt_lockbarlaw22_wakes : RT :=
.seg [.call 0 [] 28 [] false] <|
 ck (.tproj 0) [.inp 0] <|
 ck (.tproj 1) [.inp 0] <|
 ck (.tproj 2) [.inp 0] <|
 ck (.tproj 3) [.inp 0] <|
 ck (.isAgg 11) [tp 0 (.inp 0)] <|
 ck (.isAgg 29) [tp 1 (.inp 0)] <|
 ck (.isAgg 29) [tp 2 (.inp 0)] <|
 ck (.isAgg 23) [tp 3 (.inp 0)] <|
 ck (.isAgg 23) [q4_28] <|
.seg [.bind 1 (.app .lst [q4_28])] <|
.seg [.call 2 [] 10 [q4_29, q4_30, q4_31, zi 0] false] <|
 ck (.tproj 0) [.inp 2] <|
 ck (.tproj 1) [.inp 2] <|
 ck (.isAgg 74) [tp 0 (.inp 2)] <|
.seg [.call 3 [] 10 [q4_29, q4_32, q4_31, zi 0] false] <|
 ck (.tproj 0) [.inp 3] <|
 ck (.tproj 1) [.inp 3] <|
 ck (.isAgg 74) [tp 0 (.inp 3)] <|
.seg [.call 4 [] 10 [q4_29, q4_30, q4_31, zi 1] false] <|
 ck (.tproj 0) [.inp 4] <|
 ck (.tproj 1) [.inp 4] <|
 ck (.isAgg 74) [tp 0 (.inp 4)] <|
 ck .len [pt 1 (tp 0 (.inp 3))] <|
 ck (.bin .neq) [q4_33, zi 1] <|
.cond (bi .neq q4_33 (zi 1))
 (.ret (bF))
 (.seg [.chk [] (.eidx 23) [pt 1 (tp 0 (.inp 3)), zi 0],
.chk [] (.eload 23 true) [q4_34],
.call 5 [] 12 [q4_29, q4_32, el 23 q4_34] false,
.chk [] (.tproj 0) [.inp 5],
.chk [] (.tproj 1) [.inp 5],
.chk [] (.isAgg 23) [tp 0 (.inp 5)]] <|
.seg [.call 6 [] 12 [q4_29, q4_32, q4_35] false] <|
 ck (.tproj 0) [.inp 6] <|
 ck (.tproj 1) [.inp 6] <|
 ck (.isAgg 23) [tp 0 (.inp 6)] <|
.seg [.call 7 [] 21 [q4_29, q4_32, .agg [.int .u32 4, .int .u32 0, .int .u32 0, .int .u32 0]] false,
.call 8 [] 12 [q4_29, .inp 7, q4_35] false,
.chk [] (.tproj 0) [.inp 8],
.chk [] (.tproj 1) [.inp 8],
.chk [] (.isAgg 23) [tp 0 (.inp 8)]] <|
.seg [.chk [] .len [pt 1 (tp 0 (.inp 2))],
.chk [] (.bin .eql) [q4_36, zi 0],
.chk [] .pick [q4_37, tp 1 (.inp 2), bF],
.chk [] .pick [q4_38, tp 1 (.inp 3), bF],
.chk [(q4_39, true)] (.eidx 23) [pt 1 (tp 0 (.inp 3)), zi 0],
.chk [(q4_39, true)] (.eoff 6) [q4_34],
.chk [(q4_39, true)] (.eload 1 false) [q4_40],
.chk [(q4_39, true)] (.bin .eql) [q4_41, .int .u8 4],
.chk [] .pick [q4_39, q4_42, bF],
.chk [(q4_43, true)] (.eidx 23) [pt 1 (tp 0 (.inp 3)), zi 0],
.chk [(q4_43, true)] (.eoff 21) [q4_34],
.chk [(q4_43, true)] (.eload 1 false) [q4_44],
.chk [(q4_43, true)] (.bin .eql) [q4_45, zi 2],
.chk [] .pick [q4_43, q4_46, bF],
.chk [(q4_47, true)] (.un .not) [tp 1 (.inp 4)],
.chk [] .pick [q4_47, nt (tp 1 (.inp 4)), bF],
.call 9 [(q4_48, true)] 14 [.agg (ptx (tp 0 (.inp 4)) 0 74), q4_31] false,
.chk [] .pick [q4_48, .inp 9, bF],
.chk [(q4_49, true)] (.un .not) [tp 1 (.inp 5)],
.chk [] .pick [q4_49, nt (tp 1 (.inp 5)), bF],
.chk [(q4_50, true)] (.bin .eql) [pt 21 (tp 0 (.inp 5)), zi 1],
.chk [] .pick [q4_50, q4_51, bF],
.chk [] .pick [q4_52, tp 1 (.inp 6), bF],
.chk [(q4_53, true)] (.un .not) [tp 1 (.inp 8)],
.chk [] .pick [q4_53, nt (tp 1 (.inp 8)), bF],
.chk [(q4_54, true)] (.bin .eql) [pt 6 (tp 0 (.inp 8)), .int .u8 3],
.chk [] .pick [q4_54, q4_55, bF],
.chk [(q4_56, true)] (.bin .eql) [pt 21 (tp 0 (.inp 8)), zi 0],
.chk [] .pick [q4_56, q4_57, bF],
.call 10 [(q4_58, true)] 18 [q4_29, q4_32, zi 0] false,
.chk [] .pick [q4_58, .inp 10, bF],
.call 11 [(q4_59, true)] 18 [q4_29, q4_30, zi 0] false,
.chk [(q4_59, true)] (.un .not) [.inp 11],
.chk [] .pick [q4_59, nt (.inp 11), bF],
.call 12 [(q4_60, true)] 18 [q4_29, q4_30, zi 1] false,
.chk [(q4_60, true)] (.un .not) [.inp 12],
.chk [] .pick [q4_60, nt (.inp 12), bF],
.call 13 [(q4_61, true)] 16 [q4_29, q4_32, q4_28] false,
.chk [(q4_61, true)] (.un .not) [.inp 13],
.chk [] .pick [q4_61, nt (.inp 13), bF],
.call 14 [(q4_62, true)] 22 [] false,
.call 15 [(q4_62, true)] 16 [q4_29, .inp 14, q4_28] false,
.chk [] .pick [q4_62, .inp 15, bF]] <|
.seg [.bind 16 (pk q4_62 (.inp 15) bF),
.bind 17 (q4_38),
.bind 18 (q4_39),
.bind 19 (q4_43),
.bind 20 (q4_47),
.bind 21 (q4_48),
.bind 22 (q4_49),
.bind 23 (q4_50),
.bind 24 (q4_52),
.bind 25 (q4_53),
.bind 26 (q4_54),
.bind 27 (q4_56),
.bind 28 (q4_58),
.bind 29 (q4_59),
.bind 30 (q4_60),
.bind 31 (q4_61),
.bind 32 (q4_62)] <|
.ret (.inp 16))
theorem run_lockbarlaw22_wakes : runF E 9 [] 0 = rt_lockbarlaw22_wakes := by kernel_rfl
end
end Go.Lb.LK
namespace Go.Proofs
open Go.Shelf
def Tryz.lays125_ren : Go.Shelf.Ren := ⟨fun | 125 => 109 | 128 => 122 | 129 => 123 | n => n, fun | 46 => 122 | 3 => 3 | 51 => 31 | 53 => 157 | 4 => 4 | 5 => 5 | 9 => 9 | n => n, fun | n => n⟩
theorem Tryz.lays125 : Go.Proofs.Lays.n125 Tryz.prog Tryz.lays125_ren := {
 mixed := by kernel_rfl
 f125 := Tryz.func109.trans (congrArg some (by kernel_rfl))
 f128 := Tryz.func122.trans (congrArg some (by kernel_rfl))
 f129 := Tryz.func123.trans (congrArg some (by kernel_rfl))
 t3 := Tryz.underlying3
 a3 := Tryz.isAgg3
 z3 := Tryz.sizeOf3
 v3 := Tryz.zeroValue3
 t4 := Tryz.underlying4
 a4 := Tryz.isAgg4
 z4 := Tryz.sizeOf4
 v4 := Tryz.zeroValue4
 t5 := Tryz.underlying5
 a5 := Tryz.isAgg5
 z5 := Tryz.sizeOf5
 v5 := Tryz.zeroValue5
 t9 := Tryz.underlying9
 a9 := Tryz.isAgg9
 z9 := Tryz.sizeOf9
 v9 := Tryz.zeroValue9
 t46 := Tryz.underlying122
 a46 := Tryz.isAgg122
 z46 := Tryz.sizeOf122
 v46 := Tryz.zeroValue122
 t51 := Tryz.underlying31
 a51 := Tryz.isAgg31
 z51 := Tryz.sizeOf31
 v51 := Tryz.zeroValue31
 t53 := Tryz.underlying157
 a53 := Tryz.isAgg157
 z53 := Tryz.sizeOf157
 v53 := Tryz.zeroValue157 }
theorem Tryz.bits_Len (x : Int) (w : World) (h0 : 0 ≤ x) (h1 : x ≤ 18446744073709551615) :
  Calls Tryz.prog 109 #[.int .u64 x] w fun e w' => e = .returned (.int .i64 (Lib.bitLen x.toNat)) ∧ w' = w := Any.bits_Len Tryz.lays125 x w h0 h1
def Tryz.lays189_ren : Go.Shelf.Ren := ⟨fun | 189 => 96 | 125 => 109 | 257 => 108 | 128 => 122 | 129 => 123 | 294 => 113 | 295 => 114 | 296 => 115 | 297 => 116 | 298 => 117 | 299 => 118 | 216 => 119 | 300 => 120 | 301 => 121 | 328 => 124 | 329 => 125 | 330 => 126 | 331 => 127 | 332 => 128 | 215 => 129 | 343 => 130 | n => n, fun | 28 => 116 | 3 => 3 | 46 => 122 | 0 => 0 | 51 => 31 | 53 => 157 | 4 => 4 | 183 => 149 | 182 => 148 | 131 => 153 | 5 => 5 | 9 => 9 | 218 => 159 | 222 => 163 | 228 => 165 | 229 => 166 | n => n, fun | n => n⟩
theorem Tryz.lays189 : Go.Proofs.Lays.n189 Tryz.prog Tryz.lays189_ren := {
 mixed := by kernel_rfl
 f125 := Tryz.func109.trans (congrArg some (by kernel_rfl))
 f128 := Tryz.func122.trans (congrArg some (by kernel_rfl))
 f129 := Tryz.func123.trans (congrArg some (by kernel_rfl))
 f189 := Tryz.func96.trans (congrArg some (by kernel_rfl))
 f215 := Tryz.func129.trans (congrArg some (by kernel_rfl))
 f216 := Tryz.func119.trans (congrArg some (by kernel_rfl))
 f257 := Tryz.func108.trans (congrArg some (by kernel_rfl))
 f294 := Tryz.func113.trans (congrArg some (by kernel_rfl))
 f295 := Tryz.func114.trans (congrArg some (by kernel_rfl))
 f296 := Tryz.func115.trans (congrArg some (by kernel_rfl))
 f297 := Tryz.func116.trans (congrArg some (by kernel_rfl))
 f298 := Tryz.func117.trans (congrArg some (by kernel_rfl))
 f299 := Tryz.func118.trans (congrArg some (by kernel_rfl))
 f300 := Tryz.func120.trans (congrArg some (by kernel_rfl))
 f301 := Tryz.func121.trans (congrArg some (by kernel_rfl))
 f328 := Tryz.func124.trans (congrArg some (by kernel_rfl))
 f329 := Tryz.func125.trans (congrArg some (by kernel_rfl))
 f330 := Tryz.func126.trans (congrArg some (by kernel_rfl))
 f331 := Tryz.func127.trans (congrArg some (by kernel_rfl))
 f332 := Tryz.func128.trans (congrArg some (by kernel_rfl))
 f343 := Tryz.func130.trans (congrArg some (by kernel_rfl))
 t0 := Tryz.underlying0
 a0 := Tryz.isAgg0
 z0 := Tryz.sizeOf0
 v0 := Tryz.zeroValue0
 t3 := Tryz.underlying3
 a3 := Tryz.isAgg3
 z3 := Tryz.sizeOf3
 v3 := Tryz.zeroValue3
 t4 := Tryz.underlying4
 a4 := Tryz.isAgg4
 z4 := Tryz.sizeOf4
 v4 := Tryz.zeroValue4
 t5 := Tryz.underlying5
 a5 := Tryz.isAgg5
 z5 := Tryz.sizeOf5
 v5 := Tryz.zeroValue5
 t9 := Tryz.underlying9
 a9 := Tryz.isAgg9
 z9 := Tryz.sizeOf9
 v9 := Tryz.zeroValue9
 t28 := Tryz.underlying116
 a28 := Tryz.isAgg116
 z28 := Tryz.sizeOf116
 v28 := Tryz.zeroValue116
 t46 := Tryz.underlying122
 a46 := Tryz.isAgg122
 z46 := Tryz.sizeOf122
 v46 := Tryz.zeroValue122
 t51 := Tryz.underlying31
 a51 := Tryz.isAgg31
 z51 := Tryz.sizeOf31
 v51 := Tryz.zeroValue31
 t53 := Tryz.underlying157
 a53 := Tryz.isAgg157
 z53 := Tryz.sizeOf157
 v53 := Tryz.zeroValue157
 t131 := Tryz.underlying153
 a131 := Tryz.isAgg153
 z131 := Tryz.sizeOf153
 v131 := Tryz.zeroValue153
 t182 := Tryz.underlying148
 a182 := Tryz.isAgg148
 z182 := Tryz.sizeOf148
 v182 := Tryz.zeroValue148
 t183 := Tryz.underlying149
 a183 := Tryz.isAgg149
 z183 := Tryz.sizeOf149
 v183 := Tryz.zeroValue149
 t218 := Tryz.underlying159
 a218 := Tryz.isAgg159
 z218 := Tryz.sizeOf159
 v218 := Tryz.zeroValue159
 t222 := Tryz.underlying163
 a222 := Tryz.isAgg163
 z222 := Tryz.sizeOf163
 v222 := Tryz.zeroValue163
 t228 := Tryz.underlying165
 a228 := Tryz.isAgg165
 z228 := Tryz.sizeOf165
 v228 := Tryz.zeroValue165
 t229 := Tryz.underlying166
 a229 := Tryz.isAgg166
 z229 := Tryz.sizeOf166
 v229 := Tryz.zeroValue166 }
open Go.Sort Go.RowKit in
theorem Tryz.slices_Sort_int (blk off cap : Nat) (zs : List Int) (w : World) (hH : Holds (Value.int .i64) w blk off zs.toArray) (hblk : blk < w.heap.size) (hsz : zs.length < 4611686018427387904) :
  Calls Tryz.prog 96 #[.slice (some ⟨blk, off, none⟩) zs.length cap] w fun e w' =>
   e = .returned (.tuple #[]) ∧ ∃ n os, w' = grow (putRow (Value.int .i64) (Sort.ahead w n) blk off (zs.mergeSort fun x y => decide (x ≤ y)).toArray) os := Any.slices_Sort_int Tryz.lays189 blk off cap zs w hH hblk hsz
def Tryz.laysNm220_ren : Go.Shelf.Ren := ⟨fun | 20 => 97 | n => n, fun | 22 => 116 | 3 => 3 | 4 => 4 | 0 => 0 | n => n, fun | n => n⟩
theorem Tryz.laysNm220 : Go.Proofs.Lays2.n20 Tryz.prog Tryz.laysNm220_ren := {
 mixed := by kernel_rfl
 f20 := Tryz.func97.trans (congrArg some (by kernel_rfl))
 t0 := Tryz.underlying0
 a0 := Tryz.isAgg0
 z0 := Tryz.sizeOf0
 v0 := Tryz.zeroValue0
 t3 := Tryz.underlying3
 a3 := Tryz.isAgg3
 z3 := Tryz.sizeOf3
 v3 := Tryz.zeroValue3
 t4 := Tryz.underlying4
 a4 := Tryz.isAgg4
 z4 := Tryz.sizeOf4
 v4 := Tryz.zeroValue4
 t22 := Tryz.underlying116
 a22 := Tryz.isAgg116
 z22 := Tryz.sizeOf116
 v22 := Tryz.zeroValue116
 i3 := by kernel_rfl }
open Go.RowKit Go.Lib Go.Sort in
theorem Tryz.slices_Compact_int (blk off cap : Nat) (zs : List Int) (w : World) (hH : Holds (Value.int .i64) w blk off zs.toArray) (hsz : zs.length ≤ 9223372036854775807) (hcap : zs.length ≤ cap) :
  Calls Tryz.prog 97 #[.slice (some ⟨blk, off, none⟩) zs.length cap] w fun e w' => e = .returned (.slice (some ⟨blk, off, none⟩) (Lib.compact zs).length cap) ∧ ∃ q, w' = putRow (Value.int .i64) (Sort.ahead w q) blk off (Lib.compact zs ++ List.replicate (zs.length - (Lib.compact zs).length) 0).toArray := Any.slices_Compact_int Tryz.laysNm220 blk off cap zs w hH hsz hcap
open Go.RowKit Go.Lib Go.Sort in
theorem Tryz.slices_Compact_int_empty (a : Option Addr) (cap : Nat) (w : World) :
  Calls Tryz.prog 97 #[.slice a 0 cap] w fun e w' => e = .returned (.slice a 0 cap) ∧ w' = w := Any.slices_Compact_int_empty Tryz.laysNm220 a cap w
end Go.Proofs
namespace Go.Lb.LK
open Go Go.Lb
structure Port where
 s : Int
 p : Int
 deriving DecidableEq
def Port.cells (x : Port) : List AV := [I x.s, I x.p]
abbrev Port.av (x : Port) : AV := .agg x.cells
structure Sec where
 kind : Int
 j0 : Port
 j1 : Port
 j2 : Port
 j3 : Port
 c0 : Int
 c1 : Int
 deriving DecidableEq
def Sec.cells (x : Sec) : List AV := [U x.kind, I x.j0.s, I x.j0.p, I x.j1.s, I x.j1.p, I x.j2.s, I x.j2.p, I x.j3.s, I x.j3.p, I x.c0, I x.c1]
abbrev Sec.av (x : Sec) : AV := .agg x.cells
structure Step where
 s : Int
 i : Int
 o : Int
 deriving DecidableEq
def Step.cells (x : Step) : List AV := [I x.s, I x.i, I x.o]
abbrev Step.av (x : Step) : AV := .agg x.cells
structure Exi where
 a : Port
 over : List Step
 deriving DecidableEq
def Exi.cells (x : Exi) : List AV := [I x.a.s, I x.a.p, .sl (x.over.map Step.av)]
abbrev Exi.av (x : Exi) : AV := .agg x.cells
structure Flank where
 s : Int
 way : Int
 point : Int
 pos : Int
 deriving DecidableEq
def Flank.cells (x : Flank) : List AV := [I x.s, I x.way, I x.point, I x.pos]
abbrev Flank.av (x : Flank) : AV := .agg x.cells
structure Lay where
 secs : List Sec
 sigs : List Port
 exits : List Exi
 flanks : List Flank
 clear : Int
 drive : Int
 stale : Int
 approach : Int
 over : Int
 press : Int
 link : Int
 deriving DecidableEq
def Lay.cells (l : Lay) : List AV := [.sl (l.secs.map Sec.av), .sl (l.sigs.map Port.av), .sl (l.exits.map Exi.av), .sl (l.flanks.map Flank.av), I l.clear, I l.drive, I l.stale, I l.approach, I l.over, I l.press, I l.link]
abbrev Lay.av (l : Lay) : AV := .agg l.cells
structure Path where
 sig : Int
 exit : Int
 steps : List Step
 deriving DecidableEq
def Path.cells (x : Path) : List AV := [I x.sig, I x.exit, .sl (x.steps.map Step.av)]
abbrev Path.av (x : Path) : AV := .agg x.cells
structure Need where
 p : Int
 pos : Int
 k : Int
 deriving DecidableEq
def Need.cells (x : Need) : List AV := [I x.p, I x.pos, I x.k]
abbrev Need.av (x : Need) : AV := .agg x.cells
abbrev needs (l : List Need) : AV := .sl (l.map Need.av)
abbrev steps (l : List Step) : AV := .sl (l.map Step.av)
@[simp] theorem Port.pure (x : Port) : AV.pureAll x.cells = true := by simp [Port.cells, AV.pureAll, AV.pure]
@[simp] theorem Sec.pure (x : Sec) : AV.pureAll x.cells = true := by simp [Sec.cells, AV.pureAll, AV.pure]
@[simp] theorem Step.pure (x : Step) : AV.pureAll x.cells = true := by simp [Step.cells, AV.pureAll, AV.pure]
@[simp] theorem zkx (l : List Step) : AV.pureAll (l.map Step.av) = true := za2 _ (fun x => by simp [AV.pure]) l
@[simp] theorem Exi.pure (x : Exi) : AV.pureAll x.cells = true := by simp [Exi.cells, AV.pureAll, AV.pure]
@[simp] theorem Flank.pure (x : Flank) : AV.pureAll x.cells = true := by simp [Flank.cells, AV.pureAll, AV.pure]
@[simp] theorem Path.pure (x : Path) : AV.pureAll x.cells = true := by simp [Path.cells, AV.pureAll, AV.pure]
@[simp] theorem Need.pure (x : Need) : AV.pureAll x.cells = true := by simp [Need.cells, AV.pureAll, AV.pure]
@[simp] theorem znT (l : List Need) : AV.pureAll (l.map Need.av) = true := za2 _ (fun x => by simp [AV.pure]) l
@[simp] theorem Lay.pure (l : Lay) : AV.pureAll l.cells = true := by
 simp [Lay.cells, AV.pureAll, AV.pure, za2 Sec.av (fun x => by simp [AV.pure]), za2 Port.av (fun x => by simp [AV.pure]), za2 Exi.av (fun x => by simp [AV.pure]), za2 Flank.av (fun x => by simp [AV.pure])]
def iT : TS := .int .i64
def zht : TS := .agg [iT, iT]
def secT : TS := .agg [.int .u8, .agg [zht, zht, zht, zht], .agg [iT, iT]]
def sigT : TS := .agg [zht]
def zlH : TS := .agg [iT, iT, iT]
def znd : TS := .agg [zht, .sl true zlH]
def zk6 : TS := .agg [iT, iT, iT, iT]
def zmX : TS := .agg [iT, iT, iT, iT, iT, iT, iT]
def layT : TS := .agg [.sl true secT, .sl true sigT, .sl true znd, .sl true zk6, zmX]
def zov : TS := .agg [iT, iT, .sl true zlH]
def znq : TS := .agg [iT, iT, iT]
theorem zoL {cs : List AV} (h : secT.fits cs) : ∃ s : Sec, AV.agg cs = s.av ∧ 0 ≤ s.kind ∧ s.kind ≤ 255 := by
 simp only [secT, zht, iT, zbm, zaF, zaI, zaG, List.append_nil, List.cons_append, List.nil_append] at h
 obtain ⟨m, q, rfl, hm, a0, q, rfl, _, a1, q, rfl, _, a2, q, rfl, _, a3, q, rfl, _, a4, q, rfl, _, a5, q, rfl, _, a6, q, rfl, _, a7, q, rfl, _, a8, q, rfl, _, a9, q, rfl, _, rfl⟩ := h
 exact ⟨⟨m, ⟨a0, a1⟩, ⟨a2, a3⟩, ⟨a4, a5⟩, ⟨a6, a7⟩, a8, a9⟩, rfl, by simpa using hm⟩
theorem zoM {cs : List AV} (h : sigT.fits cs) : ∃ s : Port, AV.agg cs = s.av := by
 simp only [sigT, zht, iT, zbm, zaF, zaI, zbu, zaG, List.append_nil, List.cons_append, List.nil_append] at h
 obtain ⟨a0, q, rfl, _, a1, q, rfl, _, rfl⟩ := h
 exact ⟨⟨a0, a1⟩, rfl⟩
theorem zjq {cs : List AV} (h : zlH.fits cs) : ∃ s : Step, AV.agg cs = s.av := by
 simp only [zlH, iT, zbm, zaF, zaI, zbu, zaG, List.append_nil, List.cons_append, List.nil_append] at h
 obtain ⟨a0, q, rfl, _, a1, q, rfl, _, a2, q, rfl, _, rfl⟩ := h
 exact ⟨⟨a0, a1, a2⟩, rfl⟩
theorem zmj {cs : List AV} (h : zk6.fits cs) : ∃ s : Flank, AV.agg cs = s.av := by
 simp only [zk6, iT, zbm, zaF, zaI, zbu, zaG, List.append_nil, List.cons_append, List.nil_append] at h
 obtain ⟨a0, q, rfl, _, a1, q, rfl, _, a2, q, rfl, _, a3, q, rfl, _, rfl⟩ := h
 exact ⟨⟨a0, a1, a2, a3⟩, rfl⟩
theorem znr {cs : List AV} (h : znq.fits cs) : ∃ s : Need, AV.agg cs = s.av := by
 simp only [znq, iT, zbm, zaF, zaI, zbu, zaG, List.append_nil, List.cons_append, List.nil_append] at h
 obtain ⟨a0, q, rfl, _, a1, q, rfl, _, a2, q, rfl, _, rfl⟩ := h
 exact ⟨⟨a0, a1, a2⟩, rfl⟩
theorem zne {cs : List AV} (h : znd.fits cs) : ∃ s : Exi, AV.agg cs = s.av := by
 simp only [znd, zht, iT, zbm, zaF, zaI, zbu, zaG, List.append_nil, List.cons_append, List.nil_append] at h
 obtain ⟨a0, q, rfl, _, a1, q, rfl, _, es, q, rfl, hs, rfl⟩ := h
 obtain ⟨ov, rfl⟩ := ze0 (g := Step.av) (fun cs h => zjq h) es hs.2
 exact ⟨⟨⟨a0, a1⟩, ov⟩, rfl⟩
def Lay.ok (l : Lay) : Prop := ∀ s ∈ l.secs, 0 ≤ s.kind ∧ s.kind ≤ 255
theorem zoq {cs : List AV} (h : layT.fits cs) : ∃ l : Lay, AV.agg cs = l.av ∧ l.ok := by
 simp only [layT, zmX, iT, zbm, zaF, zaI, zbu, zaG, List.append_nil, List.cons_append, List.nil_append] at h
 obtain ⟨s1, q, rfl, h1, s2, q, rfl, h2, s3, q, rfl, h3, s4, q, rfl, h4, a0, q, rfl, _, a1, q, rfl, _, a2, q, rfl, _, a3, q, rfl, _, a4, q, rfl, _, a5, q, rfl, _, a6, q, rfl, _, rfl⟩ := h
 obtain ⟨secs, rfl, hs⟩ := zhA (g := Sec.av) (Q := fun s => 0 ≤ s.kind ∧ s.kind ≤ 255) (fun cs h => zoL h) s1 h1.2
 obtain ⟨sigs, rfl⟩ := ze0 (g := Port.av) (fun cs h => zoM h) s2 h2.2
 obtain ⟨exits, rfl⟩ := ze0 (g := Exi.av) (fun cs h => zne h) s3 h3.2
 obtain ⟨fls, rfl⟩ := ze0 (g := Flank.av) (fun cs h => zmj h) s4 h4.2
 exact ⟨⟨secs, sigs, exits, fls, a0, a1, a2, a3, a4, a5, a6⟩, rfl, hs⟩
theorem zll {x : AV} (h : layT.fits x.cells) (h2 : zdx true x) : ∃ l : Lay, x = l.av ∧ l.ok := by
 obtain ⟨cs, rfl⟩ := h2.1 rfl
 exact zoq h
theorem zoN {x : AV} {T : TS} {g : Bool} (h : (TS.sl g T).fits x.cells) (h2 : zdx false x) : ∃ es, x = .sl es ∧ es.length ≤ maxLen ∧ ∀ x ∈ es, T.fits x.cells ∧ zdx g x := by
 obtain ⟨es, h1, h0, h3⟩ := zja.1 h
 have : x = .sl es := by
  cases x <;> simp_all [AV.cells, zdx]
 exact ⟨es, this, h0, h3⟩
theorem zle {x : AV} (h : iT.fits x.cells) (h2 : zdx false x) : ∃ n, x = I n := by
 obtain ⟨n, h1, _⟩ := zhf.1 h
 have : x = I n := by
  cases x <;> simp_all [AV.cells, zdx]
 exact ⟨n, this⟩
end Go.Lb.LK
namespace Go.Lb.LK
open Go Go.Lb
abbrev W (n : Int) : AV := .int .u32 n
abbrev B (b : Bool) : AV := .bool b
structure Img where
 age : Int
 free : Nat → Int
 occ : Int
 nor : Int
 rev : Int
 lamp : Int
def Img.cells (x : Img) : List AV := [I x.age, I (x.free 0), I (x.free 1), I (x.free 2), I (x.free 3), I (x.free 4), I (x.free 5), I (x.free 6), I (x.free 7), I (x.free 8), I (x.free 9), I (x.free 10), I (x.free 11), I (x.free 12), I (x.free 13), I (x.free 14), I (x.free 15), I (x.free 16), I (x.free 17), I (x.free 18), I (x.free 19), I (x.free 20), I (x.free 21), I (x.free 22), I (x.free 23), W x.occ, W x.nor, W x.rev, W x.lamp]
abbrev Img.av (x : Img) : AV := .agg x.cells
def Img.ok (x : Img) : Prop := (0 ≤ x.occ ∧ x.occ ≤ 4294967295) ∧ (0 ≤ x.nor ∧ x.nor ≤ 4294967295) ∧ (0 ≤ x.rev ∧ x.rev ≤ 4294967295) ∧ (0 ≤ x.lamp ∧ x.lamp ≤ 4294967295)
structure Hd where
 id : Int
 path : Path
 over : List Step
 needs : List Need
 stage : Int
 gone : Int
 was : Nat → Bool
 opn : Bool
 timer : Int
 shown : Bool
def Hd.cells (x : Hd) : List AV := [I x.id, I x.path.sig, I x.path.exit, steps x.path.steps, steps x.over, Go.Lb.LK.needs x.needs, U x.stage, I x.gone, .bool (x.was 0), .bool (x.was 1), .bool (x.was 2), .bool (x.was 3), .bool (x.was 4), .bool (x.was 5), .bool (x.was 6), .bool (x.was 7), .bool (x.was 8), .bool (x.was 9), .bool (x.was 10), .bool (x.was 11), .bool x.opn, I x.timer, .bool x.shown]
abbrev Hd.av (x : Hd) : AV := .agg x.cells
@[simp] theorem Img.pure (x : Img) : AV.pureAll x.cells = true := by simp [Img.cells, AV.pureAll, AV.pure]
@[simp] theorem Hd.pure (x : Hd) : AV.pureAll x.cells = true := by simp [Hd.cells, AV.pureAll, AV.pure]
@[simp] theorem zn0 (b len n j : Nat) (k : IntKind) (u v : AV) : pv (.cellset b len 1 0 1 j) [.int k (n : Nat), u, .agg [v]] = if j = b + n then v else u := by
 simp only [pv, AV.cells, Int.toNat_natCast, Nat.mul_one, Nat.add_zero]
 by_cases h : j = b + n
 ·subst h; simp
 ·have : ¬ (b + n ≤ j ∧ j < b + n + 1) := by omega
  simp [this, h]
@[simp] theorem znx (b len n j : Nat) (k : IntKind) (i : Int) (u v : AV) : pok (.cellset b len 1 0 n j) [.int k i, u, v] = (0 ≤ i ∧ i < len ∧ v.cells.length = n ∧ AV.ones v.cells = true ∧ j < b + len * 1 ∧ 0 + n ≤ 1) := rfl
theorem zmo (x : Img) {i : Nat} (h : i < 24) (d : AV) : x.cells.getD (i + 1) d = I (x.free i) := by
 match i, h with
 | 0, _ => rfl
 | 1, _ => rfl
 | 2, _ => rfl
 | 3, _ => rfl
 | 4, _ => rfl
 | 5, _ => rfl
 | 6, _ => rfl
 | 7, _ => rfl
 | 8, _ => rfl
 | 9, _ => rfl
 | 10, _ => rfl
 | 11, _ => rfl
 | 12, _ => rfl
 | 13, _ => rfl
 | 14, _ => rfl
 | 15, _ => rfl
 | 16, _ => rfl
 | 17, _ => rfl
 | 18, _ => rfl
 | 19, _ => rfl
 | 20, _ => rfl
 | 21, _ => rfl
 | 22, _ => rfl
 | 23, _ => rfl
 | n + 24, h => exact absurd h (by omega)
theorem znJ (x : Hd) {i : Nat} (h : i < 12) (d : AV) : x.cells.getD (i + 8) d = .bool (x.was i) := by
 match i, h with
 | 0, _ => rfl
 | 1, _ => rfl
 | 2, _ => rfl
 | 3, _ => rfl
 | 4, _ => rfl
 | 5, _ => rfl
 | 6, _ => rfl
 | 7, _ => rfl
 | 8, _ => rfl
 | 9, _ => rfl
 | 10, _ => rfl
 | 11, _ => rfl
def zcI (w : Nat → Bool) : List AV := [.bool (w 0), .bool (w 1), .bool (w 2), .bool (w 3), .bool (w 4), .bool (w 5), .bool (w 6), .bool (w 7), .bool (w 8), .bool (w 9), .bool (w 10), .bool (w 11)]
theorem wget (w : Nat → Bool) {i : Nat} (h : i < 12) (d : AV) : (zcI w).getD i d = .bool (w i) := by
 match i, h with
 | 0, _ => rfl
 | 1, _ => rfl
 | 2, _ => rfl
 | 3, _ => rfl
 | 4, _ => rfl
 | 5, _ => rfl
 | 6, _ => rfl
 | 7, _ => rfl
 | 8, _ => rfl
 | 9, _ => rfl
 | 10, _ => rfl
 | 11, _ => rfl
def upd {α : Type} (w : Nat → α) (k : Nat) (v : α) : Nat → α := fun j => if j = k then v else w j
def uT : TS := .int .u32
def inT : TS := .agg [uT, uT, uT, uT]
def imgT : TS := .agg [iT, .agg [iT, iT, iT, iT, iT, iT, iT, iT, iT, iT, iT, iT, iT, iT, iT, iT, iT, iT, iT, iT, iT, iT, iT, iT], inT]
def zni : TS := .agg [iT, zov, .sl true zlH, .sl true znq, .int .u8, iT, .agg [.bool, .bool, .bool, .bool, .bool, .bool, .bool, .bool, .bool, .bool, .bool, .bool], .bool, iT, .bool]
end Go.Lb.LK
namespace Go.Proofs
open Go.RowKit Go.Lib
theorem ziQ {z : Value} (h1 : ∀ u ∈ z.cells.toList, u.oneCell' = true) (n : Nat) : ∀ u ∈ (Builtin.zeroCells z.cells n).toList, u.oneCell' = true := by
 intro u hu
 unfold Builtin.zeroCells at hu
 rw [Array.toList_map, List.mem_map] at hu
 obtain ⟨i, hi, rfl⟩ := hu
 have hi : i < n * z.cells.size := by simpa using hi
 have hz : 0 < z.cells.size := by
  rcases Nat.eq_zero_or_pos z.cells.size with h | h
  ·rw [h] at hi; omega
  ·exact h
 have hm : i % z.cells.size < z.cells.size := Nat.mod_lt _ hz
 rw [getElem!_pos z.cells _ hm]
 exact h1 _ (by simp)
theorem run_clear_cells {P : Program} (w : World) (t e ty : TypeId) (z : Value) (ht : P.underlying t = some (.slice e)) (hv : ∀ w, (zeroValue e).run P w = .ok z w) (h1 : ∀ u ∈ z.cells.toList, u.oneCell' = true) (b o n c : Nat) (hn : 0 < n)
  (hc : ∀ j, j < n * z.cells.size → (w.cell? ⟨b, o + j, none⟩).isSome = true) (hf : ∀ j, j < n * z.cells.size → w.frozen? ⟨b, o + j, none⟩ = false) :
  (Builtin.clear_ #[t] ty #[.slice (some ⟨b, o, none⟩) n c]).run P w = .ok (.tuple #[]) (w.setCells b o (Builtin.zeroCells z.cells n).toList) := by
 have hl : (Builtin.zeroCells z.cells n).toList.length = n * z.cells.size := by simp [Builtin.zeroCells]
 have hone := ziQ h1 n
 have hst := run_storeCells_cells (P := P) b o (Builtin.zeroCells z.cells n).toList 0 w (by rw [hl]; simpa using hc) (by rw [hl]; simpa using hf) hone
 simp only [Nat.add_zero] at hst
 obtain ⟨m, rfl⟩ : ∃ m, n = m + 1 := ⟨n - 1, by omega⟩
 simp [Builtin.clear_, run_underlying ht, hv, hst]
theorem zok : ∃ i, Tryz.prog.info? 48 = some i ∧ i.size = 23 := by
 have h : ((Tryz.prog.info? 48).map (·.size)) = some 23 := by kernel_rfl
 cases hi : Tryz.prog.info? 48 with
 | none => rw [hi] at h; cases h
 | some i => rw [hi] at h; exact ⟨i, rfl, by simpa using h⟩
def zkE : Value := .agg #[.int .i64 0, .int .i64 0, .int .i64 0, .slice none 0 0, .slice none 0 0, .slice none 0 0, .int .u8 0, .int .i64 0, .bool false, .bool false, .bool false, .bool false, .bool false, .bool false, .bool false, .bool false, .bool false, .bool false, .bool false, .bool false, .bool false, .int .i64 0, .bool false]
theorem zoR : (∀ w, (zeroValue 48).run Tryz.prog w = .ok zkE w) ∧ zkE.cells.size = 23 ∧ ∀ u ∈ zkE.cells.toList, u.oneCell' = true := by
 have h : (Tryz.prog.info? 48).bind (·.zero) = some zkE := by kernel_rfl
 refine ⟨fun w => ?_, rfl, by decide⟩
 obtain ⟨i, hi, hz⟩ := Option.bind_eq_some_iff.1 h
 have hti : (typeInfo 48).run Tryz.prog w = .ok i w := by simp [typeInfo, hi]
 simp [zeroValue, hti, hz]
set_option maxHeartbeats 4000000 in
set_option maxRecDepth 1000000 in
theorem del_Held (blk off cap n i j : Nat) (vs : List Value) (T : TypeId) (w : World) (hH : w.heap[blk]? = some (.cells ⟨vs⟩ T (0, 0))) (hn : n ≤ cap) (hv : off + cap * 23 ≤ vs.length) (hij : i < j) (hj : j ≤ n)
  (hone : ∀ k u, k < n * 23 → vs[off + k]? = some u → u.oneCell' = true) :
  Calls Tryz.prog 31 #[.slice (some ⟨blk, off, none⟩) n cap, .int .i64 i, .int .i64 j] w fun e w' => e = .returned (.slice (some ⟨blk, off, none⟩) (n - (j - i)) cap) ∧
   ∃ zs, zs.length = (j - i) * 23 ∧ (∀ u ∈ zs, u.oneCell' = true) ∧ w' = ((w.drew.setCells blk (off + i * 23) ((vs.drop (off + j * 23)).take ((n - j) * 23))).setCells blk (off + (i + (n - j)) * 23) zs) := by
 have mixed : Tryz.prog.follows Departure.mixedOrders = true := by kernel_rfl
 obtain ⟨i0, hi0, hz1⟩ := zok
 obtain ⟨hzv, hzs, hz1c⟩ := zoR
 obtain ⟨news, hnews⟩ : ∃ news, news = (vs.drop (off + j * 23)).take ((n - j) * 23) := ⟨_, rfl⟩
 have hlen : news.length = (n - j) * 23 := by rw [hnews, List.length_take, List.length_drop]; omega
 have hget : ∀ t, t < (n - j) * 23 → news[t]? = vs[off + (j * 23 + t)]? := by
  intro t ht
  rw [hnews, List.getElem?_take_of_lt ht, List.getElem?_drop]; congr 1; omega
 have hcell : ∀ k, w.cell? ⟨blk, k, none⟩ = vs[k]? := by
  intro k
  simp only [World.cell?, hH, Option.isSome_none, Bool.false_eq_true, if_false]
  simp
 have hfroz : ∀ k, w.frozen? ⟨blk, k, none⟩ = false := by intro k; simp [World.frozen?, hH]
 obtain ⟨A, hA, hsrc⟩ : ∃ A : Addr, (if cap = j then some (⟨blk, off, none⟩ : Addr) else some ⟨blk, off + j * 23, none⟩) = some A ∧ Hid (∀ t u, news[t]? = some u → w.drew.cell? (A.add t) = some u) := by
  by_cases h : cap = j
  ·refine ⟨⟨blk, off, none⟩, by simp [h], fun t u hu => ?_⟩
   have h0 : news.length = 0 := by rw [hlen]; omega
   rw [List.length_eq_zero_iff.1 h0] at hu
   simp at hu
  ·refine ⟨⟨blk, off + j * 23, none⟩, by simp [h], fun t u hu => ?_⟩
   have ht : t < (n - j) * 23 := by
    have := (List.getElem?_eq_some_iff.1 hu).1
    rwa [hlen] at this
   rw [hget t ht] at hu
   rw [Addr.add_lit, show off + j * 23 + t = off + (j * 23 + t) by omega]
   exact (hcell _).trans hu
 have s1 : Hid (news.length = (n - j) * 23) := hlen
 have s2 : Hid (∀ u ∈ news, u.oneCell' = true) := by
  intro u hu
  obtain ⟨t, ht⟩ := List.mem_iff_getElem?.1 hu
  have hlt : t < (n - j) * 23 := by
   have := (List.getElem?_eq_some_iff.1 ht).1
   rwa [hlen] at this
  rw [hget t hlt] at ht
  exact hone _ u (by omega) ht
 have s3 : Hid (∀ t, t < news.length → (w.drew.cell? ⟨blk, off + i * 23 + t, none⟩).isSome = true ∧ w.drew.frozen? ⟨blk, off + i * 23 + t, none⟩ = false) := by
  intro t ht
  rw [hlen] at ht
  refine ⟨?_, hfroz _⟩
  show (w.cell? _).isSome = true
  rw [hcell, List.getElem?_eq_getElem (by omega)]; rfl
 obtain ⟨W1, hW1⟩ : ∃ W1, W1 = w.drew.setCells blk (off + i * 23) news := ⟨_, rfl⟩
 have hW1c : ∀ k, k < vs.length → (W1.cell? ⟨blk, k, none⟩).isSome = true := by
  intro k hk
  rw [hW1]
  refine World.isSome_setCells blk _ _ _ _ ?_
  show (w.cell? _).isSome = true
  rw [hcell, List.getElem?_eq_getElem hk]; rfl
 have hW1f : ∀ k, W1.frozen? ⟨blk, k, none⟩ = false := by
  intro k
  rw [hW1, World.frozen?_setCells]; exact hfroz k
 obtain ⟨zs, hzs2⟩ : ∃ zs, zs = (Builtin.zeroCells zkE.cells (n - (i + (n - j)))).toList := ⟨_, rfl⟩
 have hzl : zs.length = (j - i) * 23 := by rw [hzs2]; simp [Builtin.zeroCells, hzs]; omega
 have hzo : ∀ u ∈ zs, u.oneCell' = true := by rw [hzs2]; exact ziQ hz1c _
 have hcl : ∀ ty, (Builtin.clear_ #[36] ty #[.slice (some ⟨blk, off + (i + (n - j)) * 23, none⟩) (n - (i + (n - j))) (cap - (i + (n - j)))]).run Tryz.prog W1 = .ok (.tuple #[]) (W1.setCells blk (off + (i + (n - j)) * 23) zs) := by
  intro ty
  rw [hzs2]
  refine run_clear_cells W1 36 48 ty zkE Tryz.underlying36 hzv hz1c blk (off + (i + (n - j)) * 23) _ _ (by omega) (fun k hk => ?_) (fun k _ => hW1f _)
  rw [hzs] at hk
  exact hW1c _ (by omega)
 have hW : Hid (W1 = w.drew.setCells blk (off + i * 23) news) := hW1
 have hic : i ≤ cap := by omega
 have hjc : j ≤ cap := by omega
 rw [← hnews, ← hW1]
 clear hW1 hW1c hW1f hcell hfroz hget hnews hlen hzs2
 go_enter Tryz.func31, Tryz.ntmps31
 go_wp2_with fail
 go_region_law_o (refine step_append_room rfl (.tmp 22) (.tmp 25) 36 rfl 48 i0 23 Tryz.underlying36 hi0 hz1 blk off i cap (by simp [Act.eval, Act.put]) A (n - j) (cap - j) news (by simp [Act.eval, Act.put]) s1.out hsrc.out s2.out (by omega) s3.out ?_; rw [← hW.out])
 go_wp2
 go_ret
 exact ⟨by rw [show n - (j - i) = i + (n - j) by omega]; rfl, zs, hzl, hzo, rfl⟩
end Go.Proofs
namespace Go.Lb
open Go.RowKit
theorem zdu {w : World} {b o : Nat} {us vs : List Value} {T : TypeId} (h : w.heap[b]? = some (.cells ⟨vs⟩ T (0, 0))) (hl : o + us.length ≤ vs.length) (h1 : ∀ u ∈ us, u.oneCell' = true) :
  (w.setCells b o us).heap[b]? = some (.cells ⟨putL vs o us⟩ T (0, 0)) ∧ (∀ k, k ≠ b → (w.setCells b o us).heap[k]? = w.heap[k]?) ∧ (w.setCells b o us).heap.size = w.heap.size ∧ (w.setCells b o us).os = w.os ∧ (w.setCells b o us).tape = w.tape ∧ (w.setCells b o us).output = w.output := by
 obtain ⟨w', h2, h3, h4, h5, h6, h7, h8⟩ := run_storeCells (P := Go.Proofs.Tryz.prog) us w b o 0 vs T h (by simpa using hl) h1
 have hc : ∀ k, w.cell? ⟨b, k, none⟩ = vs[k]? := by
  intro k
  simp only [World.cell?, h, Option.isSome_none, Bool.false_eq_true, if_false]
  simp
 have h9 := run_storeCells_cells (P := Go.Proofs.Tryz.prog) b o us 0 w (fun j hj => by rw [hc, List.getElem?_eq_getElem (by omega)]; rfl) (fun j _ => by simp [World.frozen?, h]) h1
 rw [h9] at h2
 simp only [Nat.add_zero, Result.ok.injEq, true_and] at h2 h3
 subst h2
 exact ⟨h3, h4, h5, h6, h7, h8⟩
theorem zj8 : zl2 Go.Proofs.Tryz.prog 31 23 := by
 intro blk off cap n i j vs T w hH hn hv hij hj hm hone
 refine (Go.Proofs.del_Held blk off cap n i j vs T w hH hn hv hij hj hone).mono ?_
 rintro e w' ⟨rfl, zs, z1, z2, rfl⟩
 refine ⟨rfl, ?_⟩
 obtain ⟨news, hnews⟩ : ∃ news, news = (vs.drop (off + j * 23)).take ((n - j) * 23) := ⟨_, rfl⟩
 rw [← hnews]
 have hlen : news.length = (n - j) * 23 := by rw [hnews, List.length_take, List.length_drop]; omega
 have hno : ∀ u ∈ news, u.oneCell' = true := by
  intro u hu
  obtain ⟨t, ht⟩ := List.mem_iff_getElem?.1 hu
  have hlt : t < (n - j) * 23 := by
   have := (List.getElem?_eq_some_iff.1 ht).1
   rwa [hlen] at this
  rw [hnews, List.getElem?_take_of_lt hlt, List.getElem?_drop] at ht
  refine hone (j * 23 + t) u (by omega) ?_
  rw [← ht]; congr 1; omega
 obtain ⟨a1, a2, a3, a4, a5, a6⟩ := zdu (w := w.drew) (o := off + i * 23) (us := news) hH (by omega) hno
 have hl1 : (putL vs (off + i * 23) news).length = vs.length := zbG _ _ _ (by omega)
 obtain ⟨b1, b2, b3, b4, b5, b6⟩ := zdu (o := off + (i + (n - j)) * 23) (us := zs) a1 (by rw [hl1]; omega) z2
 have hl2 : (putL (putL vs (off + i * 23) news) (off + (i + (n - j)) * 23) zs).length = vs.length := by rw [zbG _ _ _ (by rw [hl1]; omega), hl1]
 refine ⟨_, hl2, b1, fun k hk => (b2 k hk).trans (a2 k hk), b3.trans a3, b4.trans a4, b5.trans a5, b6.trans a6, ?_⟩
 apply List.ext_getElem?
 intro t
 by_cases ht : t < (n - (j - i)) * 23
 ·rw [List.getElem?_take_of_lt ht, List.getElem?_drop, getElem?_putL _ _ _ (by rw [hl1]; omega), if_pos (by omega), getElem?_putL _ _ _ (by omega)]
  by_cases h1 : t < i * 23
  ·rw [if_pos (by omega), List.getElem?_append_left (by rw [List.length_take, List.length_drop]; omega), List.getElem?_take_of_lt h1, List.getElem?_drop]
  ·rw [if_neg (by omega), if_pos (by omega), List.getElem?_append_right (by rw [List.length_take, List.length_drop]; omega)]
   congr 1
   rw [List.length_take, List.length_drop]; omega
 ·rw [List.getElem?_take_eq_none (by omega), List.getElem?_eq_none]
  rw [List.length_append, List.length_take, List.length_drop]; omega
end Go.Lb
namespace Go.Lb.LK
open Go Go.Lb
theorem delOk : ∀ f, 0 < E.del f → zl2 E.P f (E.del f) := by
 intro f h
 have hf : f = 31 := by
  by_cases hf : f = 31
  ·exact hf
  ·simp [E, hf] at h
 subst hf
 exact zj8
end Go.Lb.LK
