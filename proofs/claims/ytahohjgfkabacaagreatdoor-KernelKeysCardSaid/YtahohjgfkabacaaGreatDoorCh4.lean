/- What functions come to, printed by a program, checked by the kernel. -/
import Derived.Test.YtahohjgfkabacaaGreatDoorCh1
import Derived.Test.YtahohjgfkabacaaGreatDoorCh2
import Derived.Test.YtahohjgfkabacaaGreatDoorCh3
set_option linter.unusedSimpArgs false
set_option linter.unusedVariables false
namespace Go.Lb.LK
open Go Go.Lb Go.Proofs
noncomputable section
@[simp] def q4_0 : SE := .agg (ptx (.inp 63) 0 23)
@[simp] def q4_1 : SE := pk (nt (.inp 64)) bT (.inp 65)
@[simp] def q4_2 : SE := ei 3 (pt 3 (.inp 63)) (.inp 66)
@[simp] def q4_3 : SE := .app (.eoff 0) [q4_2]
@[simp] def q4_4 : SE := bi .eql (.inp 66) (zi 0)
@[simp] def q4_5 : SE := bi .sub (.inp 66) (zi 1)
@[simp] def q4_6 : SE := .agg (ap (ptx (.inp 63) 0 8) (ap (ipx 67 12) [pt 20 (.inp 63), pt 21 (.inp 63), pt 22 (.inp 63)]))
@[simp] def q4_7 : SE := .app (.aidx 12 1 8 1 false) [q4_6, q4_5]
@[simp] def q4_8 : SE := pk q4_4 bT q4_7
@[simp] def q4_9 : SE := bi .add (.inp 66) (zi 1)
@[simp] def q4_10 : SE := bi .lss (.inp 79) (ln (pt 3 (.inp 63)))
@[simp] def q4_11 : SE := .agg (ap (ptx (.inp 63) 0 7) (ap [.inp 79] (ap (ipx 67 12) [pt 20 (.inp 63), pt 21 (.inp 63), pt 22 (.inp 63)])))
@[simp] def q4_12 : SE := .app (.aidx 12 1 8 1 false) [q4_11, .inp 79]
@[simp] def q4_13 : SE := pk q4_10 q4_12 bF
@[simp] def q4_14 : SE := ei 3 (pt 3 (.inp 63)) (.inp 79)
@[simp] def q4_15 : SE := .app (.eoff 0) [q4_14]
@[simp] def q4_16 : SE := pk q4_13 (nt (.inp 80)) bF
@[simp] def q4_17 : SE := bi .sub (ln (pt 3 (.inp 63))) (zi 1)
@[simp] def q4_18 : SE := bi .eql (.inp 79) q4_17
@[simp] def q4_19 : SE := bi .add (.inp 79) (zi 1)
@[simp] def q4_20 : SE := .app (.aidx 12 1 8 1 false) [q4_11, q4_19]
@[simp] def q4_21 : SE := pk q4_18 bT q4_20
@[simp] def q4_22 : SE := .app (.aidx 12 1 8 1 false) [q4_11, q4_17]
@[simp] def q4_23 : SE := bi .eql (.inp 79) (ln (pt 3 (.inp 63)))
@[simp] def q4_24 : SE := pk (pt 20 (.inp 63)) bT q4_23
@[simp] def q4_25 : SE := .agg (ap (ptx (.inp 63) 0 7) (ap [.inp 79] (ap (ipx 67 12) [pt 20 (.inp 63), .inp 88, pt 22 (.inp 63)])))
@[simp] def q4_26 : SE := .app (.aidx 12 1 8 1 false) [q4_25, q4_17]
@[simp] def q4_27 : SE := bi .geq (.inp 88) (.inp 8)
@[simp] def q4_28 : SE := pk q4_26 q4_27 bF
@[simp] def q4_29 : SE := pk q4_24 bT q4_28
@[simp] def q4_30 : SE := .agg (ap (ptx (.inp 63) 0 7) (ap [.inp 79] (ap (ipx 67 12) [.inp 91, .inp 88, pt 22 (.inp 63)])))
@[simp] def q4_31 : SE := bi .geq (pt 21 (.inp 63)) (.inp 8)
@[simp] def q4_32 : SE := pk q4_22 q4_31 bF
@[simp] def q4_33 : SE := pk q4_24 bT q4_32
@[simp] def q4_34 : SE := .agg (ap (ptx (.inp 63) 0 7) (ap [.inp 79] (ap (ipx 67 12) [.inp 90, pt 21 (.inp 63), pt 22 (.inp 63)])))
@[simp] def q4_35 : SE := .agg (ap (ptx (.inp 63) 0 6) (ap [.int .u8 2] (ptx (.inp 63) 7 16)))
@[simp] def q4_36 : SE := ei 3 (pt 3 (.inp 63)) (zi 0)
@[simp] def q4_37 : SE := .app (.eoff 0) [q4_36]
@[simp] def q4_38 : SE := .agg (ap (ptx (.inp 63) 0 6) (ap [.int .u8 3] (ap (ptx (.inp 63) 7 14) [zi 0, pt 22 (.inp 63)])))
@[simp] def q4_39 : SE := .agg (ptx (.inp 66) 0 23)
@[simp] def q4_40 : SE := .app (.mm true) [.inp 0, zi 1]
@[simp] def q4_41 : SE := bi .lss (.inp 63) (ln (.inp 43))
@[simp] def q4_42 : SE := ei 3 (.inp 43) (.inp 63)
@[simp] def q4_43 : SE := el 3 q4_42
@[simp] def q4_44 : SE := bi .geq (.inp 63) (.inp 47)
@[simp] def q4_45 : SE := pt 0 q4_43
@[simp] def q4_46 : SE := bi .add (.inp 63) (zi 1)
@[simp] def q4_47 : SE := bi .neq (pt 6 (.inp 63)) (.int .u8 4)
@[simp] def q4_48 : SE := pk q4_47 bT (.inp 64)
@[simp] def q4_49 : SE := .tup [q4_0, bF]
@[simp] def q4_50 : SE := .tup [q4_39, bF]
@[simp] def q4_51 : SE := .agg (ap (ptx (.inp 63) 0 21) [.inp 67, pt 22 (.inp 63)])
@[simp] def q4_52 : SE := .tup [q4_51, bi .eql (.inp 67) (zi 0)]
@[simp] def q4_53 : SE := .app (.eoff 0) [q4_42]
@[simp] def q4_54 : SE := e1 q4_53
@[simp] def q4_55 : SE := pk q4_44 (.inp 64) bF
@[simp] def q4_56 : SE := .app (.mm true) [.inp 7, zi 0]
@[simp] def q4_57 : SE := bi .leq (ln (.inp 3)) q4_56
@[simp] def q4_58 : SE := .agg [.inp 0, .inp 1, .inp 2]
@[simp] def q4_59 : SE := bi .neq (.inp 0) (.inp 3)
@[simp] def q4_60 : SE := .agg [pt 0 (.inp 6), pt 1 (.inp 6), pt 2 (.inp 6)]
@[simp] def q4_61 : SE := .agg [pt 0 (.inp 5), pt 1 (.inp 5), pt 2 (.inp 5)]
@[simp] def q4_62 : SE := pk (.inp 4) bT (.inp 5)
@[simp] def q4_63 : SE := pk q4_62 bT (.inp 2)
@[simp] def q4_64 : SE := bi .eql (.inp 0) (.inp 3)
@[simp] def q4_65 : SE := pk q4_63 bT q4_64
@[simp] def q4_66 : SE := .agg [pt 0 (.inp 9), pt 1 (.inp 9), pt 2 (.inp 9)]
@[simp] def q4_67 : SE := .app (.mm false) [.inp 1, zi 999]
@[simp] def q4_68 : SE := bi .add q4_67 (zi 1)
@[simp] def q4_69 : SE := bi .leq (.inp 6) q4_68
@[simp] def q4_70 : SE := .agg [.inp 0, q4_68, q4_69]
@[simp] def q4_71 : SE := .agg [pt 0 (.inp 8), pt 1 (.inp 8), pt 2 (.inp 8)]
@[simp] def q4_72 : SE := .app (.mm false) [ln (.inp 0), zi 24]
@[simp] def q4_73 : SE := .app (.slice false true) [.inp 0, q4_72]
@[simp] def q4_74 : SE := ln q4_73
@[simp] def q4_75 : SE := ei 1 q4_73 (.inp 1)
@[simp] def q4_76 : SE := e1 q4_75
@[simp] def q4_77 : SE := bi .eql q4_76 (zi 0)
@[simp] def q4_78 : SE := bi .shl (.int .u32 1) (.inp 1)
@[simp] def q4_79 : SE := bi .or (.inp 2) q4_78
@[simp] def q4_80 : SE := ei 1 q4_73 (.inp 3)
@[simp] def q4_81 : SE := e1 q4_80
@[simp] def q4_82 : SE := bi .eql q4_81 (zi 1)
@[simp] def q4_83 : SE := bi .shl (.int .u32 1) (.inp 3)
@[simp] def q4_84 : SE := bi .or (.inp 4) q4_83
def rt_lockbarref21_Run : RT :=
 ck (.isAgg 11) [.agg (ipx 0 11)] <|
 ck (.isAgg 29) [.agg (ipx 11 29)] <|
 ck (.isAgg 23) [.agg (ipx 40 23)] <|
.seg [.call 63 [] 70 [.agg (ipx 40 23)] false] <|
 ck (.isAgg 23) [.inp 63] <|
.seg [.call 64 [] 65 [q4_0] false] <|
 ck (.un .not) [.inp 64] <|
.seg [.call 65 [(nt (.inp 64), false)] 22 [.agg (ipx 0 11), .agg (ipx 11 29)] false] <|
 ck .pick [nt (.inp 64), bT, .inp 65] <|
.cond (q4_1)
 (ck (.isAgg 23) [q4_0] <|
.ret (q4_0))
 (ck .len [pt 3 (.inp 63)] <|
.loop 0 66 (ptx (.inp 63) 7 13) <|
 ck (.bin .lss) [.inp 66, ln (pt 3 (.inp 63))] <|
.cond (bi .lss (.inp 66) (ln (pt 3 (.inp 63))))
 (.seg [.chk [] (.eidx 3) [pt 3 (.inp 63), .inp 66],
.chk [] (.eoff 0) [q4_2],
.chk [] (.eload 1 false) [q4_3],
.call 79 [] 110 [.agg (ipx 0 11), .agg (ipx 11 29), e1 q4_3] false,
.chk [(.inp 79, true)] (.bin .eql) [.inp 66, zi 0],
.chk [(q4_4, false), (.inp 79, true)] (.bin .sub) [.inp 66, zi 1],
.chk [(q4_4, false), (.inp 79, true)] (.inr 12) [q4_5],
.chk [(q4_4, false), (.inp 79, true)] (.aidx 12 1 8 1 false) [q4_6, q4_5],
.chk [(.inp 79, true)] .pick [q4_4, bT, q4_7],
.chk [] .pick [.inp 79, q4_8, bF]] <|
.seg [.bind 80 (q4_7),
.bind 81 (q4_8),
.bind 82 (pk (.inp 79) q4_8 bF)] <|
.cond (.inp 82)
 (ck (.inr 12) [.inp 66] <|
 ck (.inr 12) [.inp 66] <|
 ck (.bin .add) [.inp 66, zi 1] <|
.again 0 [q4_9, .app (.cellset 8 12 1 0 1 8) [.inp 66, .inp 67, .agg [bT]], .app (.cellset 8 12 1 0 1 9) [.inp 66, .inp 68, .agg [bT]], .app (.cellset 8 12 1 0 1 10) [.inp 66, .inp 69, .agg [bT]], .app (.cellset 8 12 1 0 1 11) [.inp 66, .inp 70, .agg [bT]], .app (.cellset 8 12 1 0 1 12) [.inp 66, .inp 71, .agg [bT]], .app (.cellset 8 12 1 0 1 13) [.inp 66, .inp 72, .agg [bT]], .app (.cellset 8 12 1 0 1 14) [.inp 66, .inp 73, .agg [bT]], .app (.cellset 8 12 1 0 1 15) [.inp 66, .inp 74, .agg [bT]], .app (.cellset 8 12 1 0 1 16) [.inp 66, .inp 75, .agg [bT]], .app (.cellset 8 12 1 0 1 17) [.inp 66, .inp 76, .agg [bT]], .app (.cellset 8 12 1 0 1 18) [.inp 66, .inp 77, .agg [bT]], .app (.cellset 8 12 1 0 1 19) [.inp 66, .inp 78, .agg [bT]]])
 (ck (.bin .add) [.inp 66, zi 1] <|
.again 0 (ap [q4_9] (ipx 67 12))))
 (.loop 0 79 [pt 7 (.inp 63)] <|
.seg [.chk [] (.bin .lss) [.inp 79, ln (pt 3 (.inp 63))],
.chk [(q4_10, true)] (.inr 12) [.inp 79],
.chk [(q4_10, true)] (.aidx 12 1 8 1 false) [q4_11, .inp 79],
.chk [] .pick [q4_10, q4_12, bF],
.chk [(q4_13, true)] (.eidx 3) [pt 3 (.inp 63), .inp 79],
.chk [(q4_13, true)] (.eoff 0) [q4_14],
.chk [(q4_13, true)] (.eload 1 false) [q4_15],
.call 80 [(q4_13, true)] 24 [.agg (ipx 0 11), .agg (ipx 11 29), e1 q4_15] false,
.chk [(q4_13, true)] (.un .not) [.inp 80],
.chk [] .pick [q4_13, nt (.inp 80), bF],
.chk [(q4_16, true)] (.bin .sub) [ln (pt 3 (.inp 63)), zi 1],
.chk [(q4_16, true)] (.bin .eql) [.inp 79, q4_17],
.chk [(q4_18, false), (q4_16, true)] (.bin .add) [.inp 79, zi 1],
.chk [(q4_18, false), (q4_16, true)] (.inr 12) [q4_19],
.chk [(q4_18, false), (q4_16, true)] (.aidx 12 1 8 1 false) [q4_11, q4_19],
.chk [(q4_16, true)] .pick [q4_18, bT, q4_20],
.chk [] .pick [q4_16, q4_21, bF]] <|
.seg [.bind 81 (q4_12),
.bind 82 (q4_13),
.bind 83 (q4_16),
.bind 84 (q4_20),
.bind 85 (q4_21),
.bind 86 (pk q4_16 q4_21 bF)] <|
.cond (.inp 86)
 (ck (.bin .add) [.inp 79, zi 1] <|
 ck .isOne [q4_19] <|
.again 0 [q4_19])
 (ck (.bin .sub) [ln (pt 3 (.inp 63)), zi 1] <|
 ck (.inr 12) [q4_17] <|
 ck (.aidx 12 1 8 1 false) [q4_11, q4_17] <|
.seg [.bind 87 (q4_22)] <|
.cond (.inp 87)
 (.seg [.call 88 [] 143 [pt 21 (.inp 63)] false] <|
 ck .isOne [.inp 88] <|
 ckg (pt 20 (.inp 63)) false (.bin .eql) [.inp 79, ln (pt 3 (.inp 63))] <|
 ck .pick [pt 20 (.inp 63), bT, q4_23] <|
 ckg (q4_24) false (.bin .sub) [ln (pt 3 (.inp 63)), zi 1] <|
 ckg (q4_24) false (.inr 12) [q4_17] <|
 ckg (q4_24) false (.aidx 12 1 8 1 false) [q4_25, q4_17] <|
.seg [.chk [(q4_26, true), (q4_24, false)] (.bin .geq) [.inp 88, .inp 8]] <|
 ckg (q4_24) false .pick [q4_26, q4_27, bF] <|
 ck .pick [q4_24, bT, q4_28] <|
 ck .isOne [q4_29] <|
.seg [.bind 89 (q4_26),
.bind 90 (q4_28),
.bind 91 (q4_29)] <|
 ck (.isAgg 23) [q4_30] <|
.ret (q4_30))
 (ckg (pt 20 (.inp 63)) false (.bin .eql) [.inp 79, ln (pt 3 (.inp 63))] <|
 ck .pick [pt 20 (.inp 63), bT, q4_23] <|
 ckg (q4_24) false (.bin .sub) [ln (pt 3 (.inp 63)), zi 1] <|
 ckg (q4_24) false (.inr 12) [q4_17] <|
 ckg (q4_24) false (.aidx 12 1 8 1 false) [q4_11, q4_17] <|
.seg [.chk [(q4_22, true), (q4_24, false)] (.bin .geq) [pt 21 (.inp 63), .inp 8]] <|
 ckg (q4_24) false .pick [q4_22, q4_31, bF] <|
 ck .pick [q4_24, bT, q4_32] <|
 ck .isOne [q4_33] <|
.seg [.bind 88 (q4_22),
.bind 89 (q4_32),
.bind 90 (q4_33)] <|
 ck (.isAgg 23) [q4_34] <|
.ret (q4_34)))))
theorem run_lockbarref21_Run : runF E 106 [.agg (ips 0 11), .agg (ips 11 29), .agg (ips 40 23)] 63 = rt_lockbarref21_Run := by kernel_rfl
def rt_lockbarref21_Tick : RT :=
 ck (.isAgg 11) [.agg (ipx 0 11)] <|
 ck (.isAgg 29) [.agg (ipx 11 29)] <|
 ck (.isAgg 23) [.agg (ipx 40 23)] <|
.seg [.call 63 [] 70 [.agg (ipx 40 23)] false] <|
 ck (.isAgg 23) [.inp 63] <|
.seg [.call 64 [] 65 [q4_0] false] <|
 ck (.un .not) [.inp 64] <|
.seg [.call 65 [(nt (.inp 64), false)] 22 [.agg (ipx 0 11), .agg (ipx 11 29)] false] <|
 ck .pick [nt (.inp 64), bT, .inp 65] <|
.cond (q4_1)
 (ck (.isAgg 23) [q4_0] <|
.ret (q4_0))
 (ck (.bin .eql) [pt 6 (.inp 63), .int .u8 1] <|
.cond (bi .eql (pt 6 (.inp 63)) (.int .u8 1))
 (.seg [.call 66 [] 109 [.agg (ipx 0 11), .agg (ipx 11 29), q4_0] false] <|
.cond (.inp 66)
 (ck (.isAgg 23) [q4_35] <|
.ret (q4_35))
 (ck (.isAgg 23) [q4_0] <|
.ret (q4_0)))
 (ck (.bin .eql) [pt 6 (.inp 63), .int .u8 2] <|
.cond (bi .eql (pt 6 (.inp 63)) (.int .u8 2))
 (.seg [.chk [] (.eidx 3) [pt 3 (.inp 63), zi 0],
.chk [] (.eoff 0) [q4_36],
.chk [] (.eload 1 false) [q4_37],
.call 66 [] 110 [.agg (ipx 0 11), .agg (ipx 11 29), e1 q4_37] false] <|
.cond (.inp 66)
 (.seg [.call 67 [] 106 [.agg (ipx 0 11), .agg (ipx 11 29), q4_38] false] <|
 ck (.isAgg 23) [.inp 67] <|
.ret (.agg (ptx (.inp 67) 0 23)))
 (ck (.isAgg 23) [q4_0] <|
.ret (q4_0)))
 (ck (.bin .eql) [pt 6 (.inp 63), .int .u8 3] <|
.cond (bi .eql (pt 6 (.inp 63)) (.int .u8 3))
 (.seg [.call 66 [] 106 [.agg (ipx 0 11), .agg (ipx 11 29), q4_0] false] <|
 ck (.isAgg 23) [.inp 66] <|
.ret (q4_39))
 (ck (.isAgg 23) [q4_0] <|
.ret (q4_0)))))
theorem run_lockbarref21_Tick : runF E 55 [.agg (ips 0 11), .agg (ips 11 29), .agg (ips 40 23)] 63 = rt_lockbarref21_Tick := by kernel_rfl
def rt_tick_Down : RT :=
 ck (.mm true) [.inp 0, zi 1] <|
 ck (.bin .sub) [q4_40, zi 1] <|
.ret (bi .sub q4_40 (zi 1))
theorem run_tick_Down : runF E 141 [.inp 0] 1 = rt_tick_Down := by kernel_rfl
def rt_back_In : RT :=
 ck (.isAgg 11) [.agg (ipx 0 11)] <|
 ck (.isAgg 29) [.agg (ipx 11 29)] <|
 ck (.isAgg 23) [.agg (ipx 40 23)] <|
 ck (.isAgg 11) [.agg (ipx 0 11)] <|
 ck (.isAgg 29) [.agg (ipx 11 29)] <|
 ck (.isAgg 23) [.agg (ipx 40 23)] <|
 ck (.isAgg 23) [.agg (ipx 40 23)] <|
 ck .len [.inp 43] <|
.loop 0 63 [zi 0] <|
 ck (.bin .lss) [.inp 63, ln (.inp 43)] <|
.cond (q4_41)
 (ck (.eidx 3) [.inp 43, .inp 63] <|
 ck (.eload 3 true) [q4_42] <|
 ck (.isAgg 3) [q4_43] <|
 ck (.bin .geq) [.inp 63, .inp 47] <|
.cond (q4_44)
 (.seg [.call 64 [] 88 [.agg (ipx 0 11), .agg (ipx 11 29), q4_45] false] <|
.cond (.inp 64)
 (ck (.un .not) [bF] <|
.ret (bT))
 (ck (.un .not) [bT] <|
 ck (.bin .add) [.inp 63, zi 1] <|
.again 0 [q4_46]))
 (ck (.bin .add) [.inp 63, zi 1] <|
.again 0 [q4_46]))
 (.ret (bF))
theorem run_back_In : runF E 140 [.agg (ips 0 11), .agg (ips 11 29), .agg (ips 40 23)] 63 = rt_back_In := by kernel_rfl
def rt_back_told : RT :=
 ck (.isAgg 11) [.agg (ipx 0 11)] <|
 ck (.isAgg 29) [.agg (ipx 11 29)] <|
 ck (.isAgg 23) [.agg (ipx 40 23)] <|
 ck (.isAgg 11) [.agg (ipx 0 11)] <|
 ck (.isAgg 29) [.agg (ipx 11 29)] <|
 ck (.isAgg 23) [.agg (ipx 40 23)] <|
 ck (.isAgg 23) [.agg (ipx 40 23)] <|
 ck .len [.inp 43] <|
.loop 0 63 [zi 0] <|
 ck (.bin .lss) [.inp 63, ln (.inp 43)] <|
.cond (q4_41)
 (ck (.eidx 3) [.inp 43, .inp 63] <|
 ck (.eload 3 true) [q4_42] <|
 ck (.isAgg 3) [q4_43] <|
 ck (.bin .geq) [.inp 63, .inp 47] <|
.cond (q4_44)
 (.seg [.call 64 [] 137 [.agg (ipx 0 11), .agg (ipx 11 29), q4_45] false] <|
.cond (.inp 64)
 (ck (.un .not) [bF] <|
.ret (bT))
 (ck (.un .not) [bT] <|
 ck (.bin .add) [.inp 63, zi 1] <|
.again 0 [q4_46]))
 (ck (.bin .add) [.inp 63, zi 1] <|
.again 0 [q4_46]))
 (.ret (bF))
theorem run_back_told : runF E 139 [.agg (ips 0 11), .agg (ips 11 29), .agg (ips 40 23)] 63 = rt_back_told := by kernel_rfl
def rt_back_Tick : RT :=
 ck (.isAgg 11) [.agg (ipx 0 11)] <|
 ck (.isAgg 29) [.agg (ipx 11 29)] <|
 ck (.isAgg 23) [.agg (ipx 40 23)] <|
.seg [.call 63 [] 78 [.agg (ipx 40 23)] false] <|
 ck (.isAgg 23) [.inp 63] <|
 ck (.bin .neq) [pt 6 (.inp 63), .int .u8 4] <|
.seg [.call 64 [(q4_47, false)] 43 [.agg (ipx 0 11), .agg (ipx 11 29)] false] <|
 ck .pick [q4_47, bT, .inp 64] <|
.cond (q4_48)
 (ck (.isAgg 23) [q4_0] <|
.ret (q4_49))
 (.seg [.call 65 [] 139 [.agg (ipx 0 11), .agg (ipx 11 29), q4_0] false] <|
.cond (.inp 65)
 (.seg [.call 66 [] 138 [.agg (ipx 0 11), .agg (ipx 11 29), q4_38] false] <|
 ck (.isAgg 23) [.inp 66] <|
 ck (.isAgg 23) [q4_39] <|
.ret (q4_50))
 (.seg [.call 66 [] 140 [.agg (ipx 0 11), .agg (ipx 11 29), q4_0] false] <|
.cond (.inp 66)
 (ck (.isAgg 23) [q4_0] <|
.ret (q4_49))
 (.seg [.call 67 [] 141 [pt 21 (.inp 63)] false] <|
 ck .isOne [.inp 67] <|
 ck (.bin .eql) [.inp 67, zi 0] <|
 ck (.isAgg 23) [q4_51] <|
.ret (q4_52))))
theorem run_back_Tick : runF E 100 [.agg (ips 0 11), .agg (ips 11 29), .agg (ips 40 23)] 63 = rt_back_Tick := by kernel_rfl
def rt_lockbarref03_Down : RT :=
 ck (.bin .leq) [.inp 0, zi 0] <|
.cond (bi .leq (.inp 0) (zi 0))
 (.ret (zi 0))
 (ck (.bin .sub) [.inp 0, zi 1] <|
.ret (bi .sub (.inp 0) (zi 1)))
theorem run_lockbarref03_Down : runF E 108 [.inp 0] 1 = rt_lockbarref03_Down := by kernel_rfl
def rt_lockbarref22_In : RT :=
 ck (.isAgg 11) [.agg (ipx 0 11)] <|
 ck (.isAgg 29) [.agg (ipx 11 29)] <|
 ck (.isAgg 23) [.agg (ipx 40 23)] <|
.loop 0 63 [zi 0] <|
 ck .len [.inp 43] <|
 ck (.bin .lss) [.inp 63, ln (.inp 43)] <|
.cond (q4_41)
 (.seg [.chk [] (.bin .geq) [.inp 63, .inp 47],
.chk [(q4_44, true)] (.eidx 3) [.inp 43, .inp 63],
.chk [(q4_44, true)] (.eoff 0) [q4_42],
.chk [(q4_44, true)] (.eload 1 false) [q4_53],
.call 64 [(q4_44, true)] 24 [.agg (ipx 0 11), .agg (ipx 11 29), q4_54] false,
.chk [] .pick [q4_44, .inp 64, bF]] <|
.cond (q4_55)
 (.ret (bT))
 (ck (.bin .add) [.inp 63, zi 1] <|
.again 0 [q4_46]))
 (.ret (bF))
theorem run_lockbarref22_In : runF E 107 [.agg (ips 0 11), .agg (ips 11 29), .agg (ips 40 23)] 63 = rt_lockbarref22_In := by kernel_rfl
def rt_lockbarref22_told : RT :=
 ck (.isAgg 11) [.agg (ipx 0 11)] <|
 ck (.isAgg 29) [.agg (ipx 11 29)] <|
 ck (.isAgg 23) [.agg (ipx 40 23)] <|
.loop 0 63 [zi 0] <|
 ck .len [.inp 43] <|
 ck (.bin .lss) [.inp 63, ln (.inp 43)] <|
.cond (q4_41)
 (.seg [.chk [] (.bin .geq) [.inp 63, .inp 47],
.chk [(q4_44, true)] (.eidx 3) [.inp 43, .inp 63],
.chk [(q4_44, true)] (.eoff 0) [q4_42],
.chk [(q4_44, true)] (.eload 1 false) [q4_53],
.call 64 [(q4_44, true)] 110 [.agg (ipx 0 11), .agg (ipx 11 29), q4_54] false,
.chk [] .pick [q4_44, .inp 64, bF]] <|
.cond (q4_55)
 (.ret (bT))
 (ck (.bin .add) [.inp 63, zi 1] <|
.again 0 [q4_46]))
 (.ret (bF))
theorem run_lockbarref22_told : runF E 105 [.agg (ips 0 11), .agg (ips 11 29), .agg (ips 40 23)] 63 = rt_lockbarref22_told := by kernel_rfl
def rt_lockbarref22_Tick : RT :=
 ck (.isAgg 11) [.agg (ipx 0 11)] <|
 ck (.isAgg 29) [.agg (ipx 11 29)] <|
 ck (.isAgg 23) [.agg (ipx 40 23)] <|
.seg [.call 63 [] 70 [.agg (ipx 40 23)] false] <|
 ck (.isAgg 23) [.inp 63] <|
 ck (.bin .neq) [pt 6 (.inp 63), .int .u8 4] <|
.seg [.call 64 [(q4_47, false)] 22 [.agg (ipx 0 11), .agg (ipx 11 29)] false] <|
 ck .pick [q4_47, bT, .inp 64] <|
.cond (q4_48)
 (ck (.isAgg 23) [q4_0] <|
.ret (q4_49))
 (.seg [.call 65 [] 105 [.agg (ipx 0 11), .agg (ipx 11 29), q4_0] false] <|
.cond (.inp 65)
 (.seg [.call 66 [] 106 [.agg (ipx 0 11), .agg (ipx 11 29), q4_38] false] <|
 ck (.isAgg 23) [.inp 66] <|
.ret (q4_50))
 (.seg [.call 66 [] 107 [.agg (ipx 0 11), .agg (ipx 11 29), q4_0] false] <|
.cond (.inp 66)
 (ck (.isAgg 23) [q4_0] <|
.ret (q4_49))
 (.seg [.call 67 [] 108 [pt 21 (.inp 63)] false] <|
 ck .isOne [.inp 67] <|
.seg [.chk [] (.bin .eql) [.inp 67, zi 0],
.chk [] (.isAgg 23) [q4_51]] <|
.ret (q4_52))))
theorem run_lockbarref22_Tick : runF E 54 [.agg (ips 0 11), .agg (ips 11 29), .agg (ips 40 23)] 63 = rt_lockbarref22_Tick := by kernel_rfl
def rt_held_Over : RT :=
 ck (.isAgg 23) [.agg (ipx 0 23)] <|
 ckg (.inp 20) true .len [.inp 3] <|
 ckg (.inp 20) true (.mm true) [.inp 7, zi 0] <|
 ckg (.inp 20) true (.bin .leq) [ln (.inp 3), q4_56] <|
 ck .pick [.inp 20, q4_57, bF] <|
.ret (pk (.inp 20) q4_57 bF)
theorem run_held_Over : runF E 96 [.agg (ips 0 23)] 23 = rt_held_Over := by kernel_rfl
def rt_point_Call : RT :=
 ck (.isAgg 3) [q4_58] <|
 ck .isOne [.inp 3] <|
 ck (.isAgg 3) [q4_58] <|
.seg [.call 4 [] 84 [q4_58] false] <|
 ck (.un .not) [.inp 4] <|
.cond (.inp 4)
 (ck (.isAgg 3) [q4_58] <|
.seg [.call 5 [] 92 [.inp 3] false] <|
 ck (.un .not) [.inp 5] <|
.cond (.inp 5)
 (ck (.bin .neq) [.inp 0, .inp 3] <|
 ck .pick [q4_59, bT, .inp 2] <|
.cond (pk q4_59 bT (.inp 2))
 (ck .isOne [.inp 3] <|
 ck (.isAgg 3) [.agg [.inp 3, zi 0, bF]] <|
 ck (.isAgg 3) [.agg [.inp 3, zi 0, bF]] <|
 ck (.isAgg 3) [.agg [.inp 3, zi 0, bF]] <|
.ret (.agg [.inp 3, zi 0, bF]))
 (ck (.isAgg 3) [q4_58] <|
 ck (.isAgg 3) [q4_58] <|
 ck (.isAgg 3) [q4_58] <|
.ret (q4_58)))
 (.seg [.call 6 [] 93 [] false] <|
 ck (.isAgg 3) [.inp 6] <|
 ck (.isAgg 3) [q4_60] <|
 ck (.isAgg 3) [q4_60] <|
.ret (q4_60)))
 (.seg [.call 5 [] 93 [] false] <|
 ck (.isAgg 3) [.inp 5] <|
 ck (.isAgg 3) [q4_61] <|
.ret (q4_61))
theorem run_point_Call : runF E 49 [.agg [.inp 0, .inp 1, .inp 2], .inp 3] 4 = rt_point_Call := by kernel_rfl
def rt_point_Drives : RT :=
 ck (.isAgg 3) [q4_58] <|
 ck .pick [.inp 4, bT, .inp 5] <|
 ck .pick [q4_62, bT, .inp 2] <|
 ckg (q4_63) false (.bin .eql) [.inp 0, .inp 3] <|
 ck .pick [q4_63, bT, q4_64] <|
.seg [.call 6 [(q4_65, false)] 84 [q4_58] false] <|
 ckg (q4_65) false (.un .not) [.inp 6] <|
 ck .pick [q4_65, bT, nt (.inp 6)] <|
.seg [.bind 7 (q4_65),
.bind 8 (pk q4_65 bT (nt (.inp 6)))] <|
.cond (.inp 8)
 (.ret (zi (-1)))
 (.ret (.inp 0))
theorem run_point_Drives : runF E 61 [.agg [.inp 0, .inp 1, .inp 2], .inp 3, .inp 4, .inp 5] 6 = rt_point_Drives := by kernel_rfl
def rt_point_Pass : RT :=
 ck (.isAgg 3) [q4_58] <|
 ck .isOne [.inp 3] <|
 ck .isOne [.inp 4] <|
 ck .isOne [.inp 5] <|
 ck .isOne [.inp 6] <|
 ck (.isAgg 3) [q4_58] <|
.seg [.call 7 [] 84 [q4_58] false] <|
 ck (.un .not) [.inp 7] <|
.cond (.inp 7)
 (ck (.isAgg 3) [q4_58] <|
.seg [.call 8 [] 92 [.inp 0] false] <|
 ckg (.inp 8) true (.bin .eql) [.inp 0, .inp 3] <|
 ck .pick [.inp 8, q4_64, bF] <|
.cond (pk (.inp 8) q4_64 bF)
 (.seg [.call 9 [] 93 [] false] <|
 ck (.isAgg 3) [.inp 9] <|
 ck (.isAgg 3) [q4_66] <|
 ck (.isAgg 3) [q4_66] <|
.ret (q4_66))
 (.seg [.call 9 [] 61 [q4_58, .inp 3, .inp 4, .inp 5] false] <|
 ck (.bin .lss) [.inp 9, zi 0] <|
.cond (bi .lss (.inp 9) (zi 0))
 (ck (.isAgg 3) [q4_58] <|
 ck (.isAgg 3) [q4_58] <|
 ck (.isAgg 3) [q4_58] <|
.ret (q4_58))
 (ck (.mm false) [.inp 1, zi 999] <|
 ck (.bin .add) [q4_67, zi 1] <|
 ck .isOne [q4_68] <|
 ck (.bin .leq) [.inp 6, q4_68] <|
 ck .isOne [q4_69] <|
 ck (.isAgg 3) [q4_70] <|
 ck (.isAgg 3) [q4_70] <|
 ck (.isAgg 3) [q4_70] <|
.ret (q4_70))))
 (.seg [.call 8 [] 93 [] false] <|
 ck (.isAgg 3) [.inp 8] <|
 ck (.isAgg 3) [q4_71] <|
.ret (q4_71))
theorem run_point_Pass : runF E 45 (ap [.agg [.inp 0, .inp 1, .inp 2]] (ips 3 4)) 7 = rt_point_Pass := by kernel_rfl
def rt_point_Bits : RT :=
 ck .isOne [.inp 0] <|
 ck .len [.inp 0] <|
 ck (.mm false) [ln (.inp 0), zi 24] <|
.seg [.chk [] (.szs 1) [.inp 0],
.chk [] (.slice false true) [.inp 0, q4_72]] <|
 ck .len [q4_73] <|
.loop 0 1 [zi 0, .int .u32 0] <|
 ck (.bin .lss) [.inp 1, q4_74] <|
.cond (bi .lss (.inp 1) q4_74)
 (ck (.eidx 1) [q4_73, .inp 1] <|
 ck (.eload 1 false) [q4_75] <|
 ck (.bin .eql) [q4_76, zi 0] <|
 ckg (q4_77) true (.bin .shl) [.int .u32 1, .inp 1] <|
.cond (q4_77)
 (ck (.bin .or) [.inp 2, q4_78] <|
 ck .isOne [q4_79] <|
 ck (.un .not) [bT] <|
 ck (.bin .add) [.inp 1, zi 1] <|
.again 0 [bi .add (.inp 1) (zi 1), q4_79])
 (ck (.bin .add) [.inp 1, zi 1] <|
.again 0 [bi .add (.inp 1) (zi 1), .inp 2]))
 (ck .isOne [.inp 0] <|
 ck .len [.inp 0] <|
 ck (.mm false) [ln (.inp 0), zi 24] <|
.seg [.chk [] (.szs 1) [.inp 0],
.chk [] (.slice false true) [.inp 0, q4_72]] <|
 ck .len [q4_73] <|
.loop 0 3 [zi 0, .int .u32 0] <|
 ck (.bin .lss) [.inp 3, q4_74] <|
.cond (bi .lss (.inp 3) q4_74)
 (ck (.eidx 1) [q4_73, .inp 3] <|
 ck (.eload 1 false) [q4_80] <|
 ck (.bin .eql) [q4_81, zi 1] <|
 ckg (q4_82) true (.bin .shl) [.int .u32 1, .inp 3] <|
.cond (q4_82)
 (ck (.bin .or) [.inp 4, q4_83] <|
 ck .isOne [q4_84] <|
 ck (.un .not) [bT] <|
 ck (.bin .add) [.inp 3, zi 1] <|
.again 0 [bi .add (.inp 3) (zi 1), q4_84])
 (ck (.bin .add) [.inp 3, zi 1] <|
.again 0 [bi .add (.inp 3) (zi 1), .inp 4]))
 (.seg [.chk [] .isOne [.inp 2],
.chk [] .isOne [.inp 4]] <|
.ret (.tup [.inp 2, .inp 4])))
theorem run_point_Bits : runF E 62 [.inp 0] 1 = rt_point_Bits := by kernel_rfl
end
end Go.Lb.LK
namespace Go.Lb.LK
open Go Go.Lb Go.Proofs
noncomputable section
@[simp] def q5_0 : SE := ln (e1 (.ref [.inp 137] 0))
@[simp] def q5_1 : SE := ei 3 (e1 (.ref [.inp 137] 0)) (.inp 139)
@[simp] def q5_2 : SE := el 3 q5_1
@[simp] def q5_3 : SE := el 11 (.ref (ips 0 11) 0)
@[simp] def q5_4 : SE := el 29 (.ref (ips 11 29) 0)
@[simp] def q5_5 : SE := pt 0 q5_2
@[simp] def q5_6 : SE := pt 1 q5_2
@[simp] def q5_7 : SE := bi .add (.inp 139) (zi 1)
def rt_kernel_fails : RT :=
 ck (.isAgg 11) [.agg (ips 0 11)] <|
 ck (.isAgg 29) [.agg (ips 11 29)] <|
 ck (.isAgg 74) [.agg (ips 40 74)] <|
 ck (.isAgg 23) [.agg (ips 114 23)] <|
.seg [.call 137 [] 48 [.agg (ips 114 23)] false,
.call 138 [] 47 [.agg (ips 0 11), .agg (ips 11 29), .inp 137] false,
.same 138 [] (.clo 101 [] [.ref [.inp 137] 0, .ref (ips 0 11) 0, .ref (ips 11 29) 0])] <|
 ck (.eload 1 false) [.ref [.inp 137] 0] <|
 ck .len [e1 (.ref [.inp 137] 0)] <|
.loop 0 139 [zi 0] <|
 ck (.bin .lss) [.inp 139, q5_0] <|
.cond (bi .lss (.inp 139) q5_0)
 (ck (.eidx 3) [e1 (.ref [.inp 137] 0), .inp 139] <|
 ck (.eload 3 true) [q5_1] <|
 ck (.isAgg 3) [q5_2] <|
.seg [.chk [] (.eload 11 true) [.ref (ips 0 11) 0],
.chk [] (.eload 29 true) [.ref (ips 11 29) 0],
.call 140 [] 87 [q5_3, q5_4, q5_5] false,
.chk [] (.bin .neq) [.inp 140, q5_6]] <|
.cond (bi .neq (.inp 140) q5_6)
 (ck (.isAgg 3) [.agg [q5_5, q5_6, pt 2 q5_2]] <|
 ck (.inr 24) [q5_5] <|
 ck (.inr 24) [q5_5] <|
 ck (.aidx 24 3 4 1 false) [.agg (ips 40 74), q5_5] <|
.seg [.bind 141 (.app (.aidx 24 3 4 1 false) [.agg (ips 40 74), q5_5])] <|
.cond (.inp 141)
 (ck (.un .not) [bF] <|
.seg [.bind 142 (q5_3),
.bind 143 (q5_4)] <|
.ret (bT))
 (ck (.un .not) [bT] <|
.seg [.bind 142 (q5_3),
.bind 143 (q5_4)] <|
 ck (.bin .add) [.inp 139, zi 1] <|
.again 0 [q5_7]))
 (.seg [.bind 141 (q5_3),
.bind 142 (q5_4)] <|
 ck (.bin .add) [.inp 139, zi 1] <|
.again 0 [q5_7]))
 (.ret (bF))
theorem run_kernel_fails : runF E 98 [.agg (ips 0 11), .agg (ips 11 29), .agg (ips 40 74), .agg (ips 114 23)] 137 = rt_kernel_fails := by kernel_rfl
end
end Go.Lb.LK
namespace Go.Lb.LK
open Go Go.Lb Go.Proofs
noncomputable section
@[simp] def q6_0 : SE := .agg (pts (.inp 114) 0 74)
@[simp] def q6_1 : SE := .agg (pts (.inp 114) 2 72)
@[simp] def q6_2 : SE := .app (.mm false) [ln (.inp 0), zi 24]
@[simp] def q6_3 : SE := .app (.slice false true) [.inp 0, q6_2]
@[simp] def q6_4 : SE := ln q6_3
@[simp] def q6_5 : SE := ei 11 q6_3 (.inp 117)
@[simp] def q6_6 : SE := el 11 q6_5
@[simp] def q6_7 : SE := bi .eql (.inp 190) (.int .u8 2)
@[simp] def q6_8 : SE := .app (.aidx 24 3 0 3 true) [.agg (ips 118 72), .inp 117]
@[simp] def q6_9 : SE := bi .add (.inp 117) (zi 1)
@[simp] def q6_10 : SE := .agg (ap [pt 0 (.inp 114), pt 1 (.inp 114)] (ips 118 72))
@[simp] def q6_11 : SE := bi .lss (.inp 193) (ln (pt 1 (.inp 191)))
@[simp] def q6_12 : SE := ei 23 (pt 1 (.inp 191)) (.inp 193)
@[simp] def q6_13 : SE := el 23 q6_12
@[simp] def q6_14 : SE := pt 6 q6_13
@[simp] def q6_15 : SE := bi .eql q6_14 (.int .u8 1)
@[simp] def q6_16 : SE := .agg (pts (q6_13) 0 23)
@[simp] def q6_17 : SE := pt 0 q6_13
@[simp] def q6_18 : SE := .app .lst [q6_17]
@[simp] def q6_19 : SE := .app .app [.inp 192, q6_18]
@[simp] def q6_20 : SE := bi .add (.inp 193) (zi 1)
@[simp] def q6_21 : SE := .agg (pts (.inp 196) 0 23)
@[simp] def q6_22 : SE := .app .lst [q6_21]
@[simp] def q6_23 : SE := .app .app [.inp 194, q6_22]
@[simp] def q6_24 : SE := bi .eql q6_14 (.int .u8 2)
@[simp] def q6_25 : SE := .agg (pts (.inp 195) 0 23)
@[simp] def q6_26 : SE := .app .lst [q6_25]
@[simp] def q6_27 : SE := .app .app [.inp 194, q6_26]
@[simp] def q6_28 : SE := bi .eql q6_14 (.int .u8 3)
@[simp] def q6_29 : SE := bi .eql q6_14 (.int .u8 4)
@[simp] def q6_30 : SE := .agg (pts (tp 0 (.inp 195)) 0 23)
@[simp] def q6_31 : SE := pk (tp 1 (.inp 195)) bT (.inp 196)
@[simp] def q6_32 : SE := .agg [q6_31, bF]
@[simp] def q6_33 : SE := .app .lst [q6_30]
@[simp] def q6_34 : SE := .app .app [.inp 194, q6_33]
@[simp] def q6_35 : SE := bi .lss (.inp 195) (ln (.inp 194))
@[simp] def q6_36 : SE := .app (.rowget 23 0 23 true) [.inp 194, .inp 195]
@[simp] def q6_37 : SE := pt 6 q6_36
@[simp] def q6_38 : SE := bi .neq q6_37 (.int .u8 1)
@[simp] def q6_39 : SE := bi .add (.inp 195) (zi 1)
@[simp] def q6_40 : SE := .agg (pts (q6_36) 0 23)
@[simp] def q6_41 : SE := .clo 101 [] [.ref [.inp 268] 0, .ref (ips 0 11) 0, .ref (ips 11 29) 0]
@[simp] def q6_42 : SE := ln (e1 (.ref [.inp 268] 0))
@[simp] def q6_43 : SE := bi .lss (.inp 270) q6_42
@[simp] def q6_44 : SE := ei 3 (e1 (.ref [.inp 268] 0)) (.inp 270)
@[simp] def q6_45 : SE := el 3 q6_44
@[simp] def q6_46 : SE := el 11 (.ref (ips 0 11) 0)
@[simp] def q6_47 : SE := el 29 (.ref (ips 11 29) 0)
@[simp] def q6_48 : SE := pt 0 q6_45
@[simp] def q6_49 : SE := pt 1 q6_45
@[simp] def q6_50 : SE := bi .neq (.inp 343) q6_49
@[simp] def q6_51 : SE := .agg [q6_48, q6_49, pt 2 q6_45]
@[simp] def q6_52 : SE := .agg (ap [pt 0 (.inp 114), .undef] (ips 271 72))
@[simp] def q6_53 : SE := .app (.aidx 24 3 2 3 true) [q6_52, q6_48]
@[simp] def q6_54 : SE := .agg [pt 0 (.inp 344), pt 1 (.inp 344), pt 2 (.inp 344)]
@[simp] def q6_55 : SE := bi .add (.inp 270) (zi 1)
@[simp] def q6_56 : SE := .tup [.agg (ap [pt 0 (.inp 114), .inp 194] (ips 196 72)), .inp 192]
def rt_kernel_Tick : RT :=
 ck (.isAgg 11) [.agg (ips 0 11)] <|
 ck (.isAgg 29) [.agg (ips 11 29)] <|
 ck (.isAgg 74) [.agg (ips 40 74)] <|
.seg [.call 114 [] 41 [.agg (ips 40 74)] false] <|
 ck (.isAgg 74) [.inp 114] <|
.seg [.call 115 [] 42 [.agg (ips 40 74)] false] <|
 ck (.un .not) [.inp 115] <|
.seg [.call 116 [(nt (.inp 115), false)] 43 [.agg (ips 0 11), .agg (ips 11 29)] false] <|
 ck .pick [nt (.inp 115), bT, .inp 116] <|
.cond (pk (nt (.inp 115)) bT (.inp 116))
 (ck (.isAgg 74) [q6_0] <|
.ret (.tup [q6_0, .nils]))
 (ck (.isAgg 72) [q6_1] <|
 ck (.isAgg 11) [.agg (ips 0 11)] <|
 ck (.isAgg 29) [.agg (ips 11 29)] <|
 ck (.isAgg 74) [.agg (ips 40 74)] <|
 ck .len [.inp 0] <|
 ck (.mm false) [ln (.inp 0), zi 24] <|
.seg [.chk [] (.szs 11) [.inp 0],
.chk [] (.slice false true) [.inp 0, q6_2]] <|
 ck .len [q6_3] <|
.loop 0 117 (ap [zi 0] (pts (.inp 114) 2 72)) <|
 ck (.bin .lss) [.inp 117, q6_4] <|
.cond (bi .lss (.inp 117) q6_4)
 (ck (.eidx 11) [q6_3, .inp 117] <|
 ck (.eload 11 true) [q6_5] <|
 ck (.isAgg 11) [q6_6] <|
.seg [.bind 190 (pt 0 q6_6),
.bind 191 (pt 1 q6_6),
.bind 192 (pt 2 q6_6),
.bind 193 (pt 3 q6_6),
.bind 194 (pt 4 q6_6),
.bind 195 (pt 5 q6_6),
.bind 196 (pt 6 q6_6),
.bind 197 (pt 7 q6_6),
.bind 198 (pt 8 q6_6),
.bind 199 (pt 9 q6_6),
.bind 200 (pt 10 q6_6)] <|
.seg [.chk [] (.bin .eql) [.inp 190, .int .u8 2],
.call 201 [(q6_7, true)] 87 [.agg (ips 0 11), .agg (ips 11 29), .inp 117] false,
.call 202 [(q6_7, true)] 88 [.agg (ips 0 11), .agg (ips 11 29), .inp 117] false,
.call 203 [(q6_7, true)] 89 [.agg (ips 40 74), .inp 117] false,
.chk [(q6_7, true)] .isOne [.inp 201],
.chk [(q6_7, true)] .isOne [.inp 202],
.chk [(q6_7, true)] .isOne [.inp 203]] <|
.cond (q6_7)
 (ck (.isAgg 3) [.agg [.inp 201, .inp 202, .inp 203]] <|
.seg [.chk [] (.inr 24) [.inp 117],
.chk [] (.aidx 24 3 0 3 true) [.agg (ips 118 72), .inp 117],
.call 204 [] 45 [q6_8, .inp 201, .inp 202, .inp 203, .inp 5] false,
.chk [] (.inr 24) [.inp 117],
.chk [] (.inr 24) [.inp 117],
.chk [] (.isAgg 3) [.inp 204]] <|
.seg (ap [.bind 205 (q6_8)] (csB 0 (.inp 117) (.agg [pt 0 (.inp 204), pt 1 (.inp 204), pt 2 (.inp 204)]) 206 0 (ips 118 72))) <|
 ck (.un .not) [bT] <|
 ck (.bin .add) [.inp 117, zi 1] <|
.again 0 (ap [q6_9] (ips 206 72)))
 (ck (.bin .add) [.inp 117, zi 1] <|
.again 0 (ap [q6_9] (ips 118 72))))
 (ck (.eqa [ some .i64, some .i64, none, some .i64, some .i64, none, some .i64, some .i64, none, some .i64, some .i64, none, some .i64, some .i64, none, some .i64, some .i64, none, some .i64, some .i64, none, some .i64, some .i64, none, some .i64, some .i64, none, some .i64, some .i64, none, some .i64, some .i64, none, some .i64, some .i64, none, some .i64, some .i64, none, some .i64, some .i64, none, some .i64, some .i64, none, some .i64, some .i64, none, some .i64, some .i64, none, some .i64, some .i64, none, some .i64, some .i64, none, some .i64, some .i64, none, some .i64, some .i64, none, some .i64, some .i64, none, some .i64, some .i64, none, some .i64, some .i64, none] true) [.agg (ips 118 72), q6_1] <|
.seg [.bind 190 (.app (.eqa [ some .i64, some .i64, none, some .i64, some .i64, none, some .i64, some .i64, none, some .i64, some .i64, none, some .i64, some .i64, none, some .i64, some .i64, none, some .i64, some .i64, none, some .i64, some .i64, none, some .i64, some .i64, none, some .i64, some .i64, none, some .i64, some .i64, none, some .i64, some .i64, none, some .i64, some .i64, none, some .i64, some .i64, none, some .i64, some .i64, none, some .i64, some .i64, none, some .i64, some .i64, none, some .i64, some .i64, none, some .i64, some .i64, none, some .i64, some .i64, none, some .i64, some .i64, none, some .i64, some .i64, none, some .i64, some .i64, none, some .i64, some .i64, none] true) [.agg (ips 118 72), q6_1])] <|
.cond (.inp 190)
 (ck (.isAgg 72) [.agg (ips 118 72)] <|
 ck (.isAgg 11) [.agg (ips 0 11)] <|
 ck (.isAgg 29) [.agg (ips 11 29)] <|
 ck (.isAgg 74) [q6_10] <|
.seg [.call 191 [] 41 [.agg (ips 40 74)] false] <|
 ck (.part 1 1 false) [.inp 191] <|
 ck .len [pt 1 (.inp 191)] <|
.loop 0 192 [.nils, zi 0, .nils] <|
 ck (.bin .lss) [.inp 193, ln (pt 1 (.inp 191))] <|
.cond (q6_11)
 (ck (.eidx 23) [pt 1 (.inp 191), .inp 193] <|
 ck (.eload 23 true) [q6_12] <|
 ck (.isAgg 23) [q6_13] <|
 ck (.bin .eql) [q6_14, .int .u8 0] <|
.cond (q6_15)
 (.seg [.call 195 [] 98 [.agg (ips 0 11), .agg (ips 11 29), q6_10, q6_16] false] <|
.cond (.inp 195)
 (.seg [.chk [] .isOne [q6_17],
.chk [] .isOne [q6_17]] <|
.seg [.chk [] (.szs 1) [q6_18],
.chk [] .app [.inp 192, q6_18]] <|
 ck (.un .not) [bT] <|
 ck (.bin .add) [.inp 193, zi 1] <|
.again 0 [q6_19, q6_20, .inp 194])
 (.seg [.call 196 [] 95 [.agg (ips 0 11), .agg (ips 11 29), q6_16] false,
.chk [] (.isAgg 23) [.inp 196]] <|
.seg [.call 197 [] 96 [q6_21] false] <|
 ck .isOne [.inp 197] <|
 ck (.isAgg 2) [.agg [.inp 197, bF]] <|
 ck (.isAgg 2) [.agg [.inp 197, bF]] <|
 ck (.isAgg 2) [.agg [.inp 197, bF]] <|
 ck (.un .not) [.inp 197] <|
.cond (.inp 197)
 (ck (.bin .add) [.inp 193, zi 1] <|
.again 0 [.inp 192, q6_20, .inp 194])
 (ck (.isAgg 23) [q6_21] <|
.seg [.chk [] (.szs 23) [q6_22],
.chk [] .app [.inp 194, q6_22]] <|
.seg [.bind 198 (q6_22),
.bind 199 (q6_23)] <|
 ck (.bin .add) [.inp 193, zi 1] <|
.again 0 [.inp 192, q6_20, .inp 199])))
 (.cond (q6_24)
 (.seg [.call 195 [] 95 [.agg (ips 0 11), .agg (ips 11 29), q6_16] false,
.chk [] (.isAgg 23) [.inp 195]] <|
.seg [.call 196 [] 96 [q6_25] false] <|
 ck .isOne [.inp 196] <|
 ck (.isAgg 2) [.agg [.inp 196, bF]] <|
 ck (.isAgg 2) [.agg [.inp 196, bF]] <|
 ck (.un .not) [.inp 196] <|
.cond (.inp 196)
 (ck (.bin .add) [.inp 193, zi 1] <|
.again 0 [.inp 192, q6_20, .inp 194])
 (ck (.isAgg 23) [q6_25] <|
.seg [.chk [] (.szs 23) [q6_26],
.chk [] .app [.inp 194, q6_26]] <|
.seg [.bind 197 (q6_26),
.bind 198 (q6_27)] <|
 ck (.bin .add) [.inp 193, zi 1] <|
.again 0 [.inp 192, q6_20, .inp 198]))
 (.cond (q6_28)
 (.seg [.call 195 [] 95 [.agg (ips 0 11), .agg (ips 11 29), q6_16] false,
.chk [] (.isAgg 23) [.inp 195]] <|
.seg [.call 196 [] 96 [q6_25] false] <|
 ck .isOne [.inp 196] <|
 ck (.isAgg 2) [.agg [.inp 196, bF]] <|
 ck (.isAgg 2) [.agg [.inp 196, bF]] <|
 ck (.un .not) [.inp 196] <|
.cond (.inp 196)
 (ck (.bin .add) [.inp 193, zi 1] <|
.again 0 [.inp 192, q6_20, .inp 194])
 (ck (.isAgg 23) [q6_25] <|
.seg [.chk [] (.szs 23) [q6_26],
.chk [] .app [.inp 194, q6_26]] <|
.seg [.bind 197 (q6_26),
.bind 198 (q6_27)] <|
 ck (.bin .add) [.inp 193, zi 1] <|
.again 0 [.inp 192, q6_20, .inp 198]))
 (.cond (q6_29)
 (.seg [.call 195 [] 100 [.agg (ips 0 11), .agg (ips 11 29), q6_16] false,
.chk [] (.tproj 0) [.inp 195],
.chk [] (.tproj 1) [.inp 195],
.chk [] (.isAgg 23) [tp 0 (.inp 195)]] <|
 ck (.isAgg 23) [q6_30] <|
.seg [.call 196 [(tp 1 (.inp 195), false)] 96 [q6_30] false] <|
 ck .pick [tp 1 (.inp 195), bT, .inp 196] <|
 ck .isOne [q6_31] <|
 ck (.isAgg 2) [q6_32] <|
 ck (.isAgg 2) [q6_32] <|
 ck (.un .not) [q6_31] <|
.cond (q6_31)
 (ck (.bin .add) [.inp 193, zi 1] <|
.again 0 [.inp 192, q6_20, .inp 194])
 (ck (.isAgg 23) [q6_30] <|
.seg [.chk [] (.szs 23) [q6_33],
.chk [] .app [.inp 194, q6_33]] <|
.seg [.bind 197 (q6_33),
.bind 198 (q6_34)] <|
 ck (.bin .add) [.inp 193, zi 1] <|
.again 0 [.inp 192, q6_20, .inp 198]))
 (.dead 6 [zi 1, .nilf, .ptr 162 0])))))
 (ck .len [.inp 194] <|
.loop 0 195 (ap [zi 0] (ips 118 72)) <|
 ck (.bin .lss) [.inp 195, ln (.inp 194)] <|
.cond (q6_35)
 (ck (.eidx 23) [.inp 194, .inp 195] <|
 ck (.rowget 23 0 23 true) [.inp 194, .inp 195] <|
 ck (.isAgg 23) [q6_36] <|
 ck (.bin .neq) [q6_37, .int .u8 1] <|
.cond (q6_38)
 (ck (.bin .add) [.inp 195, zi 1] <|
.again 0 (ap [q6_39] (ips 196 72)))
 (.seg [.call 268 [] 48 [q6_40] false,
.call 269 [] 47 [.agg (ips 0 11), .agg (ips 11 29), .inp 268] false,
.same 269 [] (q6_41)] <|
 ck (.eload 1 false) [.ref [.inp 268] 0] <|
 ck .len [e1 (.ref [.inp 268] 0)] <|
.loop 1 270 (ap [zi 0] (ips 196 72)) <|
 ck (.bin .lss) [.inp 270, q6_42] <|
.cond (q6_43)
 (ck (.eidx 3) [e1 (.ref [.inp 268] 0), .inp 270] <|
 ck (.eload 3 true) [q6_44] <|
 ck (.isAgg 3) [q6_45] <|
.seg [.chk [] (.eload 11 true) [.ref (ips 0 11) 0],
.chk [] (.eload 29 true) [.ref (ips 11 29) 0],
.call 343 [] 87 [q6_46, q6_47, q6_48] false,
.chk [] (.bin .neq) [.inp 343, q6_49]] <|
.cond (q6_50)
 (ck (.isAgg 3) [q6_51] <|
.seg [.chk [] (.inr 24) [q6_48],
.chk [] (.aidx 24 3 2 3 true) [q6_52, q6_48],
.call 344 [] 49 [q6_53, q6_49] false,
.chk [] (.inr 24) [q6_48],
.chk [] (.inr 24) [q6_48],
.chk [] (.isAgg 3) [.inp 344]] <|
.seg (ap [.bind 345 (q6_53)] (csB 2 (q6_48) (q6_54) 346 2 (ips 271 72))) <|
 ck (.un .not) [bT] <|
.seg [.bind 418 (q6_46),
.bind 419 (q6_47)] <|
 ck (.bin .add) [.inp 270, zi 1] <|
.again 1 (ap [q6_55] (ips 346 72)))
 (.seg [.bind 344 (q6_46),
.bind 345 (q6_47)] <|
 ck (.bin .add) [.inp 270, zi 1] <|
.again 1 (ap [q6_55] (ips 271 72))))
 (ck (.bin .add) [.inp 195, zi 1] <|
.again 0 (ap [q6_39] (ips 271 72)))))
 (ck (.isAgg 74) [.agg (ap [pt 0 (.inp 114), .row 153] (ips 196 72))] <|
.ret (q6_56))))
 (ck (.isAgg 11) [.agg (ips 0 11)] <|
 ck (.isAgg 29) [.agg (ips 11 29)] <|
 ck (.isAgg 74) [q6_0] <|
.seg [.call 191 [] 41 [.agg (ips 40 74)] false] <|
 ck (.part 1 1 false) [.inp 191] <|
 ck .len [pt 1 (.inp 191)] <|
.loop 0 192 [.nils, zi 0, .nils] <|
 ck (.bin .lss) [.inp 193, ln (pt 1 (.inp 191))] <|
.cond (q6_11)
 (ck (.eidx 23) [pt 1 (.inp 191), .inp 193] <|
 ck (.eload 23 true) [q6_12] <|
 ck (.isAgg 23) [q6_13] <|
 ck (.bin .eql) [q6_14, .int .u8 0] <|
.cond (q6_15)
 (.seg [.call 195 [] 98 [.agg (ips 0 11), .agg (ips 11 29), q6_0, q6_16] false] <|
.cond (.inp 195)
 (.seg [.chk [] .isOne [q6_17],
.chk [] .isOne [q6_17]] <|
.seg [.chk [] (.szs 1) [q6_18],
.chk [] .app [.inp 192, q6_18]] <|
 ck (.un .not) [bT] <|
 ck (.bin .add) [.inp 193, zi 1] <|
.again 0 [q6_19, q6_20, .inp 194])
 (.seg [.call 196 [] 95 [.agg (ips 0 11), .agg (ips 11 29), q6_16] false,
.chk [] (.isAgg 23) [.inp 196]] <|
.seg [.call 197 [] 96 [q6_21] false] <|
 ck .isOne [.inp 197] <|
 ck (.isAgg 2) [.agg [.inp 197, bF]] <|
 ck (.isAgg 2) [.agg [.inp 197, bF]] <|
 ck (.isAgg 2) [.agg [.inp 197, bF]] <|
 ck (.un .not) [.inp 197] <|
.cond (.inp 197)
 (ck (.bin .add) [.inp 193, zi 1] <|
.again 0 [.inp 192, q6_20, .inp 194])
 (ck (.isAgg 23) [q6_21] <|
.seg [.chk [] (.szs 23) [q6_22],
.chk [] .app [.inp 194, q6_22]] <|
.seg [.bind 198 (q6_22),
.bind 199 (q6_23)] <|
 ck (.bin .add) [.inp 193, zi 1] <|
.again 0 [.inp 192, q6_20, .inp 199])))
 (.cond (q6_24)
 (.seg [.call 195 [] 95 [.agg (ips 0 11), .agg (ips 11 29), q6_16] false,
.chk [] (.isAgg 23) [.inp 195]] <|
.seg [.call 196 [] 96 [q6_25] false] <|
 ck .isOne [.inp 196] <|
 ck (.isAgg 2) [.agg [.inp 196, bF]] <|
 ck (.isAgg 2) [.agg [.inp 196, bF]] <|
 ck (.un .not) [.inp 196] <|
.cond (.inp 196)
 (ck (.bin .add) [.inp 193, zi 1] <|
.again 0 [.inp 192, q6_20, .inp 194])
 (ck (.isAgg 23) [q6_25] <|
.seg [.chk [] (.szs 23) [q6_26],
.chk [] .app [.inp 194, q6_26]] <|
.seg [.bind 197 (q6_26),
.bind 198 (q6_27)] <|
 ck (.bin .add) [.inp 193, zi 1] <|
.again 0 [.inp 192, q6_20, .inp 198]))
 (.cond (q6_28)
 (.seg [.call 195 [] 95 [.agg (ips 0 11), .agg (ips 11 29), q6_16] false,
.chk [] (.isAgg 23) [.inp 195]] <|
.seg [.call 196 [] 96 [q6_25] false] <|
 ck .isOne [.inp 196] <|
 ck (.isAgg 2) [.agg [.inp 196, bF]] <|
 ck (.isAgg 2) [.agg [.inp 196, bF]] <|
 ck (.un .not) [.inp 196] <|
.cond (.inp 196)
 (ck (.bin .add) [.inp 193, zi 1] <|
.again 0 [.inp 192, q6_20, .inp 194])
 (ck (.isAgg 23) [q6_25] <|
.seg [.chk [] (.szs 23) [q6_26],
.chk [] .app [.inp 194, q6_26]] <|
.seg [.bind 197 (q6_26),
.bind 198 (q6_27)] <|
 ck (.bin .add) [.inp 193, zi 1] <|
.again 0 [.inp 192, q6_20, .inp 198]))
 (.cond (q6_29)
 (.seg [.call 195 [] 100 [.agg (ips 0 11), .agg (ips 11 29), q6_16] false,
.chk [] (.tproj 0) [.inp 195],
.chk [] (.tproj 1) [.inp 195],
.chk [] (.isAgg 23) [tp 0 (.inp 195)]] <|
 ck (.isAgg 23) [q6_30] <|
.seg [.call 196 [(tp 1 (.inp 195), false)] 96 [q6_30] false] <|
 ck .pick [tp 1 (.inp 195), bT, .inp 196] <|
 ck .isOne [q6_31] <|
 ck (.isAgg 2) [q6_32] <|
 ck (.isAgg 2) [q6_32] <|
 ck (.un .not) [q6_31] <|
.cond (q6_31)
 (ck (.bin .add) [.inp 193, zi 1] <|
.again 0 [.inp 192, q6_20, .inp 194])
 (ck (.isAgg 23) [q6_30] <|
.seg [.chk [] (.szs 23) [q6_33],
.chk [] .app [.inp 194, q6_33]] <|
.seg [.bind 197 (q6_33),
.bind 198 (q6_34)] <|
 ck (.bin .add) [.inp 193, zi 1] <|
.again 0 [.inp 192, q6_20, .inp 198]))
 (.dead 6 [zi 1, .nilf, .ptr 156 0])))))
 (ck .len [.inp 194] <|
.loop 0 195 (ap [zi 0] (pts (.inp 114) 2 72)) <|
 ck (.bin .lss) [.inp 195, ln (.inp 194)] <|
.cond (q6_35)
 (ck (.eidx 23) [.inp 194, .inp 195] <|
 ck (.rowget 23 0 23 true) [.inp 194, .inp 195] <|
 ck (.isAgg 23) [q6_36] <|
 ck (.bin .neq) [q6_37, .int .u8 1] <|
.cond (q6_38)
 (ck (.bin .add) [.inp 195, zi 1] <|
.again 0 (ap [q6_39] (ips 196 72)))
 (.seg [.call 268 [] 48 [q6_40] false,
.call 269 [] 47 [.agg (ips 0 11), .agg (ips 11 29), .inp 268] false,
.same 269 [] (q6_41)] <|
 ck (.eload 1 false) [.ref [.inp 268] 0] <|
 ck .len [e1 (.ref [.inp 268] 0)] <|
.loop 1 270 (ap [zi 0] (ips 196 72)) <|
 ck (.bin .lss) [.inp 270, q6_42] <|
.cond (q6_43)
 (ck (.eidx 3) [e1 (.ref [.inp 268] 0), .inp 270] <|
 ck (.eload 3 true) [q6_44] <|
 ck (.isAgg 3) [q6_45] <|
.seg [.chk [] (.eload 11 true) [.ref (ips 0 11) 0],
.chk [] (.eload 29 true) [.ref (ips 11 29) 0],
.call 343 [] 87 [q6_46, q6_47, q6_48] false,
.chk [] (.bin .neq) [.inp 343, q6_49]] <|
.cond (q6_50)
 (ck (.isAgg 3) [q6_51] <|
.seg [.chk [] (.inr 24) [q6_48],
.chk [] (.aidx 24 3 2 3 true) [q6_52, q6_48],
.call 344 [] 49 [q6_53, q6_49] false,
.chk [] (.inr 24) [q6_48],
.chk [] (.inr 24) [q6_48],
.chk [] (.isAgg 3) [.inp 344]] <|
.seg (ap [.bind 345 (q6_53)] (csB 2 (q6_48) (q6_54) 346 2 (ips 271 72))) <|
 ck (.un .not) [bT] <|
.seg [.bind 418 (q6_46),
.bind 419 (q6_47)] <|
 ck (.bin .add) [.inp 270, zi 1] <|
.again 1 (ap [q6_55] (ips 346 72)))
 (.seg [.bind 344 (q6_46),
.bind 345 (q6_47)] <|
 ck (.bin .add) [.inp 270, zi 1] <|
.again 1 (ap [q6_55] (ips 271 72))))
 (ck (.bin .add) [.inp 195, zi 1] <|
.again 0 (ap [q6_39] (ips 271 72)))))
 (ck (.isAgg 74) [.agg (ap [pt 0 (.inp 114), .row 147] (ips 196 72))] <|
.ret (q6_56))))))
theorem run_kernel_Tick : runF E 10 [.agg (ips 0 11), .agg (ips 11 29), .agg (ips 40 74)] 114 = rt_kernel_Tick := by kernel_rfl
end
end Go.Lb.LK
namespace Go.Lb.LK
open Go Go.Lb Go.Proofs
noncomputable section
@[simp] def q7_0 : SE := bi .lss (.inp 114) (zi 0)
@[simp] def q7_1 : SE := .app (.mm false) [ln (.inp 0), zi 24]
@[simp] def q7_2 : SE := bi .geq (.inp 114) q7_1
@[simp] def q7_3 : SE := pk q7_0 bT q7_2
@[simp] def q7_4 : SE := bi .andNot (.inp 115) (zi 1)
@[simp] def q7_5 : SE := bi .neq q7_4 (zi 0)
@[simp] def q7_6 : SE := .agg (pts (.inp 116) 0 74)
@[simp] def q7_7 : SE := .tup [q7_6, bF]
@[simp] def q7_8 : SE := ei 11 (.inp 0) (.inp 114)
@[simp] def q7_9 : SE := .app (.eoff 0) [q7_8]
@[simp] def q7_10 : SE := e1 q7_9
@[simp] def q7_11 : SE := bi .neq q7_10 (.int .u8 2)
@[simp] def q7_12 : SE := pk (tp 1 (.inp 119)) bT q7_11
@[simp] def q7_13 : SE := pk q7_12 bT (nt (.inp 120))
@[simp] def q7_14 : SE := .app (.aidx 24 3 2 3 true) [q7_6, .inp 114]
@[simp] def q7_15 : SE := .agg (ap [pt 0 (.inp 116), pt 1 (.inp 116)] (ips 127 72))
@[simp] def q7_16 : SE := ln (.app .rep [zi 24, zi 0])
@[simp] def q7_17 : SE := bi .add (.inp 114) (zi 1)
@[simp] def q7_18 : SE := .app (.slice false true) [.inp 0, q7_1]
@[simp] def q7_19 : SE := ln q7_18
@[simp] def q7_20 : SE := ei 11 q7_18 (.inp 116)
@[simp] def q7_21 : SE := el 11 q7_20
@[simp] def q7_22 : SE := bi .eql (.inp 118) (.int .u8 2)
@[simp] def q7_23 : SE := .app (.aidx 24 3 2 3 true) [.agg (ips 40 74), .inp 116]
@[simp] def q7_24 : SE := bi .add (.inp 116) (zi 1)
@[simp] def q7_25 : SE := ei 11 q7_18 (.inp 114)
@[simp] def q7_26 : SE := el 11 q7_25
@[simp] def q7_27 : SE := bi .eql (.inp 115) (.int .u8 2)
@[simp] def q7_28 : SE := .app (.aidx 24 3 2 3 true) [.agg (ips 40 74), .inp 114]
@[simp] def q7_29 : SE := bi .geq (.inp 129) (zi 0)
@[simp] def q7_30 : SE := pk (.inp 127) bT (.inp 128)
def rt_kernel_Key : RT :=
 ck (.isAgg 11) [.agg (ips 0 11)] <|
 ck (.isAgg 29) [.agg (ips 11 29)] <|
 ck (.isAgg 74) [.agg (ips 40 74)] <|
.seg [.call 116 [] 41 [.agg (ips 40 74)] false] <|
 ck (.isAgg 74) [.inp 116] <|
 ck (.bin .lss) [.inp 114, zi 0] <|
 ckg (q7_0) false .len [.inp 0] <|
 ckg (q7_0) false (.mm false) [ln (.inp 0), zi 24] <|
 ckg (q7_0) false (.bin .geq) [.inp 114, q7_1] <|
 ck .pick [q7_0, bT, q7_2] <|
 ckg (q7_3) false (.bin .andNot) [.inp 115, zi 1] <|
 ckg (q7_3) false (.bin .neq) [q7_4, zi 0] <|
 ck .pick [q7_3, bT, q7_5] <|
.seg [.bind 117 (q7_3),
.bind 118 (pk q7_3 bT q7_5)] <|
.cond (.inp 118)
 (ck (.isAgg 74) [q7_6] <|
.ret (q7_7))
 (.seg [.call 119 [] 58 [.agg (ips 40 74), .inp 114] false] <|
 ck (.tproj 0) [.inp 119] <|
 ck (.tproj 1) [.inp 119] <|
 ckg (tp 1 (.inp 119)) false (.eidx 11) [.inp 0, .inp 114] <|
 ckg (tp 1 (.inp 119)) false (.eoff 0) [q7_8] <|
 ckg (tp 1 (.inp 119)) false (.eload 1 false) [q7_9] <|
 ckg (tp 1 (.inp 119)) false (.bin .neq) [q7_10, .int .u8 2] <|
 ck .pick [tp 1 (.inp 119), bT, q7_11] <|
.seg [.call 120 [(q7_12, false)] 42 [.agg (ips 40 74)] false] <|
 ckg (q7_12) false (.un .not) [.inp 120] <|
 ck .pick [q7_12, bT, nt (.inp 120)] <|
.seg [.call 121 [(q7_13, false)] 59 [.agg (ips 0 11), .agg (ips 11 29), .agg (ips 40 74), .inp 114] false] <|
 ckg (q7_13) false (.un .not) [.inp 121] <|
 ck .pick [q7_13, bT, nt (.inp 121)] <|
.seg [.bind 122 (q7_12),
.bind 123 (q7_13),
.bind 124 (pk q7_13 bT (nt (.inp 121)))] <|
.cond (.inp 124)
 (ck (.isAgg 74) [q7_6] <|
.ret (q7_7))
 (ck (.inr 24) [.inp 114] <|
 ck (.aidx 24 3 2 3 true) [q7_6, .inp 114] <|
.seg [.call 125 [] 49 [q7_14, .inp 115] false] <|
 ck (.inr 24) [.inp 114] <|
.seg [.chk [] (.inr 24) [.inp 114],
.chk [] (.isAgg 3) [.inp 125]] <|
.seg (ap [.bind 126 (q7_14)] (csB 2 (.inp 114) (.agg [pt 0 (.inp 125), pt 1 (.inp 125), pt 2 (.inp 125)]) 127 2 (pts (.inp 116) 2 72))) <|
 ck (.isAgg 74) [q7_15] <|
.ret (.tup [q7_15, bT])))
theorem run_kernel_Key : runF E 14 [.agg (ips 0 11), .agg (ips 11 29), .agg (ips 40 74), .inp 114, .inp 115] 116 = rt_kernel_Key := by kernel_rfl
def rt_kernel_Drives : RT :=
 ck (.isAgg 11) [.agg (ips 0 11)] <|
 ck (.isAgg 29) [.agg (ips 11 29)] <|
 ck (.isAgg 74) [.agg (ips 40 74)] <|
 ck .rep [zi 24, zi 0] <|
 ck .len [.app .rep [zi 24, zi 0]] <|
.loop 0 114 [zi 0, .app .rep [zi 24, zi 0]] <|
 ck (.bin .lss) [.inp 114, q7_16] <|
.cond (bi .lss (.inp 114) q7_16)
 (ck (.eidx 1) [.inp 115, .inp 114] <|
 ck (.rowset 1 0 1) [.inp 115, .inp 114, .agg [zi (-1)]] <|
 ck (.bin .add) [.inp 114, zi 1] <|
.again 0 [q7_17, .app (.rowset 1 0 1) [.inp 115, .inp 114, .agg [zi (-1)]]])
 (ck (.isAgg 11) [.agg (ips 0 11)] <|
 ck (.isAgg 29) [.agg (ips 11 29)] <|
 ck (.isAgg 74) [.agg (ips 40 74)] <|
 ck .len [.inp 0] <|
 ck (.mm false) [ln (.inp 0), zi 24] <|
.seg [.chk [] (.szs 11) [.inp 0],
.chk [] (.slice false true) [.inp 0, q7_1]] <|
 ck .len [q7_18] <|
.loop 0 116 [zi 0, .inp 115] <|
 ck (.bin .lss) [.inp 116, q7_19] <|
.cond (bi .lss (.inp 116) q7_19)
 (ck (.eidx 11) [q7_18, .inp 116] <|
 ck (.eload 11 true) [q7_20] <|
 ck (.isAgg 11) [q7_21] <|
.seg [.bind 118 (pt 0 q7_21),
.bind 119 (pt 1 q7_21),
.bind 120 (pt 2 q7_21),
.bind 121 (pt 3 q7_21),
.bind 122 (pt 4 q7_21),
.bind 123 (pt 5 q7_21),
.bind 124 (pt 6 q7_21),
.bind 125 (pt 7 q7_21),
.bind 126 (pt 8 q7_21),
.bind 127 (pt 9 q7_21),
.bind 128 (pt 10 q7_21)] <|
.seg [.chk [] (.bin .eql) [.inp 118, .int .u8 2],
.call 129 [(q7_22, true)] 87 [.agg (ips 0 11), .agg (ips 11 29), .inp 116] false,
.call 130 [(q7_22, true)] 88 [.agg (ips 0 11), .agg (ips 11 29), .inp 116] false,
.call 131 [(q7_22, true)] 89 [.agg (ips 40 74), .inp 116] false,
.chk [(q7_22, true)] .isOne [.inp 129],
.chk [(q7_22, true)] .isOne [.inp 130],
.chk [(q7_22, true)] .isOne [.inp 131]] <|
.cond (q7_22)
 (ck (.isAgg 3) [.agg [.inp 129, .inp 130, .inp 131]] <|
.seg [.chk [] (.inr 24) [.inp 116],
.chk [] (.aidx 24 3 2 3 true) [.agg (ips 40 74), .inp 116],
.call 132 [] 61 [q7_23, .inp 129, .inp 130, .inp 131] false,
.chk [] (.eidx 1) [.inp 117, .inp 116],
.chk [] (.rowset 1 0 1) [.inp 117, .inp 116, .agg [.inp 132]],
.chk [] .isOne [.inp 132]] <|
.seg [.bind 133 (q7_23)] <|
 ck (.un .not) [bT] <|
 ck (.bin .add) [.inp 116, zi 1] <|
.again 0 [q7_24, .app (.rowset 1 0 1) [.inp 117, .inp 116, .agg [.inp 132]]])
 (ck (.bin .add) [.inp 116, zi 1] <|
.again 0 [q7_24, .inp 117]))
 (.seg [.call 118 [] 62 [.inp 117] true] <|
 ck (.tproj 0) [.inp 118] <|
 ck (.tproj 1) [.inp 118] <|
.ret (.tup [tp 0 (.inp 118), tp 1 (.inp 118)])))
theorem run_kernel_Drives : runF E 16 [.agg (ips 0 11), .agg (ips 11 29), .agg (ips 40 74)] 114 = rt_kernel_Drives := by kernel_rfl
def rt_kernel_Safe : RT :=
 ck (.isAgg 11) [.agg (ips 0 11)] <|
 ck (.isAgg 29) [.agg (ips 11 29)] <|
 ck (.isAgg 74) [.agg (ips 40 74)] <|
 ck (.isAgg 11) [.agg (ips 0 11)] <|
 ck (.isAgg 29) [.agg (ips 11 29)] <|
 ck (.isAgg 74) [.agg (ips 40 74)] <|
 ck .len [.inp 0] <|
 ck (.mm false) [ln (.inp 0), zi 24] <|
.seg [.chk [] (.szs 11) [.inp 0],
.chk [] (.slice false true) [.inp 0, q7_1]] <|
 ck .len [q7_18] <|
.loop 0 114 [zi 0] <|
 ck (.bin .lss) [.inp 114, q7_19] <|
.cond (bi .lss (.inp 114) q7_19)
 (ck (.eidx 11) [q7_18, .inp 114] <|
 ck (.eload 11 true) [q7_25] <|
 ck (.isAgg 11) [q7_26] <|
.seg [.bind 115 (pt 0 q7_26),
.bind 116 (pt 1 q7_26),
.bind 117 (pt 2 q7_26),
.bind 118 (pt 3 q7_26),
.bind 119 (pt 4 q7_26),
.bind 120 (pt 5 q7_26),
.bind 121 (pt 6 q7_26),
.bind 122 (pt 7 q7_26),
.bind 123 (pt 8 q7_26),
.bind 124 (pt 9 q7_26),
.bind 125 (pt 10 q7_26)] <|
.seg [.chk [] (.bin .eql) [.inp 115, .int .u8 2],
.call 126 [(q7_27, true)] 87 [.agg (ips 0 11), .agg (ips 11 29), .inp 114] false,
.call 127 [(q7_27, true)] 88 [.agg (ips 0 11), .agg (ips 11 29), .inp 114] false,
.call 128 [(q7_27, true)] 89 [.agg (ips 40 74), .inp 114] false,
.chk [(q7_27, true)] .isOne [.inp 126],
.chk [(q7_27, true)] .isOne [.inp 127],
.chk [(q7_27, true)] .isOne [.inp 128]] <|
.cond (q7_27)
 (ck (.isAgg 3) [.agg [.inp 126, .inp 127, .inp 128]] <|
.seg [.chk [] (.inr 24) [.inp 114],
.chk [] (.aidx 24 3 2 3 true) [.agg (ips 40 74), .inp 114],
.call 129 [] 61 [q7_28, .inp 126, .inp 127, .inp 128] false,
.chk [] (.bin .geq) [.inp 129, zi 0],
.chk [(q7_29, true)] .pick [.inp 127, bT, .inp 128],
.chk [] .pick [q7_29, q7_30, bF]] <|
.seg [.bind 130 (q7_28)] <|
.cond (pk q7_29 q7_30 bF)
 (ck (.un .not) [bF] <|
.ret (bF))
 (ck (.un .not) [bT] <|
 ck (.bin .add) [.inp 114, zi 1] <|
.again 0 [q7_17]))
 (ck (.bin .add) [.inp 114, zi 1] <|
.again 0 [q7_17]))
 (.seg [.call 115 [] 42 [.agg (ips 40 74)] false] <|
 ck .isOne [.inp 115] <|
.ret (.inp 115))
theorem run_kernel_Safe : runF E 18 [.agg (ips 0 11), .agg (ips 11 29), .agg (ips 40 74)] 114 = rt_kernel_Safe := by kernel_rfl
end
end Go.Lb.LK
namespace Go.Lb.LK
open Go Go.Lb Go.Proofs
noncomputable section
@[simp] def q8_0 : SE := .agg [.inp 0, .inp 1, .inp 2]
@[simp] def q8_1 : SE := pk (bi .neq (.inp 3) (zi 0)) (bi .neq (.inp 3) (zi 1)) bF
@[simp] def q8_2 : SE := bi .eql (.inp 0) (.inp 3)
@[simp] def q8_3 : SE := pk (nt (.inp 6)) bT (.inp 2)
@[simp] def q8_4 : SE := pk q8_3 bT (.inp 4)
@[simp] def q8_5 : SE := pk q8_4 bT (.inp 5)
@[simp] def q8_6 : SE := bi .eql (.inp 3) (.inp 0)
@[simp] def q8_7 : SE := pk (bi .geq (.inp 0) (zi 0)) q8_6 bF
@[simp] def q8_8 : SE := .app (.mm false) [bi .add (.inp 1) (zi 1), zi 1000]
@[simp] def q8_9 : SE := bi .geq q8_8 (.inp 6)
@[simp] def q8_10 : SE := .agg [.inp 0, q8_8, q8_9]
@[simp] def q8_11 : SE := bi .lss (.inp 3) (ln (.inp 0))
@[simp] def q8_12 : SE := bi .lss (.inp 3) (zi 24)
@[simp] def q8_13 : SE := e1 (ei 1 (.inp 0) (.inp 3))
@[simp] def q8_14 : SE := .app (.conv .u64) [.inp 3]
@[simp] def q8_15 : SE := bi .shl (.int .u32 1) q8_14
@[simp] def q8_16 : SE := bi .eql q8_13 (zi 1)
@[simp] def q8_17 : SE := bi .or (.inp 1) q8_15
@[simp] def q8_18 : SE := bi .or (.inp 2) q8_15
def rt_lockbarref16_Call : RT :=
 ck (.isAgg 3) [q8_0] <|
.seg [.call 4 [] 30 [q8_0] false] <|
 ck (.un .not) [.inp 4] <|
 ckg (nt (.inp 4)) false (.bin .neq) [.inp 3, zi 0] <|
.seg [.chk [(bi .neq (.inp 3) (zi 0), true), (nt (.inp 4), false)] (.bin .neq) [.inp 3, zi 1]] <|
 ckg (nt (.inp 4)) false .pick [bi .neq (.inp 3) (zi 0), bi .neq (.inp 3) (zi 1), bF] <|
 ck .pick [nt (.inp 4), bT, q8_1] <|
.seg [.bind 5 (pk (nt (.inp 4)) bT q8_1)] <|
.cond (.inp 5)
 (.seg [.call 6 [] 71 [] false] <|
 ck (.isAgg 3) [.inp 6] <|
.ret (.agg [pt 0 (.inp 6), pt 1 (.inp 6), pt 2 (.inp 6)]))
 (ck (.bin .eql) [.inp 0, .inp 3] <|
 ckg (q8_2) true (.un .not) [.inp 2] <|
 ck .pick [q8_2, nt (.inp 2), bF] <|
.cond (pk q8_2 (nt (.inp 2)) bF)
 (ck (.isAgg 3) [q8_0] <|
.ret (q8_0))
 (ck .isOne [.inp 3] <|
 ck (.isAgg 3) [.agg [.inp 3, zi 0, bF]] <|
.ret (.agg [.inp 3, zi 0, bF])))
theorem run_lockbarref16_Call : runF E 33 [.agg [.inp 0, .inp 1, .inp 2], .inp 3] 4 = rt_lockbarref16_Call := by kernel_rfl
def rt_lockbarref16_Drives : RT :=
 ck (.isAgg 3) [q8_0] <|
.seg [.call 6 [] 30 [q8_0] false] <|
 ck (.un .not) [.inp 6] <|
 ck .pick [nt (.inp 6), bT, .inp 2] <|
 ck .pick [q8_3, bT, .inp 4] <|
 ck .pick [q8_4, bT, .inp 5] <|
 ckg (q8_5) false (.bin .eql) [.inp 3, .inp 0] <|
 ck .pick [q8_5, bT, q8_6] <|
.seg [.bind 7 (q8_5),
.bind 8 (pk q8_5 bT q8_6)] <|
.cond (.inp 8)
 (.ret (zi (-1)))
 (.ret (.inp 0))
theorem run_lockbarref16_Drives : runF E 104 [.agg [.inp 0, .inp 1, .inp 2], .inp 3, .inp 4, .inp 5] 6 = rt_lockbarref16_Drives := by kernel_rfl
def rt_lockbarref16_Pass : RT :=
 ck (.isAgg 3) [q8_0] <|
.seg [.call 7 [] 30 [q8_0] false] <|
 ck (.un .not) [.inp 7] <|
 ckg (nt (.inp 7)) false (.bin .geq) [.inp 0, zi 0] <|
.seg [.chk [(bi .geq (.inp 0) (zi 0), true), (nt (.inp 7), false)] (.bin .eql) [.inp 3, .inp 0]] <|
 ckg (nt (.inp 7)) false .pick [bi .geq (.inp 0) (zi 0), q8_6, bF] <|
 ck .pick [nt (.inp 7), bT, q8_7] <|
.seg [.bind 8 (pk (nt (.inp 7)) bT q8_7)] <|
.cond (.inp 8)
 (.seg [.call 9 [] 71 [] false] <|
 ck (.isAgg 3) [.inp 9] <|
.ret (.agg [pt 0 (.inp 9), pt 1 (.inp 9), pt 2 (.inp 9)]))
 (.seg [.call 9 [] 104 [q8_0, .inp 3, .inp 4, .inp 5] false] <|
 ck (.bin .geq) [.inp 9, zi 0] <|
.cond (bi .geq (.inp 9) (zi 0))
 (ck (.bin .add) [.inp 1, zi 1] <|
 ck (.mm false) [bi .add (.inp 1) (zi 1), zi 1000] <|
 ck .isOne [q8_8] <|
 ck (.bin .geq) [q8_8, .inp 6] <|
 ck .isOne [q8_9] <|
 ck (.isAgg 3) [q8_10] <|
.ret (q8_10))
 (ck (.isAgg 3) [q8_0] <|
.ret (q8_0)))
theorem run_lockbarref16_Pass : runF E 52 (ap [.agg [.inp 0, .inp 1, .inp 2]] (ips 3 4)) 7 = rt_lockbarref16_Pass := by kernel_rfl
def rt_lockbarref16_Bits : RT :=
.loop 0 1 [.int .u32 0, .int .u32 0, zi 0] <|
 ck .len [.inp 0] <|
 ck (.bin .lss) [.inp 3, ln (.inp 0)] <|
 ckg (q8_11) true (.bin .lss) [.inp 3, zi 24] <|
 ck .pick [q8_11, q8_12, bF] <|
.cond (pk q8_11 q8_12 bF)
 (ck (.eidx 1) [.inp 0, .inp 3] <|
 ck (.eload 1 false) [ei 1 (.inp 0) (.inp 3)] <|
 ck (.bin .eql) [q8_13, zi 0] <|
.cond (bi .eql q8_13 (zi 0))
 (ck (.conv .u64) [.inp 3] <|
 ck (.bin .shl) [.int .u32 1, q8_14] <|
 ck (.bin .or) [.inp 1, q8_15] <|
 ck (.eidx 1) [.inp 0, .inp 3] <|
 ck (.eload 1 false) [ei 1 (.inp 0) (.inp 3)] <|
 ck (.bin .eql) [q8_13, zi 1] <|
.cond (q8_16)
 (ck (.conv .u64) [.inp 3] <|
 ck (.bin .shl) [.int .u32 1, q8_14] <|
 ck (.bin .or) [.inp 2, q8_15] <|
 ck (.bin .add) [.inp 3, zi 1] <|
.again 0 [q8_17, q8_18, bi .add (.inp 3) (zi 1)])
 (ck (.bin .add) [.inp 3, zi 1] <|
.again 0 [q8_17, .inp 2, bi .add (.inp 3) (zi 1)]))
 (ck (.eidx 1) [.inp 0, .inp 3] <|
 ck (.eload 1 false) [ei 1 (.inp 0) (.inp 3)] <|
 ck (.bin .eql) [q8_13, zi 1] <|
.cond (q8_16)
 (ck (.conv .u64) [.inp 3] <|
 ck (.bin .shl) [.int .u32 1, q8_14] <|
 ck (.bin .or) [.inp 2, q8_15] <|
 ck (.bin .add) [.inp 3, zi 1] <|
.again 0 [.inp 1, q8_18, bi .add (.inp 3) (zi 1)])
 (ck (.bin .add) [.inp 3, zi 1] <|
.again 0 [.inp 1, .inp 2, bi .add (.inp 3) (zi 1)])))
 (.ret (.tup [.inp 1, .inp 2]))
theorem run_lockbarref16_Bits : runF E 64 [.inp 0] 1 = rt_lockbarref16_Bits := by kernel_rfl
end
end Go.Lb.LK
namespace Go.Lb.LK
open Go Go.Lb Go.Proofs
noncomputable section
@[simp] def q9_3 : SE := .agg [.inp 114, .inp 115, .inp 116]
@[simp] def q9_4 : SE := bi .geq (.inp 40) (zi 1073741824)
@[simp] def q9_5 : SE := ei 23 (.inp 41) (.inp 117)
@[simp] def q9_6 : SE := .app .lst [.agg (pts (.inp 119) 0 23)]
@[simp] def q9_7 : SE := .agg (ap [.inp 40, .row 32] (ips 42 72))
@[simp] def q9_8 : SE := .agg (ap [.inp 40, .inp 118] (ips 42 72))
@[simp] def q9_9 : SE := .agg [.inp 40, pt 0 (.inp 120), pt 1 (.inp 120), pt 2 (.inp 120), .inp 121, .inp 122, .int .u8 1, zi 0, bF, bF, bF, bF, bF, bF, bF, bF, bF, bF, bF, bF, bF, zi 0, bF]
@[simp] def q9_10 : SE := .app .lst [q9_9]
@[simp] def q9_11 : SE := bi .add (.inp 40) (zi 1)
@[simp] def q9_12 : SE := ei 3 (.inp 122) (.inp 125)
@[simp] def q9_13 : SE := el 3 q9_12
@[simp] def q9_14 : SE := pt 0 q9_13
@[simp] def q9_15 : SE := pt 1 q9_13
@[simp] def q9_16 : SE := .agg [pt 0 (.inp 199), pt 1 (.inp 199), pt 2 (.inp 199)]
@[simp] def q9_17 : SE := bi .add (.inp 125) (zi 1)
@[simp] def q9_18 : SE := .agg (ap [q9_11, .undef] (ips 126 72))
@[simp] def q9_19 : SE := .app (.aidx 24 3 2 3 true) [q9_18, q9_14]
@[simp] def q9_20 : SE := bi .geq (.inp 11) (zi 0)
@[simp] def q9_21 : SE := bi .lss (.inp 11) (ln (.inp 0))
@[simp] def q9_22 : SE := pk q9_20 q9_21 bF
@[simp] def q9_23 : SE := bi .lss (.inp 11) (zi 24)
@[simp] def q9_24 : SE := pk q9_22 q9_23 bF
@[simp] def q9_25 : SE := ei 11 (.inp 0) (.inp 11)
@[simp] def q9_26 : SE := .app (.eoff 0) [q9_25]
@[simp] def q9_27 : SE := e1 q9_26
@[simp] def q9_28 : SE := bi .eql q9_27 (.int .u8 2)
@[simp] def q9_29 : SE := bi .lss (.inp 138) (ln (.inp 137))
@[simp] def q9_30 : SE := bi .eql (.inp 120) (.int .u8 1)
@[simp] def q9_31 : SE := ei 3 (.inp 137) (.inp 138)
@[simp] def q9_32 : SE := .app (.eoff 0) [q9_31]
@[simp] def q9_33 : SE := e1 q9_32
@[simp] def q9_34 : SE := .app (.aidx 24 3 4 1 false) [.agg (ips 40 74), q9_33]
@[simp] def q9_35 : SE := .app (.eoff 1) [q9_31]
@[simp] def q9_36 : SE := e1 q9_35
@[simp] def q9_37 : SE := bi .neq (.inp 139) q9_36
def rt_lockbarref19_New : RT :=
.loop 0 0 [zi 0, zi 0, zi 0, bF, zi 0, zi 0, bF, zi 0, zi 0, bF, zi 0, zi 0, bF, zi 0, zi 0, bF, zi 0, zi 0, bF, zi 0, zi 0, bF, zi 0, zi 0, bF, zi 0, zi 0, bF, zi 0, zi 0, bF, zi 0, zi 0, bF, zi 0, zi 0, bF, zi 0, zi 0, bF, zi 0, zi 0, bF, zi 0, zi 0, bF, zi 0, zi 0, bF, zi 0, zi 0, bF, zi 0, zi 0, bF, zi 0, zi 0, bF, zi 0, zi 0, bF, zi 0, zi 0, bF, zi 0, zi 0, bF, zi 0, zi 0, bF, zi 0, zi 0, bF] <|
 ck (.bin .lss) [.inp 0, zi 24] <|
.cond (bi .lss (.inp 0) (zi 24))
 (.seg [.call 73 [] 71 [] false] <|
 ck (.inr 24) [.inp 0] <|
.seg [.chk [] (.inr 24) [.inp 0],
.chk [] (.isAgg 3) [.inp 73]] <|
.seg (csB 2 (.inp 0) (.agg [pt 0 (.inp 73), pt 1 (.inp 73), pt 2 (.inp 73)]) 74 2 (ips 1 72)) <|
 ck (.bin .add) [.inp 0, zi 1] <|
.again 0 (ap [bi .add (.inp 0) (zi 1)] (ips 74 72)))
 (ck (.isAgg 74) [.agg (ap [zi 1, .enil] (ips 1 72))] <|
.ret (.agg (ap [zi 1, .nils] (ips 1 72))))
theorem run_lockbarref19_New : runF E 40 [] 0 = rt_lockbarref19_New := by kernel_rfl
def rt_lockbarref19_Look : RT :=
 ck (.isAgg 11) [.agg (ips 0 11)] <|
 ck (.isAgg 29) [.agg (ips 11 29)] <|
 ck (.isAgg 74) [.agg (ips 40 74)] <|
 ck (.isAgg 3) [q9_3] <|
.seg [.call 117 [] 118 [.agg (ips 0 11), q9_3, .nils] false] <|
 ck (.bin .neq) [.inp 117, zi 0] <|
.cond (bi .neq (.inp 117) (zi 0))
 (.ret (.inp 117))
 (.seg [.call 118 [] 119 [.agg (ips 0 11), q9_3] false] <|
 ck (.un .not) [.inp 118] <|
.cond (.inp 118)
 (.seg [.call 119 [] 20 [.agg (ips 40 74)] false] <|
 ck (.un .not) [.inp 119] <|
 ckg (nt (.inp 119)) false (.bin .geq) [.inp 40, zi 1073741824] <|
 ck .pick [nt (.inp 119), bT, q9_4] <|
.cond (pk (nt (.inp 119)) bT q9_4)
 (.ret (zi 2))
 (.seg [.call 120 [] 120 [.agg (ips 0 11), .agg (ips 11 29), .agg (ips 40 74), q9_3] false] <|
.ret (.inp 120)))
 (.ret (zi 110)))
theorem run_lockbarref19_Look : runF E 73 [.agg (ips 0 11), .agg (ips 11 29), .agg (ips 40 74), .agg [.inp 114, .inp 115, .inp 116]] 117 = rt_lockbarref19_Look := by kernel_rfl
def rt_lockbarref19_Commit : RT :=
 ck (.isAgg 11) [.agg (ips 0 11)] <|
 ck (.isAgg 29) [.agg (ips 11 29)] <|
 ck (.isAgg 74) [.agg (ips 40 74)] <|
 ck (.isAgg 3) [q9_3] <|
 ck (.isAgg 74) [.agg (ips 40 74)] <|
.loop 0 117 [zi 0, .nils] <|
 ck .len [.inp 41] <|
 ck (.bin .lss) [.inp 117, ln (.inp 41)] <|
.cond (bi .lss (.inp 117) (ln (.inp 41)))
 (.seg [.chk [] (.eidx 23) [.inp 41, .inp 117],
.chk [] (.eload 23 true) [q9_5],
.call 119 [] 70 [el 23 q9_5] false,
.chk [] (.isAgg 23) [.inp 119],
.chk [] (.szs 23) [q9_6],
.chk [] .app [.inp 118, q9_6]] <|
.seg [.bind 120 (q9_6),
.bind 121 (.app .app [.inp 118, q9_6])] <|
 ck (.bin .add) [.inp 117, zi 1] <|
.again 0 [bi .add (.inp 117) (zi 1), .inp 121])
 (ck (.isAgg 74) [q9_7] <|
 ck (.isAgg 74) [q9_7] <|
.seg [.call 119 [] 73 [.agg (ips 0 11), .agg (ips 11 29), q9_8, q9_3] true] <|
 ck (.bin .neq) [.inp 119, zi 0] <|
.cond (bi .neq (.inp 119) (zi 0))
 (ck (.isAgg 74) [q9_7] <|
.ret (.tup [q9_8, zi 0, .inp 119]))
 (.seg [.call 120 [] 74 [q9_3] false,
.call 121 [] 75 [.agg (ips 0 11), .inp 115] false,
.call 122 [] 76 [.agg (ips 0 11), q9_3] false,
.chk [] .isOne [.inp 40],
.chk [] (.isAgg 3) [.inp 120],
.chk [] .isOne [.inp 121],
.chk [] .isOne [.inp 122],
.chk [] (.isAgg 23) [q9_9]] <|
 ck (.isAgg 23) [q9_9] <|
.seg [.chk [] (.szs 23) [q9_10],
.chk [] .app [.inp 118, q9_10]] <|
.seg [.bind 123 (q9_10),
.bind 124 (.app .app [.inp 118, q9_10])] <|
 ck (.bin .add) [.inp 40, zi 1] <|
 ck .isOne [q9_11] <|
.loop 0 125 (ap [zi 0] (ips 42 72)) <|
 ck .len [.inp 122] <|
 ck (.bin .lss) [.inp 125, ln (.inp 122)] <|
.cond (bi .lss (.inp 125) (ln (.inp 122)))
 (ck (.eidx 3) [.inp 122, .inp 125] <|
 ck (.eload 3 true) [q9_12] <|
 ck (.isAgg 3) [q9_13] <|
.seg [.call 198 [] 29 [.agg (ips 0 11), .agg (ips 11 29), q9_14] false,
.chk [] (.bin .eql) [.inp 198, q9_15]] <|
.cond (bi .eql (.inp 198) q9_15)
 (.seg [.call 199 [] 71 [] false,
.chk [] (.inr 24) [q9_14],
.chk [] (.inr 24) [q9_14],
.chk [] (.isAgg 3) [.inp 199]] <|
.seg (csB 2 (q9_14) (q9_16) 200 2 (ips 126 72)) <|
 ck (.bin .add) [.inp 125, zi 1] <|
.again 0 (ap [q9_17] (ips 200 72)))
 (.seg [.chk [] (.inr 24) [q9_14],
.chk [] (.aidx 24 3 2 3 true) [q9_18, q9_14],
.call 199 [] 33 [q9_19, q9_15] false,
.chk [] (.inr 24) [q9_14],
.chk [] (.inr 24) [q9_14],
.chk [] (.isAgg 3) [.inp 199]] <|
.seg (ap [.bind 200 (q9_19)] (csB 2 (q9_14) (q9_16) 201 2 (ips 126 72))) <|
 ck (.bin .add) [.inp 125, zi 1] <|
.again 0 (ap [q9_17] (ips 201 72))))
 (ck (.isAgg 74) [.agg (ap [q9_11, .row 101] (ips 126 72))] <|
.ret (.tup [.agg (ap [q9_11, .inp 124] (ips 126 72)), .inp 40, zi 0]))))
theorem run_lockbarref19_Commit : runF E 39 [.agg (ips 0 11), .agg (ips 11 29), .agg (ips 40 74), .agg [.inp 114, .inp 115, .inp 116]] 117 = rt_lockbarref19_Commit := by kernel_rfl
def rt_lockbarref23_point : RT :=
 ck (.isAgg 11) [.agg (ips 0 11)] <|
 ck (.bin .geq) [.inp 11, zi 0] <|
 ckg (q9_20) true .len [.inp 0] <|
 ckg (q9_20) true (.bin .lss) [.inp 11, ln (.inp 0)] <|
 ck .pick [q9_20, q9_21, bF] <|
 ckg (q9_22) true (.bin .lss) [.inp 11, zi 24] <|
 ck .pick [q9_22, q9_23, bF] <|
 ckg (q9_24) true (.eidx 11) [.inp 0, .inp 11] <|
 ckg (q9_24) true (.eoff 0) [q9_25] <|
 ckg (q9_24) true (.eload 1 false) [q9_26] <|
 ckg (q9_24) true (.bin .eql) [q9_27, .int .u8 2] <|
 ck .pick [q9_24, q9_28, bF] <|
.seg [.bind 12 (pk q9_24 q9_28 bF),
.bind 13 (q9_24)] <|
.ret (.inp 12)
theorem run_lockbarref23_point : runF E 51 [.agg (ips 0 11), .inp 11] 12 = rt_lockbarref23_point := by kernel_rfl
def rt_lockbarref23_fails : RT :=
 ck (.isAgg 11) [.agg (ips 0 11)] <|
 ck (.isAgg 29) [.agg (ips 11 29)] <|
 ck (.isAgg 74) [.agg (ips 40 74)] <|
 ck (.isAgg 23) [.agg (ips 114 23)] <|
.seg [.call 137 [] 28 [.agg (ips 114 23)] false] <|
.loop 0 138 [zi 0] <|
 ck .len [.inp 137] <|
 ck (.bin .lss) [.inp 138, ln (.inp 137)] <|
 ckg (q9_29) true (.bin .eql) [.inp 120, .int .u8 1] <|
 ck .pick [q9_29, q9_30, bF] <|
.cond (pk q9_29 q9_30 bF)
 (.seg [.chk [] (.eidx 3) [.inp 137, .inp 138],
.chk [] (.eoff 0) [q9_31],
.chk [] (.eload 1 false) [q9_32],
.chk [] (.inr 24) [q9_33],
.chk [] (.inr 24) [q9_33],
.chk [] (.aidx 24 3 4 1 false) [.agg (ips 40 74), q9_33],
.chk [(q9_34, true)] (.eidx 3) [.inp 137, .inp 138],
.chk [(q9_34, true)] (.eoff 0) [q9_31],
.chk [(q9_34, true)] (.eload 1 false) [q9_32],
.call 139 [(q9_34, true)] 29 [.agg (ips 0 11), .agg (ips 11 29), q9_33] false,
.chk [(q9_34, true)] (.eidx 3) [.inp 137, .inp 138],
.chk [(q9_34, true)] (.eoff 1) [q9_31],
.chk [(q9_34, true)] (.eload 1 false) [q9_35],
.chk [(q9_34, true)] (.bin .neq) [.inp 139, q9_36],
.chk [] .pick [q9_34, q9_37, bF]] <|
.seg [.bind 140 (q9_34),
.bind 141 (pk q9_34 q9_37 bF)] <|
.cond (.inp 141)
 (.ret (bT))
 (ck (.bin .add) [.inp 138, zi 1] <|
.again 0 [bi .add (.inp 138) (zi 1)]))
 (.ret (bF))
theorem run_lockbarref23_fails : runF E 53 [.agg (ips 0 11), .agg (ips 11 29), .agg (ips 40 74), .agg (ips 114 23)] 137 = rt_lockbarref23_fails := by kernel_rfl
end
end Go.Lb.LK
namespace Go.Lb.LK
open Go Go.Lb Go.Proofs
noncomputable section
@[simp] def q10_0 : SE := ei 23 (.inp 41) (.inp 114)
@[simp] def q10_1 : SE := .app .lst [.agg (pts (.inp 116) 0 23)]
@[simp] def q10_2 : SE := bi .add (.inp 114) (zi 1)
@[simp] def q10_3 : SE := .agg (ap [.inp 40, .row 28] (ips 42 72))
@[simp] def q10_4 : SE := .agg (ap [.inp 40, .inp 115] (ips 42 72))
@[simp] def q10_5 : SE := .agg (ap [.inp 40, .undef] (ips 119 72))
@[simp] def q10_6 : SE := .agg (ap [.inp 40, .inp 115] (ips 119 72))
@[simp] def q10_7 : SE := .app (.aidx 24 3 2 3 true) [q10_5, .inp 118]
@[simp] def q10_8 : SE := bi .add (.inp 118) (zi 1)
@[simp] def q10_9 : SE := .app (.rowget 23 0 23 true) [.inp 115, .inp 193]
@[simp] def q10_10 : SE := .agg (pts (q10_9) 0 23)
@[simp] def q10_11 : SE := pt 0 q10_9
@[simp] def q10_12 : SE := .app .lst [q10_11]
@[simp] def q10_13 : SE := bi .add (.inp 193) (zi 1)
@[simp] def q10_14 : SE := pt 6 q10_9
@[simp] def q10_15 : SE := .agg (pts (tp 0 (.inp 195)) 0 23)
@[simp] def q10_16 : SE := .app .lst [q10_15]
@[simp] def q10_17 : SE := .agg (pts (.inp 195) 0 23)
@[simp] def q10_18 : SE := .app .lst [q10_17]
@[simp] def q10_19 : SE := .app (.rowget 23 0 23 true) [.inp 192, .inp 194]
@[simp] def q10_20 : SE := bi .lss (.inp 268) (ln (.inp 267))
@[simp] def q10_21 : SE := pt 6 q10_19
@[simp] def q10_22 : SE := bi .eql q10_21 (.int .u8 1)
@[simp] def q10_23 : SE := ei 3 (.inp 267) (.inp 268)
@[simp] def q10_24 : SE := el 3 q10_23
@[simp] def q10_25 : SE := pt 0 q10_24
@[simp] def q10_26 : SE := pt 1 q10_24
@[simp] def q10_27 : SE := .agg (ap [.inp 40, .undef] (ips 269 72))
@[simp] def q10_28 : SE := .app (.aidx 24 3 2 3 true) [q10_27, q10_25]
@[simp] def q10_29 : SE := bi .add (.inp 268) (zi 1)
@[simp] def q10_30 : SE := ei 23 (.inp 41) (.inp 116)
@[simp] def q10_31 : SE := .app .lst [.agg (pts (.inp 118) 0 23)]
@[simp] def q10_32 : SE := .agg (ap [.inp 40, .inp 117] (ips 42 72))
@[simp] def q10_33 : SE := pk (nt (.inp 118)) bT (nt (.inp 119))
@[simp] def q10_34 : SE := bi .lss (.inp 115) (zi 0)
@[simp] def q10_35 : SE := pk q10_33 bT q10_34
@[simp] def q10_36 : SE := bi .gtr (.inp 115) (zi 1)
@[simp] def q10_37 : SE := pk q10_35 bT q10_36
@[simp] def q10_38 : SE := .tup [q10_32, bF]
@[simp] def q10_39 : SE := .agg (ap [.inp 40, .undef] (ips 42 72))
@[simp] def q10_40 : SE := .app (.aidx 24 3 2 3 true) [q10_39, .inp 114]
@[simp] def q10_41 : SE := .app (.aidx 24 3 2 3 true) [.agg (ips 40 74), .inp 114]
@[simp] def q10_42 : SE := bi .geq (.inp 115) (zi 0)
@[simp] def q10_43 : SE := pk (.inp 116) bT (.inp 117)
@[simp] def q10_44 : SE := bi .lss (.inp 85) (ln (.inp 12))
@[simp] def q10_45 : SE := bi .leq (.inp 85) (zi 10)
@[simp] def q10_46 : SE := ei 23 (.inp 12) (.inp 85)
@[simp] def q10_47 : SE := bi .gtr (ln (.inp 12)) (zi 10)
@[simp] def q10_48 : SE := e1 (ei 1 (.inp 0) (.inp 2))
@[simp] def q10_49 : SE := e1 (ei 1 (.inp 1) (.inp 2))
def rt_lockbarref23_Tick : RT :=
 ck (.isAgg 11) [.agg (ips 0 11)] <|
 ck (.isAgg 29) [.agg (ips 11 29)] <|
 ck (.isAgg 74) [.agg (ips 40 74)] <|
 ck (.isAgg 74) [.agg (ips 40 74)] <|
.loop 0 114 [zi 0, .nils] <|
 ck .len [.inp 41] <|
 ck (.bin .lss) [.inp 114, ln (.inp 41)] <|
.cond (bi .lss (.inp 114) (ln (.inp 41)))
 (.seg [.chk [] (.eidx 23) [.inp 41, .inp 114],
.chk [] (.eload 23 true) [q10_0],
.call 116 [] 70 [el 23 q10_0] false,
.chk [] (.isAgg 23) [.inp 116],
.chk [] (.szs 23) [q10_1],
.chk [] .app [.inp 115, q10_1]] <|
.seg [.bind 117 (q10_1),
.bind 118 (.app .app [.inp 115, q10_1])] <|
 ck (.bin .add) [.inp 114, zi 1] <|
.again 0 [q10_2, .inp 118])
 (ck (.isAgg 74) [q10_3] <|
 ck (.isAgg 74) [q10_3] <|
.seg [.call 116 [] 20 [q10_4] true] <|
 ck (.un .not) [.inp 116] <|
.seg [.call 117 [(nt (.inp 116), false)] 22 [.agg (ips 0 11), .agg (ips 11 29)] false] <|
 ck .pick [nt (.inp 116), bT, .inp 117] <|
.cond (pk (nt (.inp 116)) bT (.inp 117))
 (ck (.isAgg 74) [q10_3] <|
.ret (.tup [q10_4, .nils]))
 (.loop 0 118 (ap [zi 0] (ips 42 72)) <|
 ck (.bin .lss) [.inp 118, zi 24] <|
.cond (bi .lss (.inp 118) (zi 24))
 (.seg [.call 191 [] 51 [.agg (ips 0 11), .inp 118] false] <|
.cond (.inp 191)
 (.seg [.chk [] (.inr 24) [.inp 118],
.chk [] (.aidx 24 3 2 3 true) [q10_5, .inp 118],
.call 192 [] 29 [.agg (ips 0 11), .agg (ips 11 29), .inp 118] false,
.call 193 [] 24 [.agg (ips 0 11), .agg (ips 11 29), .inp 118] false,
.call 194 [] 23 [q10_6, .inp 118] true,
.call 195 [] 52 [q10_7, .inp 192, .inp 193, .inp 194, .inp 5] false,
.chk [] (.inr 24) [.inp 118],
.chk [] (.inr 24) [.inp 118],
.chk [] (.isAgg 3) [.inp 195]] <|
.seg (ap [.bind 196 (q10_7)] (csB 2 (.inp 118) (.agg [pt 0 (.inp 195), pt 1 (.inp 195), pt 2 (.inp 195)]) 197 2 (ips 119 72))) <|
 ck (.bin .add) [.inp 118, zi 1] <|
.again 0 (ap [q10_8] (ips 197 72)))
 (ck (.bin .add) [.inp 118, zi 1] <|
.again 0 (ap [q10_8] (ips 119 72))))
 (.loop 0 191 [.nils, .nils, zi 0] <|
 ck .len [.inp 115] <|
 ck (.bin .lss) [.inp 193, ln (.inp 115)] <|
.cond (bi .lss (.inp 193) (ln (.inp 115)))
 (ck (.eidx 23) [.inp 115, .inp 193] <|
 ck (.rowget 23 0 23 true) [.inp 115, .inp 193] <|
 ck (.isAgg 23) [q10_9] <|
.seg [.call 194 [] 53 [.agg (ips 0 11), .agg (ips 11 29), q10_6, q10_10] true] <|
.cond (.inp 194)
 (.seg [.chk [] .isOne [q10_11],
.chk [] .isOne [q10_11]] <|
.seg [.chk [] (.szs 1) [q10_12],
.chk [] .app [.inp 191, q10_12]] <|
 ck (.bin .add) [.inp 193, zi 1] <|
.again 0 [.app .app [.inp 191, q10_12], .inp 192, q10_13])
 (ck (.bin .eql) [q10_14, .int .u8 4] <|
.cond (bi .eql q10_14 (.int .u8 4))
 (.seg [.call 195 [] 54 [.agg (ips 0 11), .agg (ips 11 29), q10_10] false] <|
 ck (.tproj 0) [.inp 195] <|
 ck (.tproj 1) [.inp 195] <|
 ck (.isAgg 23) [tp 0 (.inp 195)] <|
 ck (.un .not) [tp 1 (.inp 195)] <|
.seg [.call 196 [(nt (tp 1 (.inp 195)), true)] 56 [q10_15] false] <|
 ckg (nt (tp 1 (.inp 195))) true (.un .not) [.inp 196] <|
 ck .pick [nt (tp 1 (.inp 195)), nt (.inp 196), bF] <|
.cond (pk (nt (tp 1 (.inp 195))) (nt (.inp 196)) bF)
 (ck (.isAgg 23) [q10_15] <|
.seg [.chk [] (.szs 23) [q10_16],
.chk [] .app [.inp 192, q10_16]] <|
.seg [.bind 197 (q10_16),
.bind 198 (.app .app [.inp 192, q10_16])] <|
 ck (.bin .add) [.inp 193, zi 1] <|
.again 0 [.inp 191, .inp 198, q10_13])
 (ck (.bin .add) [.inp 193, zi 1] <|
.again 0 [.inp 191, .inp 192, q10_13]))
 (.seg [.call 195 [] 55 [.agg (ips 0 11), .agg (ips 11 29), q10_10] false] <|
 ck (.isAgg 23) [.inp 195] <|
 ck (.un .not) [bF] <|
.seg [.call 196 [] 56 [q10_17] false] <|
 ck (.un .not) [.inp 196] <|
.cond (.inp 196)
 (ck (.bin .add) [.inp 193, zi 1] <|
.again 0 [.inp 191, .inp 192, q10_13])
 (ck (.isAgg 23) [q10_17] <|
.seg [.chk [] (.szs 23) [q10_18],
.chk [] .app [.inp 192, q10_18]] <|
.seg [.bind 197 (q10_18),
.bind 198 (.app .app [.inp 192, q10_18])] <|
 ck (.bin .add) [.inp 193, zi 1] <|
.again 0 [.inp 191, .inp 198, q10_13]))))
 (.loop 0 194 (ap [zi 0] (ips 119 72)) <|
 ck .len [.inp 192] <|
 ck (.bin .lss) [.inp 194, ln (.inp 192)] <|
.cond (bi .lss (.inp 194) (ln (.inp 192)))
 (ck (.eidx 23) [.inp 192, .inp 194] <|
 ck (.rowget 23 0 23 true) [.inp 192, .inp 194] <|
 ck (.isAgg 23) [q10_19] <|
.seg [.call 267 [] 28 [.agg (pts (q10_19) 0 23)] false] <|
.loop 1 268 (ap [zi 0] (ips 195 72)) <|
 ck .len [.inp 267] <|
 ck (.bin .lss) [.inp 268, ln (.inp 267)] <|
 ckg (q10_20) true (.bin .eql) [q10_21, .int .u8 1] <|
 ck .pick [q10_20, q10_22, bF] <|
.seg [.bind 341 (pk q10_20 q10_22 bF)] <|
.cond (.inp 341)
 (ck (.eidx 3) [.inp 267, .inp 268] <|
 ck (.eload 3 true) [q10_23] <|
 ck (.isAgg 3) [q10_24] <|
.seg [.call 342 [] 29 [.agg (ips 0 11), .agg (ips 11 29), q10_25] false,
.chk [] (.bin .neq) [.inp 342, q10_26]] <|
.cond (bi .neq (.inp 342) q10_26)
 (.seg [.chk [] (.inr 24) [q10_25],
.chk [] (.aidx 24 3 2 3 true) [q10_27, q10_25],
.call 343 [] 33 [q10_28, q10_26] false,
.chk [] (.inr 24) [q10_25],
.chk [] (.inr 24) [q10_25],
.chk [] (.isAgg 3) [.inp 343]] <|
.seg (ap [.bind 344 (q10_28)] (csB 2 (q10_25) (.agg [pt 0 (.inp 343), pt 1 (.inp 343), pt 2 (.inp 343)]) 345 2 (ips 269 72))) <|
 ck (.bin .add) [.inp 268, zi 1] <|
.again 1 (ap [q10_29] (ips 345 72)))
 (ck (.bin .add) [.inp 268, zi 1] <|
.again 1 (ap [q10_29] (ips 269 72))))
 (ck (.bin .add) [.inp 194, zi 1] <|
.again 0 (ap [bi .add (.inp 194) (zi 1)] (ips 269 72))))
 (ck (.isAgg 74) [.agg (ap [.inp 40, .row 74] (ips 195 72))] <|
.ret (.tup [.agg (ap [.inp 40, .inp 192] (ips 195 72)), .inp 191]))))))
theorem run_lockbarref23_Tick : runF E 11 [.agg (ips 0 11), .agg (ips 11 29), .agg (ips 40 74)] 114 = rt_lockbarref23_Tick := by kernel_rfl
def rt_lockbarref23_Key : RT :=
 ck (.isAgg 11) [.agg (ips 0 11)] <|
 ck (.isAgg 29) [.agg (ips 11 29)] <|
 ck (.isAgg 74) [.agg (ips 40 74)] <|
 ck (.isAgg 74) [.agg (ips 40 74)] <|
.loop 0 116 [zi 0, .nils] <|
 ck .len [.inp 41] <|
 ck (.bin .lss) [.inp 116, ln (.inp 41)] <|
.cond (bi .lss (.inp 116) (ln (.inp 41)))
 (.seg [.chk [] (.eidx 23) [.inp 41, .inp 116],
.chk [] (.eload 23 true) [q10_30],
.call 118 [] 70 [el 23 q10_30] false,
.chk [] (.isAgg 23) [.inp 118],
.chk [] (.szs 23) [q10_31],
.chk [] .app [.inp 117, q10_31]] <|
.seg [.bind 119 (q10_31),
.bind 120 (.app .app [.inp 117, q10_31])] <|
 ck (.bin .add) [.inp 116, zi 1] <|
.again 0 [bi .add (.inp 116) (zi 1), .inp 120])
 (ck (.isAgg 74) [q10_3] <|
 ck (.isAgg 74) [q10_3] <|
.seg [.call 118 [] 20 [q10_32] true] <|
 ck (.un .not) [.inp 118] <|
.seg [.call 119 [(nt (.inp 118), false)] 51 [.agg (ips 0 11), .inp 114] false] <|
 ckg (nt (.inp 118)) false (.un .not) [.inp 119] <|
 ck .pick [nt (.inp 118), bT, nt (.inp 119)] <|
 ckg (q10_33) false (.bin .lss) [.inp 115, zi 0] <|
 ck .pick [q10_33, bT, q10_34] <|
 ckg (q10_35) false (.bin .gtr) [.inp 115, zi 1] <|
 ck .pick [q10_35, bT, q10_36] <|
.seg [.call 120 [(q10_37, false)] 60 [.agg (ips 0 11), .agg (ips 11 29), q10_32, .inp 114] true] <|
 ckg (q10_37) false (.un .not) [.inp 120] <|
 ck .pick [q10_37, bT, nt (.inp 120)] <|
.seg [.bind 121 (q10_35),
.bind 122 (q10_37),
.bind 123 (pk q10_37 bT (nt (.inp 120)))] <|
.cond (.inp 123)
 (ck (.isAgg 74) [q10_3] <|
.ret (q10_38))
 (.seg [.call 124 [] 31 [q10_32, .inp 114] true] <|
 ck (.tproj 0) [.inp 124] <|
 ck (.tproj 1) [.inp 124] <|
.cond (tp 1 (.inp 124))
 (ck (.isAgg 74) [q10_3] <|
.ret (q10_38))
 (ck (.inr 24) [.inp 114] <|
 ck (.aidx 24 3 2 3 true) [q10_39, .inp 114] <|
.seg [.call 125 [] 33 [q10_40, .inp 115] false] <|
 ck (.inr 24) [.inp 114] <|
.seg [.chk [] (.inr 24) [.inp 114],
.chk [] (.isAgg 3) [.inp 125]] <|
.seg (ap [.bind 126 (q10_40)] (csB 2 (.inp 114) (.agg [pt 0 (.inp 125), pt 1 (.inp 125), pt 2 (.inp 125)]) 127 2 (ips 42 72))) <|
 ck (.isAgg 74) [.agg (ap [.inp 40, .row 28] (ips 127 72))] <|
.ret (.tup [.agg (ap [.inp 40, .inp 117] (ips 127 72)), bT]))))
theorem run_lockbarref23_Key : runF E 15 [.agg (ips 0 11), .agg (ips 11 29), .agg (ips 40 74), .inp 114, .inp 115] 116 = rt_lockbarref23_Key := by kernel_rfl
def rt_lockbarref23_to : RT :=
 ck (.isAgg 11) [.agg (ips 0 11)] <|
 ck (.isAgg 29) [.agg (ips 11 29)] <|
 ck (.isAgg 74) [.agg (ips 40 74)] <|
.seg [.call 115 [] 51 [.agg (ips 0 11), .inp 114] false] <|
 ck (.un .not) [.inp 115] <|
.cond (.inp 115)
 (.seg [.chk [] (.inr 24) [.inp 114],
.chk [] (.aidx 24 3 2 3 true) [.agg (ips 40 74), .inp 114],
.call 116 [] 29 [.agg (ips 0 11), .agg (ips 11 29), .inp 114] false,
.call 117 [] 24 [.agg (ips 0 11), .agg (ips 11 29), .inp 114] false,
.call 118 [] 23 [.agg (ips 40 74), .inp 114] false,
.call 119 [] 104 [q10_41, .inp 116, .inp 117, .inp 118] false] <|
.seg [.bind 120 (q10_41)] <|
.ret (.inp 119))
 (.ret (zi (-1)))
theorem run_lockbarref23_to : runF E 63 [.agg (ips 0 11), .agg (ips 11 29), .agg (ips 40 74), .inp 114] 115 = rt_lockbarref23_to := by kernel_rfl
def rt_lockbarref23_Drives : RT :=
 ck (.isAgg 11) [.agg (ips 0 11)] <|
 ck (.isAgg 29) [.agg (ips 11 29)] <|
 ck (.isAgg 74) [.agg (ips 40 74)] <|
.loop 0 114 [.nils, zi 0] <|
 ck (.bin .lss) [.inp 115, zi 24] <|
.cond (bi .lss (.inp 115) (zi 24))
 (.seg [.call 116 [] 63 [.agg (ips 0 11), .agg (ips 11 29), .agg (ips 40 74), .inp 115] false] <|
.seg [.chk [] .isOne [.inp 116],
.chk [] .isOne [.inp 116]] <|
.seg [.chk [] (.szs 1) [.app .lst [.inp 116]],
.chk [] .app [.inp 114, .app .lst [.inp 116]]] <|
 ck (.bin .add) [.inp 115, zi 1] <|
.again 0 [.app .app [.inp 114, .app .lst [.inp 116]], bi .add (.inp 115) (zi 1)])
 (.seg [.call 116 [] 64 [.inp 114] true] <|
 ck (.tproj 0) [.inp 116] <|
 ck (.tproj 1) [.inp 116] <|
.ret (.tup [tp 0 (.inp 116), tp 1 (.inp 116)]))
theorem run_lockbarref23_Drives : runF E 17 [.agg (ips 0 11), .agg (ips 11 29), .agg (ips 40 74)] 114 = rt_lockbarref23_Drives := by kernel_rfl
def rt_lockbarref23_Safe : RT :=
 ck (.isAgg 11) [.agg (ips 0 11)] <|
 ck (.isAgg 29) [.agg (ips 11 29)] <|
 ck (.isAgg 74) [.agg (ips 40 74)] <|
.loop 0 114 [zi 0] <|
 ck (.bin .lss) [.inp 114, zi 24] <|
.cond (bi .lss (.inp 114) (zi 24))
 (.seg [.call 115 [] 63 [.agg (ips 0 11), .agg (ips 11 29), .agg (ips 40 74), .inp 114] false] <|
 ck (.bin .geq) [.inp 115, zi 0] <|
.seg [.call 116 [(q10_42, true)] 23 [.agg (ips 40 74), .inp 114] false] <|
.seg [.call 117 [(.inp 116, false), (q10_42, true)] 24 [.agg (ips 0 11), .agg (ips 11 29), .inp 114] false] <|
 ckg (q10_42) true .pick [.inp 116, bT, .inp 117] <|
 ck .pick [q10_42, q10_43, bF] <|
.cond (pk q10_42 q10_43 bF)
 (.ret (bF))
 (ck (.bin .add) [.inp 114, zi 1] <|
.again 0 [q10_2]))
 (.seg [.call 115 [] 20 [.agg (ips 40 74)] false] <|
.ret (.inp 115))
theorem run_lockbarref23_Safe : runF E 19 [.agg (ips 0 11), .agg (ips 11 29), .agg (ips 40 74)] 114 = rt_lockbarref23_Safe := by kernel_rfl
def rt_lockbarlaw23_point : RT :=
.seg [.bind 0 (.app .lst [.agg [.int .u8 2, zi (-1), zi 0, zi (-1), zi 0, zi (-1), zi 0, zi (-1), zi 0, zi 0, zi 0]])] <|
.ret (.agg [.inp 0, .app .lst [.agg [zi 0, zi 0]], .app .lst [.agg [zi 0, zi 2, .nils]], .nils, zi 1, zi 2, zi 1, zi 1, zi 1, zi 1, zi 1])
theorem run_lockbarlaw23_point : runF E 36 [] 0 = rt_lockbarlaw23_point := by kernel_rfl
def rt_lockbarlaw23_great : RT :=
 ck (.isAgg 11) [.agg (ips 0 11)] <|
 ck (.isAgg 74) [.agg (ips 11 74)] <|
.loop 0 85 [zi 0] <|
 ck .len [.inp 12] <|
 ck (.bin .lss) [.inp 85, ln (.inp 12)] <|
 ckg (q10_44) true (.bin .leq) [.inp 85, zi 10] <|
 ck .pick [q10_44, q10_45, bF] <|
.cond (pk q10_44 q10_45 bF)
 (ck (.eidx 23) [.inp 12, .inp 85] <|
 ck (.eload 23 true) [q10_46] <|
.seg [.call 86 [] 34 [el 23 q10_46] false] <|
.cond (.inp 86)
 (.ret (bT))
 (ck (.bin .add) [.inp 85, zi 1] <|
.again 0 [bi .add (.inp 85) (zi 1)]))
 (.seg [.call 86 [] 35 [.agg (ips 0 11)] false] <|
 ckg (.inp 86) false .len [.inp 12] <|
 ckg (.inp 86) false (.bin .gtr) [ln (.inp 12), zi 10] <|
 ck .pick [.inp 86, bT, q10_47] <|
.ret (pk (.inp 86) bT q10_47))
theorem run_lockbarlaw23_great : runF E 8 [.agg (ips 0 11), .agg (ips 11 74)] 85 = rt_lockbarlaw23_great := by kernel_rfl
def rt_lockbarlaw23_ints : RT :=
 ck .len [.inp 0] <|
 ck .len [.inp 1] <|
 ck (.bin .neq) [ln (.inp 0), ln (.inp 1)] <|
.cond (bi .neq (ln (.inp 0)) (ln (.inp 1)))
 (.ret (bF))
 (.loop 0 2 [zi 0] <|
 ck .len [.inp 0] <|
 ck (.bin .lss) [.inp 2, ln (.inp 0)] <|
.cond (bi .lss (.inp 2) (ln (.inp 0)))
 (.seg [.chk [] (.eidx 1) [.inp 0, .inp 2],
.chk [] (.eload 1 false) [ei 1 (.inp 0) (.inp 2)],
.chk [] (.eidx 1) [.inp 1, .inp 2],
.chk [] (.eload 1 false) [ei 1 (.inp 1) (.inp 2)],
.chk [] (.bin .neq) [q10_48, q10_49]] <|
.cond (bi .neq q10_48 q10_49)
 (.ret (bF))
 (ck (.bin .add) [.inp 2, zi 1] <|
.again 0 [bi .add (.inp 2) (zi 1)]))
 (.ret (bT)))
theorem run_lockbarlaw23_ints : runF E 13 [.inp 0, .inp 1] 2 = rt_lockbarlaw23_ints := by kernel_rfl
end
end Go.Lb.LK
namespace Go.Lb.LK
open Go Go.Lb Go.Proofs
noncomputable section
@[simp] def q11_0 : SE := .agg (pts (.inp 0) 0 11)
@[simp] def q11_1 : SE := .agg (pts (.inp 2) 0 29)
@[simp] def q11_2 : SE := .agg (pts (tp 0 (.inp 4)) 0 74)
@[simp] def q11_3 : SE := .agg (pts (tp 0 (.inp 8)) 0 74)
@[simp] def q11_4 : SE := ln (pt 1 (tp 0 (.inp 8)))
@[simp] def q11_5 : SE := bi .neq q11_4 (zi 1)
@[simp] def q11_6 : SE := ln (pt 1 (tp 0 (.inp 11)))
@[simp] def q11_7 : SE := bi .neq q11_6 (zi 1)
@[simp] def q11_8 : SE := pk q11_5 bT q11_7
@[simp] def q11_9 : SE := bi .neq (ln (tp 1 (.inp 9))) (zi 1)
@[simp] def q11_10 : SE := bi .eql (tp 2 (.inp 4)) (zi 0)
@[simp] def q11_11 : SE := bi .eql (tp 0 (.inp 6)) (.int .u32 0)
@[simp] def q11_12 : SE := pk q11_10 q11_11 bF
@[simp] def q11_13 : SE := bi .eql (tp 1 (.inp 6)) (.int .u32 0)
@[simp] def q11_14 : SE := pk q11_12 q11_13 bF
@[simp] def q11_15 : SE := bi .eql (tp 0 (.inp 7)) (.int .u32 0)
@[simp] def q11_16 : SE := pk q11_14 q11_15 bF
@[simp] def q11_17 : SE := bi .eql (tp 1 (.inp 7)) (.int .u32 1)
@[simp] def q11_18 : SE := pk q11_16 q11_17 bF
@[simp] def q11_19 : SE := bi .eql (ln (tp 1 (.inp 8))) (zi 0)
@[simp] def q11_20 : SE := pk q11_18 q11_19 bF
@[simp] def q11_21 : SE := bi .eql (pt 3 (tp 0 (.inp 8))) (zi 1)
@[simp] def q11_22 : SE := pk q11_20 q11_21 bF
@[simp] def q11_23 : SE := ei 1 (tp 1 (.inp 9)) (zi 0)
@[simp] def q11_24 : SE := e1 q11_23
@[simp] def q11_25 : SE := bi .eql q11_24 (zi 1)
@[simp] def q11_26 : SE := pk q11_22 q11_25 bF
@[simp] def q11_27 : SE := ln (pt 1 (tp 0 (.inp 9)))
@[simp] def q11_28 : SE := bi .eql q11_27 (zi 0)
@[simp] def q11_29 : SE := pk q11_26 q11_28 bF
@[simp] def q11_30 : SE := ei 23 (pt 1 (tp 0 (.inp 11))) (zi 0)
@[simp] def q11_31 : SE := .app (.eoff 6) [q11_30]
@[simp] def q11_32 : SE := e1 q11_31
@[simp] def q11_33 : SE := bi .eql q11_32 (.int .u8 2)
@[simp] def q11_34 : SE := pk q11_29 q11_33 bF
@[simp] def q11_35 : SE := bi .eql (pt 2 (tp 0 (.inp 11))) (zi (-1))
@[simp] def q11_36 : SE := pk q11_34 q11_35 bF
@[simp] def q11_37 : SE := pk q11_36 (tp 1 (.inp 13)) bF
@[simp] def q11_38 : SE := bi .eql (pt 2 (tp 0 (.inp 13))) (zi 1)
@[simp] def q11_39 : SE := pk q11_37 q11_38 bF
@[simp] def q11_40 : SE := pk q11_39 (nt (tp 1 (.inp 14))) bF
@[simp] def q11_41 : SE := pk q11_40 (.inp 17) bF
def rt_lockbarlaw23_wakes : RT :=
.seg [.call 0 [] 36 [] false] <|
 ck (.isAgg 11) [.inp 0] <|
.seg [.call 1 [] 38 [] false,
.call 2 [] 37 [q11_0, .inp 1, .agg [.int .u32 0, .int .u32 1, .int .u32 0, .int .u32 0]] false,
.chk [] (.isAgg 29) [.inp 2]] <|
.seg [.call 3 [] 40 [] false,
.call 4 [] 39 [q11_0, q11_1, .inp 3, .agg [zi 0, zi 0, .app .lst [.agg [zi 0, zi 0, zi 2]]]] false,
.chk [] (.tproj 0) [.inp 4],
.chk [] (.tproj 1) [.inp 4],
.chk [] (.tproj 2) [.inp 4],
.chk [] (.isAgg 74) [tp 0 (.inp 4)]] <|
.seg [.call 5 [] 40 [] false,
.call 6 [] 16 [q11_0, q11_1, .inp 5] false,
.chk [] (.tproj 0) [.inp 6],
.chk [] (.tproj 1) [.inp 6]] <|
.seg [.call 7 [] 16 [q11_0, q11_1, q11_2] false] <|
 ck (.tproj 0) [.inp 7] <|
 ck (.tproj 1) [.inp 7] <|
.seg [.call 8 [] 10 [q11_0, q11_1, q11_2] false] <|
 ck (.tproj 0) [.inp 8] <|
 ck (.tproj 1) [.inp 8] <|
 ck (.isAgg 74) [tp 0 (.inp 8)] <|
.seg [.call 9 [] 10 [q11_0, q11_1, q11_3] false] <|
 ck (.tproj 0) [.inp 9] <|
 ck (.tproj 1) [.inp 9] <|
 ck (.isAgg 74) [tp 0 (.inp 9)] <|
.seg [.call 10 [] 37 [q11_0, q11_1, .agg [.int .u32 0, .int .u32 0, .int .u32 1, .int .u32 0]] false] <|
 ck (.isAgg 29) [.inp 10] <|
.seg [.call 11 [] 10 [q11_0, .agg (pts (.inp 10) 0 29), q11_3] false] <|
 ck (.tproj 0) [.inp 11] <|
 ck (.tproj 1) [.inp 11] <|
 ck (.isAgg 74) [tp 0 (.inp 11)] <|
.seg [.call 12 [] 40 [] false,
.call 13 [] 14 [q11_0, q11_1, .inp 12, zi 0, zi 1] false,
.chk [] (.tproj 0) [.inp 13],
.chk [] (.tproj 1) [.inp 13],
.chk [] (.isAgg 74) [tp 0 (.inp 13)]] <|
.seg [.call 14 [] 14 [q11_0, q11_1, q11_2, zi 0, zi 0] false] <|
 ck (.tproj 0) [.inp 14] <|
 ck (.tproj 1) [.inp 14] <|
 ck (.isAgg 74) [tp 0 (.inp 14)] <|
 ck .len [pt 1 (tp 0 (.inp 8))] <|
 ck (.bin .neq) [q11_4, zi 1] <|
 ckg (q11_5) false .len [pt 1 (tp 0 (.inp 11))] <|
 ckg (q11_5) false (.bin .neq) [q11_6, zi 1] <|
 ck .pick [q11_5, bT, q11_7] <|
 ckg (q11_8) false .len [tp 1 (.inp 9)] <|
 ckg (q11_8) false (.bin .neq) [ln (tp 1 (.inp 9)), zi 1] <|
 ck .pick [q11_8, bT, q11_9] <|
.seg [.bind 15 (q11_8),
.bind 16 (pk q11_8 bT q11_9)] <|
.cond (.inp 16)
 (.ret (bF))
 (ck (.bin .eql) [tp 2 (.inp 4), zi 0] <|
 ckg (q11_10) true (.bin .eql) [tp 0 (.inp 6), .int .u32 0] <|
 ck .pick [q11_10, q11_11, bF] <|
 ckg (q11_12) true (.bin .eql) [tp 1 (.inp 6), .int .u32 0] <|
 ck .pick [q11_12, q11_13, bF] <|
 ckg (q11_14) true (.bin .eql) [tp 0 (.inp 7), .int .u32 0] <|
 ck .pick [q11_14, q11_15, bF] <|
 ckg (q11_16) true (.bin .eql) [tp 1 (.inp 7), .int .u32 1] <|
 ck .pick [q11_16, q11_17, bF] <|
 ckg (q11_18) true .len [tp 1 (.inp 8)] <|
 ckg (q11_18) true (.bin .eql) [ln (tp 1 (.inp 8)), zi 0] <|
 ck .pick [q11_18, q11_19, bF] <|
 ckg (q11_20) true (.bin .eql) [pt 3 (tp 0 (.inp 8)), zi 1] <|
 ck .pick [q11_20, q11_21, bF] <|
 ckg (q11_22) true (.eidx 1) [tp 1 (.inp 9), zi 0] <|
 ckg (q11_22) true (.eload 1 false) [q11_23] <|
 ckg (q11_22) true (.bin .eql) [q11_24, zi 1] <|
 ck .pick [q11_22, q11_25, bF] <|
 ckg (q11_26) true .len [pt 1 (tp 0 (.inp 9))] <|
 ckg (q11_26) true (.bin .eql) [q11_27, zi 0] <|
 ck .pick [q11_26, q11_28, bF] <|
 ckg (q11_29) true (.eidx 23) [pt 1 (tp 0 (.inp 11)), zi 0] <|
 ckg (q11_29) true (.eoff 6) [q11_30] <|
 ckg (q11_29) true (.eload 1 false) [q11_31] <|
 ckg (q11_29) true (.bin .eql) [q11_32, .int .u8 2] <|
 ck .pick [q11_29, q11_33, bF] <|
 ckg (q11_34) true (.bin .eql) [pt 2 (tp 0 (.inp 11)), zi (-1)] <|
 ck .pick [q11_34, q11_35, bF] <|
 ck .pick [q11_36, tp 1 (.inp 13), bF] <|
 ckg (q11_37) true (.bin .eql) [pt 2 (tp 0 (.inp 13)), zi 1] <|
 ck .pick [q11_37, q11_38, bF] <|
 ckg (q11_39) true (.un .not) [tp 1 (.inp 14)] <|
 ck .pick [q11_39, nt (tp 1 (.inp 14)), bF] <|
.seg [.call 17 [(q11_40, true)] 18 [q11_0, q11_1, q11_2] false] <|
 ck .pick [q11_40, .inp 17, bF] <|
.seg [.call 18 [(q11_41, true)] 18 [q11_0, q11_1, .agg [zi 0, .nils, zi 0, zi 0, bF, zi 0, zi 0, bF, zi 0, zi 0, bF, zi 0, zi 0, bF, zi 0, zi 0, bF, zi 0, zi 0, bF, zi 0, zi 0, bF, zi 0, zi 0, bF, zi 0, zi 0, bF, zi 0, zi 0, bF, zi 0, zi 0, bF, zi 0, zi 0, bF, zi 0, zi 0, bF, zi 0, zi 0, bF, zi 0, zi 0, bF, zi 0, zi 0, bF, zi 0, zi 0, bF, zi 0, zi 0, bF, zi 0, zi 0, bF, zi 0, zi 0, bF, zi 0, zi 0, bF, zi 0, zi 0, bF, zi 0, zi 0, bF, zi 0, zi 0, bF]] false] <|
 ckg (q11_41) true (.un .not) [.inp 18] <|
 ck .pick [q11_41, nt (.inp 18), bF] <|
.seg [.bind 19 (pk q11_41 (nt (.inp 18)) bF),
.bind 20 (q11_12),
.bind 21 (q11_14),
.bind 22 (q11_16),
.bind 23 (q11_18),
.bind 24 (q11_20),
.bind 25 (q11_22),
.bind 26 (q11_26),
.bind 27 (q11_29),
.bind 28 (q11_34),
.bind 29 (q11_36),
.bind 30 (q11_37),
.bind 31 (q11_39),
.bind 32 (q11_40),
.bind 33 (q11_41)] <|
.ret (.inp 19))
theorem run_lockbarlaw23_wakes : runF E 9 [] 0 = rt_lockbarlaw23_wakes := by kernel_rfl
end
end Go.Lb.LK
