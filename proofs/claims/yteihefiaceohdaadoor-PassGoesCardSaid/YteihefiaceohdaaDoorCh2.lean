/- What functions come to, printed by a program, checked by the kernel. -/
import Derived.Test.YteihefiaceohdaaDoorCh1
set_option linter.unusedSimpArgs false
set_option linter.unusedVariables false
namespace Go.Lb.LK
open Go Go.Lb Go.Proofs
@[simp] noncomputable def qka0_0 : SE := .app (.bin .geq) [.inp 0, .int .i64 0]
@[simp] noncomputable def qka0_1 : SE := .app (.bin .lss) [.inp 0, .int .i64 32]
@[simp] noncomputable def qka0_2 : SE := .app .pick [qka0_0, qka0_1, .bool false]
@[simp] noncomputable def qka0_3 : SE := .app (.eload 1 false) [.ref [.inp 1] 0]
@[simp] noncomputable def qka0_4 : SE := .app (.bin .shl) [.int .u32 1, .inp 0]
@[simp] noncomputable def qka0_5 : SE := .app (.bin .and) [qka0_3, qka0_4]
@[simp] noncomputable def qka0_6 : SE := .app (.bin .neq) [qka0_5, .int .u32 0]
@[simp] noncomputable def qka0_7 : SE := .agg [.inp 0, .inp 1, .inp 2, .inp 3, .inp 4, .inp 5, .inp 6, .inp 7, .inp 8, .inp 9, .inp 10]
@[simp] noncomputable def qka0_8 : SE := .agg [.inp 11, .inp 12, .inp 13, .inp 14, .inp 15, .inp 16, .inp 17, .inp 18, .inp 19, .inp 20, .inp 21, .inp 22, .inp 23, .inp 24, .inp 25, .inp 26, .inp 27, .inp 28, .inp 29, .inp 30, .inp 31, .inp 32, .inp 33, .inp 34, .inp 35, .inp 36, .inp 37, .inp 38, .inp 39]
@[simp] noncomputable def qka0_9 : SE := .clo 66 [] [.ref [.inp 36] 0]
@[simp] noncomputable def qka0_10 : SE := .ref [qka0_9] 0
@[simp] noncomputable def qka0_11 : SE := .app (.un .not) [qka0_3]
@[simp] noncomputable def qka0_12 : SE := .app (.mm false) [.app .len [.inp 0], .int .i64 24]
@[simp] noncomputable def qka0_13 : SE := .app (.bin .lss) [.inp 40, qka0_12]
@[simp] noncomputable def qka0_14 : SE := .app .pick [qka0_13, .inp 42, .bool false]
@[simp] noncomputable def qka0_15 : SE := .app (.bin .lss) [.inp 40, .int .i64 0]
@[simp] noncomputable def qka0_16 : SE := .app (.bin .geq) [.inp 40, qka0_12]
@[simp] noncomputable def qka0_17 : SE := .ref [.app (.bin .lss) [.inp 6, .inp 11]] 0
@[simp] noncomputable def qka0_18 : SE := .app (.aidx 24 1 1 1 false) [qka0_8, .inp 40]
@[simp] noncomputable def qka0_19 : SE := .app (.bin .lss) [qka0_18, .inp 4]
@[simp] noncomputable def qka0_20 : SE := .app (.bin .geq) [.inp 40, .app .len [.inp 0]]
@[simp] noncomputable def qka0_21 : SE := .app .pick [qka0_15, .bool true, qka0_20]
@[simp] noncomputable def qka0_22 : SE := .app (.eidx 11) [.inp 0, .inp 40]
@[simp] noncomputable def qka0_23 : SE := .app (.eoff 0) [qka0_22]
@[simp] noncomputable def qka0_24 : SE := .app (.eload 1 false) [qka0_23]
@[simp] noncomputable def qka0_25 : SE := .app (.bin .neq) [qka0_24, .int .u8 2]
@[simp] noncomputable def qka0_26 : SE := .app .pick [qka0_21, .bool true, qka0_25]
@[simp] noncomputable def qka0_27 : SE := .ref [.int .i64 1073741824, .int .i64 65535] 0
@[simp] noncomputable def qka0_28 : SE := .app (.eaidx 2 1) [qka0_27, .inp 0]
@[simp] noncomputable def qka0_29 : SE := .app (.eload 1 false) [qka0_28]
@[simp] noncomputable def qka0_30 : SE := .app (.mm false) [.inp 1, qka0_29]
@[simp] noncomputable def qka0_31 : SE := .app (.mm true) [.inp 2, .int .i64 0]
@[simp] noncomputable def qka0_32 : SE := .app (.bin .sub) [qka0_29, .inp 3]
@[simp] noncomputable def qka0_33 : SE := .app (.mm false) [qka0_31, qka0_32]
@[simp] noncomputable def qka0_34 : SE := .app (.bin .add) [.inp 3, .inp 4]
@[simp] noncomputable def qka0_35 : SE := .agg [.inp 0, .inp 1, .inp 3]
@[simp] noncomputable def qka0_36 : SE := .app .app [.app .lst [], .inp 0]
@[simp] noncomputable def qka0_37 : SE := .app (.bin .lss) [.inp 2, .app .len [.inp 0]]
@[simp] noncomputable def qka0_38 : SE := .app (.eidx 3) [.inp 0, .inp 2]
@[simp] noncomputable def qka0_39 : SE := .app (.eload 3 true) [qka0_38]
@[simp] noncomputable def qka0_40 : SE := .app (.eidx 3) [.inp 1, .inp 3]
@[simp] noncomputable def qka0_41 : SE := .app (.eload 3 true) [qka0_40]
@[simp] noncomputable def qka0_42 : SE := .app (.part 0 1 false) [qka0_39]
@[simp] noncomputable def qka0_43 : SE := .app (.part 1 1 false) [qka0_39]
@[simp] noncomputable def qka0_44 : SE := .app (.part 0 1 false) [qka0_41]
@[simp] noncomputable def qka0_45 : SE := .app (.part 1 1 false) [qka0_41]
@[simp] noncomputable def qka0_46 : SE := .app (.bin .eql) [qka0_42, qka0_44]
@[simp] noncomputable def qka0_47 : SE := .app (.bin .neq) [qka0_43, qka0_45]
@[simp] noncomputable def qka0_48 : SE := .app (.bin .add) [.inp 2, .int .i64 1]
@[simp] noncomputable def qka0_49 : SE := .agg [.inp 0, .inp 1, .inp 2, .inp 3, .inp 4, .inp 5, .inp 6, .inp 7, .inp 8, .inp 9, .inp 10, .inp 11, .inp 12, .inp 13, .inp 14, .inp 15, .inp 16, .inp 17, .inp 18, .inp 19, .inp 20, .inp 21, .inp 22]
@[simp] noncomputable def qka0_50 : SE := .app (.mm true) [.inp 7, .int .i64 0]
@[simp] noncomputable def qka0_51 : SE := .app (.eidx 3) [.inp 5, .inp 24]
@[simp] noncomputable def qka0_52 : SE := .app (.eload 3 true) [qka0_51]
@[simp] noncomputable def qka0_53 : SE := .app (.part 2 1 false) [qka0_52]
@[simp] noncomputable def qka0_54 : SE := .agg [.app (.part 0 1 false) [qka0_52], .app (.part 1 1 false) [qka0_52], qka0_53]
@[simp] noncomputable def qka0_55 : SE := .app (.bin .geq) [qka0_53, qka0_50]
@[simp] noncomputable def qka0_56 : SE := .app (.bin .neq) [qka0_53, .app .len [.inp 3]]
@[simp] noncomputable def qka0_57 : SE := .app .pick [qka0_56, .bool true, .app (.un .not) [.inp 20]]
@[simp] noncomputable def qka0_58 : SE := .app .lst [qka0_54]
@[simp] noncomputable def qka0_59 : SE := .app (.bin .add) [.inp 24, .int .i64 1]
@[simp] noncomputable def qka0_60 : SE := .agg [.inp 0, .app (.part 0 1 false) [.inp 23], .app (.part 1 1 false) [.inp 23], .app (.part 2 1 false) [.inp 23], .inp 24, .inp 25, .inp 6, .inp 7, .inp 8, .inp 9, .inp 10, .inp 11, .inp 12, .inp 13, .inp 14, .inp 15, .inp 16, .inp 17, .inp 18, .inp 19, .inp 20, .inp 21, .inp 22]
@[simp] noncomputable def qka0_61 : SE := .app (.bin .lss) [.inp 0, .int .i64 1]
@[simp] noncomputable def qka0_62 : SE := .app (.mm true) [.inp 0, .inp 21]
@[simp] noncomputable def qka0_63 : SE := .app (.bin .gtr) [qka0_62, .int .i64 1073741824]
@[simp] noncomputable def qka0_64 : SE := .app .pick [qka0_61, .bool true, qka0_63]
@[simp] noncomputable def qka0_65 : SE := .app (.bin .lss) [.inp 21, .int .i64 0]
@[simp] noncomputable def qka0_66 : SE := .app .pick [qka0_64, .bool true, qka0_65]
@[simp] noncomputable def qka0_67 : SE := .app (.bin .lss) [.app .len [.inp 3], .int .i64 1]
@[simp] noncomputable def qka0_68 : SE := .app .pick [qka0_66, .bool true, qka0_67]
@[simp] noncomputable def qka0_69 : SE := .app (.bin .gtr) [.app .len [.inp 3], .int .i64 12]
@[simp] noncomputable def qka0_70 : SE := .app .pick [qka0_68, .bool true, qka0_69]
@[simp] noncomputable def qka0_71 : SE := .app (.bin .gtr) [.app .len [.inp 4], .int .i64 2]
@[simp] noncomputable def qka0_72 : SE := .app (.bin .eql) [.inp 6, .int .u8 0]
@[simp] noncomputable def qka0_73 : SE := .app (.bin .geq) [.inp 6, .int .u8 5]
@[simp] noncomputable def qka0_74 : SE := .app .pick [qka0_72, .bool true, qka0_73]
@[simp] noncomputable def qka0_75 : SE := .app (.bin .lss) [.inp 7, .int .i64 0]
@[simp] noncomputable def qka0_76 : SE := .app .pick [qka0_74, .bool true, qka0_75]
@[simp] noncomputable def qka0_77 : SE := .app (.bin .gtr) [.inp 7, .app .len [.inp 3]]
@[simp] noncomputable def qka0_78 : SE := .app .pick [qka0_76, .bool true, qka0_77]
@[simp] noncomputable def qka0_79 : SE := .ref [.inp 0, .inp 1, .inp 2, .inp 3, .inp 4, .inp 5, .inp 6, .inp 7, .inp 8, .inp 9, .inp 10, .inp 11, .inp 12, .inp 13, .inp 14, .inp 15, .inp 16, .inp 17, .inp 18, .inp 19, .inp 20, .inp 21, .inp 22] 0
@[simp] noncomputable def qka0_80 : SE := .app .lst [.inp 8, .inp 9, .inp 10, .inp 11, .inp 12, .inp 13, .inp 14, .inp 15, .inp 16, .inp 17, .inp 18, .inp 19]
@[simp] noncomputable def qka0_81 : SE := .app (.slice false true) [qka0_80, .app .len [.inp 3]]
@[simp] noncomputable def qka0_82 : SE := .app .len [qka0_81]
@[simp] noncomputable def qka0_83 : SE := .ref [.inp 0, .inp 1, .inp 2, .inp 3, .inp 4, .inp 5, .inp 6, .inp 7, .inp 8, .inp 9, .inp 10, .inp 11, .inp 12, .inp 13, .inp 14, .inp 15, .inp 16, .inp 17, .inp 18, .inp 19, .inp 20, .inp 21, .inp 22] 8
@[simp] noncomputable def qka0_84 : SE := .agg [.inp 33, .inp 34, .inp 35, .inp 36, .inp 37, .inp 38, .inp 39, .inp 40, .inp 41, .inp 42, .inp 43, .inp 44]
@[simp] noncomputable def qka0_85 : SE := .app (.eload 12 true) [qka0_83]
@[simp] noncomputable def qka0_86 : SE := .ref [.inp 0, .inp 1, .inp 2, .inp 3, .inp 4, .inp 5, .inp 6, .inp 7, .inp 8, .inp 9, .inp 10, .inp 11, .inp 12, .inp 13, .inp 14, .inp 15, .inp 16, .inp 17, .inp 18, .inp 19, .inp 20, .inp 21, .inp 22] 3
@[simp] noncomputable def qka0_87 : SE := .ref [.inp 0, .inp 1, .inp 2, .inp 3, .inp 4, .inp 5, .inp 6, .inp 7, .inp 8, .inp 9, .inp 10, .inp 11, .inp 12, .inp 13, .inp 14, .inp 15, .inp 16, .inp 17, .inp 18, .inp 19, .inp 20, .inp 21, .inp 22] 4
@[simp] noncomputable def qka0_88 : SE := .app (.eload 1 false) [qka0_86]
@[simp] noncomputable def qka0_89 : SE := .app (.eload 1 false) [qka0_87]
@[simp] noncomputable def qka0_90 : SE := .app .lst [qka0_88, qka0_89]
@[simp] noncomputable def qka0_91 : SE := .app (.eidx 3) [.inp 47, .inp 52]
@[simp] noncomputable def qka0_92 : SE := .app (.eload 3 true) [qka0_91]
@[simp] noncomputable def qka0_93 : SE := .app (.part 0 1 false) [qka0_92]
@[simp] noncomputable def qka0_94 : SE := .app .lst [qka0_93]
@[simp] noncomputable def qka0_95 : SE := .app .len [qka0_89]
@[simp] noncomputable def qka0_96 : SE := .app (.bin .add) [.app .len [.inp 3], qka0_95]
@[simp] noncomputable def qka0_97 : SE := .ref [.inp 0, .inp 1, .inp 2, .inp 3, .inp 4, .inp 5, .inp 6, .inp 7, .inp 8, .inp 9, .inp 10, .inp 11, .inp 12, .inp 13, .inp 14, .inp 15, .inp 16, .inp 17, .inp 18, .inp 19, .inp 20, .inp 21, .inp 22] 5
@[simp] noncomputable def qka0_98 : SE := .app (.eload 1 false) [qka0_97]
@[simp] noncomputable def qka0_99 : SE := .app (.eidx 3) [.inp 59, .inp 61]
@[simp] noncomputable def qka0_100 : SE := .app (.eload 3 true) [qka0_99]
@[simp] noncomputable def qka0_101 : SE := .app (.part 2 1 false) [qka0_100]
@[simp] noncomputable def qka0_102 : SE := .app (.bin .lss) [qka0_101, .int .i64 0]
@[simp] noncomputable def qka0_103 : SE := .app (.bin .gtr) [qka0_101, .app .len [.inp 3]]
@[simp] noncomputable def qka0_104 : SE := .app .pick [qka0_102, .bool true, qka0_103]
@[simp] noncomputable def qka0_105 : SE := .app (.part 0 1 false) [qka0_100]
@[simp] noncomputable def qka0_106 : SE := .app (.bin .lss) [qka0_105, .int .i64 0]
@[simp] noncomputable def qka0_107 : SE := .app .pick [qka0_104, .bool true, qka0_106]
@[simp] noncomputable def qka0_108 : SE := .app (.bin .geq) [qka0_105, .int .i64 24]
@[simp] noncomputable def qka0_109 : SE := .app .pick [qka0_107, .bool true, qka0_108]
@[simp] noncomputable def qka0_110 : SE := .app (.part 1 1 false) [qka0_100]
@[simp] noncomputable def qka0_111 : SE := .app (.bin .shr) [qka0_110, .int .u64 1]
@[simp] noncomputable def qka0_112 : SE := .app (.bin .neq) [qka0_111, .int .i64 0]
@[simp] noncomputable def qka0_113 : SE := .app (.eidx 1) [.inp 0, .inp 2]
@[simp] noncomputable def qka0_114 : SE := .app (.eload 1 false) [qka0_113]
@[simp] noncomputable def qka0_115 : SE := .app .len [qka0_114]
@[simp] noncomputable def qka0_116 : SE := .app (.bin .add) [.inp 1, qka0_115]
@[simp] noncomputable def qka0_117 : SE := .app (.bin .sub) [.inp 1, .int .i64 0]
@[simp] noncomputable def qka0_118 : SE := .agg [.int .i64 0, .int .i64 0, .int .i64 0]
@[simp] noncomputable def qka0_119 : SE := .app .rep [qka0_117, qka0_118]
@[simp] noncomputable def qka0_120 : SE := .app (.eidx 1) [.inp 0, .inp 5]
@[simp] noncomputable def qka0_121 : SE := .app (.eload 1 false) [qka0_120]
@[simp] noncomputable def qka0_122 : SE := .app (.eidx 1) [.inp 0, .inp 4]
@[simp] noncomputable def qka0_123 : SE := .app (.eload 1 false) [qka0_122]
@[simp] noncomputable def qka0_124 : SE := .agg [.inp 40, .inp 41, .inp 42, .inp 43, .inp 44, .inp 45, .inp 46, .inp 47, .inp 48, .inp 49, .inp 50, .inp 51, .inp 52, .inp 53, .inp 54, .inp 55, .inp 56, .inp 57, .inp 58, .inp 59, .inp 60, .inp 61, .inp 62]
@[simp] noncomputable def qka0_125 : SE := .app (.eidx 3) [.inp 63, .inp 64]
@[simp] noncomputable def qka0_126 : SE := .app (.eload 3 true) [qka0_125]
@[simp] noncomputable def qka0_127 : SE := .app (.part 1 1 false) [qka0_126]
@[simp] noncomputable def qka0_128 : SE := .app (.bin .geq) [.inp 64, .int .i64 0]
noncomputable def rt_slices_Sort_int : RT :=
.seg [.chk [] .len [.nils]] <|
.seg [.chk [] (.conv .u64) [.int .i64 0]] <|
.seg [.call 0 [] 82 [.int .u64 0] false] <|
.loop 0 1 [] <|
.seg [.chk [] (.bin .sub) [.int .i64 0, .int .i64 0]] <|
.seg [.chk [] (.bin .leq) [.int .i64 0, .int .i64 12]] <|
.seg [.chk [] (.bin .add) [.int .i64 0, .int .i64 1]] <|
.loop 1 1 [] <|
.seg [.chk [] (.bin .lss) [.int .i64 1, .int .i64 0]] <|
.ret (.tup [])
theorem run_slices_Sort_int : runF ES 71 [.nils] 0 = rt_slices_Sort_int := by kernel_rfl

noncomputable def rt_image_bit : RT :=
.seg [.chk [] .isOne [.inp 0]] <|
.ret (.clo 66 [] [.ref [.inp 0] 0])
theorem run_image_bit : runF E 52 [.inp 0] 1 = rt_image_bit := by kernel_rfl

noncomputable def rt_image_bit_1 : RT :=
.seg [.chk [] (.bin .geq) [.inp 0, .int .i64 0],
.chk [(qka0_0, true)] (.bin .lss) [.inp 0, .int .i64 32],
.chk [] .pick [qka0_0, qka0_1, .bool false],
.chk [(qka0_2, true)] (.eload 1 false) [.ref [.inp 1] 0],
.chk [(qka0_2, true)] (.bin .shl) [.int .u32 1, .inp 0],
.chk [(qka0_2, true)] (.bin .and) [qka0_3, qka0_4],
.chk [(qka0_2, true)] (.bin .neq) [qka0_5, .int .u32 0],
.chk [] .pick [qka0_2, qka0_6, .bool false]] <|
.seg [.bind 2 (.app .pick [qka0_2, qka0_6, .bool false])] <|
.ret (.inp 2)
theorem run_image_bit_1 : runF E 66 [.inp 0, .ref [.inp 1] 0] 2 = rt_image_bit_1 := by kernel_rfl

noncomputable def rt_image_clear : RT :=
.seg [.chk [] (.isAgg 11) [qka0_7]] <|
.seg [.chk [] (.isAgg 29) [qka0_8]] <|
.seg [.call 40 [] 51 [qka0_7, qka0_8] false,
.call 41 [] 52 [.inp 36] false,
.same 41 [] (qka0_9),
.chk [] .isOne [.inp 40]] <|
.ret (.clo 68 [] [.ref [.inp 40] 0, qka0_10])
theorem run_image_clear : runF E 58 [.agg [.inp 0, .inp 1, .inp 2, .inp 3, .inp 4, .inp 5, .inp 6, .inp 7, .inp 8, .inp 9, .inp 10], .agg [.inp 11, .inp 12, .inp 13, .inp 14, .inp 15, .inp 16, .inp 17, .inp 18, .inp 19, .inp 20, .inp 21, .inp 22, .inp 23, .inp 24, .inp 25, .inp 26, .inp 27, .inp 28, .inp 29, .inp 30, .inp 31, .inp 32, .inp 33, .inp 34, .inp 35, .inp 36, .inp 37, .inp 38, .inp 39]] 40 = rt_image_clear := by kernel_rfl

noncomputable def rt_image_clear_1 : RT :=
.seg [.chk [] (.eload 1 false) [.ref [.inp 1] 0]] <|
.seg [.chk [] (.un .not) [qka0_3]] <|
.seg [.chk [(qka0_11, true)] (.eload 1 false) [.ref [.clo 66 [] [.ref [.inp 2] 0]] 0]] <|
.seg [.call 3 [(qka0_11, true)] 66 [.inp 0, .ref [.inp 2] 0] false] <|
.seg [.chk [(qka0_11, true)] (.un .not) [.inp 3]] <|
.seg [.chk [] .pick [qka0_11, .app (.un .not) [.inp 3], .bool false]] <|
.ret (.app .pick [qka0_11, .app (.un .not) [.inp 3], .bool false])
theorem run_image_clear_1 : runF E 68 [.inp 0, .ref [.inp 1] 0, .ref [.clo 66 [] [.ref [.inp 2] 0]] 0] 3 = rt_image_clear_1 := by kernel_rfl

noncomputable def rt_image_Stale : RT :=
.seg [.chk [] (.isAgg 11) [qka0_7]] <|
.seg [.chk [] (.isAgg 29) [qka0_8]] <|
.seg [.call 40 [] 65 [.inp 11, .inp 6] false] <|
.ret (.inp 40)
theorem run_image_Stale : runF E 51 [.agg [.inp 0, .inp 1, .inp 2, .inp 3, .inp 4, .inp 5, .inp 6, .inp 7, .inp 8, .inp 9, .inp 10], .agg [.inp 11, .inp 12, .inp 13, .inp 14, .inp 15, .inp 16, .inp 17, .inp 18, .inp 19, .inp 20, .inp 21, .inp 22, .inp 23, .inp 24, .inp 25, .inp 26, .inp 27, .inp 28, .inp 29, .inp 30, .inp 31, .inp 32, .inp 33, .inp 34, .inp 35, .inp 36, .inp 37, .inp 38, .inp 39]] 40 = rt_image_Stale := by kernel_rfl

noncomputable def rt_image_Told : RT :=
.seg [.chk [] (.isAgg 11) [qka0_7]] <|
.seg [.chk [] (.isAgg 29) [qka0_8]] <|
.seg [.chk [] .len [.inp 0]] <|
.seg [.chk [] (.mm false) [.app .len [.inp 0], .int .i64 24]] <|
.seg [.chk [] (.bin .lss) [.inp 40, qka0_12]] <|
.seg [.call 41 [(qka0_13, true)] 52 [.inp 36] false,
.same 41 [(qka0_13, true)] (qka0_9)] <|
.seg [.call 42 [(qka0_13, true)] 66 [.inp 40, .ref [.inp 36] 0] false] <|
.seg [.chk [] .pick [qka0_13, .inp 42, .bool false]] <|
.seg [.call 43 [(qka0_14, true)] 51 [qka0_7, qka0_8] false] <|
.seg [.chk [(qka0_14, true)] (.un .not) [.inp 43]] <|
.seg [.chk [] .pick [qka0_14, .app (.un .not) [.inp 43], .bool false]] <|
.seg [.bind 44 (.app .pick [qka0_14, .app (.un .not) [.inp 43], .bool false])] <|
.ret (.inp 44)
theorem run_image_Told : runF E 39 [.agg [.inp 0, .inp 1, .inp 2, .inp 3, .inp 4, .inp 5, .inp 6, .inp 7, .inp 8, .inp 9, .inp 10], .agg [.inp 11, .inp 12, .inp 13, .inp 14, .inp 15, .inp 16, .inp 17, .inp 18, .inp 19, .inp 20, .inp 21, .inp 22, .inp 23, .inp 24, .inp 25, .inp 26, .inp 27, .inp 28, .inp 29, .inp 30, .inp 31, .inp 32, .inp 33, .inp 34, .inp 35, .inp 36, .inp 37, .inp 38, .inp 39], .inp 40] 41 = rt_image_Told := by kernel_rfl

noncomputable def rt_image_Occupied : RT :=
.seg [.chk [] (.isAgg 11) [qka0_7]] <|
.seg [.chk [] (.isAgg 29) [qka0_8]] <|
.seg [.chk [] (.bin .lss) [.inp 40, .int .i64 0]] <|
.seg [.chk [(qka0_15, false)] .len [.inp 0]] <|
.seg [.chk [(qka0_15, false)] (.mm false) [.app .len [.inp 0], .int .i64 24]] <|
.seg [.chk [(qka0_15, false)] (.bin .geq) [.inp 40, qka0_12]] <|
.seg [.chk [] .pick [qka0_15, .bool true, qka0_16]] <|
.seg [.bind 41 (.app .pick [qka0_15, .bool true, qka0_16])] <|
.cond (.inp 41)
 (.ret (.bool true))
 (.seg [.call 42 [] 58 [qka0_7, qka0_8] false,
.same 42 [] (.clo 68 [] [qka0_17, qka0_10]),
.call 43 [] 68 [.inp 40, qka0_17, qka0_10] false,
.chk [] (.un .not) [.inp 43],
.chk [(.app (.un .not) [.inp 43], false)] (.inr 24) [.inp 40],
.chk [(.app (.un .not) [.inp 43], false)] (.aidx 24 1 1 1 false) [qka0_8, .inp 40],
.chk [(.app (.un .not) [.inp 43], false)] (.bin .lss) [qka0_18, .inp 4],
.chk [] .pick [.app (.un .not) [.inp 43], .bool true, qka0_19]] <|
.seg [.bind 44 (.app .pick [.app (.un .not) [.inp 43], .bool true, qka0_19]),
.bind 45 (qka0_18),
.bind 46 (qka0_19)] <|
.ret (.inp 44))
theorem run_image_Occupied : runF E 41 [.agg [.inp 0, .inp 1, .inp 2, .inp 3, .inp 4, .inp 5, .inp 6, .inp 7, .inp 8, .inp 9, .inp 10], .agg [.inp 11, .inp 12, .inp 13, .inp 14, .inp 15, .inp 16, .inp 17, .inp 18, .inp 19, .inp 20, .inp 21, .inp 22, .inp 23, .inp 24, .inp 25, .inp 26, .inp 27, .inp 28, .inp 29, .inp 30, .inp 31, .inp 32, .inp 33, .inp 34, .inp 35, .inp 36, .inp 37, .inp 38, .inp 39], .inp 40] 41 = rt_image_Occupied := by kernel_rfl

noncomputable def rt_image_At : RT :=
.seg [.chk [] (.isAgg 11) [qka0_7]] <|
.seg [.chk [] (.isAgg 29) [qka0_8]] <|
.seg [.chk [] (.bin .lss) [.inp 40, .int .i64 0]] <|
.seg [.chk [(qka0_15, false)] .len [.inp 0]] <|
.seg [.chk [(qka0_15, false)] (.bin .geq) [.inp 40, .app .len [.inp 0]]] <|
.seg [.chk [] .pick [qka0_15, .bool true, qka0_20]] <|
.seg [.chk [(qka0_21, false)] (.eidx 11) [.inp 0, .inp 40]] <|
.seg [.chk [(qka0_21, false)] (.eoff 0) [qka0_22]] <|
.seg [.chk [(qka0_21, false)] (.eload 1 false) [qka0_23]] <|
.seg [.chk [(qka0_21, false)] (.bin .neq) [qka0_24, .int .u8 2]] <|
.seg [.chk [] .pick [qka0_21, .bool true, qka0_25]] <|
.seg [.call 41 [(qka0_26, false)] 51 [qka0_7, qka0_8] false] <|
.seg [.chk [] .pick [qka0_26, .bool true, .inp 41]] <|
.seg [.bind 42 (qka0_26),
.bind 43 (.app .pick [qka0_26, .bool true, .inp 41])] <|
.cond (.inp 43)
 (.ret (.int .i64 (-1)))
 (.seg [.call 44 [] 52 [.inp 37] false,
.same 44 [] (.clo 66 [] [.ref [.inp 37] 0]),
.call 45 [] 66 [.inp 40, .ref [.inp 37] 0] false,
.call 46 [] 52 [.inp 38] false,
.same 46 [] (.clo 66 [] [.ref [.inp 38] 0]),
.call 47 [] 66 [.inp 40, .ref [.inp 38] 0] false] <|
.seg [.chk [(.inp 45, true)] (.un .not) [.inp 47]] <|
.seg [.chk [] .pick [.inp 45, .app (.un .not) [.inp 47], .bool false]] <|
.cond (.app .pick [.inp 45, .app (.un .not) [.inp 47], .bool false])
 (.ret (.int .i64 0))
 (.seg [.chk [(.inp 47, true)] (.un .not) [.inp 45]] <|
.seg [.chk [] .pick [.inp 47, .app (.un .not) [.inp 45], .bool false]] <|
.cond (.app .pick [.inp 47, .app (.un .not) [.inp 45], .bool false])
 (.ret (.int .i64 1))
 (.ret (.int .i64 (-1)))))
theorem run_image_At : runF E 31 [.agg [.inp 0, .inp 1, .inp 2, .inp 3, .inp 4, .inp 5, .inp 6, .inp 7, .inp 8, .inp 9, .inp 10], .agg [.inp 11, .inp 12, .inp 13, .inp 14, .inp 15, .inp 16, .inp 17, .inp 18, .inp 19, .inp 20, .inp 21, .inp 22, .inp 23, .inp 24, .inp 25, .inp 26, .inp 27, .inp 28, .inp 29, .inp 30, .inp 31, .inp 32, .inp 33, .inp 34, .inp 35, .inp 36, .inp 37, .inp 38, .inp 39], .inp 40] 41 = rt_image_At := by kernel_rfl

noncomputable def rt_tick_Late : RT :=
.seg [.chk [] (.bin .lss) [.inp 1, .inp 0]] <|
.ret (.app (.bin .lss) [.inp 1, .inp 0])
theorem run_tick_Late : runF E 65 [.inp 0, .inp 1] 2 = rt_tick_Late := by kernel_rfl

noncomputable def rt_tick_on : RT :=
.seg [.chk [] .isOne [.inp 1]] <|
.seg [.chk [] (.eaidx 2 1) [qka0_27, .inp 0]] <|
.seg [.chk [] (.eload 1 false) [qka0_28]] <|
.seg [.chk [] (.mm false) [.inp 1, qka0_29]] <|
.seg [.chk [] (.mm true) [.int .i64 0, qka0_30]] <|
.seg [.bind 3 (.app (.mm true) [.int .i64 0, qka0_30])] <|
.seg [.chk [] .isOne [.inp 3]] <|
.seg [.chk [] .isOne [.inp 0]] <|
.seg [.chk [] .isOne [.inp 3]] <|
.seg [.chk [] .isOne [.inp 2]] <|
.seg [.chk [] (.mm true) [.inp 2, .int .i64 0],
.chk [] (.eaidx 2 1) [qka0_27, .inp 0],
.chk [] (.eload 1 false) [qka0_28],
.chk [] (.bin .sub) [qka0_29, .inp 3],
.chk [] (.mm false) [qka0_31, qka0_32],
.chk [] .isOne [qka0_33]] <|
.seg [.bind 4 (qka0_33)] <|
.seg [.chk [] (.bin .gtr) [.inp 4, .int .i64 0]] <|
.cond (.app (.bin .gtr) [.inp 4, .int .i64 0])
 (.seg [.chk [] (.bin .add) [.inp 3, .inp 4]] <|
.seg [.chk [] .isOne [qka0_34]] <|
.ret (qka0_34))
 (.ret (.inp 3))
theorem run_tick_on : runF E 61 [.inp 0, .inp 1, .inp 2] 3 = rt_tick_on := by kernel_rfl

noncomputable def rt_tick_Next : RT :=
.seg [.call 1 [] 61 [.int .i64 0, .inp 0, .int .i64 1] false] <|
.ret (.inp 1)
theorem run_tick_Next : runF E 44 [.inp 0] 1 = rt_tick_Next := by kernel_rfl

noncomputable def rt_route_Own : RT :=
.seg [.chk [] (.isAgg 3) [.agg [.inp 0, .inp 1, .inp 2]]] <|
.seg [.call 3 [] 56 [.inp 2] false] <|
.seg [.chk [] .isOne [.inp 3]] <|
.seg [.chk [] (.isAgg 3) [qka0_35]] <|
.ret (qka0_35)
theorem run_route_Own : runF E 55 [.agg [.inp 0, .inp 1, .inp 2]] 3 = rt_route_Own := by kernel_rfl

noncomputable def rt_slices_Clone_Step : RT :=
.seg [.chk [] .len [.inp 0],
.isNil 1 [] (.inp 0)] <|
.cond (.inp 1)
 (.ret (.nils))
 (.seg [.chk [] (.szs 3) [.inp 0],
.chk [] .app [.app .lst [], .inp 0]] <|
.ret (qka0_36))
theorem run_slices_Clone_Step : runF E 56 [.inp 0] 1 = rt_slices_Clone_Step := by kernel_rfl

noncomputable def rt_slices_Clone_Need : RT :=
.seg [.chk [] .len [.inp 0],
.isNil 1 [] (.inp 0)] <|
.cond (.inp 1)
 (.ret (.nils))
 (.seg [.chk [] (.szs 3) [.inp 0],
.chk [] .app [.app .lst [], .inp 0]] <|
.ret (qka0_36))
theorem run_slices_Clone_Need : runF E 57 [.inp 0] 1 = rt_slices_Clone_Need := by kernel_rfl

noncomputable def rt_held_clash : RT :=
.seg [.chk [] .isOne [.inp 1]] <|
.seg [.chk [] .len [.inp 0]] <|
.loop 0 2 [.int .i64 0] <|
.seg [.chk [] (.bin .lss) [.inp 2, .app .len [.inp 0]]] <|
.cond (qka0_37)
 (.seg [.chk [] (.eidx 3) [.inp 0, .inp 2]] <|
.seg [.chk [] (.eload 3 true) [qka0_38]] <|
.seg [.chk [] (.isAgg 3) [qka0_39]] <|
.seg [.chk [] .len [.inp 1]] <|
.loop 1 3 [.int .i64 0] <|
.seg [.chk [] (.bin .lss) [.inp 3, .app .len [.inp 1]]] <|
.cond (.app (.bin .lss) [.inp 3, .app .len [.inp 1]])
 (.seg [.chk [] (.eidx 3) [.inp 1, .inp 3]] <|
.seg [.chk [] (.eload 3 true) [qka0_40]] <|
.seg [.chk [] (.isAgg 3) [qka0_41]] <|
.seg [.chk [] (.isAgg 3) [.agg [qka0_42, qka0_43, .app (.part 2 1 false) [qka0_39]]]] <|
.seg [.chk [] (.isAgg 3) [.agg [qka0_44, qka0_45, .app (.part 2 1 false) [qka0_41]]]] <|
.seg [.chk [] (.bin .eql) [qka0_42, qka0_44]] <|
.seg [.chk [(qka0_46, true)] (.bin .neq) [qka0_43, qka0_45]] <|
.seg [.chk [] .pick [qka0_46, qka0_47, .bool false]] <|
.seg [.bind 4 (.app .pick [qka0_46, qka0_47, .bool false]),
.bind 5 (qka0_46),
.bind 6 (qka0_47)] <|
.cond (.inp 4)
 (.seg [.chk [] (.bin .geq) [.inp 3, .int .i64 0]] <|
.cond (.app (.bin .geq) [.inp 3, .int .i64 0])
 (.seg [.chk [] (.bin .geq) [.inp 2, .int .i64 0]] <|
.ret (.app (.bin .geq) [.inp 2, .int .i64 0]))
 (.seg [.chk [] (.bin .add) [.inp 2, .int .i64 1]] <|
.again 0 [qka0_48]))
 (.seg [.chk [] (.bin .add) [.inp 3, .int .i64 1]] <|
.again 1 [.app (.bin .add) [.inp 3, .int .i64 1]]))
 (.seg [.chk [] (.bin .geq) [.int .i64 (-1), .int .i64 0]] <|
.seg [.chk [] (.bin .add) [.inp 2, .int .i64 1]] <|
.again 0 [qka0_48]))
 (.seg [.chk [] (.bin .geq) [.int .i64 (-1), .int .i64 0]] <|
.ret (.bool false))
theorem run_held_clash : runF E 69 [.inp 0, .inp 1] 2 = rt_held_clash := by kernel_rfl

noncomputable def rt_held_Needs : RT :=
.seg [.chk [] (.isAgg 23) [qka0_49]] <|
.seg [.chk [] (.isAgg 23) [qka0_49]] <|
.seg [.chk [] (.mm true) [.inp 7, .int .i64 0],
.chk [] .len [.inp 3],
.chk [] .isOne [qka0_50],
.chk [] .isOne [.app .len [.inp 3]]] <|
.seg [.chk [] .len [.inp 5]] <|
.loop 0 23 [.nils, .int .i64 0] <|
.seg [.chk [] (.bin .lss) [.inp 24, .app .len [.inp 5]]] <|
.cond (.app (.bin .lss) [.inp 24, .app .len [.inp 5]])
 (.seg [.chk [] (.eidx 3) [.inp 5, .inp 24]] <|
.seg [.chk [] (.eload 3 true) [qka0_51]] <|
.seg [.chk [] (.isAgg 3) [qka0_52]] <|
.seg [.chk [] (.isAgg 3) [qka0_54]] <|
.seg [.chk [] (.bin .geq) [qka0_53, qka0_50]] <|
.seg [.chk [(qka0_55, true)] (.bin .neq) [qka0_53, .app .len [.inp 3]]] <|
.seg [.chk [(qka0_56, false), (qka0_55, true)] (.un .not) [.inp 20]] <|
.seg [.chk [(qka0_55, true)] .pick [qka0_56, .bool true, .app (.un .not) [.inp 20]]] <|
.seg [.chk [] .pick [qka0_55, qka0_57, .bool false]] <|
.seg [.bind 25 (.app .pick [qka0_55, qka0_57, .bool false]),
.bind 26 (qka0_57)] <|
.cond (.inp 25)
 (.seg [.chk [] (.isAgg 3) [qka0_54]] <|
.seg [.chk [] (.szs 3) [qka0_58],
.chk [] .app [.inp 23, qka0_58]] <|
.seg [.bind 27 (qka0_58),
.bind 28 (.app .app [.inp 23, qka0_58])] <|
.seg [.chk [] (.bin .add) [.inp 24, .int .i64 1]] <|
.again 0 [.inp 28, qka0_59])
 (.seg [.chk [] (.bin .add) [.inp 24, .int .i64 1]] <|
.again 0 [.inp 23, qka0_59]))
 (.ret (.inp 23))
theorem run_held_Needs : runF E 33 [.agg [.inp 0, .inp 1, .inp 2, .inp 3, .inp 4, .inp 5, .inp 6, .inp 7, .inp 8, .inp 9, .inp 10, .inp 11, .inp 12, .inp 13, .inp 14, .inp 15, .inp 16, .inp 17, .inp 18, .inp 19, .inp 20, .inp 21, .inp 22]] 23 = rt_held_Needs := by kernel_rfl

noncomputable def rt_held_Own : RT :=
.seg [.chk [] (.isAgg 23) [qka0_49]] <|
.seg [.call 23 [] 55 [.agg [.inp 1, .inp 2, .inp 3]] false,
.call 24 [] 56 [.inp 4] false,
.call 25 [] 57 [.inp 5] false,
.chk [] (.isAgg 3) [.inp 23],
.chk [] .isOne [.inp 24],
.chk [] .isOne [.inp 25]] <|
.seg [.chk [] (.isAgg 23) [qka0_60]] <|
.ret (qka0_60)
theorem run_held_Own : runF E 37 [.agg [.inp 0, .inp 1, .inp 2, .inp 3, .inp 4, .inp 5, .inp 6, .inp 7, .inp 8, .inp 9, .inp 10, .inp 11, .inp 12, .inp 13, .inp 14, .inp 15, .inp 16, .inp 17, .inp 18, .inp 19, .inp 20, .inp 21, .inp 22]] 23 = rt_held_Own := by kernel_rfl

noncomputable def rt_held_Right : RT :=
.seg [.chk [] (.isAgg 23) [qka0_49]] <|
.seg [.chk [] .len [.inp 3]] <|
.seg [.chk [] (.bin .lss) [.inp 0, .int .i64 1]] <|
.seg [.chk [(qka0_61, false)] (.mm true) [.inp 0, .inp 21]] <|
.seg [.chk [(qka0_61, false)] (.bin .gtr) [qka0_62, .int .i64 1073741824]] <|
.seg [.chk [] .pick [qka0_61, .bool true, qka0_63]] <|
.seg [.chk [(qka0_64, false)] (.bin .lss) [.inp 21, .int .i64 0]] <|
.seg [.chk [] .pick [qka0_64, .bool true, qka0_65]] <|
.seg [.chk [(qka0_66, false)] (.bin .lss) [.app .len [.inp 3], .int .i64 1]] <|
.seg [.chk [] .pick [qka0_66, .bool true, qka0_67]] <|
.seg [.chk [(qka0_68, false)] (.bin .gtr) [.app .len [.inp 3], .int .i64 12]] <|
.seg [.chk [] .pick [qka0_68, .bool true, qka0_69]] <|
.seg [.chk [(qka0_70, false)] .len [.inp 4]] <|
.seg [.chk [(qka0_70, false)] (.bin .gtr) [.app .len [.inp 4], .int .i64 2]] <|
.seg [.chk [] .pick [qka0_70, .bool true, qka0_71]] <|
.seg [.bind 23 (qka0_64),
.bind 24 (qka0_66),
.bind 25 (qka0_68),
.bind 26 (qka0_70),
.bind 27 (.app .pick [qka0_70, .bool true, qka0_71])] <|
.cond (.inp 27)
 (.ret (.bool false))
 (.seg [.chk [] (.bin .eql) [.inp 6, .int .u8 0]] <|
.seg [.chk [(qka0_72, false)] (.bin .geq) [.inp 6, .int .u8 5]] <|
.seg [.chk [] .pick [qka0_72, .bool true, qka0_73]] <|
.seg [.chk [(qka0_74, false)] (.bin .lss) [.inp 7, .int .i64 0]] <|
.seg [.chk [] .pick [qka0_74, .bool true, qka0_75]] <|
.seg [.chk [(qka0_76, false)] (.bin .gtr) [.inp 7, .app .len [.inp 3]]] <|
.seg [.chk [] .pick [qka0_76, .bool true, qka0_77]] <|
.seg [.call 28 [(qka0_78, false)] 69 [.inp 5, .inp 5] false] <|
.seg [.chk [] .pick [qka0_78, .bool true, .inp 28]] <|
.seg [.bind 29 (qka0_76),
.bind 30 (qka0_78),
.bind 31 (.app .pick [qka0_78, .bool true, .inp 28])] <|
.cond (.inp 31)
 (.ret (.bool false))
 (.seg [.chk [] (.eoff 8) [qka0_79],
.chk [] (.slice false true) [qka0_80, .app .len [.inp 3]],
.chk [] .isOne [.inp 8],
.chk [] .isOne [.inp 9],
.chk [] .isOne [.inp 10],
.chk [] .isOne [.inp 11],
.chk [] .isOne [.inp 12],
.chk [] .isOne [.inp 13],
.chk [] .isOne [.inp 14],
.chk [] .isOne [.inp 15],
.chk [] .isOne [.inp 16],
.chk [] .isOne [.inp 17],
.chk [] .isOne [.inp 18],
.chk [] .isOne [.inp 19],
.chk [] (.szs 1) [qka0_81]] <|
.seg [.bind 32 (qka0_81),
.bind 33 (.app .pick [.app (.bin .lss) [.int .i64 0, qka0_82], .app (.rowget 1 0 1 false) [qka0_81, .int .i64 0], .bool false]),
.bind 34 (.app .pick [.app (.bin .lss) [.int .i64 1, qka0_82], .app (.rowget 1 0 1 false) [qka0_81, .int .i64 1], .bool false]),
.bind 35 (.app .pick [.app (.bin .lss) [.int .i64 2, qka0_82], .app (.rowget 1 0 1 false) [qka0_81, .int .i64 2], .bool false]),
.bind 36 (.app .pick [.app (.bin .lss) [.int .i64 3, qka0_82], .app (.rowget 1 0 1 false) [qka0_81, .int .i64 3], .bool false]),
.bind 37 (.app .pick [.app (.bin .lss) [.int .i64 4, qka0_82], .app (.rowget 1 0 1 false) [qka0_81, .int .i64 4], .bool false]),
.bind 38 (.app .pick [.app (.bin .lss) [.int .i64 5, qka0_82], .app (.rowget 1 0 1 false) [qka0_81, .int .i64 5], .bool false]),
.bind 39 (.app .pick [.app (.bin .lss) [.int .i64 6, qka0_82], .app (.rowget 1 0 1 false) [qka0_81, .int .i64 6], .bool false]),
.bind 40 (.app .pick [.app (.bin .lss) [.int .i64 7, qka0_82], .app (.rowget 1 0 1 false) [qka0_81, .int .i64 7], .bool false]),
.bind 41 (.app .pick [.app (.bin .lss) [.int .i64 8, qka0_82], .app (.rowget 1 0 1 false) [qka0_81, .int .i64 8], .bool false]),
.bind 42 (.app .pick [.app (.bin .lss) [.int .i64 9, qka0_82], .app (.rowget 1 0 1 false) [qka0_81, .int .i64 9], .bool false]),
.bind 43 (.app .pick [.app (.bin .lss) [.int .i64 10, qka0_82], .app (.rowget 1 0 1 false) [qka0_81, .int .i64 10], .bool false]),
.bind 44 (.app .pick [.app (.bin .lss) [.int .i64 11, qka0_82], .app (.rowget 1 0 1 false) [qka0_81, .int .i64 11], .bool false])] <|
.seg [.chk [] (.eoff 8) [qka0_79]] <|
.seg [.chk [] (.eload 12 true) [qka0_83]] <|
.seg [.chk [] (.eqa [ none, none, none, none, none, none, none, none, none, none, none, none] true) [qka0_84, qka0_85]] <|
.seg [.bind 45 (qka0_85),
.bind 46 (.app (.eqa [ none, none, none, none, none, none, none, none, none, none, none, none] true) [qka0_84, qka0_85])] <|
.cond (.inp 46)
 (.ret (.bool false))
 (.seg [.chk [] (.eoff 1) [qka0_79]] <|
.seg [.chk [] (.eoff 2) [.ref [.inp 0, .inp 1, .inp 2, .inp 3, .inp 4, .inp 5, .inp 6, .inp 7, .inp 8, .inp 9, .inp 10, .inp 11, .inp 12, .inp 13, .inp 14, .inp 15, .inp 16, .inp 17, .inp 18, .inp 19, .inp 20, .inp 21, .inp 22] 1]] <|
.seg [.chk [] (.eload 1 false) [qka0_86]] <|
.seg [.chk [] (.eoff 4) [qka0_79]] <|
.seg [.chk [] (.eload 1 false) [qka0_87]] <|
.seg [.chk [] .isOne [qka0_88],
.chk [] .isOne [qka0_89],
.chk [] .isOne [qka0_88],
.chk [] .isOne [qka0_89]] <|
.seg [.call 47 [] 70 [qka0_90] false] <|
.seg [.chk [] .len [.inp 47]] <|
.seg [.bind 48 (qka0_88),
.bind 49 (qka0_89),
.bind 50 (qka0_90)] <|
.loop 0 51 [.nils, .int .i64 0] <|
.seg [.chk [] (.bin .lss) [.inp 52, .app .len [.inp 47]]] <|
.cond (.app (.bin .lss) [.inp 52, .app .len [.inp 47]])
 (.seg [.chk [] (.eidx 3) [.inp 47, .inp 52]] <|
.seg [.chk [] (.eload 3 true) [qka0_91]] <|
.seg [.chk [] (.isAgg 3) [qka0_92]] <|
.seg [.chk [] .isOne [qka0_93],
.chk [] .isOne [qka0_93]] <|
.seg [.chk [] (.szs 1) [qka0_94],
.chk [] .app [.inp 51, qka0_94]] <|
.seg [.chk [] (.bin .add) [.inp 52, .int .i64 1]] <|
.again 0 [.app .app [.inp 51, qka0_94], .app (.bin .add) [.inp 52, .int .i64 1]])
 (.seg [.srt 53 (.inp 51)] <|
.seg [.cmp 54 (.inp 53),
.chk [] .len [.inp 54],
.chk [] (.eoff 4) [qka0_79],
.chk [] (.eload 1 false) [qka0_87],
.chk [] .len [qka0_89],
.chk [] (.bin .add) [.app .len [.inp 3], qka0_95],
.chk [] (.bin .lss) [.app .len [.inp 54], qka0_96]] <|
.seg [.bind 55 (qka0_89),
.bind 56 (qka0_95),
.bind 57 (qka0_96),
.bind 58 (.app (.bin .lss) [.app .len [.inp 54], qka0_96])] <|
.cond (.inp 58)
 (.ret (.bool false))
 (.seg [.chk [] (.eoff 5) [qka0_79]] <|
.seg [.chk [] (.eload 1 false) [qka0_97]] <|
.seg [.chk [] .len [qka0_98]] <|
.seg [.bind 59 (qka0_98),
.bind 60 (.app .len [qka0_98])] <|
.loop 0 61 [.int .i64 0] <|
.seg [.chk [] (.bin .lss) [.inp 61, .inp 60]] <|
.cond (.app (.bin .lss) [.inp 61, .inp 60])
 (.seg [.chk [] (.eidx 3) [.inp 59, .inp 61]] <|
.seg [.chk [] (.eload 3 true) [qka0_99]] <|
.seg [.chk [] (.isAgg 3) [qka0_100]] <|
.seg [.chk [] (.bin .lss) [qka0_101, .int .i64 0]] <|
.seg [.chk [(qka0_102, false)] (.bin .gtr) [qka0_101, .app .len [.inp 3]]] <|
.seg [.chk [] .pick [qka0_102, .bool true, qka0_103]] <|
.seg [.chk [(qka0_104, false)] (.bin .lss) [qka0_105, .int .i64 0]] <|
.seg [.chk [] .pick [qka0_104, .bool true, qka0_106]] <|
.seg [.chk [(qka0_107, false)] (.bin .geq) [qka0_105, .int .i64 24]] <|
.seg [.chk [] .pick [qka0_107, .bool true, qka0_108]] <|
.seg [.chk [(qka0_109, false)] (.bin .shr) [qka0_110, .int .u64 1]] <|
.seg [.chk [(qka0_109, false)] (.bin .neq) [qka0_111, .int .i64 0]] <|
.seg [.chk [] .pick [qka0_109, .bool true, qka0_112]] <|
.seg [.bind 62 (qka0_104),
.bind 63 (qka0_107),
.bind 64 (qka0_109),
.bind 65 (.app .pick [qka0_109, .bool true, qka0_112])] <|
.cond (.inp 65)
 (.ret (.bool false))
 (.seg [.chk [] (.bin .add) [.inp 61, .int .i64 1]] <|
.again 0 [.app (.bin .add) [.inp 61, .int .i64 1]]))
 (.ret (.bool true)))))))
theorem run_held_Right : runF E 59 [.agg [.inp 0, .inp 1, .inp 2, .inp 3, .inp 4, .inp 5, .inp 6, .inp 7, .inp 8, .inp 9, .inp 10, .inp 11, .inp 12, .inp 13, .inp 14, .inp 15, .inp 16, .inp 17, .inp 18, .inp 19, .inp 20, .inp 21, .inp 22]] 23 = rt_held_Right := by kernel_rfl

noncomputable def rt_slices_Concat_Step : RT :=
.seg [.chk [] .len [.inp 0]] <|
.loop 0 1 [.int .i64 0, .int .i64 0] <|
.seg [.chk [] (.bin .lss) [.inp 2, .app .len [.inp 0]]] <|
.cond (qka0_37)
 (.seg [.chk [] (.eidx 1) [.inp 0, .inp 2]] <|
.seg [.chk [] (.eload 1 false) [qka0_113]] <|
.seg [.chk [] .len [qka0_114]] <|
.seg [.chk [] (.bin .add) [.inp 1, qka0_115]] <|
.seg [.chk [] (.bin .lss) [qka0_116, .int .i64 0]] <|
.cond (.app (.bin .lss) [qka0_116, .int .i64 0])
 (.dead 6 [.int .i64 9])
 (.seg [.chk [] (.bin .add) [.inp 2, .int .i64 1]] <|
.again 0 [qka0_116, qka0_48]))
 (.seg [.chk [] (.bin .lss) [.inp 1, .int .i64 0]] <|
.cond (.app (.bin .lss) [.inp 1, .int .i64 0])
 (.dead 6 [.int .i64 9])
 (.seg [.chk [] .len [.nils]] <|
.seg [.chk [] (.bin .sub) [.int .i64 0, .int .i64 0]] <|
.seg [.chk [] (.bin .sub) [.inp 1, .int .i64 0]] <|
.seg [.chk [] (.bin .gtr) [qka0_117, .int .i64 0]] <|
.cond (.app (.bin .gtr) [qka0_117, .int .i64 0])
 (.seg [.chk [] .rep [qka0_117, qka0_118]] <|
.seg [.chk [] .len [.nils]] <|
.seg [.chk [] (.slice false true) [qka0_119, .int .i64 0]] <|
.seg [.bind 3 (.app (.slice false true) [qka0_119, .int .i64 0])] <|
.seg [.chk [] .len [.inp 0]] <|
.loop 0 4 [.inp 3, .int .i64 0] <|
.seg [.chk [] (.bin .lss) [.inp 5, .app .len [.inp 0]]] <|
.cond (.app (.bin .lss) [.inp 5, .app .len [.inp 0]])
 (.seg [.chk [] (.eidx 1) [.inp 0, .inp 5]] <|
.seg [.chk [] (.eload 1 false) [qka0_120]] <|
.seg [.chk [] (.szs 3) [qka0_121],
.chk [] .app [.inp 4, qka0_121]] <|
.seg [.chk [] (.bin .add) [.inp 5, .int .i64 1]] <|
.again 0 [.app .app [.inp 4, qka0_121], .app (.bin .add) [.inp 5, .int .i64 1]])
 (.ret (.inp 4)))
 (.seg [.chk [] .len [.inp 0]] <|
.loop 0 3 [.nils, .int .i64 0] <|
.seg [.chk [] (.bin .lss) [.inp 4, .app .len [.inp 0]]] <|
.cond (.app (.bin .lss) [.inp 4, .app .len [.inp 0]])
 (.seg [.chk [] (.eidx 1) [.inp 0, .inp 4]] <|
.seg [.chk [] (.eload 1 false) [qka0_122]] <|
.seg [.chk [] (.szs 3) [qka0_123],
.chk [] .app [.inp 3, qka0_123]] <|
.seg [.chk [] (.bin .add) [.inp 4, .int .i64 1]] <|
.again 0 [.app .app [.inp 3, qka0_123], .app (.bin .add) [.inp 4, .int .i64 1]])
 (.ret (.inp 3)))))
theorem run_slices_Concat_Step : runF E 70 [.inp 0] 1 = rt_slices_Concat_Step := by kernel_rfl

noncomputable def rt_pass_Stands : RT :=
.seg [.chk [] (.isAgg 11) [qka0_7]] <|
.seg [.chk [] (.isAgg 29) [qka0_8]] <|
.seg [.chk [] (.isAgg 23) [qka0_124]] <|
.seg [.call 63 [] 33 [qka0_124] false] <|
.seg [.chk [] .len [.inp 63]] <|
.loop 0 64 [.int .i64 0] <|
.seg [.chk [] (.bin .lss) [.inp 64, .app .len [.inp 63]]] <|
.cond (.app (.bin .lss) [.inp 64, .app .len [.inp 63]])
 (.seg [.chk [] (.eidx 3) [.inp 63, .inp 64]] <|
.seg [.chk [] (.eload 3 true) [qka0_125]] <|
.seg [.chk [] (.isAgg 3) [qka0_126]] <|
.seg [.call 65 [] 31 [qka0_7, qka0_8, .app (.part 0 1 false) [qka0_126]] false,
.chk [] (.bin .neq) [.inp 65, qka0_127]] <|
.cond (.app (.bin .neq) [.inp 65, qka0_127])
 (.seg [.chk [] (.bin .geq) [.inp 64, .int .i64 0]] <|
.seg [.chk [] (.un .not) [qka0_128]] <|
.ret (.app (.un .not) [qka0_128]))
 (.seg [.chk [] (.bin .add) [.inp 64, .int .i64 1]] <|
.again 0 [.app (.bin .add) [.inp 64, .int .i64 1]]))
 (.seg [.chk [] (.bin .geq) [.int .i64 (-1), .int .i64 0]] <|
.seg [.chk [] (.un .not) [.bool false]] <|
.ret (.bool true))
theorem run_pass_Stands : runF E 11 [.agg [.inp 0, .inp 1, .inp 2, .inp 3, .inp 4, .inp 5, .inp 6, .inp 7, .inp 8, .inp 9, .inp 10], .agg [.inp 11, .inp 12, .inp 13, .inp 14, .inp 15, .inp 16, .inp 17, .inp 18, .inp 19, .inp 20, .inp 21, .inp 22, .inp 23, .inp 24, .inp 25, .inp 26, .inp 27, .inp 28, .inp 29, .inp 30, .inp 31, .inp 32, .inp 33, .inp 34, .inp 35, .inp 36, .inp 37, .inp 38, .inp 39], .agg [.inp 40, .inp 41, .inp 42, .inp 43, .inp 44, .inp 45, .inp 46, .inp 47, .inp 48, .inp 49, .inp 50, .inp 51, .inp 52, .inp 53, .inp 54, .inp 55, .inp 56, .inp 57, .inp 58, .inp 59, .inp 60, .inp 61, .inp 62]] 63 = rt_pass_Stands := by kernel_rfl

noncomputable def rt_pass_asleep : RT :=
.seg [.chk [] (.isAgg 11) [qka0_7]] <|
.seg [.chk [] (.isAgg 29) [qka0_8]] <|
.seg [.chk [] (.isAgg 23) [qka0_124]] <|
.seg [.call 63 [] 59 [qka0_124] false] <|
.seg [.chk [] (.un .not) [.inp 63]] <|
.seg [.call 64 [(.app (.un .not) [.inp 63], false)] 51 [qka0_7, qka0_8] false] <|
.seg [.chk [] .pick [.app (.un .not) [.inp 63], .bool true, .inp 64]] <|
.ret (.app .pick [.app (.un .not) [.inp 63], .bool true, .inp 64])
theorem run_pass_asleep : runF E 42 [.agg [.inp 0, .inp 1, .inp 2, .inp 3, .inp 4, .inp 5, .inp 6, .inp 7, .inp 8, .inp 9, .inp 10], .agg [.inp 11, .inp 12, .inp 13, .inp 14, .inp 15, .inp 16, .inp 17, .inp 18, .inp 19, .inp 20, .inp 21, .inp 22, .inp 23, .inp 24, .inp 25, .inp 26, .inp 27, .inp 28, .inp 29, .inp 30, .inp 31, .inp 32, .inp 33, .inp 34, .inp 35, .inp 36, .inp 37, .inp 38, .inp 39], .agg [.inp 40, .inp 41, .inp 42, .inp 43, .inp 44, .inp 45, .inp 46, .inp 47, .inp 48, .inp 49, .inp 50, .inp 51, .inp 52, .inp 53, .inp 54, .inp 55, .inp 56, .inp 57, .inp 58, .inp 59, .inp 60, .inp 61, .inp 62]] 63 = rt_pass_asleep := by kernel_rfl

end Go.Lb.LK
