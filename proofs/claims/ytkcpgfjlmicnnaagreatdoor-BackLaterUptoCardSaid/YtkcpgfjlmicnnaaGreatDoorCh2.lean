/- What functions come to, printed by a program, checked by the kernel. -/
/- What functions come to, printed by a program, checked by the kernel. -/
import Derived.Test.YtkcpgfjlmicnnaaGreatDoorCh1
set_option linter.unusedSimpArgs false
set_option linter.unusedVariables false
namespace Go.Lb.LK
open Go Go.Lb Go.Proofs
@[simp] noncomputable def qka0_0 : SE := .app (.bin .geq) [.inp 0, .int .i64 0]
@[simp] noncomputable def qka0_1 : SE := .app (.bin .lss) [.inp 0, .int .i64 32]
@[simp] noncomputable def qka0_2 : SE := .app .pick [qka0_0, qka0_1, .bool false]
@[simp] noncomputable def qka0_3 : SE := .app (.eload 1 false) [.ref [.inp 1] 0]
@[simp] noncomputable def qka0_4 : SE := .app (.bin .shl) [.int .u32 1, .inp 0]
@[simp] noncomputable def qka0_5 : SE := .app (.bin .and) [qka0_3, qka0_4]
@[simp] noncomputable def qka0_6 : SE := .app (.bin .neq) [qka0_5, .int .u32 0]
@[simp] noncomputable def qka0_7 : SE := .agg [.inp 0, .inp 1, .inp 2, .inp 3, .inp 4, .inp 5, .inp 6, .inp 7, .inp 8, .inp 9, .inp 10]
@[simp] noncomputable def qka0_8 : SE := .agg [.inp 11, .inp 12, .inp 13, .inp 14, .inp 15, .inp 16, .inp 17, .inp 18, .inp 19, .inp 20, .inp 21, .inp 22, .inp 23, .inp 24, .inp 25, .inp 26, .inp 27, .inp 28, .inp 29, .inp 30, .inp 31, .inp 32, .inp 33, .inp 34, .inp 35, .inp 36, .inp 37, .inp 38, .inp 39]
@[simp] noncomputable def qka0_9 : SE := .clo 93 [] [.ref [.inp 36] 0]
@[simp] noncomputable def qka0_10 : SE := .ref [qka0_9] 0
@[simp] noncomputable def qka0_11 : SE := .app (.un .not) [qka0_3]
@[simp] noncomputable def qka0_12 : SE := .app (.mm false) [.app .len [.inp 0], .int .i64 24]
@[simp] noncomputable def qka0_13 : SE := .app (.bin .lss) [.inp 40, qka0_12]
@[simp] noncomputable def qka0_14 : SE := .app .pick [qka0_13, .inp 42, .bool false]
@[simp] noncomputable def qka0_15 : SE := .app (.bin .lss) [.inp 40, .int .i64 0]
@[simp] noncomputable def qka0_16 : SE := .app (.bin .geq) [.inp 40, qka0_12]
@[simp] noncomputable def qka0_17 : SE := .ref [.app (.bin .lss) [.inp 6, .inp 11]] 0
@[simp] noncomputable def qka0_18 : SE := .app (.aidx 24 1 1 1 false) [qka0_8, .inp 40]
@[simp] noncomputable def qka0_19 : SE := .app (.bin .lss) [qka0_18, .inp 4]
@[simp] noncomputable def qka0_20 : SE := .ref [.int .i64 1073741824, .int .i64 65535] 0
@[simp] noncomputable def qka0_21 : SE := .app (.eaidx 2 1) [qka0_20, .inp 0]
@[simp] noncomputable def qka0_22 : SE := .app (.eload 1 false) [qka0_21]
@[simp] noncomputable def qka0_23 : SE := .app (.mm false) [.inp 1, qka0_22]
@[simp] noncomputable def qka0_24 : SE := .app (.mm true) [.inp 2, .int .i64 0]
@[simp] noncomputable def qka0_25 : SE := .app (.bin .sub) [qka0_22, .inp 3]
@[simp] noncomputable def qka0_26 : SE := .app (.mm false) [qka0_24, qka0_25]
@[simp] noncomputable def qka0_27 : SE := .app (.bin .add) [.inp 3, .inp 4]
@[simp] noncomputable def qka0_28 : SE := .agg [.inp 0, .inp 1, .inp 3]
@[simp] noncomputable def qka0_29 : SE := .app .app [.app .lst [], .inp 0]
@[simp] noncomputable def qka0_30 : SE := .app (.bin .lss) [.inp 2, .app .len [.inp 0]]
@[simp] noncomputable def qka0_31 : SE := .app (.eidx 3) [.inp 0, .inp 2]
@[simp] noncomputable def qka0_32 : SE := .app (.eload 3 true) [qka0_31]
@[simp] noncomputable def qka0_33 : SE := .app (.eidx 3) [.inp 1, .inp 3]
@[simp] noncomputable def qka0_34 : SE := .app (.eload 3 true) [qka0_33]
@[simp] noncomputable def qka0_35 : SE := .app (.part 0 1 false) [qka0_32]
@[simp] noncomputable def qka0_36 : SE := .app (.part 1 1 false) [qka0_32]
@[simp] noncomputable def qka0_37 : SE := .app (.part 0 1 false) [qka0_34]
@[simp] noncomputable def qka0_38 : SE := .app (.part 1 1 false) [qka0_34]
@[simp] noncomputable def qka0_39 : SE := .app (.bin .eql) [qka0_35, qka0_37]
@[simp] noncomputable def qka0_40 : SE := .app (.bin .neq) [qka0_36, qka0_38]
@[simp] noncomputable def qka0_41 : SE := .app (.bin .add) [.inp 2, .int .i64 1]
@[simp] noncomputable def qka0_42 : SE := .agg [.inp 0, .inp 1, .inp 2, .inp 3, .inp 4, .inp 5, .inp 6, .inp 7, .inp 8, .inp 9, .inp 10, .inp 11, .inp 12, .inp 13, .inp 14, .inp 15, .inp 16, .inp 17, .inp 18, .inp 19, .inp 20, .inp 21, .inp 22]
@[simp] noncomputable def qka0_43 : SE := .agg [.inp 0, .app (.part 0 1 false) [.inp 23], .app (.part 1 1 false) [.inp 23], .app (.part 2 1 false) [.inp 23], .inp 24, .inp 25, .inp 6, .inp 7, .inp 8, .inp 9, .inp 10, .inp 11, .inp 12, .inp 13, .inp 14, .inp 15, .inp 16, .inp 17, .inp 18, .inp 19, .inp 20, .inp 21, .inp 22]
@[simp] noncomputable def qka0_44 : SE := .app (.bin .lss) [.inp 0, .int .i64 1]
@[simp] noncomputable def qka0_45 : SE := .app (.mm true) [.inp 0, .inp 21]
@[simp] noncomputable def qka0_46 : SE := .app (.bin .gtr) [qka0_45, .int .i64 1073741824]
@[simp] noncomputable def qka0_47 : SE := .app .pick [qka0_44, .bool true, qka0_46]
@[simp] noncomputable def qka0_48 : SE := .app (.bin .lss) [.inp 21, .int .i64 0]
@[simp] noncomputable def qka0_49 : SE := .app .pick [qka0_47, .bool true, qka0_48]
@[simp] noncomputable def qka0_50 : SE := .app (.bin .lss) [.app .len [.inp 3], .int .i64 1]
@[simp] noncomputable def qka0_51 : SE := .app .pick [qka0_49, .bool true, qka0_50]
@[simp] noncomputable def qka0_52 : SE := .app (.bin .gtr) [.app .len [.inp 3], .int .i64 12]
@[simp] noncomputable def qka0_53 : SE := .app .pick [qka0_51, .bool true, qka0_52]
@[simp] noncomputable def qka0_54 : SE := .app (.bin .gtr) [.app .len [.inp 4], .int .i64 2]
@[simp] noncomputable def qka0_55 : SE := .app (.bin .eql) [.inp 6, .int .u8 0]
@[simp] noncomputable def qka0_56 : SE := .app (.bin .geq) [.inp 6, .int .u8 5]
@[simp] noncomputable def qka0_57 : SE := .app .pick [qka0_55, .bool true, qka0_56]
@[simp] noncomputable def qka0_58 : SE := .app (.bin .lss) [.inp 7, .int .i64 0]
@[simp] noncomputable def qka0_59 : SE := .app .pick [qka0_57, .bool true, qka0_58]
@[simp] noncomputable def qka0_60 : SE := .app (.bin .gtr) [.inp 7, .app .len [.inp 3]]
@[simp] noncomputable def qka0_61 : SE := .app .pick [qka0_59, .bool true, qka0_60]
@[simp] noncomputable def qka0_62 : SE := .ref [.inp 0, .inp 1, .inp 2, .inp 3, .inp 4, .inp 5, .inp 6, .inp 7, .inp 8, .inp 9, .inp 10, .inp 11, .inp 12, .inp 13, .inp 14, .inp 15, .inp 16, .inp 17, .inp 18, .inp 19, .inp 20, .inp 21, .inp 22] 0
@[simp] noncomputable def qka0_63 : SE := .app .lst [.inp 8, .inp 9, .inp 10, .inp 11, .inp 12, .inp 13, .inp 14, .inp 15, .inp 16, .inp 17, .inp 18, .inp 19]
@[simp] noncomputable def qka0_64 : SE := .app (.slice false true) [qka0_63, .app .len [.inp 3]]
@[simp] noncomputable def qka0_65 : SE := .app .len [qka0_64]
@[simp] noncomputable def qka0_66 : SE := .ref [.inp 0, .inp 1, .inp 2, .inp 3, .inp 4, .inp 5, .inp 6, .inp 7, .inp 8, .inp 9, .inp 10, .inp 11, .inp 12, .inp 13, .inp 14, .inp 15, .inp 16, .inp 17, .inp 18, .inp 19, .inp 20, .inp 21, .inp 22] 8
@[simp] noncomputable def qka0_67 : SE := .agg [.inp 33, .inp 34, .inp 35, .inp 36, .inp 37, .inp 38, .inp 39, .inp 40, .inp 41, .inp 42, .inp 43, .inp 44]
@[simp] noncomputable def qka0_68 : SE := .app (.eload 12 true) [qka0_66]
@[simp] noncomputable def qka0_69 : SE := .ref [.inp 0, .inp 1, .inp 2, .inp 3, .inp 4, .inp 5, .inp 6, .inp 7, .inp 8, .inp 9, .inp 10, .inp 11, .inp 12, .inp 13, .inp 14, .inp 15, .inp 16, .inp 17, .inp 18, .inp 19, .inp 20, .inp 21, .inp 22] 3
@[simp] noncomputable def qka0_70 : SE := .ref [.inp 0, .inp 1, .inp 2, .inp 3, .inp 4, .inp 5, .inp 6, .inp 7, .inp 8, .inp 9, .inp 10, .inp 11, .inp 12, .inp 13, .inp 14, .inp 15, .inp 16, .inp 17, .inp 18, .inp 19, .inp 20, .inp 21, .inp 22] 4
@[simp] noncomputable def qka0_71 : SE := .app (.eload 1 false) [qka0_69]
@[simp] noncomputable def qka0_72 : SE := .app (.eload 1 false) [qka0_70]
@[simp] noncomputable def qka0_73 : SE := .app .lst [qka0_71, qka0_72]
@[simp] noncomputable def qka0_74 : SE := .app (.eidx 3) [.inp 47, .inp 52]
@[simp] noncomputable def qka0_75 : SE := .app (.eload 3 true) [qka0_74]
@[simp] noncomputable def qka0_76 : SE := .app (.part 0 1 false) [qka0_75]
@[simp] noncomputable def qka0_77 : SE := .app .lst [qka0_76]
@[simp] noncomputable def qka0_78 : SE := .app .len [qka0_72]
@[simp] noncomputable def qka0_79 : SE := .app (.bin .add) [.app .len [.inp 3], qka0_78]
@[simp] noncomputable def qka0_80 : SE := .ref [.inp 0, .inp 1, .inp 2, .inp 3, .inp 4, .inp 5, .inp 6, .inp 7, .inp 8, .inp 9, .inp 10, .inp 11, .inp 12, .inp 13, .inp 14, .inp 15, .inp 16, .inp 17, .inp 18, .inp 19, .inp 20, .inp 21, .inp 22] 5
@[simp] noncomputable def qka0_81 : SE := .app (.eload 1 false) [qka0_80]
@[simp] noncomputable def qka0_82 : SE := .app (.eidx 3) [.inp 59, .inp 61]
@[simp] noncomputable def qka0_83 : SE := .app (.eload 3 true) [qka0_82]
@[simp] noncomputable def qka0_84 : SE := .app (.part 2 1 false) [qka0_83]
@[simp] noncomputable def qka0_85 : SE := .app (.bin .lss) [qka0_84, .int .i64 0]
@[simp] noncomputable def qka0_86 : SE := .app (.bin .gtr) [qka0_84, .app .len [.inp 3]]
@[simp] noncomputable def qka0_87 : SE := .app .pick [qka0_85, .bool true, qka0_86]
@[simp] noncomputable def qka0_88 : SE := .app (.part 0 1 false) [qka0_83]
@[simp] noncomputable def qka0_89 : SE := .app (.bin .lss) [qka0_88, .int .i64 0]
@[simp] noncomputable def qka0_90 : SE := .app .pick [qka0_87, .bool true, qka0_89]
@[simp] noncomputable def qka0_91 : SE := .app (.bin .geq) [qka0_88, .int .i64 24]
@[simp] noncomputable def qka0_92 : SE := .app .pick [qka0_90, .bool true, qka0_91]
@[simp] noncomputable def qka0_93 : SE := .app (.part 1 1 false) [qka0_83]
@[simp] noncomputable def qka0_94 : SE := .app (.bin .shr) [qka0_93, .int .u64 1]
@[simp] noncomputable def qka0_95 : SE := .app (.bin .neq) [qka0_94, .int .i64 0]
@[simp] noncomputable def qka0_96 : SE := .app (.eidx 1) [.inp 0, .inp 2]
@[simp] noncomputable def qka0_97 : SE := .app (.eload 1 false) [qka0_96]
@[simp] noncomputable def qka0_98 : SE := .app .len [qka0_97]
@[simp] noncomputable def qka0_99 : SE := .app (.bin .add) [.inp 1, qka0_98]
@[simp] noncomputable def qka0_100 : SE := .app (.bin .sub) [.inp 1, .int .i64 0]
@[simp] noncomputable def qka0_101 : SE := .agg [.int .i64 0, .int .i64 0, .int .i64 0]
@[simp] noncomputable def qka0_102 : SE := .app .rep [qka0_100, qka0_101]
@[simp] noncomputable def qka0_103 : SE := .app (.eidx 1) [.inp 0, .inp 5]
@[simp] noncomputable def qka0_104 : SE := .app (.eload 1 false) [qka0_103]
@[simp] noncomputable def qka0_105 : SE := .app (.eidx 1) [.inp 0, .inp 4]
@[simp] noncomputable def qka0_106 : SE := .app (.eload 1 false) [qka0_105]
@[simp] noncomputable def qka0_107 : SE := .agg [.inp 40, .inp 41, .inp 42, .inp 43, .inp 44, .inp 45, .inp 46, .inp 47, .inp 48, .inp 49, .inp 50, .inp 51, .inp 52, .inp 53, .inp 54, .inp 55, .inp 56, .inp 57, .inp 58, .inp 59, .inp 60, .inp 61, .inp 62]
noncomputable def rt_slices_Sort_int : RT :=
.seg [.chk [] .len [.nils]] <|
.seg [.chk [] (.conv .u64) [.int .i64 0]] <|
.seg [.call 0 [] 109 [.int .u64 0] false] <|
.loop 0 1 [] <|
.seg [.chk [] (.bin .sub) [.int .i64 0, .int .i64 0]] <|
.seg [.chk [] (.bin .leq) [.int .i64 0, .int .i64 12]] <|
.seg [.chk [] (.bin .add) [.int .i64 0, .int .i64 1]] <|
.loop 1 1 [] <|
.seg [.chk [] (.bin .lss) [.int .i64 1, .int .i64 0]] <|
.ret (.tup [])
theorem run_slices_Sort_int : runF ES 96 [.nils] 0 = rt_slices_Sort_int := by kernel_rfl

noncomputable def rt_image_bit : RT :=
.seg [.chk [] .isOne [.inp 0]] <|
.ret (.clo 93 [] [.ref [.inp 0] 0])
theorem run_image_bit : runF E 82 [.inp 0] 1 = rt_image_bit := by kernel_rfl

noncomputable def rt_image_bit_1 : RT :=
.seg [.chk [] (.bin .geq) [.inp 0, .int .i64 0],
.chk [(qka0_0, true)] (.bin .lss) [.inp 0, .int .i64 32],
.chk [] .pick [qka0_0, qka0_1, .bool false],
.chk [(qka0_2, true)] (.eload 1 false) [.ref [.inp 1] 0],
.chk [(qka0_2, true)] (.bin .shl) [.int .u32 1, .inp 0],
.chk [(qka0_2, true)] (.bin .and) [qka0_3, qka0_4],
.chk [(qka0_2, true)] (.bin .neq) [qka0_5, .int .u32 0],
.chk [] .pick [qka0_2, qka0_6, .bool false]] <|
.seg [.bind 2 (.app .pick [qka0_2, qka0_6, .bool false])] <|
.ret (.inp 2)
theorem run_image_bit_1 : runF E 93 [.inp 0, .ref [.inp 1] 0] 2 = rt_image_bit_1 := by kernel_rfl

noncomputable def rt_image_clear : RT :=
.seg [.chk [] (.isAgg 11) [qka0_7]] <|
.seg [.chk [] (.isAgg 29) [qka0_8]] <|
.seg [.call 40 [] 35 [qka0_7, qka0_8] false,
.call 41 [] 82 [.inp 36] false,
.same 41 [] (qka0_9),
.chk [] .isOne [.inp 40]] <|
.ret (.clo 87 [] [.ref [.inp 40] 0, qka0_10])
theorem run_image_clear : runF E 71 [.agg [.inp 0, .inp 1, .inp 2, .inp 3, .inp 4, .inp 5, .inp 6, .inp 7, .inp 8, .inp 9, .inp 10], .agg [.inp 11, .inp 12, .inp 13, .inp 14, .inp 15, .inp 16, .inp 17, .inp 18, .inp 19, .inp 20, .inp 21, .inp 22, .inp 23, .inp 24, .inp 25, .inp 26, .inp 27, .inp 28, .inp 29, .inp 30, .inp 31, .inp 32, .inp 33, .inp 34, .inp 35, .inp 36, .inp 37, .inp 38, .inp 39]] 40 = rt_image_clear := by kernel_rfl

noncomputable def rt_image_clear_1 : RT :=
.seg [.chk [] (.eload 1 false) [.ref [.inp 1] 0]] <|
.seg [.chk [] (.un .not) [qka0_3]] <|
.seg [.chk [(qka0_11, true)] (.eload 1 false) [.ref [.clo 93 [] [.ref [.inp 2] 0]] 0]] <|
.seg [.call 3 [(qka0_11, true)] 93 [.inp 0, .ref [.inp 2] 0] false] <|
.seg [.chk [(qka0_11, true)] (.un .not) [.inp 3]] <|
.seg [.chk [] .pick [qka0_11, .app (.un .not) [.inp 3], .bool false]] <|
.ret (.app .pick [qka0_11, .app (.un .not) [.inp 3], .bool false])
theorem run_image_clear_1 : runF E 87 [.inp 0, .ref [.inp 1] 0, .ref [.clo 93 [] [.ref [.inp 2] 0]] 0] 3 = rt_image_clear_1 := by kernel_rfl

noncomputable def rt_image_Stale : RT :=
.seg [.chk [] (.isAgg 11) [qka0_7]] <|
.seg [.chk [] (.isAgg 29) [qka0_8]] <|
.seg [.call 40 [] 62 [.inp 11, .inp 6] false] <|
.ret (.inp 40)
theorem run_image_Stale : runF E 35 [.agg [.inp 0, .inp 1, .inp 2, .inp 3, .inp 4, .inp 5, .inp 6, .inp 7, .inp 8, .inp 9, .inp 10], .agg [.inp 11, .inp 12, .inp 13, .inp 14, .inp 15, .inp 16, .inp 17, .inp 18, .inp 19, .inp 20, .inp 21, .inp 22, .inp 23, .inp 24, .inp 25, .inp 26, .inp 27, .inp 28, .inp 29, .inp 30, .inp 31, .inp 32, .inp 33, .inp 34, .inp 35, .inp 36, .inp 37, .inp 38, .inp 39]] 40 = rt_image_Stale := by kernel_rfl

noncomputable def rt_image_Told : RT :=
.seg [.chk [] (.isAgg 11) [qka0_7]] <|
.seg [.chk [] (.isAgg 29) [qka0_8]] <|
.seg [.chk [] .len [.inp 0]] <|
.seg [.chk [] (.mm false) [.app .len [.inp 0], .int .i64 24]] <|
.seg [.chk [] (.bin .lss) [.inp 40, qka0_12]] <|
.seg [.call 41 [(qka0_13, true)] 82 [.inp 36] false,
.same 41 [(qka0_13, true)] (qka0_9)] <|
.seg [.call 42 [(qka0_13, true)] 93 [.inp 40, .ref [.inp 36] 0] false] <|
.seg [.chk [] .pick [qka0_13, .inp 42, .bool false]] <|
.seg [.call 43 [(qka0_14, true)] 35 [qka0_7, qka0_8] false] <|
.seg [.chk [(qka0_14, true)] (.un .not) [.inp 43]] <|
.seg [.chk [] .pick [qka0_14, .app (.un .not) [.inp 43], .bool false]] <|
.seg [.bind 44 (.app .pick [qka0_14, .app (.un .not) [.inp 43], .bool false])] <|
.ret (.inp 44)
theorem run_image_Told : runF E 63 [.agg [.inp 0, .inp 1, .inp 2, .inp 3, .inp 4, .inp 5, .inp 6, .inp 7, .inp 8, .inp 9, .inp 10], .agg [.inp 11, .inp 12, .inp 13, .inp 14, .inp 15, .inp 16, .inp 17, .inp 18, .inp 19, .inp 20, .inp 21, .inp 22, .inp 23, .inp 24, .inp 25, .inp 26, .inp 27, .inp 28, .inp 29, .inp 30, .inp 31, .inp 32, .inp 33, .inp 34, .inp 35, .inp 36, .inp 37, .inp 38, .inp 39], .inp 40] 41 = rt_image_Told := by kernel_rfl

noncomputable def rt_image_Occupied : RT :=
.seg [.chk [] (.isAgg 11) [qka0_7]] <|
.seg [.chk [] (.isAgg 29) [qka0_8]] <|
.seg [.chk [] (.bin .lss) [.inp 40, .int .i64 0]] <|
.seg [.chk [(qka0_15, false)] .len [.inp 0]] <|
.seg [.chk [(qka0_15, false)] (.mm false) [.app .len [.inp 0], .int .i64 24]] <|
.seg [.chk [(qka0_15, false)] (.bin .geq) [.inp 40, qka0_12]] <|
.seg [.chk [] .pick [qka0_15, .bool true, qka0_16]] <|
.seg [.bind 41 (.app .pick [qka0_15, .bool true, qka0_16])] <|
.cond (.inp 41)
 (.ret (.bool true))
 (.seg [.call 42 [] 71 [qka0_7, qka0_8] false,
.same 42 [] (.clo 87 [] [qka0_17, qka0_10]),
.call 43 [] 87 [.inp 40, qka0_17, qka0_10] false,
.chk [] (.un .not) [.inp 43],
.chk [(.app (.un .not) [.inp 43], false)] (.inr 24) [.inp 40],
.chk [(.app (.un .not) [.inp 43], false)] (.aidx 24 1 1 1 false) [qka0_8, .inp 40],
.chk [(.app (.un .not) [.inp 43], false)] (.bin .lss) [qka0_18, .inp 4],
.chk [] .pick [.app (.un .not) [.inp 43], .bool true, qka0_19]] <|
.seg [.bind 44 (.app .pick [.app (.un .not) [.inp 43], .bool true, qka0_19]),
.bind 45 (qka0_18),
.bind 46 (qka0_19)] <|
.ret (.inp 44))
theorem run_image_Occupied : runF E 45 [.agg [.inp 0, .inp 1, .inp 2, .inp 3, .inp 4, .inp 5, .inp 6, .inp 7, .inp 8, .inp 9, .inp 10], .agg [.inp 11, .inp 12, .inp 13, .inp 14, .inp 15, .inp 16, .inp 17, .inp 18, .inp 19, .inp 20, .inp 21, .inp 22, .inp 23, .inp 24, .inp 25, .inp 26, .inp 27, .inp 28, .inp 29, .inp 30, .inp 31, .inp 32, .inp 33, .inp 34, .inp 35, .inp 36, .inp 37, .inp 38, .inp 39], .inp 40] 41 = rt_image_Occupied := by kernel_rfl

noncomputable def rt_tick_Late : RT :=
.seg [.chk [] (.bin .lss) [.inp 1, .inp 0]] <|
.ret (.app (.bin .lss) [.inp 1, .inp 0])
theorem run_tick_Late : runF E 62 [.inp 0, .inp 1] 2 = rt_tick_Late := by kernel_rfl

noncomputable def rt_tick_on : RT :=
.seg [.chk [] .isOne [.inp 1]] <|
.seg [.chk [] (.eaidx 2 1) [qka0_20, .inp 0]] <|
.seg [.chk [] (.eload 1 false) [qka0_21]] <|
.seg [.chk [] (.mm false) [.inp 1, qka0_22]] <|
.seg [.chk [] (.mm true) [.int .i64 0, qka0_23]] <|
.seg [.bind 3 (.app (.mm true) [.int .i64 0, qka0_23])] <|
.seg [.chk [] .isOne [.inp 3]] <|
.seg [.chk [] .isOne [.inp 0]] <|
.seg [.chk [] .isOne [.inp 3]] <|
.seg [.chk [] .isOne [.inp 2]] <|
.seg [.chk [] (.mm true) [.inp 2, .int .i64 0],
.chk [] (.eaidx 2 1) [qka0_20, .inp 0],
.chk [] (.eload 1 false) [qka0_21],
.chk [] (.bin .sub) [qka0_22, .inp 3],
.chk [] (.mm false) [qka0_24, qka0_25],
.chk [] .isOne [qka0_26]] <|
.seg [.bind 4 (qka0_26)] <|
.seg [.chk [] (.bin .gtr) [.inp 4, .int .i64 0]] <|
.cond (.app (.bin .gtr) [.inp 4, .int .i64 0])
 (.seg [.chk [] (.bin .add) [.inp 3, .inp 4]] <|
.seg [.chk [] .isOne [qka0_27]] <|
.ret (qka0_27))
 (.ret (.inp 3))
theorem run_tick_on : runF E 85 [.inp 0, .inp 1, .inp 2] 3 = rt_tick_on := by kernel_rfl

noncomputable def rt_tick_Next : RT :=
.seg [.call 1 [] 85 [.int .i64 0, .inp 0, .int .i64 1] false] <|
.ret (.inp 1)
theorem run_tick_Next : runF E 68 [.inp 0] 1 = rt_tick_Next := by kernel_rfl

noncomputable def rt_route_Own : RT :=
.seg [.chk [] (.isAgg 3) [.agg [.inp 0, .inp 1, .inp 2]]] <|
.seg [.call 3 [] 60 [.inp 2] false] <|
.seg [.chk [] .isOne [.inp 3]] <|
.seg [.chk [] (.isAgg 3) [qka0_28]] <|
.ret (qka0_28)
theorem run_route_Own : runF E 59 [.agg [.inp 0, .inp 1, .inp 2]] 3 = rt_route_Own := by kernel_rfl

noncomputable def rt_slices_Clone_Step : RT :=
.seg [.chk [] .len [.inp 0],
.isNil 1 [] (.inp 0)] <|
.cond (.inp 1)
 (.ret (.nils))
 (.seg [.chk [] (.szs 3) [.inp 0],
.chk [] .app [.app .lst [], .inp 0]] <|
.ret (qka0_29))
theorem run_slices_Clone_Step : runF E 60 [.inp 0] 1 = rt_slices_Clone_Step := by kernel_rfl

noncomputable def rt_slices_Clone_Need : RT :=
.seg [.chk [] .len [.inp 0],
.isNil 1 [] (.inp 0)] <|
.cond (.inp 1)
 (.ret (.nils))
 (.seg [.chk [] (.szs 3) [.inp 0],
.chk [] .app [.app .lst [], .inp 0]] <|
.ret (qka0_29))
theorem run_slices_Clone_Need : runF E 61 [.inp 0] 1 = rt_slices_Clone_Need := by kernel_rfl

noncomputable def rt_held_clash : RT :=
.seg [.chk [] .isOne [.inp 1]] <|
.seg [.chk [] .len [.inp 0]] <|
.loop 0 2 [.int .i64 0] <|
.seg [.chk [] (.bin .lss) [.inp 2, .app .len [.inp 0]]] <|
.cond (qka0_30)
 (.seg [.chk [] (.eidx 3) [.inp 0, .inp 2]] <|
.seg [.chk [] (.eload 3 true) [qka0_31]] <|
.seg [.chk [] (.isAgg 3) [qka0_32]] <|
.seg [.chk [] .len [.inp 1]] <|
.loop 1 3 [.int .i64 0] <|
.seg [.chk [] (.bin .lss) [.inp 3, .app .len [.inp 1]]] <|
.cond (.app (.bin .lss) [.inp 3, .app .len [.inp 1]])
 (.seg [.chk [] (.eidx 3) [.inp 1, .inp 3]] <|
.seg [.chk [] (.eload 3 true) [qka0_33]] <|
.seg [.chk [] (.isAgg 3) [qka0_34]] <|
.seg [.chk [] (.isAgg 3) [.agg [qka0_35, qka0_36, .app (.part 2 1 false) [qka0_32]]]] <|
.seg [.chk [] (.isAgg 3) [.agg [qka0_37, qka0_38, .app (.part 2 1 false) [qka0_34]]]] <|
.seg [.chk [] (.bin .eql) [qka0_35, qka0_37]] <|
.seg [.chk [(qka0_39, true)] (.bin .neq) [qka0_36, qka0_38]] <|
.seg [.chk [] .pick [qka0_39, qka0_40, .bool false]] <|
.seg [.bind 4 (.app .pick [qka0_39, qka0_40, .bool false]),
.bind 5 (qka0_39),
.bind 6 (qka0_40)] <|
.cond (.inp 4)
 (.seg [.chk [] (.bin .geq) [.inp 3, .int .i64 0]] <|
.cond (.app (.bin .geq) [.inp 3, .int .i64 0])
 (.seg [.chk [] (.bin .geq) [.inp 2, .int .i64 0]] <|
.ret (.app (.bin .geq) [.inp 2, .int .i64 0]))
 (.seg [.chk [] (.bin .add) [.inp 2, .int .i64 1]] <|
.again 0 [qka0_41]))
 (.seg [.chk [] (.bin .add) [.inp 3, .int .i64 1]] <|
.again 1 [.app (.bin .add) [.inp 3, .int .i64 1]]))
 (.seg [.chk [] (.bin .geq) [.int .i64 (-1), .int .i64 0]] <|
.seg [.chk [] (.bin .add) [.inp 2, .int .i64 1]] <|
.again 0 [qka0_41]))
 (.seg [.chk [] (.bin .geq) [.int .i64 (-1), .int .i64 0]] <|
.ret (.bool false))
theorem run_held_clash : runF E 94 [.inp 0, .inp 1] 2 = rt_held_clash := by kernel_rfl

noncomputable def rt_held_Own : RT :=
.seg [.chk [] (.isAgg 23) [qka0_42]] <|
.seg [.call 23 [] 59 [.agg [.inp 1, .inp 2, .inp 3]] false,
.call 24 [] 60 [.inp 4] false,
.call 25 [] 61 [.inp 5] false,
.chk [] (.isAgg 3) [.inp 23],
.chk [] .isOne [.inp 24],
.chk [] .isOne [.inp 25]] <|
.seg [.chk [] (.isAgg 23) [qka0_43]] <|
.ret (qka0_43)
theorem run_held_Own : runF E 34 [.agg [.inp 0, .inp 1, .inp 2, .inp 3, .inp 4, .inp 5, .inp 6, .inp 7, .inp 8, .inp 9, .inp 10, .inp 11, .inp 12, .inp 13, .inp 14, .inp 15, .inp 16, .inp 17, .inp 18, .inp 19, .inp 20, .inp 21, .inp 22]] 23 = rt_held_Own := by kernel_rfl

noncomputable def rt_held_Right : RT :=
.seg [.chk [] (.isAgg 23) [qka0_42]] <|
.seg [.chk [] .len [.inp 3]] <|
.seg [.chk [] (.bin .lss) [.inp 0, .int .i64 1]] <|
.seg [.chk [(qka0_44, false)] (.mm true) [.inp 0, .inp 21]] <|
.seg [.chk [(qka0_44, false)] (.bin .gtr) [qka0_45, .int .i64 1073741824]] <|
.seg [.chk [] .pick [qka0_44, .bool true, qka0_46]] <|
.seg [.chk [(qka0_47, false)] (.bin .lss) [.inp 21, .int .i64 0]] <|
.seg [.chk [] .pick [qka0_47, .bool true, qka0_48]] <|
.seg [.chk [(qka0_49, false)] (.bin .lss) [.app .len [.inp 3], .int .i64 1]] <|
.seg [.chk [] .pick [qka0_49, .bool true, qka0_50]] <|
.seg [.chk [(qka0_51, false)] (.bin .gtr) [.app .len [.inp 3], .int .i64 12]] <|
.seg [.chk [] .pick [qka0_51, .bool true, qka0_52]] <|
.seg [.chk [(qka0_53, false)] .len [.inp 4]] <|
.seg [.chk [(qka0_53, false)] (.bin .gtr) [.app .len [.inp 4], .int .i64 2]] <|
.seg [.chk [] .pick [qka0_53, .bool true, qka0_54]] <|
.seg [.bind 23 (qka0_47),
.bind 24 (qka0_49),
.bind 25 (qka0_51),
.bind 26 (qka0_53),
.bind 27 (.app .pick [qka0_53, .bool true, qka0_54])] <|
.cond (.inp 27)
 (.ret (.bool false))
 (.seg [.chk [] (.bin .eql) [.inp 6, .int .u8 0]] <|
.seg [.chk [(qka0_55, false)] (.bin .geq) [.inp 6, .int .u8 5]] <|
.seg [.chk [] .pick [qka0_55, .bool true, qka0_56]] <|
.seg [.chk [(qka0_57, false)] (.bin .lss) [.inp 7, .int .i64 0]] <|
.seg [.chk [] .pick [qka0_57, .bool true, qka0_58]] <|
.seg [.chk [(qka0_59, false)] (.bin .gtr) [.inp 7, .app .len [.inp 3]]] <|
.seg [.chk [] .pick [qka0_59, .bool true, qka0_60]] <|
.seg [.call 28 [(qka0_61, false)] 94 [.inp 5, .inp 5] false] <|
.seg [.chk [] .pick [qka0_61, .bool true, .inp 28]] <|
.seg [.bind 29 (qka0_59),
.bind 30 (qka0_61),
.bind 31 (.app .pick [qka0_61, .bool true, .inp 28])] <|
.cond (.inp 31)
 (.ret (.bool false))
 (.seg [.chk [] (.eoff 8) [qka0_62],
.chk [] (.slice false true) [qka0_63, .app .len [.inp 3]],
.chk [] .isOne [.inp 8],
.chk [] .isOne [.inp 9],
.chk [] .isOne [.inp 10],
.chk [] .isOne [.inp 11],
.chk [] .isOne [.inp 12],
.chk [] .isOne [.inp 13],
.chk [] .isOne [.inp 14],
.chk [] .isOne [.inp 15],
.chk [] .isOne [.inp 16],
.chk [] .isOne [.inp 17],
.chk [] .isOne [.inp 18],
.chk [] .isOne [.inp 19],
.chk [] (.szs 1) [qka0_64]] <|
.seg [.bind 32 (qka0_64),
.bind 33 (.app .pick [.app (.bin .lss) [.int .i64 0, qka0_65], .app (.rowget 1 0 1 false) [qka0_64, .int .i64 0], .bool false]),
.bind 34 (.app .pick [.app (.bin .lss) [.int .i64 1, qka0_65], .app (.rowget 1 0 1 false) [qka0_64, .int .i64 1], .bool false]),
.bind 35 (.app .pick [.app (.bin .lss) [.int .i64 2, qka0_65], .app (.rowget 1 0 1 false) [qka0_64, .int .i64 2], .bool false]),
.bind 36 (.app .pick [.app (.bin .lss) [.int .i64 3, qka0_65], .app (.rowget 1 0 1 false) [qka0_64, .int .i64 3], .bool false]),
.bind 37 (.app .pick [.app (.bin .lss) [.int .i64 4, qka0_65], .app (.rowget 1 0 1 false) [qka0_64, .int .i64 4], .bool false]),
.bind 38 (.app .pick [.app (.bin .lss) [.int .i64 5, qka0_65], .app (.rowget 1 0 1 false) [qka0_64, .int .i64 5], .bool false]),
.bind 39 (.app .pick [.app (.bin .lss) [.int .i64 6, qka0_65], .app (.rowget 1 0 1 false) [qka0_64, .int .i64 6], .bool false]),
.bind 40 (.app .pick [.app (.bin .lss) [.int .i64 7, qka0_65], .app (.rowget 1 0 1 false) [qka0_64, .int .i64 7], .bool false]),
.bind 41 (.app .pick [.app (.bin .lss) [.int .i64 8, qka0_65], .app (.rowget 1 0 1 false) [qka0_64, .int .i64 8], .bool false]),
.bind 42 (.app .pick [.app (.bin .lss) [.int .i64 9, qka0_65], .app (.rowget 1 0 1 false) [qka0_64, .int .i64 9], .bool false]),
.bind 43 (.app .pick [.app (.bin .lss) [.int .i64 10, qka0_65], .app (.rowget 1 0 1 false) [qka0_64, .int .i64 10], .bool false]),
.bind 44 (.app .pick [.app (.bin .lss) [.int .i64 11, qka0_65], .app (.rowget 1 0 1 false) [qka0_64, .int .i64 11], .bool false])] <|
.seg [.chk [] (.eoff 8) [qka0_62]] <|
.seg [.chk [] (.eload 12 true) [qka0_66]] <|
.seg [.chk [] (.eqa [ none, none, none, none, none, none, none, none, none, none, none, none] true) [qka0_67, qka0_68]] <|
.seg [.bind 45 (qka0_68),
.bind 46 (.app (.eqa [ none, none, none, none, none, none, none, none, none, none, none, none] true) [qka0_67, qka0_68])] <|
.cond (.inp 46)
 (.ret (.bool false))
 (.seg [.chk [] (.eoff 1) [qka0_62]] <|
.seg [.chk [] (.eoff 2) [.ref [.inp 0, .inp 1, .inp 2, .inp 3, .inp 4, .inp 5, .inp 6, .inp 7, .inp 8, .inp 9, .inp 10, .inp 11, .inp 12, .inp 13, .inp 14, .inp 15, .inp 16, .inp 17, .inp 18, .inp 19, .inp 20, .inp 21, .inp 22] 1]] <|
.seg [.chk [] (.eload 1 false) [qka0_69]] <|
.seg [.chk [] (.eoff 4) [qka0_62]] <|
.seg [.chk [] (.eload 1 false) [qka0_70]] <|
.seg [.chk [] .isOne [qka0_71],
.chk [] .isOne [qka0_72],
.chk [] .isOne [qka0_71],
.chk [] .isOne [qka0_72]] <|
.seg [.call 47 [] 95 [qka0_73] false] <|
.seg [.chk [] .len [.inp 47]] <|
.seg [.bind 48 (qka0_71),
.bind 49 (qka0_72),
.bind 50 (qka0_73)] <|
.loop 0 51 [.nils, .int .i64 0] <|
.seg [.chk [] (.bin .lss) [.inp 52, .app .len [.inp 47]]] <|
.cond (.app (.bin .lss) [.inp 52, .app .len [.inp 47]])
 (.seg [.chk [] (.eidx 3) [.inp 47, .inp 52]] <|
.seg [.chk [] (.eload 3 true) [qka0_74]] <|
.seg [.chk [] (.isAgg 3) [qka0_75]] <|
.seg [.chk [] .isOne [qka0_76],
.chk [] .isOne [qka0_76]] <|
.seg [.chk [] (.szs 1) [qka0_77],
.chk [] .app [.inp 51, qka0_77]] <|
.seg [.chk [] (.bin .add) [.inp 52, .int .i64 1]] <|
.again 0 [.app .app [.inp 51, qka0_77], .app (.bin .add) [.inp 52, .int .i64 1]])
 (.seg [.srt 53 (.inp 51)] <|
.seg [.cmp 54 (.inp 53),
.chk [] .len [.inp 54],
.chk [] (.eoff 4) [qka0_62],
.chk [] (.eload 1 false) [qka0_70],
.chk [] .len [qka0_72],
.chk [] (.bin .add) [.app .len [.inp 3], qka0_78],
.chk [] (.bin .lss) [.app .len [.inp 54], qka0_79]] <|
.seg [.bind 55 (qka0_72),
.bind 56 (qka0_78),
.bind 57 (qka0_79),
.bind 58 (.app (.bin .lss) [.app .len [.inp 54], qka0_79])] <|
.cond (.inp 58)
 (.ret (.bool false))
 (.seg [.chk [] (.eoff 5) [qka0_62]] <|
.seg [.chk [] (.eload 1 false) [qka0_80]] <|
.seg [.chk [] .len [qka0_81]] <|
.seg [.bind 59 (qka0_81),
.bind 60 (.app .len [qka0_81])] <|
.loop 0 61 [.int .i64 0] <|
.seg [.chk [] (.bin .lss) [.inp 61, .inp 60]] <|
.cond (.app (.bin .lss) [.inp 61, .inp 60])
 (.seg [.chk [] (.eidx 3) [.inp 59, .inp 61]] <|
.seg [.chk [] (.eload 3 true) [qka0_82]] <|
.seg [.chk [] (.isAgg 3) [qka0_83]] <|
.seg [.chk [] (.bin .lss) [qka0_84, .int .i64 0]] <|
.seg [.chk [(qka0_85, false)] (.bin .gtr) [qka0_84, .app .len [.inp 3]]] <|
.seg [.chk [] .pick [qka0_85, .bool true, qka0_86]] <|
.seg [.chk [(qka0_87, false)] (.bin .lss) [qka0_88, .int .i64 0]] <|
.seg [.chk [] .pick [qka0_87, .bool true, qka0_89]] <|
.seg [.chk [(qka0_90, false)] (.bin .geq) [qka0_88, .int .i64 24]] <|
.seg [.chk [] .pick [qka0_90, .bool true, qka0_91]] <|
.seg [.chk [(qka0_92, false)] (.bin .shr) [qka0_93, .int .u64 1]] <|
.seg [.chk [(qka0_92, false)] (.bin .neq) [qka0_94, .int .i64 0]] <|
.seg [.chk [] .pick [qka0_92, .bool true, qka0_95]] <|
.seg [.bind 62 (qka0_87),
.bind 63 (qka0_90),
.bind 64 (qka0_92),
.bind 65 (.app .pick [qka0_92, .bool true, qka0_95])] <|
.cond (.inp 65)
 (.ret (.bool false))
 (.seg [.chk [] (.bin .add) [.inp 61, .int .i64 1]] <|
.again 0 [.app (.bin .add) [.inp 61, .int .i64 1]]))
 (.ret (.bool true)))))))
theorem run_held_Right : runF E 83 [.agg [.inp 0, .inp 1, .inp 2, .inp 3, .inp 4, .inp 5, .inp 6, .inp 7, .inp 8, .inp 9, .inp 10, .inp 11, .inp 12, .inp 13, .inp 14, .inp 15, .inp 16, .inp 17, .inp 18, .inp 19, .inp 20, .inp 21, .inp 22]] 23 = rt_held_Right := by kernel_rfl

noncomputable def rt_slices_Concat_Step : RT :=
.seg [.chk [] .len [.inp 0]] <|
.loop 0 1 [.int .i64 0, .int .i64 0] <|
.seg [.chk [] (.bin .lss) [.inp 2, .app .len [.inp 0]]] <|
.cond (qka0_30)
 (.seg [.chk [] (.eidx 1) [.inp 0, .inp 2]] <|
.seg [.chk [] (.eload 1 false) [qka0_96]] <|
.seg [.chk [] .len [qka0_97]] <|
.seg [.chk [] (.bin .add) [.inp 1, qka0_98]] <|
.seg [.chk [] (.bin .lss) [qka0_99, .int .i64 0]] <|
.cond (.app (.bin .lss) [qka0_99, .int .i64 0])
 (.dead 6 [.int .i64 9])
 (.seg [.chk [] (.bin .add) [.inp 2, .int .i64 1]] <|
.again 0 [qka0_99, qka0_41]))
 (.seg [.chk [] (.bin .lss) [.inp 1, .int .i64 0]] <|
.cond (.app (.bin .lss) [.inp 1, .int .i64 0])
 (.dead 6 [.int .i64 9])
 (.seg [.chk [] .len [.nils]] <|
.seg [.chk [] (.bin .sub) [.int .i64 0, .int .i64 0]] <|
.seg [.chk [] (.bin .sub) [.inp 1, .int .i64 0]] <|
.seg [.chk [] (.bin .gtr) [qka0_100, .int .i64 0]] <|
.cond (.app (.bin .gtr) [qka0_100, .int .i64 0])
 (.seg [.chk [] .rep [qka0_100, qka0_101]] <|
.seg [.chk [] .len [.nils]] <|
.seg [.chk [] (.slice false true) [qka0_102, .int .i64 0]] <|
.seg [.bind 3 (.app (.slice false true) [qka0_102, .int .i64 0])] <|
.seg [.chk [] .len [.inp 0]] <|
.loop 0 4 [.inp 3, .int .i64 0] <|
.seg [.chk [] (.bin .lss) [.inp 5, .app .len [.inp 0]]] <|
.cond (.app (.bin .lss) [.inp 5, .app .len [.inp 0]])
 (.seg [.chk [] (.eidx 1) [.inp 0, .inp 5]] <|
.seg [.chk [] (.eload 1 false) [qka0_103]] <|
.seg [.chk [] (.szs 3) [qka0_104],
.chk [] .app [.inp 4, qka0_104]] <|
.seg [.chk [] (.bin .add) [.inp 5, .int .i64 1]] <|
.again 0 [.app .app [.inp 4, qka0_104], .app (.bin .add) [.inp 5, .int .i64 1]])
 (.ret (.inp 4)))
 (.seg [.chk [] .len [.inp 0]] <|
.loop 0 3 [.nils, .int .i64 0] <|
.seg [.chk [] (.bin .lss) [.inp 4, .app .len [.inp 0]]] <|
.cond (.app (.bin .lss) [.inp 4, .app .len [.inp 0]])
 (.seg [.chk [] (.eidx 1) [.inp 0, .inp 4]] <|
.seg [.chk [] (.eload 1 false) [qka0_105]] <|
.seg [.chk [] (.szs 3) [qka0_106],
.chk [] .app [.inp 3, qka0_106]] <|
.seg [.chk [] (.bin .add) [.inp 4, .int .i64 1]] <|
.again 0 [.app .app [.inp 3, qka0_106], .app (.bin .add) [.inp 4, .int .i64 1]])
 (.ret (.inp 3)))))
theorem run_slices_Concat_Step : runF E 95 [.inp 0] 1 = rt_slices_Concat_Step := by kernel_rfl

noncomputable def rt_pass_asleep : RT :=
.seg [.chk [] (.isAgg 11) [qka0_7]] <|
.seg [.chk [] (.isAgg 29) [qka0_8]] <|
.seg [.chk [] (.isAgg 23) [qka0_107]] <|
.seg [.call 63 [] 83 [qka0_107] false] <|
.seg [.chk [] (.un .not) [.inp 63]] <|
.seg [.call 64 [(.app (.un .not) [.inp 63], false)] 35 [qka0_7, qka0_8] false] <|
.seg [.chk [] .pick [.app (.un .not) [.inp 63], .bool true, .inp 64]] <|
.ret (.app .pick [.app (.un .not) [.inp 63], .bool true, .inp 64])
theorem run_pass_asleep : runF E 66 [.agg [.inp 0, .inp 1, .inp 2, .inp 3, .inp 4, .inp 5, .inp 6, .inp 7, .inp 8, .inp 9, .inp 10], .agg [.inp 11, .inp 12, .inp 13, .inp 14, .inp 15, .inp 16, .inp 17, .inp 18, .inp 19, .inp 20, .inp 21, .inp 22, .inp 23, .inp 24, .inp 25, .inp 26, .inp 27, .inp 28, .inp 29, .inp 30, .inp 31, .inp 32, .inp 33, .inp 34, .inp 35, .inp 36, .inp 37, .inp 38, .inp 39], .agg [.inp 40, .inp 41, .inp 42, .inp 43, .inp 44, .inp 45, .inp 46, .inp 47, .inp 48, .inp 49, .inp 50, .inp 51, .inp 52, .inp 53, .inp 54, .inp 55, .inp 56, .inp 57, .inp 58, .inp 59, .inp 60, .inp 61, .inp 62]] 63 = rt_pass_asleep := by kernel_rfl

end Go.Lb.LK

namespace Go.Lb.LK
open Go Go.Lb Go.Proofs
@[simp] noncomputable def qka1_0 : SE := .agg [.inp 0, .inp 1, .inp 2, .inp 3, .inp 4, .inp 5, .inp 6, .inp 7, .inp 8, .inp 9, .inp 10]
@[simp] noncomputable def qka1_1 : SE := .agg [.inp 11, .inp 12, .inp 13, .inp 14, .inp 15, .inp 16, .inp 17, .inp 18, .inp 19, .inp 20, .inp 21, .inp 22, .inp 23, .inp 24, .inp 25, .inp 26, .inp 27, .inp 28, .inp 29, .inp 30, .inp 31, .inp 32, .inp 33, .inp 34, .inp 35, .inp 36, .inp 37, .inp 38, .inp 39]
@[simp] noncomputable def qka1_2 : SE := .agg [.inp 40, .inp 41, .inp 42, .inp 43, .inp 44, .inp 45, .inp 46, .inp 47, .inp 48, .inp 49, .inp 50, .inp 51, .inp 52, .inp 53, .inp 54, .inp 55, .inp 56, .inp 57, .inp 58, .inp 59, .inp 60, .inp 61, .inp 62]
@[simp] noncomputable def qka1_3 : SE := .app (.part 3 1 false) [.inp 63]
@[simp] noncomputable def qka1_4 : SE := .app .len [qka1_3]
@[simp] noncomputable def qka1_5 : SE := .app (.part 8 1 false) [.inp 63]
@[simp] noncomputable def qka1_6 : SE := .app (.part 9 1 false) [.inp 63]
@[simp] noncomputable def qka1_7 : SE := .app (.part 10 1 false) [.inp 63]
@[simp] noncomputable def qka1_8 : SE := .app (.part 11 1 false) [.inp 63]
@[simp] noncomputable def qka1_9 : SE := .app (.part 12 1 false) [.inp 63]
@[simp] noncomputable def qka1_10 : SE := .app (.part 13 1 false) [.inp 63]
@[simp] noncomputable def qka1_11 : SE := .app (.part 14 1 false) [.inp 63]
@[simp] noncomputable def qka1_12 : SE := .app (.part 15 1 false) [.inp 63]
@[simp] noncomputable def qka1_13 : SE := .app (.part 16 1 false) [.inp 63]
@[simp] noncomputable def qka1_14 : SE := .app (.part 17 1 false) [.inp 63]
@[simp] noncomputable def qka1_15 : SE := .app (.part 18 1 false) [.inp 63]
@[simp] noncomputable def qka1_16 : SE := .app (.part 19 1 false) [.inp 63]
@[simp] noncomputable def qka1_17 : SE := .agg [qka1_5, qka1_6, qka1_7, qka1_8, qka1_9, qka1_10, qka1_11, qka1_12, qka1_13, qka1_14, qka1_15, qka1_16]
@[simp] noncomputable def qka1_18 : SE := .app (.part 0 1 false) [.inp 63]
@[simp] noncomputable def qka1_19 : SE := .app (.part 1 1 false) [.inp 63]
@[simp] noncomputable def qka1_20 : SE := .app (.part 2 1 false) [.inp 63]
@[simp] noncomputable def qka1_21 : SE := .app (.part 4 1 false) [.inp 63]
@[simp] noncomputable def qka1_22 : SE := .app (.part 5 1 false) [.inp 63]
@[simp] noncomputable def qka1_23 : SE := .app (.part 6 1 false) [.inp 63]
@[simp] noncomputable def qka1_24 : SE := .app (.part 7 1 false) [.inp 63]
@[simp] noncomputable def qka1_25 : SE := .app (.part 20 1 false) [.inp 63]
@[simp] noncomputable def qka1_26 : SE := .app (.part 21 1 false) [.inp 63]
@[simp] noncomputable def qka1_27 : SE := .app (.part 22 1 false) [.inp 63]
@[simp] noncomputable def qka1_28 : SE := .agg [qka1_18, qka1_19, qka1_20, qka1_3, qka1_21, qka1_22, qka1_23, qka1_24, qka1_5, qka1_6, qka1_7, qka1_8, qka1_9, qka1_10, qka1_11, qka1_12, qka1_13, qka1_14, qka1_15, qka1_16, qka1_25, qka1_26, qka1_27]
@[simp] noncomputable def qka1_29 : SE := .app (.eidx 3) [qka1_3, .inp 65]
@[simp] noncomputable def qka1_30 : SE := .app (.eoff 0) [qka1_29]
@[simp] noncomputable def qka1_31 : SE := .agg [.inp 66, .inp 67, .inp 68, .inp 69, .inp 70, .inp 71, .inp 72, .inp 73, .inp 74, .inp 75, .inp 76, .inp 77]
@[simp] noncomputable def qka1_32 : SE := .app (.bin .eql) [.inp 65, .int .i64 0]
@[simp] noncomputable def qka1_33 : SE := .app (.bin .sub) [.inp 65, .int .i64 1]
@[simp] noncomputable def qka1_34 : SE := .app (.aidx 12 1 0 1 false) [qka1_31, qka1_33]
@[simp] noncomputable def qka1_35 : SE := .app .pick [qka1_32, .bool true, qka1_34]
@[simp] noncomputable def qka1_36 : SE := .app (.bin .add) [.inp 65, .int .i64 1]
@[simp] noncomputable def qka1_37 : SE := .app .pick [.inp 78, qka1_35, .bool false]
@[simp] noncomputable def qka1_38 : SE := .agg [qka1_37]
@[simp] noncomputable def qka1_39 : SE := .app (.bin .sub) [qka1_4, .int .i64 1]
@[simp] noncomputable def qka1_40 : SE := .app (.bin .leq) [qka1_24, qka1_39]
@[simp] noncomputable def qka1_41 : SE := .app (.aidx 12 1 0 1 false) [qka1_31, qka1_24]
@[simp] noncomputable def qka1_42 : SE := .app .pick [qka1_40, qka1_41, .bool false]
@[simp] noncomputable def qka1_43 : SE := .app (.bin .eql) [qka1_24, qka1_39]
@[simp] noncomputable def qka1_44 : SE := .app (.bin .add) [qka1_24, .int .i64 1]
@[simp] noncomputable def qka1_45 : SE := .app (.aidx 12 1 0 1 false) [qka1_31, qka1_44]
@[simp] noncomputable def qka1_46 : SE := .app .pick [qka1_43, .bool true, qka1_45]
@[simp] noncomputable def qka1_47 : SE := .app .pick [qka1_42, qka1_46, .bool false]
@[simp] noncomputable def qka1_48 : SE := .app (.eidx 3) [qka1_3, qka1_24]
@[simp] noncomputable def qka1_49 : SE := .app (.eoff 0) [qka1_48]
@[simp] noncomputable def qka1_50 : SE := .app (.eload 1 false) [qka1_49]
@[simp] noncomputable def qka1_51 : SE := .app (.aidx 12 1 0 1 false) [qka1_31, qka1_39]
@[simp] noncomputable def qka1_52 : SE := .app (.bin .geq) [.inp 85, .inp 8]
@[simp] noncomputable def qka1_53 : SE := .app .pick [qka1_25, .bool true, qka1_52]
@[simp] noncomputable def qka1_54 : SE := .app (.bin .gtr) [qka1_24, qka1_39]
@[simp] noncomputable def qka1_55 : SE := .app .pick [qka1_53, .bool true, qka1_54]
@[simp] noncomputable def qka1_56 : SE := .agg [qka1_18, qka1_19, qka1_20, qka1_3, qka1_21, qka1_22, qka1_23, qka1_24, .inp 66, .inp 67, .inp 68, .inp 69, .inp 70, .inp 71, .inp 72, .inp 73, .inp 74, .inp 75, .inp 76, .inp 77, .inp 86, .inp 85, qka1_27]
@[simp] noncomputable def qka1_57 : SE := .app .pick [qka1_25, .bool true, qka1_54]
@[simp] noncomputable def qka1_58 : SE := .agg [qka1_18, qka1_19, qka1_20, qka1_3, qka1_21, qka1_22, qka1_23, qka1_24, .inp 66, .inp 67, .inp 68, .inp 69, .inp 70, .inp 71, .inp 72, .inp 73, .inp 74, .inp 75, .inp 76, .inp 77, .inp 85, qka1_26, qka1_27]
@[simp] noncomputable def qka1_59 : SE := .app (.bin .leq) [.inp 95, qka1_39]
@[simp] noncomputable def qka1_60 : SE := .app (.aidx 12 1 0 1 false) [qka1_31, .inp 95]
@[simp] noncomputable def qka1_61 : SE := .app .pick [qka1_59, qka1_60, .bool false]
@[simp] noncomputable def qka1_62 : SE := .app (.bin .eql) [.inp 95, qka1_39]
@[simp] noncomputable def qka1_63 : SE := .app (.bin .add) [.inp 95, .int .i64 1]
@[simp] noncomputable def qka1_64 : SE := .app (.aidx 12 1 0 1 false) [qka1_31, qka1_63]
@[simp] noncomputable def qka1_65 : SE := .app .pick [qka1_62, .bool true, qka1_64]
@[simp] noncomputable def qka1_66 : SE := .app .pick [qka1_61, qka1_65, .bool false]
@[simp] noncomputable def qka1_67 : SE := .app (.eidx 3) [qka1_3, .inp 95]
@[simp] noncomputable def qka1_68 : SE := .app (.eoff 0) [qka1_67]
@[simp] noncomputable def qka1_69 : SE := .app (.eload 1 false) [qka1_68]
@[simp] noncomputable def qka1_70 : SE := .app (.bin .geq) [.inp 102, .inp 8]
@[simp] noncomputable def qka1_71 : SE := .app .pick [qka1_25, .bool true, qka1_70]
@[simp] noncomputable def qka1_72 : SE := .app (.bin .gtr) [.inp 95, qka1_39]
@[simp] noncomputable def qka1_73 : SE := .app .pick [qka1_71, .bool true, qka1_72]
@[simp] noncomputable def qka1_74 : SE := .agg [qka1_18, qka1_19, qka1_20, qka1_3, qka1_21, qka1_22, qka1_23, .inp 95, .inp 66, .inp 67, .inp 68, .inp 69, .inp 70, .inp 71, .inp 72, .inp 73, .inp 74, .inp 75, .inp 76, .inp 77, .inp 103, .inp 102, qka1_27]
@[simp] noncomputable def qka1_75 : SE := .app .pick [qka1_25, .bool true, qka1_72]
@[simp] noncomputable def qka1_76 : SE := .agg [qka1_18, qka1_19, qka1_20, qka1_3, qka1_21, qka1_22, qka1_23, .inp 95, .inp 66, .inp 67, .inp 68, .inp 69, .inp 70, .inp 71, .inp 72, .inp 73, .inp 74, .inp 75, .inp 76, .inp 77, .inp 102, qka1_26, qka1_27]
@[simp] noncomputable def qka1_77 : SE := .app (.bin .geq) [.inp 101, .inp 8]
@[simp] noncomputable def qka1_78 : SE := .app .pick [qka1_25, .bool true, qka1_77]
@[simp] noncomputable def qka1_79 : SE := .app .pick [qka1_78, .bool true, qka1_72]
@[simp] noncomputable def qka1_80 : SE := .agg [qka1_18, qka1_19, qka1_20, qka1_3, qka1_21, qka1_22, qka1_23, .inp 95, .inp 66, .inp 67, .inp 68, .inp 69, .inp 70, .inp 71, .inp 72, .inp 73, .inp 74, .inp 75, .inp 76, .inp 77, .inp 102, .inp 101, qka1_27]
@[simp] noncomputable def qka1_81 : SE := .agg [qka1_18, qka1_19, qka1_20, qka1_3, qka1_21, qka1_22, qka1_23, .inp 95, .inp 66, .inp 67, .inp 68, .inp 69, .inp 70, .inp 71, .inp 72, .inp 73, .inp 74, .inp 75, .inp 76, .inp 77, .inp 101, qka1_26, qka1_27]
@[simp] noncomputable def qka1_82 : SE := .app (.bin .geq) [.inp 84, .inp 8]
@[simp] noncomputable def qka1_83 : SE := .app .pick [qka1_25, .bool true, qka1_82]
@[simp] noncomputable def qka1_84 : SE := .app .pick [qka1_83, .bool true, qka1_54]
@[simp] noncomputable def qka1_85 : SE := .agg [qka1_18, qka1_19, qka1_20, qka1_3, qka1_21, qka1_22, qka1_23, qka1_24, .inp 66, .inp 67, .inp 68, .inp 69, .inp 70, .inp 71, .inp 72, .inp 73, .inp 74, .inp 75, .inp 76, .inp 77, .inp 85, .inp 84, qka1_27]
@[simp] noncomputable def qka1_86 : SE := .agg [qka1_18, qka1_19, qka1_20, qka1_3, qka1_21, qka1_22, qka1_23, qka1_24, .inp 66, .inp 67, .inp 68, .inp 69, .inp 70, .inp 71, .inp 72, .inp 73, .inp 74, .inp 75, .inp 76, .inp 77, .inp 84, qka1_26, qka1_27]
@[simp] noncomputable def qka1_87 : SE := .agg [qka1_18, qka1_19, qka1_20, qka1_3, qka1_21, qka1_22, qka1_23, qka1_24, qka1_5, qka1_6, qka1_7, qka1_8, qka1_9, qka1_10, qka1_11, qka1_12, qka1_13, qka1_14, qka1_15, qka1_16, .inp 86, .inp 85, qka1_27]
@[simp] noncomputable def qka1_88 : SE := .agg [qka1_18, qka1_19, qka1_20, qka1_3, qka1_21, qka1_22, qka1_23, qka1_24, qka1_5, qka1_6, qka1_7, qka1_8, qka1_9, qka1_10, qka1_11, qka1_12, qka1_13, qka1_14, qka1_15, qka1_16, .inp 85, qka1_26, qka1_27]
@[simp] noncomputable def qka1_89 : SE := .agg [qka1_18, qka1_19, qka1_20, qka1_3, qka1_21, qka1_22, qka1_23, .inp 95, qka1_5, qka1_6, qka1_7, qka1_8, qka1_9, qka1_10, qka1_11, qka1_12, qka1_13, qka1_14, qka1_15, qka1_16, .inp 103, .inp 102, qka1_27]
@[simp] noncomputable def qka1_90 : SE := .agg [qka1_18, qka1_19, qka1_20, qka1_3, qka1_21, qka1_22, qka1_23, .inp 95, qka1_5, qka1_6, qka1_7, qka1_8, qka1_9, qka1_10, qka1_11, qka1_12, qka1_13, qka1_14, qka1_15, qka1_16, .inp 102, qka1_26, qka1_27]
@[simp] noncomputable def qka1_91 : SE := .agg [qka1_18, qka1_19, qka1_20, qka1_3, qka1_21, qka1_22, qka1_23, .inp 95, qka1_5, qka1_6, qka1_7, qka1_8, qka1_9, qka1_10, qka1_11, qka1_12, qka1_13, qka1_14, qka1_15, qka1_16, .inp 102, .inp 101, qka1_27]
@[simp] noncomputable def qka1_92 : SE := .agg [qka1_18, qka1_19, qka1_20, qka1_3, qka1_21, qka1_22, qka1_23, .inp 95, qka1_5, qka1_6, qka1_7, qka1_8, qka1_9, qka1_10, qka1_11, qka1_12, qka1_13, qka1_14, qka1_15, qka1_16, .inp 101, qka1_26, qka1_27]
@[simp] noncomputable def qka1_93 : SE := .agg [qka1_18, qka1_19, qka1_20, qka1_3, qka1_21, qka1_22, qka1_23, qka1_24, qka1_5, qka1_6, qka1_7, qka1_8, qka1_9, qka1_10, qka1_11, qka1_12, qka1_13, qka1_14, qka1_15, qka1_16, .inp 85, .inp 84, qka1_27]
@[simp] noncomputable def qka1_94 : SE := .agg [qka1_18, qka1_19, qka1_20, qka1_3, qka1_21, qka1_22, qka1_23, qka1_24, qka1_5, qka1_6, qka1_7, qka1_8, qka1_9, qka1_10, qka1_11, qka1_12, qka1_13, qka1_14, qka1_15, qka1_16, .inp 84, qka1_26, qka1_27]
@[simp] noncomputable def qka1_95 : SE := .app (.mm true) [.inp 0, .int .i64 0]
@[simp] noncomputable def qka1_96 : SE := .app (.bin .add) [.inp 1, .int .i64 1]
@[simp] noncomputable def qka1_97 : SE := .app (.bin .add) [.inp 2, .inp 3]
@[simp] noncomputable def qka1_98 : SE := .agg [.inp 0, .inp 1, .inp 2]
@[simp] noncomputable def qka1_99 : SE := .app (.bin .lss) [.inp 2, .app .len [.inp 0]]
@[simp] noncomputable def qka1_100 : SE := .app (.eidx 3) [.inp 0, .inp 2]
@[simp] noncomputable def qka1_101 : SE := .app (.eidx 3) [.inp 1, .inp 2]
@[simp] noncomputable def qka1_102 : SE := .app (.eload 3 true) [qka1_100]
@[simp] noncomputable def qka1_103 : SE := .app (.eload 3 true) [qka1_101]
@[simp] noncomputable def qka1_104 : SE := .app (.bin .add) [.inp 2, .int .i64 1]
@[simp] noncomputable def qka1_105 : SE := .app (.bin .eql) [.inp 0, .inp 3]
@[simp] noncomputable def qka1_106 : SE := .app (.bin .eql) [.inp 1, .inp 4]
@[simp] noncomputable def qka1_107 : SE := .app .pick [qka1_105, qka1_106, .bool false]
@[simp] noncomputable def qka1_108 : SE := .app (.bin .geq) [.inp 1, .int .i64 0]
@[simp] noncomputable def qka1_109 : SE := .app (.bin .lss) [.inp 1, .int .i64 32]
@[simp] noncomputable def qka1_110 : SE := .app .pick [qka1_108, qka1_109, .bool false]
@[simp] noncomputable def qka1_111 : SE := .app (.bin .shr) [.inp 0, .app (.conv .u64) [.inp 1]]
@[simp] noncomputable def qka1_112 : SE := .app (.bin .and) [qka1_111, .int .u32 1]
@[simp] noncomputable def qka1_113 : SE := .app (.bin .eql) [qka1_112, .int .u32 1]
@[simp] noncomputable def qka1_114 : SE := .app (.bin .lss) [.inp 40, .int .i64 24]
@[simp] noncomputable def qka1_115 : SE := .agg [.inp 11, .inp 41, .inp 42, .inp 43, .inp 44, .inp 45, .inp 46, .inp 47, .inp 48, .inp 49, .inp 50, .inp 51, .inp 52, .inp 53, .inp 54, .inp 55, .inp 56, .inp 57, .inp 58, .inp 59, .inp 60, .inp 61, .inp 62, .inp 63, .inp 64, .inp 36, .inp 37, .inp 38, .inp 39]
@[simp] noncomputable def qka1_116 : SE := .app (.aidx 24 1 1 1 false) [qka1_115, .inp 40]
@[simp] noncomputable def qka1_117 : SE := .agg [.inp 40, .inp 41, .inp 42, .inp 43]
@[simp] noncomputable def qka1_118 : SE := .app (.bin .lss) [.inp 40, .int .i64 0]
@[simp] noncomputable def qka1_119 : SE := .app (.bin .geq) [.inp 40, .app .len [.inp 0]]
@[simp] noncomputable def qka1_120 : SE := .app .pick [qka1_118, .bool true, qka1_119]
@[simp] noncomputable def qka1_121 : SE := .app (.bin .geq) [.inp 40, .int .i64 24]
@[simp] noncomputable def qka1_122 : SE := .app .pick [.inp 42, .bool true, .inp 43]
@[simp] noncomputable def qka1_123 : SE := .app (.aidx 24 1 1 1 false) [qka1_1, .inp 40]
@[simp] noncomputable def qka1_124 : SE := .app (.bin .lss) [qka1_123, .inp 4]
@[simp] noncomputable def qka1_125 : SE := .app (.bin .geq) [.inp 40, .int .i64 0]
@[simp] noncomputable def qka1_126 : SE := .app (.bin .lss) [.inp 40, .app .len [.inp 0]]
@[simp] noncomputable def qka1_127 : SE := .app .pick [qka1_125, qka1_126, .bool false]
@[simp] noncomputable def qka1_128 : SE := .app .pick [qka1_127, qka1_114, .bool false]
@[simp] noncomputable def qka1_129 : SE := .app .pick [qka1_128, .app (.un .not) [.inp 41], .bool false]
@[simp] noncomputable def qka1_130 : SE := .app (.eoff 0) [qka1_100]
@[simp] noncomputable def qka1_131 : SE := .app (.eidx 3) [.inp 1, .inp 3]
@[simp] noncomputable def qka1_132 : SE := .app (.eoff 0) [qka1_131]
@[simp] noncomputable def qka1_133 : SE := .app (.eload 1 false) [qka1_130]
@[simp] noncomputable def qka1_134 : SE := .app (.eload 1 false) [qka1_132]
@[simp] noncomputable def qka1_135 : SE := .app (.bin .eql) [qka1_133, qka1_134]
@[simp] noncomputable def qka1_136 : SE := .app (.eoff 1) [qka1_100]
@[simp] noncomputable def qka1_137 : SE := .app (.eoff 1) [qka1_131]
@[simp] noncomputable def qka1_138 : SE := .app (.eload 1 false) [qka1_136]
@[simp] noncomputable def qka1_139 : SE := .app (.eload 1 false) [qka1_137]
@[simp] noncomputable def qka1_140 : SE := .app (.bin .neq) [qka1_138, qka1_139]
noncomputable def rt_pass_Run : RT :=
.seg [.chk [] (.isAgg 11) [qka1_0]] <|
.seg [.chk [] (.isAgg 29) [qka1_1]] <|
.seg [.chk [] (.isAgg 23) [qka1_2]] <|
.seg [.call 63 [] 34 [qka1_2] false] <|
.seg [.chk [] (.isAgg 23) [.inp 63]] <|
.seg [.chk [] .len [qka1_3]] <|
.seg [.chk [] (.bin .sub) [qka1_4, .int .i64 1]] <|
.seg [.chk [] (.isAgg 12) [qka1_17]] <|
.seg [.call 64 [] 66 [qka1_0, qka1_1, qka1_28] false] <|
.cond (.inp 64)
 (.seg [.chk [] (.isAgg 23) [qka1_28]] <|
.ret (qka1_28))
 (.seg [.chk [] (.isAgg 23) [qka1_28]] <|
.loop 0 65 [qka1_24, qka1_5, qka1_6, qka1_7, qka1_8, qka1_9, qka1_10, qka1_11, qka1_12, qka1_13, qka1_14, qka1_15, qka1_16] <|
.seg [.chk [] .len [qka1_3]] <|
.seg [.chk [] (.bin .lss) [.inp 65, qka1_4]] <|
.cond (.app (.bin .lss) [.inp 65, qka1_4])
 (.seg [.chk [] (.eidx 3) [qka1_3, .inp 65]] <|
.seg [.chk [] (.eoff 0) [qka1_29]] <|
.seg [.chk [] (.eload 1 false) [qka1_30]] <|
.seg [.chk [] (.inr 12) [.inp 65]] <|
.seg [.chk [] (.aidx 12 1 0 1 false) [qka1_31, .inp 65]] <|
.cond (.app (.aidx 12 1 0 1 false) [qka1_31, .inp 65])
 (.seg [.chk [(.undef, true)] (.bin .eql) [.inp 65, .int .i64 0]] <|
.seg [.chk [(qka1_32, false), (.undef, true)] (.bin .sub) [.inp 65, .int .i64 1]] <|
.seg [.chk [(qka1_32, false), (.undef, true)] (.inr 12) [qka1_33]] <|
.seg [.chk [(qka1_32, false), (.undef, true)] (.aidx 12 1 0 1 false) [qka1_31, qka1_33]] <|
.seg [.chk [(.undef, true)] .pick [qka1_32, .bool true, qka1_34]] <|
.seg [.chk [] (.inr 12) [.inp 65]] <|
.seg [.chk [] (.inr 12) [.inp 65]] <|
.seg [.bind 78 (qka1_34),
.bind 79 (qka1_35)] <|
.seg [.chk [] (.un .not) [.bool true]] <|
.seg [.chk [] (.bin .add) [.inp 65, .int .i64 1]] <|
.again 0 [qka1_36, .app (.cellset 0 12 1 0 1 0) [.inp 65, .inp 66, .agg [.bool true]], .app (.cellset 0 12 1 0 1 1) [.inp 65, .inp 67, .agg [.bool true]], .app (.cellset 0 12 1 0 1 2) [.inp 65, .inp 68, .agg [.bool true]], .app (.cellset 0 12 1 0 1 3) [.inp 65, .inp 69, .agg [.bool true]], .app (.cellset 0 12 1 0 1 4) [.inp 65, .inp 70, .agg [.bool true]], .app (.cellset 0 12 1 0 1 5) [.inp 65, .inp 71, .agg [.bool true]], .app (.cellset 0 12 1 0 1 6) [.inp 65, .inp 72, .agg [.bool true]], .app (.cellset 0 12 1 0 1 7) [.inp 65, .inp 73, .agg [.bool true]], .app (.cellset 0 12 1 0 1 8) [.inp 65, .inp 74, .agg [.bool true]], .app (.cellset 0 12 1 0 1 9) [.inp 65, .inp 75, .agg [.bool true]], .app (.cellset 0 12 1 0 1 10) [.inp 65, .inp 76, .agg [.bool true]], .app (.cellset 0 12 1 0 1 11) [.inp 65, .inp 77, .agg [.bool true]]])
 (.seg [.call 78 [] 63 [qka1_0, qka1_1, .app (.eload 1 false) [qka1_30]] false] <|
.seg [.chk [(.inp 78, true)] (.bin .eql) [.inp 65, .int .i64 0]] <|
.seg [.chk [(qka1_32, false), (.inp 78, true)] (.bin .sub) [.inp 65, .int .i64 1]] <|
.seg [.chk [(qka1_32, false), (.inp 78, true)] (.inr 12) [qka1_33]] <|
.seg [.chk [(qka1_32, false), (.inp 78, true)] (.aidx 12 1 0 1 false) [qka1_31, qka1_33]] <|
.seg [.chk [(.inp 78, true)] .pick [qka1_32, .bool true, qka1_34]] <|
.seg [.chk [] .pick [.inp 78, qka1_35, .bool false]] <|
.seg [.chk [] (.inr 12) [.inp 65]] <|
.seg [.chk [] (.inr 12) [.inp 65],
.chk [] .isOne [qka1_37]] <|
.seg [.bind 79 (qka1_34),
.bind 80 (qka1_35),
.bind 81 (qka1_37),
.bind 82 (.app (.cellset 0 12 1 0 1 0) [.inp 65, .inp 66, qka1_38]),
.bind 83 (.app (.cellset 0 12 1 0 1 1) [.inp 65, .inp 67, qka1_38]),
.bind 84 (.app (.cellset 0 12 1 0 1 2) [.inp 65, .inp 68, qka1_38]),
.bind 85 (.app (.cellset 0 12 1 0 1 3) [.inp 65, .inp 69, qka1_38]),
.bind 86 (.app (.cellset 0 12 1 0 1 4) [.inp 65, .inp 70, qka1_38]),
.bind 87 (.app (.cellset 0 12 1 0 1 5) [.inp 65, .inp 71, qka1_38]),
.bind 88 (.app (.cellset 0 12 1 0 1 6) [.inp 65, .inp 72, qka1_38]),
.bind 89 (.app (.cellset 0 12 1 0 1 7) [.inp 65, .inp 73, qka1_38]),
.bind 90 (.app (.cellset 0 12 1 0 1 8) [.inp 65, .inp 74, qka1_38]),
.bind 91 (.app (.cellset 0 12 1 0 1 9) [.inp 65, .inp 75, qka1_38]),
.bind 92 (.app (.cellset 0 12 1 0 1 10) [.inp 65, .inp 76, qka1_38]),
.bind 93 (.app (.cellset 0 12 1 0 1 11) [.inp 65, .inp 77, qka1_38])] <|
.seg [.chk [] (.un .not) [.bool true]] <|
.seg [.chk [] (.bin .add) [.inp 65, .int .i64 1]] <|
.again 0 [qka1_36, .inp 82, .inp 83, .inp 84, .inp 85, .inp 86, .inp 87, .inp 88, .inp 89, .inp 90, .inp 91, .inp 92, .inp 93]))
 (.seg [.chk [] (.eqa [ none, none, none, none, none, none, none, none, none, none, none, none] true) [qka1_31, qka1_17]] <|
.seg [.bind 78 (.app (.eqa [ none, none, none, none, none, none, none, none, none, none, none, none] true) [qka1_31, qka1_17])] <|
.cond (.inp 78)
 (.seg [.chk [] (.isAgg 12) [qka1_31]] <|
.seg [.chk [] (.bin .leq) [qka1_24, qka1_39]] <|
.seg [.chk [(qka1_40, true)] (.inr 12) [qka1_24]] <|
.seg [.chk [(qka1_40, true)] (.aidx 12 1 0 1 false) [qka1_31, qka1_24]] <|
.seg [.chk [] .pick [qka1_40, qka1_41, .bool false]] <|
.seg [.chk [(qka1_42, true)] (.bin .eql) [qka1_24, qka1_39]] <|
.seg [.chk [(qka1_43, false), (qka1_42, true)] (.bin .add) [qka1_24, .int .i64 1]] <|
.seg [.chk [(qka1_43, false), (qka1_42, true)] (.inr 12) [qka1_44]] <|
.seg [.chk [(qka1_43, false), (qka1_42, true)] (.aidx 12 1 0 1 false) [qka1_31, qka1_44]] <|
.seg [.chk [(qka1_42, true)] .pick [qka1_43, .bool true, qka1_45]] <|
.seg [.chk [] .pick [qka1_42, qka1_46, .bool false]] <|
.seg [.chk [(qka1_47, true)] (.eidx 3) [qka1_3, qka1_24]] <|
.seg [.chk [(qka1_47, true)] (.eoff 0) [qka1_48]] <|
.seg [.chk [(qka1_47, true)] (.eload 1 false) [qka1_49]] <|
.cond (qka1_47)
 (.seg [.call 79 [] 45 [qka1_0, qka1_1, qka1_50] false] <|
.seg [.chk [] (.un .not) [.inp 79]] <|
.seg [.bind 80 (qka1_41),
.bind 81 (qka1_42),
.bind 82 (qka1_45),
.bind 83 (qka1_46)] <|
.cond (.inp 79)
 (.seg [.chk [] (.inr 12) [qka1_39]] <|
.seg [.chk [] (.aidx 12 1 0 1 false) [qka1_31, qka1_39]] <|
.seg [.bind 84 (qka1_51)] <|
.cond (.inp 84)
 (.seg [.call 85 [] 68 [qka1_26] false] <|
.seg [.chk [] .isOne [.inp 85]] <|
.seg [.chk [(qka1_25, false)] (.bin .geq) [.inp 85, .inp 8]] <|
.seg [.chk [] .pick [qka1_25, .bool true, qka1_52]] <|
.seg [.chk [] .isOne [qka1_53]] <|
.seg [.chk [(qka1_53, false)] (.bin .gtr) [qka1_24, qka1_39]] <|
.seg [.chk [] .pick [qka1_53, .bool true, qka1_54]] <|
.seg [.chk [] .isOne [qka1_55]] <|
.seg [.bind 86 (qka1_55)] <|
.seg [.chk [] (.isAgg 23) [qka1_56]] <|
.ret (qka1_56))
 (.seg [.chk [(qka1_25, false)] (.bin .gtr) [qka1_24, qka1_39]] <|
.seg [.chk [] .pick [qka1_25, .bool true, qka1_54]] <|
.seg [.chk [] .isOne [qka1_57]] <|
.seg [.bind 85 (qka1_57)] <|
.seg [.chk [] (.isAgg 23) [qka1_58]] <|
.ret (qka1_58)))
 (.seg [.chk [] (.bin .add) [qka1_24, .int .i64 1]] <|
.seg [.chk [] .isOne [qka1_44]] <|
.loop 0 84 [qka1_24, qka1_40, qka1_40, .inp 81, .inp 81, qka1_24, qka1_48, qka1_49, qka1_50, qka1_24, qka1_44, qka1_44] <|
.seg [.chk [] (.bin .leq) [.inp 95, qka1_39]] <|
.seg [.chk [(qka1_59, true)] (.inr 12) [.inp 95]] <|
.seg [.chk [(qka1_59, true)] (.aidx 12 1 0 1 false) [qka1_31, .inp 95]] <|
.seg [.chk [] .pick [qka1_59, qka1_60, .bool false]] <|
.seg [.chk [(qka1_61, true)] (.bin .eql) [.inp 95, qka1_39]] <|
.seg [.chk [(qka1_62, false), (qka1_61, true)] (.bin .add) [.inp 95, .int .i64 1]] <|
.seg [.chk [(qka1_62, false), (qka1_61, true)] (.inr 12) [qka1_63]] <|
.seg [.chk [(qka1_62, false), (qka1_61, true)] (.aidx 12 1 0 1 false) [qka1_31, qka1_63]] <|
.seg [.chk [(qka1_61, true)] .pick [qka1_62, .bool true, qka1_64]] <|
.seg [.chk [] .pick [qka1_61, qka1_65, .bool false]] <|
.seg [.chk [(qka1_66, true)] (.eidx 3) [qka1_3, .inp 95]] <|
.seg [.chk [(qka1_66, true)] (.eoff 0) [qka1_67]] <|
.seg [.chk [(qka1_66, true)] (.eload 1 false) [qka1_68]] <|
.cond (qka1_66)
 (.seg [.call 96 [] 45 [qka1_0, qka1_1, qka1_69] false] <|
.seg [.chk [] (.un .not) [.inp 96]] <|
.seg [.bind 97 (qka1_60),
.bind 98 (qka1_61),
.bind 99 (qka1_64),
.bind 100 (qka1_65)] <|
.cond (.inp 96)
 (.seg [.chk [] (.inr 12) [qka1_39]] <|
.seg [.chk [] (.aidx 12 1 0 1 false) [qka1_31, qka1_39]] <|
.seg [.bind 101 (qka1_51)] <|
.cond (.inp 101)
 (.seg [.call 102 [] 68 [qka1_26] false] <|
.seg [.chk [] .isOne [.inp 102]] <|
.seg [.chk [(qka1_25, false)] (.bin .geq) [.inp 102, .inp 8]] <|
.seg [.chk [] .pick [qka1_25, .bool true, qka1_70]] <|
.seg [.chk [] .isOne [qka1_71]] <|
.seg [.chk [(qka1_71, false)] (.bin .gtr) [.inp 95, qka1_39]] <|
.seg [.chk [] .pick [qka1_71, .bool true, qka1_72]] <|
.seg [.chk [] .isOne [qka1_73]] <|
.seg [.bind 103 (qka1_73)] <|
.seg [.chk [] (.isAgg 23) [qka1_74]] <|
.ret (qka1_74))
 (.seg [.chk [(qka1_25, false)] (.bin .gtr) [.inp 95, qka1_39]] <|
.seg [.chk [] .pick [qka1_25, .bool true, qka1_72]] <|
.seg [.chk [] .isOne [qka1_75]] <|
.seg [.bind 102 (qka1_75)] <|
.seg [.chk [] (.isAgg 23) [qka1_76]] <|
.ret (qka1_76)))
 (.seg [.chk [] (.bin .add) [.inp 95, .int .i64 1]] <|
.seg [.chk [] .isOne [qka1_63]] <|
.again 0 [.inp 95, qka1_59, qka1_59, .inp 98, .inp 98, .inp 95, qka1_67, qka1_68, qka1_69, .inp 95, qka1_63, qka1_63]))
 (.seg [.bind 96 (qka1_60),
.bind 97 (qka1_61),
.bind 98 (qka1_64),
.bind 99 (qka1_65)] <|
.seg [.chk [] (.inr 12) [qka1_39]] <|
.seg [.chk [] (.aidx 12 1 0 1 false) [qka1_31, qka1_39]] <|
.seg [.bind 100 (qka1_51)] <|
.cond (.inp 100)
 (.seg [.call 101 [] 68 [qka1_26] false] <|
.seg [.chk [] .isOne [.inp 101]] <|
.seg [.chk [(qka1_25, false)] (.bin .geq) [.inp 101, .inp 8]] <|
.seg [.chk [] .pick [qka1_25, .bool true, qka1_77]] <|
.seg [.chk [] .isOne [qka1_78]] <|
.seg [.chk [(qka1_78, false)] (.bin .gtr) [.inp 95, qka1_39]] <|
.seg [.chk [] .pick [qka1_78, .bool true, qka1_72]] <|
.seg [.chk [] .isOne [qka1_79]] <|
.seg [.bind 102 (qka1_79)] <|
.seg [.chk [] (.isAgg 23) [qka1_80]] <|
.ret (qka1_80))
 (.seg [.chk [(qka1_25, false)] (.bin .gtr) [.inp 95, qka1_39]] <|
.seg [.chk [] .pick [qka1_25, .bool true, qka1_72]] <|
.seg [.chk [] .isOne [qka1_75]] <|
.seg [.bind 101 (qka1_75)] <|
.seg [.chk [] (.isAgg 23) [qka1_81]] <|
.ret (qka1_81)))))
 (.seg [.bind 79 (qka1_41),
.bind 80 (qka1_42),
.bind 81 (qka1_45),
.bind 82 (qka1_46)] <|
.seg [.chk [] (.inr 12) [qka1_39]] <|
.seg [.chk [] (.aidx 12 1 0 1 false) [qka1_31, qka1_39]] <|
.seg [.bind 83 (qka1_51)] <|
.cond (.inp 83)
 (.seg [.call 84 [] 68 [qka1_26] false] <|
.seg [.chk [] .isOne [.inp 84]] <|
.seg [.chk [(qka1_25, false)] (.bin .geq) [.inp 84, .inp 8]] <|
.seg [.chk [] .pick [qka1_25, .bool true, qka1_82]] <|
.seg [.chk [] .isOne [qka1_83]] <|
.seg [.chk [(qka1_83, false)] (.bin .gtr) [qka1_24, qka1_39]] <|
.seg [.chk [] .pick [qka1_83, .bool true, qka1_54]] <|
.seg [.chk [] .isOne [qka1_84]] <|
.seg [.bind 85 (qka1_84)] <|
.seg [.chk [] (.isAgg 23) [qka1_85]] <|
.ret (qka1_85))
 (.seg [.chk [(qka1_25, false)] (.bin .gtr) [qka1_24, qka1_39]] <|
.seg [.chk [] .pick [qka1_25, .bool true, qka1_54]] <|
.seg [.chk [] .isOne [qka1_57]] <|
.seg [.bind 84 (qka1_57)] <|
.seg [.chk [] (.isAgg 23) [qka1_86]] <|
.ret (qka1_86))))
 (.seg [.chk [] (.bin .leq) [qka1_24, qka1_39]] <|
.seg [.chk [(qka1_40, true)] (.inr 12) [qka1_24]] <|
.seg [.chk [(qka1_40, true)] (.aidx 12 1 0 1 false) [qka1_31, qka1_24]] <|
.seg [.chk [] .pick [qka1_40, qka1_41, .bool false]] <|
.seg [.chk [(qka1_42, true)] (.bin .eql) [qka1_24, qka1_39]] <|
.seg [.chk [(qka1_43, false), (qka1_42, true)] (.bin .add) [qka1_24, .int .i64 1]] <|
.seg [.chk [(qka1_43, false), (qka1_42, true)] (.inr 12) [qka1_44]] <|
.seg [.chk [(qka1_43, false), (qka1_42, true)] (.aidx 12 1 0 1 false) [qka1_31, qka1_44]] <|
.seg [.chk [(qka1_42, true)] .pick [qka1_43, .bool true, qka1_45]] <|
.seg [.chk [] .pick [qka1_42, qka1_46, .bool false]] <|
.seg [.chk [(qka1_47, true)] (.eidx 3) [qka1_3, qka1_24]] <|
.seg [.chk [(qka1_47, true)] (.eoff 0) [qka1_48]] <|
.seg [.chk [(qka1_47, true)] (.eload 1 false) [qka1_49]] <|
.cond (qka1_47)
 (.seg [.call 79 [] 45 [qka1_0, qka1_1, qka1_50] false] <|
.seg [.chk [] (.un .not) [.inp 79]] <|
.seg [.bind 80 (qka1_41),
.bind 81 (qka1_42),
.bind 82 (qka1_45),
.bind 83 (qka1_46)] <|
.cond (.inp 79)
 (.seg [.chk [] (.inr 12) [qka1_39]] <|
.seg [.chk [] (.aidx 12 1 0 1 false) [qka1_31, qka1_39]] <|
.seg [.bind 84 (qka1_51)] <|
.cond (.inp 84)
 (.seg [.call 85 [] 68 [qka1_26] false] <|
.seg [.chk [] .isOne [.inp 85]] <|
.seg [.chk [(qka1_25, false)] (.bin .geq) [.inp 85, .inp 8]] <|
.seg [.chk [] .pick [qka1_25, .bool true, qka1_52]] <|
.seg [.chk [] .isOne [qka1_53]] <|
.seg [.chk [(qka1_53, false)] (.bin .gtr) [qka1_24, qka1_39]] <|
.seg [.chk [] .pick [qka1_53, .bool true, qka1_54]] <|
.seg [.chk [] .isOne [qka1_55]] <|
.seg [.bind 86 (qka1_55)] <|
.seg [.chk [] (.isAgg 23) [qka1_87]] <|
.ret (qka1_87))
 (.seg [.chk [(qka1_25, false)] (.bin .gtr) [qka1_24, qka1_39]] <|
.seg [.chk [] .pick [qka1_25, .bool true, qka1_54]] <|
.seg [.chk [] .isOne [qka1_57]] <|
.seg [.bind 85 (qka1_57)] <|
.seg [.chk [] (.isAgg 23) [qka1_88]] <|
.ret (qka1_88)))
 (.seg [.chk [] (.bin .add) [qka1_24, .int .i64 1]] <|
.seg [.chk [] .isOne [qka1_44]] <|
.loop 0 84 [qka1_24, qka1_40, qka1_40, .inp 81, .inp 81, qka1_24, qka1_48, qka1_49, qka1_50, qka1_24, qka1_44, qka1_44] <|
.seg [.chk [] (.bin .leq) [.inp 95, qka1_39]] <|
.seg [.chk [(qka1_59, true)] (.inr 12) [.inp 95]] <|
.seg [.chk [(qka1_59, true)] (.aidx 12 1 0 1 false) [qka1_31, .inp 95]] <|
.seg [.chk [] .pick [qka1_59, qka1_60, .bool false]] <|
.seg [.chk [(qka1_61, true)] (.bin .eql) [.inp 95, qka1_39]] <|
.seg [.chk [(qka1_62, false), (qka1_61, true)] (.bin .add) [.inp 95, .int .i64 1]] <|
.seg [.chk [(qka1_62, false), (qka1_61, true)] (.inr 12) [qka1_63]] <|
.seg [.chk [(qka1_62, false), (qka1_61, true)] (.aidx 12 1 0 1 false) [qka1_31, qka1_63]] <|
.seg [.chk [(qka1_61, true)] .pick [qka1_62, .bool true, qka1_64]] <|
.seg [.chk [] .pick [qka1_61, qka1_65, .bool false]] <|
.seg [.chk [(qka1_66, true)] (.eidx 3) [qka1_3, .inp 95]] <|
.seg [.chk [(qka1_66, true)] (.eoff 0) [qka1_67]] <|
.seg [.chk [(qka1_66, true)] (.eload 1 false) [qka1_68]] <|
.cond (qka1_66)
 (.seg [.call 96 [] 45 [qka1_0, qka1_1, qka1_69] false] <|
.seg [.chk [] (.un .not) [.inp 96]] <|
.seg [.bind 97 (qka1_60),
.bind 98 (qka1_61),
.bind 99 (qka1_64),
.bind 100 (qka1_65)] <|
.cond (.inp 96)
 (.seg [.chk [] (.inr 12) [qka1_39]] <|
.seg [.chk [] (.aidx 12 1 0 1 false) [qka1_31, qka1_39]] <|
.seg [.bind 101 (qka1_51)] <|
.cond (.inp 101)
 (.seg [.call 102 [] 68 [qka1_26] false] <|
.seg [.chk [] .isOne [.inp 102]] <|
.seg [.chk [(qka1_25, false)] (.bin .geq) [.inp 102, .inp 8]] <|
.seg [.chk [] .pick [qka1_25, .bool true, qka1_70]] <|
.seg [.chk [] .isOne [qka1_71]] <|
.seg [.chk [(qka1_71, false)] (.bin .gtr) [.inp 95, qka1_39]] <|
.seg [.chk [] .pick [qka1_71, .bool true, qka1_72]] <|
.seg [.chk [] .isOne [qka1_73]] <|
.seg [.bind 103 (qka1_73)] <|
.seg [.chk [] (.isAgg 23) [qka1_89]] <|
.ret (qka1_89))
 (.seg [.chk [(qka1_25, false)] (.bin .gtr) [.inp 95, qka1_39]] <|
.seg [.chk [] .pick [qka1_25, .bool true, qka1_72]] <|
.seg [.chk [] .isOne [qka1_75]] <|
.seg [.bind 102 (qka1_75)] <|
.seg [.chk [] (.isAgg 23) [qka1_90]] <|
.ret (qka1_90)))
 (.seg [.chk [] (.bin .add) [.inp 95, .int .i64 1]] <|
.seg [.chk [] .isOne [qka1_63]] <|
.again 0 [.inp 95, qka1_59, qka1_59, .inp 98, .inp 98, .inp 95, qka1_67, qka1_68, qka1_69, .inp 95, qka1_63, qka1_63]))
 (.seg [.bind 96 (qka1_60),
.bind 97 (qka1_61),
.bind 98 (qka1_64),
.bind 99 (qka1_65)] <|
.seg [.chk [] (.inr 12) [qka1_39]] <|
.seg [.chk [] (.aidx 12 1 0 1 false) [qka1_31, qka1_39]] <|
.seg [.bind 100 (qka1_51)] <|
.cond (.inp 100)
 (.seg [.call 101 [] 68 [qka1_26] false] <|
.seg [.chk [] .isOne [.inp 101]] <|
.seg [.chk [(qka1_25, false)] (.bin .geq) [.inp 101, .inp 8]] <|
.seg [.chk [] .pick [qka1_25, .bool true, qka1_77]] <|
.seg [.chk [] .isOne [qka1_78]] <|
.seg [.chk [(qka1_78, false)] (.bin .gtr) [.inp 95, qka1_39]] <|
.seg [.chk [] .pick [qka1_78, .bool true, qka1_72]] <|
.seg [.chk [] .isOne [qka1_79]] <|
.seg [.bind 102 (qka1_79)] <|
.seg [.chk [] (.isAgg 23) [qka1_91]] <|
.ret (qka1_91))
 (.seg [.chk [(qka1_25, false)] (.bin .gtr) [.inp 95, qka1_39]] <|
.seg [.chk [] .pick [qka1_25, .bool true, qka1_72]] <|
.seg [.chk [] .isOne [qka1_75]] <|
.seg [.bind 101 (qka1_75)] <|
.seg [.chk [] (.isAgg 23) [qka1_92]] <|
.ret (qka1_92)))))
 (.seg [.bind 79 (qka1_41),
.bind 80 (qka1_42),
.bind 81 (qka1_45),
.bind 82 (qka1_46)] <|
.seg [.chk [] (.inr 12) [qka1_39]] <|
.seg [.chk [] (.aidx 12 1 0 1 false) [qka1_31, qka1_39]] <|
.seg [.bind 83 (qka1_51)] <|
.cond (.inp 83)
 (.seg [.call 84 [] 68 [qka1_26] false] <|
.seg [.chk [] .isOne [.inp 84]] <|
.seg [.chk [(qka1_25, false)] (.bin .geq) [.inp 84, .inp 8]] <|
.seg [.chk [] .pick [qka1_25, .bool true, qka1_82]] <|
.seg [.chk [] .isOne [qka1_83]] <|
.seg [.chk [(qka1_83, false)] (.bin .gtr) [qka1_24, qka1_39]] <|
.seg [.chk [] .pick [qka1_83, .bool true, qka1_54]] <|
.seg [.chk [] .isOne [qka1_84]] <|
.seg [.bind 85 (qka1_84)] <|
.seg [.chk [] (.isAgg 23) [qka1_93]] <|
.ret (qka1_93))
 (.seg [.chk [(qka1_25, false)] (.bin .gtr) [qka1_24, qka1_39]] <|
.seg [.chk [] .pick [qka1_25, .bool true, qka1_54]] <|
.seg [.chk [] .isOne [qka1_57]] <|
.seg [.bind 84 (qka1_57)] <|
.seg [.chk [] (.isAgg 23) [qka1_94]] <|
.ret (qka1_94))))))
theorem run_pass_Run : runF E 37 [.agg [.inp 0, .inp 1, .inp 2, .inp 3, .inp 4, .inp 5, .inp 6, .inp 7, .inp 8, .inp 9, .inp 10], .agg [.inp 11, .inp 12, .inp 13, .inp 14, .inp 15, .inp 16, .inp 17, .inp 18, .inp 19, .inp 20, .inp 21, .inp 22, .inp 23, .inp 24, .inp 25, .inp 26, .inp 27, .inp 28, .inp 29, .inp 30, .inp 31, .inp 32, .inp 33, .inp 34, .inp 35, .inp 36, .inp 37, .inp 38, .inp 39], .agg [.inp 40, .inp 41, .inp 42, .inp 43, .inp 44, .inp 45, .inp 46, .inp 47, .inp 48, .inp 49, .inp 50, .inp 51, .inp 52, .inp 53, .inp 54, .inp 55, .inp 56, .inp 57, .inp 58, .inp 59, .inp 60, .inp 61, .inp 62]] 63 = rt_pass_Run := by kernel_rfl

noncomputable def rt_lockbarref03_Late : RT :=
.seg [.chk [] (.bin .gtr) [.inp 0, .inp 1]] <|
.ret (.app (.bin .gtr) [.inp 0, .inp 1])
theorem run_lockbarref03_Late : runF E 53 [.inp 0, .inp 1] 2 = rt_lockbarref03_Late := by kernel_rfl

noncomputable def rt_lockbarref03_within : RT :=
.seg [.chk [] (.mm true) [.inp 0, .int .i64 0]] <|
.seg [.chk [] (.mm false) [qka1_95, .inp 1]] <|
.ret (.app (.mm false) [qka1_95, .inp 1])
theorem run_lockbarref03_within : runF E 92 [.inp 0, .inp 1] 2 = rt_lockbarref03_within := by kernel_rfl

noncomputable def rt_lockbarref03_Clock : RT :=
.seg [.call 1 [] 92 [.inp 0, .int .i64 1073741824] false] <|
.ret (.inp 1)
theorem run_lockbarref03_Clock : runF E 81 [.inp 0] 1 = rt_lockbarref03_Clock := by kernel_rfl

noncomputable def rt_lockbarref03_Next : RT :=
.seg [.call 1 [] 81 [.inp 0] false] <|
.seg [.chk [] (.bin .add) [.inp 1, .int .i64 1]] <|
.seg [.chk [] (.mm false) [qka1_96, .int .i64 1073741824]] <|
.ret (.app (.mm false) [qka1_96, .int .i64 1073741824])
theorem run_lockbarref03_Next : runF E 54 [.inp 0] 1 = rt_lockbarref03_Next := by kernel_rfl

noncomputable def rt_lockbarref03_Count : RT :=
.seg [.call 1 [] 92 [.inp 0, .int .i64 65535] false] <|
.ret (.inp 1)
theorem run_lockbarref03_Count : runF E 102 [.inp 0] 1 = rt_lockbarref03_Count := by kernel_rfl

noncomputable def rt_lockbarref03_More : RT :=
.seg [.call 2 [] 102 [.inp 0] false] <|
.seg [.call 3 [] 102 [.inp 1] false] <|
.seg [.chk [] (.bin .add) [.inp 2, .inp 3]] <|
.seg [.chk [] (.mm false) [qka1_97, .int .i64 65535]] <|
.ret (.app (.mm false) [qka1_97, .int .i64 65535])
theorem run_lockbarref03_More : runF E 91 [.inp 0, .inp 1] 2 = rt_lockbarref03_More := by kernel_rfl

noncomputable def rt_lockbarref03_Row : RT :=
.seg [.chk [] (.un .not) [.inp 0]] <|
.cond (.inp 0)
 (.seg [.call 2 [] 91 [.inp 1, .int .i64 1] false] <|
.ret (.inp 2))
 (.ret (.int .i64 0))
theorem run_lockbarref03_Row : runF E 80 [.inp 0, .inp 1] 2 = rt_lockbarref03_Row := by kernel_rfl

noncomputable def rt_lockbarref11_Own : RT :=
.seg [.chk [] (.isAgg 3) [qka1_98]] <|
.seg [.chk [] (.szs 3) [.inp 2],
.chk [] .app [.app .lst [], .inp 2]] <|
.seg [.chk [] (.isAgg 3) [.agg [.inp 0, .inp 1, .row 10]]] <|
.ret (.agg [.inp 0, .inp 1, .app .app [.app .lst [], .inp 2]])
theorem run_lockbarref11_Own : runF E 69 [.agg [.inp 0, .inp 1, .inp 2]] 3 = rt_lockbarref11_Own := by kernel_rfl

noncomputable def rt_lockbarref11_Steps : RT :=
.seg [.chk [] .len [.inp 0]] <|
.seg [.chk [] .len [.inp 1]] <|
.seg [.chk [] (.bin .neq) [.app .len [.inp 0], .app .len [.inp 1]]] <|
.cond (.app (.bin .neq) [.app .len [.inp 0], .app .len [.inp 1]])
 (.ret (.bool false))
 (.loop 0 2 [.int .i64 0] <|
.seg [.chk [] .len [.inp 0]] <|
.seg [.chk [] (.bin .lss) [.inp 2, .app .len [.inp 0]]] <|
.cond (qka1_99)
 (.seg [.chk [] (.eidx 3) [.inp 0, .inp 2],
.chk [] (.eload 3 true) [qka1_100],
.chk [] (.eidx 3) [.inp 1, .inp 2],
.chk [] (.eload 3 true) [qka1_101],
.chk [] (.eqa [ some .i64, some .i64, some .i64] true) [qka1_102, qka1_103]] <|
.cond (.app (.eqa [ some .i64, some .i64, some .i64] true) [qka1_102, qka1_103])
 (.ret (.bool false))
 (.seg [.chk [] (.bin .add) [.inp 2, .int .i64 1]] <|
.again 0 [qka1_104]))
 (.ret (.bool true)))
theorem run_lockbarref11_Steps : runF E 42 [.inp 0, .inp 1] 2 = rt_lockbarref11_Steps := by kernel_rfl

noncomputable def rt_lockbarref11_Same : RT :=
.seg [.chk [] (.isAgg 3) [qka1_98]] <|
.seg [.chk [] (.isAgg 3) [.agg [.inp 3, .inp 4, .inp 5]]] <|
.seg [.chk [] (.bin .eql) [.inp 0, .inp 3]] <|
.seg [.chk [(qka1_105, true)] (.bin .eql) [.inp 1, .inp 4]] <|
.seg [.chk [] .pick [qka1_105, qka1_106, .bool false]] <|
.seg [.call 6 [(qka1_107, true)] 42 [.inp 2, .inp 5] false] <|
.seg [.chk [] .pick [qka1_107, .inp 6, .bool false]] <|
.seg [.bind 7 (.app .pick [qka1_107, .inp 6, .bool false])] <|
.ret (.inp 7)
theorem run_lockbarref11_Same : runF E 41 [.agg [.inp 0, .inp 1, .inp 2], .agg [.inp 3, .inp 4, .inp 5]] 6 = rt_lockbarref11_Same := by kernel_rfl

noncomputable def rt_lockbarref15_New : RT :=
.ret (.agg [.int .i64 65535, .int .i64 0, .int .i64 0, .int .i64 0, .int .i64 0, .int .i64 0, .int .i64 0, .int .i64 0, .int .i64 0, .int .i64 0, .int .i64 0, .int .i64 0, .int .i64 0, .int .i64 0, .int .i64 0, .int .i64 0, .int .i64 0, .int .i64 0, .int .i64 0, .int .i64 0, .int .i64 0, .int .i64 0, .int .i64 0, .int .i64 0, .int .i64 0, .int .u32 0, .int .u32 0, .int .u32 0, .int .u32 0])
theorem run_lockbarref15_New : runF E 22 [] 0 = rt_lockbarref15_New := by kernel_rfl

noncomputable def rt_lockbarref15_bit : RT :=
.seg [.chk [] (.bin .geq) [.inp 1, .int .i64 0]] <|
.seg [.chk [(qka1_108, true)] (.bin .lss) [.inp 1, .int .i64 32]] <|
.seg [.chk [] .pick [qka1_108, qka1_109, .bool false]] <|
.seg [.chk [(qka1_110, true)] (.conv .u64) [.inp 1]] <|
.seg [.chk [(qka1_110, true)] (.bin .shr) [.inp 0, .app (.conv .u64) [.inp 1]]] <|
.seg [.chk [(qka1_110, true)] (.bin .and) [qka1_111, .int .u32 1]] <|
.seg [.chk [(qka1_110, true)] (.bin .eql) [qka1_112, .int .u32 1]] <|
.seg [.chk [] .pick [qka1_110, qka1_113, .bool false]] <|
.seg [.bind 2 (.app .pick [qka1_110, qka1_113, .bool false])] <|
.ret (.inp 2)
theorem run_lockbarref15_bit : runF E 52 [.inp 0, .inp 1] 2 = rt_lockbarref15_bit := by kernel_rfl

noncomputable def rt_lockbarref15_Stale : RT :=
.seg [.chk [] (.isAgg 11) [qka1_0]] <|
.seg [.chk [] (.isAgg 29) [qka1_1]] <|
.seg [.call 40 [] 53 [.inp 11, .inp 6] false] <|
.ret (.inp 40)
theorem run_lockbarref15_Stale : runF E 25 [.agg [.inp 0, .inp 1, .inp 2, .inp 3, .inp 4, .inp 5, .inp 6, .inp 7, .inp 8, .inp 9, .inp 10], .agg [.inp 11, .inp 12, .inp 13, .inp 14, .inp 15, .inp 16, .inp 17, .inp 18, .inp 19, .inp 20, .inp 21, .inp 22, .inp 23, .inp 24, .inp 25, .inp 26, .inp 27, .inp 28, .inp 29, .inp 30, .inp 31, .inp 32, .inp 33, .inp 34, .inp 35, .inp 36, .inp 37, .inp 38, .inp 39]] 40 = rt_lockbarref15_Stale := by kernel_rfl

noncomputable def rt_lockbarref15_rows : RT :=
.seg [.chk [] (.isAgg 11) [qka1_0]] <|
.seg [.chk [] (.isAgg 29) [qka1_1]] <|
.loop 0 40 [.int .i64 0, .inp 12, .inp 13, .inp 14, .inp 15, .inp 16, .inp 17, .inp 18, .inp 19, .inp 20, .inp 21, .inp 22, .inp 23, .inp 24, .inp 25, .inp 26, .inp 27, .inp 28, .inp 29, .inp 30, .inp 31, .inp 32, .inp 33, .inp 34, .inp 35] <|
.seg [.chk [] (.bin .lss) [.inp 40, .int .i64 24]] <|
.cond (qka1_114)
 (.seg [.call 65 [] 25 [qka1_0, qka1_115] false,
.chk [] (.un .not) [.inp 65],
.call 66 [(.app (.un .not) [.inp 65], true)] 52 [.inp 36, .inp 40] false,
.chk [(.app (.un .not) [.inp 65], true)] (.un .not) [.inp 66],
.chk [] .pick [.app (.un .not) [.inp 65], .app (.un .not) [.inp 66], .bool false],
.chk [] (.inr 24) [.inp 40],
.chk [] (.aidx 24 1 1 1 false) [qka1_115, .inp 40],
.call 67 [] 80 [.app .pick [.app (.un .not) [.inp 65], .app (.un .not) [.inp 66], .bool false], qka1_116] false,
.chk [] (.inr 24) [.inp 40],
.chk [] (.inr 24) [.inp 40],
.chk [] .isOne [.inp 67]] <|
.seg [.bind 68 (qka1_116)] <|
.seg [.chk [] (.bin .add) [.inp 40, .int .i64 1]] <|
.again 0 [.app (.bin .add) [.inp 40, .int .i64 1], .app (.cellset 1 24 1 0 1 1) [.inp 40, .inp 41, .agg [.inp 67]], .app (.cellset 1 24 1 0 1 2) [.inp 40, .inp 42, .agg [.inp 67]], .app (.cellset 1 24 1 0 1 3) [.inp 40, .inp 43, .agg [.inp 67]], .app (.cellset 1 24 1 0 1 4) [.inp 40, .inp 44, .agg [.inp 67]], .app (.cellset 1 24 1 0 1 5) [.inp 40, .inp 45, .agg [.inp 67]], .app (.cellset 1 24 1 0 1 6) [.inp 40, .inp 46, .agg [.inp 67]], .app (.cellset 1 24 1 0 1 7) [.inp 40, .inp 47, .agg [.inp 67]], .app (.cellset 1 24 1 0 1 8) [.inp 40, .inp 48, .agg [.inp 67]], .app (.cellset 1 24 1 0 1 9) [.inp 40, .inp 49, .agg [.inp 67]], .app (.cellset 1 24 1 0 1 10) [.inp 40, .inp 50, .agg [.inp 67]], .app (.cellset 1 24 1 0 1 11) [.inp 40, .inp 51, .agg [.inp 67]], .app (.cellset 1 24 1 0 1 12) [.inp 40, .inp 52, .agg [.inp 67]], .app (.cellset 1 24 1 0 1 13) [.inp 40, .inp 53, .agg [.inp 67]], .app (.cellset 1 24 1 0 1 14) [.inp 40, .inp 54, .agg [.inp 67]], .app (.cellset 1 24 1 0 1 15) [.inp 40, .inp 55, .agg [.inp 67]], .app (.cellset 1 24 1 0 1 16) [.inp 40, .inp 56, .agg [.inp 67]], .app (.cellset 1 24 1 0 1 17) [.inp 40, .inp 57, .agg [.inp 67]], .app (.cellset 1 24 1 0 1 18) [.inp 40, .inp 58, .agg [.inp 67]], .app (.cellset 1 24 1 0 1 19) [.inp 40, .inp 59, .agg [.inp 67]], .app (.cellset 1 24 1 0 1 20) [.inp 40, .inp 60, .agg [.inp 67]], .app (.cellset 1 24 1 0 1 21) [.inp 40, .inp 61, .agg [.inp 67]], .app (.cellset 1 24 1 0 1 22) [.inp 40, .inp 62, .agg [.inp 67]], .app (.cellset 1 24 1 0 1 23) [.inp 40, .inp 63, .agg [.inp 67]], .app (.cellset 1 24 1 0 1 24) [.inp 40, .inp 64, .agg [.inp 67]]])
 (.seg [.chk [] (.isAgg 29) [qka1_115]] <|
.ret (qka1_115))
theorem run_lockbarref15_rows : runF E 51 [.agg [.inp 0, .inp 1, .inp 2, .inp 3, .inp 4, .inp 5, .inp 6, .inp 7, .inp 8, .inp 9, .inp 10], .agg [.inp 11, .inp 12, .inp 13, .inp 14, .inp 15, .inp 16, .inp 17, .inp 18, .inp 19, .inp 20, .inp 21, .inp 22, .inp 23, .inp 24, .inp 25, .inp 26, .inp 27, .inp 28, .inp 29, .inp 30, .inp 31, .inp 32, .inp 33, .inp 34, .inp 35, .inp 36, .inp 37, .inp 38, .inp 39]] 40 = rt_lockbarref15_rows := by kernel_rfl

noncomputable def rt_lockbarref15_Take : RT :=
.seg [.chk [] (.isAgg 11) [qka1_0]] <|
.seg [.chk [] (.isAgg 29) [qka1_1]] <|
.seg [.chk [] (.isAgg 4) [qka1_117]] <|
.seg [.chk [] (.isAgg 4) [qka1_117]] <|
.seg [.call 44 [] 51 [qka1_0, .agg [.int .i64 0, .inp 12, .inp 13, .inp 14, .inp 15, .inp 16, .inp 17, .inp 18, .inp 19, .inp 20, .inp 21, .inp 22, .inp 23, .inp 24, .inp 25, .inp 26, .inp 27, .inp 28, .inp 29, .inp 30, .inp 31, .inp 32, .inp 33, .inp 34, .inp 35, .inp 40, .inp 41, .inp 42, .inp 43]] false] <|
.seg [.chk [] (.isAgg 29) [.inp 44]] <|
.ret (.agg [.app (.part 0 1 false) [.inp 44], .app (.part 1 1 false) [.inp 44], .app (.part 2 1 false) [.inp 44], .app (.part 3 1 false) [.inp 44], .app (.part 4 1 false) [.inp 44], .app (.part 5 1 false) [.inp 44], .app (.part 6 1 false) [.inp 44], .app (.part 7 1 false) [.inp 44], .app (.part 8 1 false) [.inp 44], .app (.part 9 1 false) [.inp 44], .app (.part 10 1 false) [.inp 44], .app (.part 11 1 false) [.inp 44], .app (.part 12 1 false) [.inp 44], .app (.part 13 1 false) [.inp 44], .app (.part 14 1 false) [.inp 44], .app (.part 15 1 false) [.inp 44], .app (.part 16 1 false) [.inp 44], .app (.part 17 1 false) [.inp 44], .app (.part 18 1 false) [.inp 44], .app (.part 19 1 false) [.inp 44], .app (.part 20 1 false) [.inp 44], .app (.part 21 1 false) [.inp 44], .app (.part 22 1 false) [.inp 44], .app (.part 23 1 false) [.inp 44], .app (.part 24 1 false) [.inp 44], .app (.part 25 1 false) [.inp 44], .app (.part 26 1 false) [.inp 44], .app (.part 27 1 false) [.inp 44], .app (.part 28 1 false) [.inp 44]])
theorem run_lockbarref15_Take : runF E 21 [.agg [.inp 0, .inp 1, .inp 2, .inp 3, .inp 4, .inp 5, .inp 6, .inp 7, .inp 8, .inp 9, .inp 10], .agg [.inp 11, .inp 12, .inp 13, .inp 14, .inp 15, .inp 16, .inp 17, .inp 18, .inp 19, .inp 20, .inp 21, .inp 22, .inp 23, .inp 24, .inp 25, .inp 26, .inp 27, .inp 28, .inp 29, .inp 30, .inp 31, .inp 32, .inp 33, .inp 34, .inp 35, .inp 36, .inp 37, .inp 38, .inp 39], .agg [.inp 40, .inp 41, .inp 42, .inp 43]] 44 = rt_lockbarref15_Take := by kernel_rfl

noncomputable def rt_lockbarref15_Occupied : RT :=
.seg [.chk [] (.isAgg 11) [qka1_0]] <|
.seg [.chk [] (.isAgg 29) [qka1_1]] <|
.seg [.chk [] (.bin .lss) [.inp 40, .int .i64 0]] <|
.seg [.chk [(qka1_118, false)] .len [.inp 0]] <|
.seg [.chk [(qka1_118, false)] (.bin .geq) [.inp 40, .app .len [.inp 0]]] <|
.seg [.chk [] .pick [qka1_118, .bool true, qka1_119]] <|
.seg [.chk [(qka1_120, false)] (.bin .geq) [.inp 40, .int .i64 24]] <|
.seg [.chk [] .pick [qka1_120, .bool true, qka1_121]] <|
.seg [.bind 41 (.app .pick [qka1_120, .bool true, qka1_121])] <|
.cond (.inp 41)
 (.ret (.bool true))
 (.seg [.call 42 [] 25 [qka1_0, qka1_1] false,
.call 43 [(.inp 42, false)] 52 [.inp 36, .inp 40] false,
.chk [] .pick [.inp 42, .bool true, .inp 43],
.chk [(qka1_122, false)] (.inr 24) [.inp 40],
.chk [(qka1_122, false)] (.aidx 24 1 1 1 false) [qka1_1, .inp 40],
.chk [(qka1_122, false)] (.bin .lss) [qka1_123, .inp 4],
.chk [] .pick [qka1_122, .bool true, qka1_124]] <|
.seg [.bind 44 (.app .pick [qka1_122, .bool true, qka1_124]),
.bind 45 (qka1_123),
.bind 46 (qka1_124)] <|
.ret (.inp 44))
theorem run_lockbarref15_Occupied : runF E 23 [.agg [.inp 0, .inp 1, .inp 2, .inp 3, .inp 4, .inp 5, .inp 6, .inp 7, .inp 8, .inp 9, .inp 10], .agg [.inp 11, .inp 12, .inp 13, .inp 14, .inp 15, .inp 16, .inp 17, .inp 18, .inp 19, .inp 20, .inp 21, .inp 22, .inp 23, .inp 24, .inp 25, .inp 26, .inp 27, .inp 28, .inp 29, .inp 30, .inp 31, .inp 32, .inp 33, .inp 34, .inp 35, .inp 36, .inp 37, .inp 38, .inp 39], .inp 40] 41 = rt_lockbarref15_Occupied := by kernel_rfl

noncomputable def rt_lockbarref15_Told : RT :=
.seg [.chk [] (.isAgg 11) [qka1_0]] <|
.seg [.chk [] (.isAgg 29) [qka1_1]] <|
.seg [.chk [] (.bin .geq) [.inp 40, .int .i64 0]] <|
.seg [.chk [(qka1_125, true)] .len [.inp 0]] <|
.seg [.chk [(qka1_125, true)] (.bin .lss) [.inp 40, .app .len [.inp 0]]] <|
.seg [.chk [] .pick [qka1_125, qka1_126, .bool false]] <|
.seg [.chk [(qka1_127, true)] (.bin .lss) [.inp 40, .int .i64 24]] <|
.seg [.chk [] .pick [qka1_127, qka1_114, .bool false]] <|
.seg [.call 41 [(qka1_128, true)] 25 [qka1_0, qka1_1] false] <|
.seg [.chk [(qka1_128, true)] (.un .not) [.inp 41]] <|
.seg [.chk [] .pick [qka1_128, .app (.un .not) [.inp 41], .bool false]] <|
.seg [.call 42 [(qka1_129, true)] 52 [.inp 36, .inp 40] false] <|
.seg [.chk [] .pick [qka1_129, .inp 42, .bool false]] <|
.seg [.bind 43 (.app .pick [qka1_129, .inp 42, .bool false]),
.bind 44 (qka1_128),
.bind 45 (qka1_129)] <|
.ret (.inp 43)
theorem run_lockbarref15_Told : runF E 24 [.agg [.inp 0, .inp 1, .inp 2, .inp 3, .inp 4, .inp 5, .inp 6, .inp 7, .inp 8, .inp 9, .inp 10], .agg [.inp 11, .inp 12, .inp 13, .inp 14, .inp 15, .inp 16, .inp 17, .inp 18, .inp 19, .inp 20, .inp 21, .inp 22, .inp 23, .inp 24, .inp 25, .inp 26, .inp 27, .inp 28, .inp 29, .inp 30, .inp 31, .inp 32, .inp 33, .inp 34, .inp 35, .inp 36, .inp 37, .inp 38, .inp 39], .inp 40] 41 = rt_lockbarref15_Told := by kernel_rfl

noncomputable def rt_lockbarref17_clash : RT :=
.loop 0 2 [.int .i64 0] <|
.seg [.chk [] .len [.inp 0]] <|
.seg [.chk [] (.bin .lss) [.inp 2, .app .len [.inp 0]]] <|
.cond (qka1_99)
 (.loop 1 3 [.int .i64 0] <|
.seg [.chk [] .len [.inp 1]] <|
.seg [.chk [] (.bin .lss) [.inp 3, .app .len [.inp 1]]] <|
.cond (.app (.bin .lss) [.inp 3, .app .len [.inp 1]])
 (.seg [.chk [] (.eidx 3) [.inp 0, .inp 2],
.chk [] (.eoff 0) [qka1_100],
.chk [] (.eload 1 false) [qka1_130],
.chk [] (.eidx 3) [.inp 1, .inp 3],
.chk [] (.eoff 0) [qka1_131],
.chk [] (.eload 1 false) [qka1_132],
.chk [] (.bin .eql) [qka1_133, qka1_134],
.chk [(qka1_135, true)] (.eidx 3) [.inp 0, .inp 2],
.chk [(qka1_135, true)] (.eoff 1) [qka1_100],
.chk [(qka1_135, true)] (.eload 1 false) [qka1_136],
.chk [(qka1_135, true)] (.eidx 3) [.inp 1, .inp 3],
.chk [(qka1_135, true)] (.eoff 1) [qka1_131],
.chk [(qka1_135, true)] (.eload 1 false) [qka1_137],
.chk [(qka1_135, true)] (.bin .neq) [qka1_138, qka1_139],
.chk [] .pick [qka1_135, qka1_140, .bool false]] <|
.seg [.bind 4 (qka1_135),
.bind 5 (qka1_140),
.bind 6 (.app .pick [qka1_135, qka1_140, .bool false])] <|
.cond (.inp 6)
 (.ret (.bool true))
 (.seg [.chk [] (.bin .add) [.inp 3, .int .i64 1]] <|
.again 1 [.app (.bin .add) [.inp 3, .int .i64 1]]))
 (.seg [.chk [] (.bin .add) [.inp 2, .int .i64 1]] <|
.again 0 [qka1_104]))
 (.ret (.bool false))
theorem run_lockbarref17_clash : runF E 75 [.inp 0, .inp 1] 2 = rt_lockbarref17_clash := by kernel_rfl

end Go.Lb.LK
