/- What functions come to, printed by a program, checked by the kernel. -/
import Derived.Test.YtkcpgfjlmicnnaaGreatDoorCh1
set_option linter.unusedSimpArgs false
set_option linter.unusedVariables false
namespace Go.Lb.LK
open Go Go.Lb Go.Proofs
@[simp] noncomputable def qka3_0 : SE := .agg [.inp 0, .inp 1, .inp 2, .inp 3, .inp 4, .inp 5, .inp 6, .inp 7, .inp 8, .inp 9, .inp 10]
@[simp] noncomputable def qka3_1 : SE := .agg [.inp 11, .inp 12, .inp 13, .inp 14, .inp 15, .inp 16, .inp 17, .inp 18, .inp 19, .inp 20, .inp 21, .inp 22, .inp 23, .inp 24, .inp 25, .inp 26, .inp 27, .inp 28, .inp 29, .inp 30, .inp 31, .inp 32, .inp 33, .inp 34, .inp 35, .inp 36, .inp 37, .inp 38, .inp 39]
@[simp] noncomputable def qka3_2 : SE := .agg [.inp 40, .inp 41, .inp 42, .inp 43, .inp 44, .inp 45, .inp 46, .inp 47, .inp 48, .inp 49, .inp 50, .inp 51, .inp 52, .inp 53, .inp 54, .inp 55, .inp 56, .inp 57, .inp 58, .inp 59, .inp 60, .inp 61, .inp 62, .inp 63, .inp 64, .inp 65, .inp 66, .inp 67, .inp 68, .inp 69, .inp 70, .inp 71, .inp 72, .inp 73, .inp 74, .inp 75, .inp 76, .inp 77, .inp 78, .inp 79, .inp 80, .inp 81, .inp 82, .inp 83, .inp 84, .inp 85, .inp 86, .inp 87, .inp 88, .inp 89, .inp 90, .inp 91, .inp 92, .inp 93, .inp 94, .inp 95, .inp 96, .inp 97, .inp 98, .inp 99, .inp 100, .inp 101, .inp 102, .inp 103, .inp 104, .inp 105, .inp 106, .inp 107, .inp 108, .inp 109, .inp 110, .inp 111, .inp 112, .inp 113]
@[simp] noncomputable def qka3_3 : SE := .agg [.inp 40, .enil, .inp 42, .inp 43, .inp 44, .inp 45, .inp 46, .inp 47, .inp 48, .inp 49, .inp 50, .inp 51, .inp 52, .inp 53, .inp 54, .inp 55, .inp 56, .inp 57, .inp 58, .inp 59, .inp 60, .inp 61, .inp 62, .inp 63, .inp 64, .inp 65, .inp 66, .inp 67, .inp 68, .inp 69, .inp 70, .inp 71, .inp 72, .inp 73, .inp 74, .inp 75, .inp 76, .inp 77, .inp 78, .inp 79, .inp 80, .inp 81, .inp 82, .inp 83, .inp 84, .inp 85, .inp 86, .inp 87, .inp 88, .inp 89, .inp 90, .inp 91, .inp 92, .inp 93, .inp 94, .inp 95, .inp 96, .inp 97, .inp 98, .inp 99, .inp 100, .inp 101, .inp 102, .inp 103, .inp 104, .inp 105, .inp 106, .inp 107, .inp 108, .inp 109, .inp 110, .inp 111, .inp 112, .inp 113]
@[simp] noncomputable def qka3_4 : SE := .app .app [.app .lst [], .inp 41]
@[simp] noncomputable def qka3_5 : SE := .app .len [qka3_4]
@[simp] noncomputable def qka3_6 : SE := .app (.rowget 23 0 23 true) [.inp 117, .inp 116]
@[simp] noncomputable def qka3_7 : SE := .agg [.app (.part 0 1 false) [.inp 118], .app (.part 1 1 false) [.inp 118], .app (.part 2 1 false) [.inp 118], .app (.part 3 1 false) [.inp 118], .app (.part 4 1 false) [.inp 118], .app (.part 5 1 false) [.inp 118], .app (.part 6 1 false) [.inp 118], .app (.part 7 1 false) [.inp 118], .app (.part 8 1 false) [.inp 118], .app (.part 9 1 false) [.inp 118], .app (.part 10 1 false) [.inp 118], .app (.part 11 1 false) [.inp 118], .app (.part 12 1 false) [.inp 118], .app (.part 13 1 false) [.inp 118], .app (.part 14 1 false) [.inp 118], .app (.part 15 1 false) [.inp 118], .app (.part 16 1 false) [.inp 118], .app (.part 17 1 false) [.inp 118], .app (.part 18 1 false) [.inp 118], .app (.part 19 1 false) [.inp 118], .app (.part 20 1 false) [.inp 118], .app (.part 21 1 false) [.inp 118], .app (.part 22 1 false) [.inp 118]]
@[simp] noncomputable def qka3_8 : SE := .agg [.inp 40, .row 60, .inp 42, .inp 43, .inp 44, .inp 45, .inp 46, .inp 47, .inp 48, .inp 49, .inp 50, .inp 51, .inp 52, .inp 53, .inp 54, .inp 55, .inp 56, .inp 57, .inp 58, .inp 59, .inp 60, .inp 61, .inp 62, .inp 63, .inp 64, .inp 65, .inp 66, .inp 67, .inp 68, .inp 69, .inp 70, .inp 71, .inp 72, .inp 73, .inp 74, .inp 75, .inp 76, .inp 77, .inp 78, .inp 79, .inp 80, .inp 81, .inp 82, .inp 83, .inp 84, .inp 85, .inp 86, .inp 87, .inp 88, .inp 89, .inp 90, .inp 91, .inp 92, .inp 93, .inp 94, .inp 95, .inp 96, .inp 97, .inp 98, .inp 99, .inp 100, .inp 101, .inp 102, .inp 103, .inp 104, .inp 105, .inp 106, .inp 107, .inp 108, .inp 109, .inp 110, .inp 111, .inp 112, .inp 113]
@[simp] noncomputable def qka3_9 : SE := .app (.rowget 23 0 23 true) [.inp 117, .inp 119]
@[simp] noncomputable def qka3_10 : SE := .app (.part 1 1 false) [qka3_9]
@[simp] noncomputable def qka3_11 : SE := .app (.bin .eql) [qka3_10, .inp 114]
@[simp] noncomputable def qka3_12 : SE := .app (.bin .lss) [.inp 118, .int .i64 0]
@[simp] noncomputable def qka3_13 : SE := .app (.part 0 1 false) [qka3_9]
@[simp] noncomputable def qka3_14 : SE := .app (.rowget 23 0 1 false) [.inp 117, .inp 118]
@[simp] noncomputable def qka3_15 : SE := .app (.bin .gtr) [qka3_13, qka3_14]
@[simp] noncomputable def qka3_16 : SE := .app .pick [qka3_12, .bool true, qka3_15]
@[simp] noncomputable def qka3_17 : SE := .app (.bin .add) [.inp 119, .int .i64 1]
@[simp] noncomputable def qka3_18 : SE := .app (.rowget 23 6 1 false) [.inp 117, .inp 118]
@[simp] noncomputable def qka3_19 : SE := .app (.bin .eql) [qka3_18, .int .u8 1]
@[simp] noncomputable def qka3_20 : SE := .app (.bin .eql) [qka3_18, .int .u8 2]
@[simp] noncomputable def qka3_21 : SE := .app (.bin .eql) [qka3_18, .int .u8 3]
@[simp] noncomputable def qka3_22 : SE := .app .pick [qka3_19, .clo 55 [] [], .app .pick [qka3_20, .clo 56 [] [.ptr 14 0, .ptr 16 0], .app .pick [qka3_21, .clo 57 [] [.ptr 14 0, .ptr 16 0], .nilf]]]
@[simp] noncomputable def qka3_23 : SE := .app (.eqf false) [qka3_22, .nilf]
@[simp] noncomputable def qka3_24 : SE := .tup [.agg [.inp 40, .inp 117, .inp 42, .inp 43, .inp 44, .inp 45, .inp 46, .inp 47, .inp 48, .inp 49, .inp 50, .inp 51, .inp 52, .inp 53, .inp 54, .inp 55, .inp 56, .inp 57, .inp 58, .inp 59, .inp 60, .inp 61, .inp 62, .inp 63, .inp 64, .inp 65, .inp 66, .inp 67, .inp 68, .inp 69, .inp 70, .inp 71, .inp 72, .inp 73, .inp 74, .inp 75, .inp 76, .inp 77, .inp 78, .inp 79, .inp 80, .inp 81, .inp 82, .inp 83, .inp 84, .inp 85, .inp 86, .inp 87, .inp 88, .inp 89, .inp 90, .inp 91, .inp 92, .inp 93, .inp 94, .inp 95, .inp 96, .inp 97, .inp 98, .inp 99, .inp 100, .inp 101, .inp 102, .inp 103, .inp 104, .inp 105, .inp 106, .inp 107, .inp 108, .inp 109, .inp 110, .inp 111, .inp 112, .inp 113], .bool false]
@[simp] noncomputable def qka3_25 : SE := .app (.rowget 23 0 23 true) [.inp 117, .inp 118]
@[simp] noncomputable def qka3_26 : SE := .app (.bin .eql) [.inp 120, .int .i64 1]
@[simp] noncomputable def qka3_27 : SE := .app (.bin .add) [.inp 118, .int .i64 1]
@[simp] noncomputable def qka3_28 : SE := .agg [.inp 40, .row 164, .inp 42, .inp 43, .inp 44, .inp 45, .inp 46, .inp 47, .inp 48, .inp 49, .inp 50, .inp 51, .inp 52, .inp 53, .inp 54, .inp 55, .inp 56, .inp 57, .inp 58, .inp 59, .inp 60, .inp 61, .inp 62, .inp 63, .inp 64, .inp 65, .inp 66, .inp 67, .inp 68, .inp 69, .inp 70, .inp 71, .inp 72, .inp 73, .inp 74, .inp 75, .inp 76, .inp 77, .inp 78, .inp 79, .inp 80, .inp 81, .inp 82, .inp 83, .inp 84, .inp 85, .inp 86, .inp 87, .inp 88, .inp 89, .inp 90, .inp 91, .inp 92, .inp 93, .inp 94, .inp 95, .inp 96, .inp 97, .inp 98, .inp 99, .inp 100, .inp 101, .inp 102, .inp 103, .inp 104, .inp 105, .inp 106, .inp 107, .inp 108, .inp 109, .inp 110, .inp 111, .inp 112, .inp 113]
@[simp] noncomputable def qka3_29 : SE := .tup [.agg [.inp 40, .app .app [.app (.slice false true) [.inp 117, .inp 118], .app (.slice true false) [.inp 117, qka3_27]], .inp 42, .inp 43, .inp 44, .inp 45, .inp 46, .inp 47, .inp 48, .inp 49, .inp 50, .inp 51, .inp 52, .inp 53, .inp 54, .inp 55, .inp 56, .inp 57, .inp 58, .inp 59, .inp 60, .inp 61, .inp 62, .inp 63, .inp 64, .inp 65, .inp 66, .inp 67, .inp 68, .inp 69, .inp 70, .inp 71, .inp 72, .inp 73, .inp 74, .inp 75, .inp 76, .inp 77, .inp 78, .inp 79, .inp 80, .inp 81, .inp 82, .inp 83, .inp 84, .inp 85, .inp 86, .inp 87, .inp 88, .inp 89, .inp 90, .inp 91, .inp 92, .inp 93, .inp 94, .inp 95, .inp 96, .inp 97, .inp 98, .inp 99, .inp 100, .inp 101, .inp 102, .inp 103, .inp 104, .inp 105, .inp 106, .inp 107, .inp 108, .inp 109, .inp 110, .inp 111, .inp 112, .inp 113], .bool true]
@[simp] noncomputable def qka3_30 : SE := .app (.bin .eql) [.inp 120, .int .i64 2]
@[simp] noncomputable def qka3_31 : SE := .app (.rowset 23 6 1) [.inp 117, .inp 118, .agg [.int .u8 4]]
@[simp] noncomputable def qka3_32 : SE := .tup [.agg [.inp 40, .app (.rowset 23 21 1) [qka3_31, .inp 118, .agg [.inp 7]], .inp 42, .inp 43, .inp 44, .inp 45, .inp 46, .inp 47, .inp 48, .inp 49, .inp 50, .inp 51, .inp 52, .inp 53, .inp 54, .inp 55, .inp 56, .inp 57, .inp 58, .inp 59, .inp 60, .inp 61, .inp 62, .inp 63, .inp 64, .inp 65, .inp 66, .inp 67, .inp 68, .inp 69, .inp 70, .inp 71, .inp 72, .inp 73, .inp 74, .inp 75, .inp 76, .inp 77, .inp 78, .inp 79, .inp 80, .inp 81, .inp 82, .inp 83, .inp 84, .inp 85, .inp 86, .inp 87, .inp 88, .inp 89, .inp 90, .inp 91, .inp 92, .inp 93, .inp 94, .inp 95, .inp 96, .inp 97, .inp 98, .inp 99, .inp 100, .inp 101, .inp 102, .inp 103, .inp 104, .inp 105, .inp 106, .inp 107, .inp 108, .inp 109, .inp 110, .inp 111, .inp 112, .inp 113], .bool true]
@[simp] noncomputable def qka3_33 : SE := .ref [.inp 0, .inp 1, .inp 2, .inp 3, .inp 4, .inp 5, .inp 6, .inp 7, .inp 8, .inp 9, .inp 10] 0
@[simp] noncomputable def qka3_34 : SE := .ref [.inp 11, .inp 12, .inp 13, .inp 14, .inp 15, .inp 16, .inp 17, .inp 18, .inp 19, .inp 20, .inp 21, .inp 22, .inp 23, .inp 24, .inp 25, .inp 26, .inp 27, .inp 28, .inp 29, .inp 30, .inp 31, .inp 32, .inp 33, .inp 34, .inp 35, .inp 36, .inp 37, .inp 38, .inp 39] 0
@[simp] noncomputable def qka3_35 : SE := .agg [.inp 40, .inp 41, .inp 42, .inp 43, .inp 44, .inp 45, .inp 46, .inp 47, .inp 48, .inp 49, .inp 50, .inp 51, .inp 52, .inp 53, .inp 54, .inp 55, .inp 56, .inp 57, .inp 58, .inp 59, .inp 60, .inp 61, .inp 62]
@[simp] noncomputable def qka3_36 : SE := .app (.part 6 1 false) [.inp 63]
@[simp] noncomputable def qka3_37 : SE := .app (.bin .neq) [qka3_36, .int .u8 4]
@[simp] noncomputable def qka3_38 : SE := .app (.part 0 1 false) [.inp 63]
@[simp] noncomputable def qka3_39 : SE := .app (.part 1 1 false) [.inp 63]
@[simp] noncomputable def qka3_40 : SE := .app (.part 2 1 false) [.inp 63]
@[simp] noncomputable def qka3_41 : SE := .app (.part 3 1 false) [.inp 63]
@[simp] noncomputable def qka3_42 : SE := .app (.part 4 1 false) [.inp 63]
@[simp] noncomputable def qka3_43 : SE := .app (.part 5 1 false) [.inp 63]
@[simp] noncomputable def qka3_44 : SE := .app (.part 7 1 false) [.inp 63]
@[simp] noncomputable def qka3_45 : SE := .app (.part 8 1 false) [.inp 63]
@[simp] noncomputable def qka3_46 : SE := .app (.part 9 1 false) [.inp 63]
@[simp] noncomputable def qka3_47 : SE := .app (.part 10 1 false) [.inp 63]
@[simp] noncomputable def qka3_48 : SE := .app (.part 11 1 false) [.inp 63]
@[simp] noncomputable def qka3_49 : SE := .app (.part 12 1 false) [.inp 63]
@[simp] noncomputable def qka3_50 : SE := .app (.part 13 1 false) [.inp 63]
@[simp] noncomputable def qka3_51 : SE := .app (.part 14 1 false) [.inp 63]
@[simp] noncomputable def qka3_52 : SE := .app (.part 15 1 false) [.inp 63]
@[simp] noncomputable def qka3_53 : SE := .app (.part 16 1 false) [.inp 63]
@[simp] noncomputable def qka3_54 : SE := .app (.part 17 1 false) [.inp 63]
@[simp] noncomputable def qka3_55 : SE := .app (.part 18 1 false) [.inp 63]
@[simp] noncomputable def qka3_56 : SE := .app (.part 19 1 false) [.inp 63]
@[simp] noncomputable def qka3_57 : SE := .app (.part 20 1 false) [.inp 63]
@[simp] noncomputable def qka3_58 : SE := .app (.part 21 1 false) [.inp 63]
@[simp] noncomputable def qka3_59 : SE := .app (.part 22 1 false) [.inp 63]
@[simp] noncomputable def qka3_60 : SE := .agg [qka3_38, qka3_39, qka3_40, qka3_41, qka3_42, qka3_43, qka3_36, qka3_44, qka3_45, qka3_46, qka3_47, qka3_48, qka3_49, qka3_50, qka3_51, qka3_52, qka3_53, qka3_54, qka3_55, qka3_56, qka3_57, qka3_58, qka3_59]
@[simp] noncomputable def qka3_61 : SE := .tup [qka3_60, .bool false]
@[simp] noncomputable def qka3_62 : SE := .agg [.app (.part 0 1 false) [.inp 66], .app (.part 1 1 false) [.inp 66], .app (.part 2 1 false) [.inp 66], .app (.part 3 1 false) [.inp 66], .app (.part 4 1 false) [.inp 66], .app (.part 5 1 false) [.inp 66], .app (.part 6 1 false) [.inp 66], .app (.part 7 1 false) [.inp 66], .app (.part 8 1 false) [.inp 66], .app (.part 9 1 false) [.inp 66], .app (.part 10 1 false) [.inp 66], .app (.part 11 1 false) [.inp 66], .app (.part 12 1 false) [.inp 66], .app (.part 13 1 false) [.inp 66], .app (.part 14 1 false) [.inp 66], .app (.part 15 1 false) [.inp 66], .app (.part 16 1 false) [.inp 66], .app (.part 17 1 false) [.inp 66], .app (.part 18 1 false) [.inp 66], .app (.part 19 1 false) [.inp 66], .app (.part 20 1 false) [.inp 66], .app (.part 21 1 false) [.inp 66], .app (.part 22 1 false) [.inp 66]]
@[simp] noncomputable def qka3_63 : SE := .agg [qka3_38, qka3_39, qka3_40, qka3_41, qka3_42, qka3_43, qka3_36, qka3_44, qka3_45, qka3_46, qka3_47, qka3_48, qka3_49, qka3_50, qka3_51, qka3_52, qka3_53, qka3_54, qka3_55, qka3_56, qka3_57, .inp 67, qka3_59]
@[simp] noncomputable def qka3_64 : SE := .app (.bin .lss) [.inp 11, .int .i64 0]
@[simp] noncomputable def qka3_65 : SE := .app (.bin .geq) [.inp 11, .app .len [.inp 1]]
@[simp] noncomputable def qka3_66 : SE := .app .pick [qka3_64, .bool true, qka3_65]
@[simp] noncomputable def qka3_67 : SE := .ref [.int .i64 (-1), .int .i64 0] 0
@[simp] noncomputable def qka3_68 : SE := .app (.eload 2 true) [qka3_67]
@[simp] noncomputable def qka3_69 : SE := .agg [.app (.part 0 1 false) [qka3_68], .app (.part 1 1 false) [qka3_68]]
@[simp] noncomputable def qka3_70 : SE := .app (.eidx 2) [.inp 1, .inp 11]
@[simp] noncomputable def qka3_71 : SE := .app (.eoff 0) [qka3_70]
@[simp] noncomputable def qka3_72 : SE := .app (.eload 2 true) [qka3_71]
@[simp] noncomputable def qka3_73 : SE := .agg [.app (.part 0 1 false) [.inp 12], .app (.part 1 1 false) [.inp 12]]
@[simp] noncomputable def qka3_74 : SE := .app (.eidx 11) [.inp 0, .inp 11]
@[simp] noncomputable def qka3_75 : SE := .app (.eoff 1) [qka3_74]
@[simp] noncomputable def qka3_76 : SE := .app (.eaidx 4 2) [qka3_75, .inp 12]
@[simp] noncomputable def qka3_77 : SE := .app (.eload 2 true) [qka3_76]
@[simp] noncomputable def qka3_78 : SE := .agg [.app (.part 0 1 false) [qka3_77], .app (.part 1 1 false) [qka3_77]]
@[simp] noncomputable def qka3_79 : SE := .app (.bin .geq) [.inp 11, .int .i64 0]
@[simp] noncomputable def qka3_80 : SE := .app (.bin .lss) [.inp 11, .app .len [.inp 0]]
@[simp] noncomputable def qka3_81 : SE := .app .pick [qka3_79, qka3_80, .bool false]
@[simp] noncomputable def qka3_82 : SE := .app (.bin .geq) [.inp 12, .int .i64 0]
@[simp] noncomputable def qka3_83 : SE := .app .pick [qka3_81, qka3_82, .bool false]
@[simp] noncomputable def qka3_84 : SE := .app (.eoff 0) [qka3_74]
@[simp] noncomputable def qka3_85 : SE := .app (.eload 1 false) [qka3_84]
@[simp] noncomputable def qka3_86 : SE := .app (.bin .lss) [.inp 12, .inp 13]
@[simp] noncomputable def qka3_87 : SE := .app .pick [qka3_83, qka3_86, .bool false]
@[simp] noncomputable def qka3_88 : SE := .agg [.inp 0, .inp 1, .inp 2, .inp 3, .inp 4, .inp 5, .inp 6, .inp 7, .inp 8, .inp 9, .inp 10, .inp 11, .inp 12, .inp 13, .inp 14, .inp 15, .inp 16, .inp 17, .inp 18, .inp 19, .inp 20, .inp 21, .inp 22, .inp 23, .inp 24, .inp 25, .inp 26, .inp 27, .inp 28, .inp 29, .inp 30, .inp 31, .inp 32, .inp 33, .inp 34, .inp 35, .inp 36, .inp 37, .inp 38, .inp 39, .inp 40, .inp 41, .inp 42, .inp 43, .inp 44, .inp 45, .inp 46, .inp 47, .inp 48, .inp 49, .inp 50, .inp 51, .inp 52, .inp 53, .inp 54, .inp 55, .inp 56, .inp 57, .inp 58, .inp 59, .inp 60, .inp 61, .inp 62, .inp 63, .inp 64, .inp 65, .inp 66, .inp 67, .inp 68, .inp 69, .inp 70, .inp 71, .inp 72, .inp 73]
@[simp] noncomputable def qka3_94 : SE := .app (.bin .lss) [.inp 11, .app .len [.inp 2]]
@[simp] noncomputable def qka3_95 : SE := .app (.bin .leq) [.inp 11, .int .i64 30]
@[simp] noncomputable def qka3_96 : SE := .app (.eidx 3) [.inp 2, .inp 11]
@[simp] noncomputable def qka3_97 : SE := .app (.eoff 2) [qka3_96]
@[simp] noncomputable def qka3_98 : SE := .app (.eload 1 false) [qka3_97]
@[simp] noncomputable def qka3_99 : SE := .app .len [qka3_98]
@[simp] noncomputable def qka3_100 : SE := .app (.bin .gtr) [.app .len [.inp 0], .int .i64 40]
@[simp] noncomputable def qka3_101 : SE := .app (.bin .gtr) [.app .len [.inp 1], .int .i64 30]
@[simp] noncomputable def qka3_102 : SE := .app .pick [qka3_100, .bool true, qka3_101]
@[simp] noncomputable def qka3_103 : SE := .app (.bin .gtr) [.app .len [.inp 2], .int .i64 30]
@[simp] noncomputable def qka3_104 : SE := .app .pick [qka3_102, .bool true, qka3_103]
@[simp] noncomputable def qka3_105 : SE := .app (.bin .gtr) [.app .len [.inp 3], .int .i64 40]
@[simp] noncomputable def qka3_106 : SE := .agg [.int .i64 (-1), .int .i64 0]
@[simp] noncomputable def qka3_116 : SE := .ref [.int .i64 0, .int .i64 0, .int .i64 0, .int .i64 0, .int .i64 0, .int .i64 0, .bool false, .int .i64 2, .int .i64 0, .int .i64 1, .int .i64 0, .int .i64 0, .int .i64 1, .bool false, .int .i64 3, .int .i64 0, .int .i64 1, .int .i64 0, .int .i64 2, .int .i64 2, .bool true, .int .i64 4, .int .i64 0, .int .i64 1, .int .i64 2, .int .i64 3, .int .i64 2, .bool false] 0
@[simp] noncomputable def qka3_117 : SE := .app (.eaidx 4 7) [qka3_116, .inp 0]
@[simp] noncomputable def qka3_118 : SE := .app (.eload 7 true) [qka3_117]
@[simp] noncomputable def qka3_122 : SE := .app (.bin .lss) [.inp 74, .app .len [.inp 1]]
@[simp] noncomputable def qka3_123 : SE := .app (.eidx 23) [.inp 1, .inp 74]
@[simp] noncomputable def qka3_124 : SE := .app (.eload 23 true) [qka3_123]
@[simp] noncomputable def qka3_126 : SE := .app (.bin .add) [.inp 74, .int .i64 1]
@[simp] noncomputable def qka3_127 : SE := .app (.eidx 23) [.inp 1, .inp 148]
@[simp] noncomputable def qka3_128 : SE := .app (.eidx 23) [.inp 75, .inp 148]
@[simp] noncomputable def qka3_129 : SE := .app (.bin .eql) [.inp 0, .inp 74]
@[simp] noncomputable def qka3_130 : SE := .agg [.inp 2, .inp 3, .inp 4, .inp 5, .inp 6, .inp 7, .inp 8, .inp 9, .inp 10, .inp 11, .inp 12, .inp 13, .inp 14, .inp 15, .inp 16, .inp 17, .inp 18, .inp 19, .inp 20, .inp 21, .inp 22, .inp 23, .inp 24, .inp 25, .inp 26, .inp 27, .inp 28, .inp 29, .inp 30, .inp 31, .inp 32, .inp 33, .inp 34, .inp 35, .inp 36, .inp 37, .inp 38, .inp 39, .inp 40, .inp 41, .inp 42, .inp 43, .inp 44, .inp 45, .inp 46, .inp 47, .inp 48, .inp 49, .inp 50, .inp 51, .inp 52, .inp 53, .inp 54, .inp 55, .inp 56, .inp 57, .inp 58, .inp 59, .inp 60, .inp 61, .inp 62, .inp 63, .inp 64, .inp 65, .inp 66, .inp 67, .inp 68, .inp 69, .inp 70, .inp 71, .inp 72, .inp 73]
@[simp] noncomputable def qka3_131 : SE := .agg [.inp 76, .inp 77, .inp 78, .inp 79, .inp 80, .inp 81, .inp 82, .inp 83, .inp 84, .inp 85, .inp 86, .inp 87, .inp 88, .inp 89, .inp 90, .inp 91, .inp 92, .inp 93, .inp 94, .inp 95, .inp 96, .inp 97, .inp 98, .inp 99, .inp 100, .inp 101, .inp 102, .inp 103, .inp 104, .inp 105, .inp 106, .inp 107, .inp 108, .inp 109, .inp 110, .inp 111, .inp 112, .inp 113, .inp 114, .inp 115, .inp 116, .inp 117, .inp 118, .inp 119, .inp 120, .inp 121, .inp 122, .inp 123, .inp 124, .inp 125, .inp 126, .inp 127, .inp 128, .inp 129, .inp 130, .inp 131, .inp 132, .inp 133, .inp 134, .inp 135, .inp 136, .inp 137, .inp 138, .inp 139, .inp 140, .inp 141, .inp 142, .inp 143, .inp 144, .inp 145, .inp 146, .inp 147]
@[simp] noncomputable def qka3_132 : SE := .app (.eqa [ some .i64, some .i64, none, some .i64, some .i64, none, some .i64, some .i64, none, some .i64, some .i64, none, some .i64, some .i64, none, some .i64, some .i64, none, some .i64, some .i64, none, some .i64, some .i64, none, some .i64, some .i64, none, some .i64, some .i64, none, some .i64, some .i64, none, some .i64, some .i64, none, some .i64, some .i64, none, some .i64, some .i64, none, some .i64, some .i64, none, some .i64, some .i64, none, some .i64, some .i64, none, some .i64, some .i64, none, some .i64, some .i64, none, some .i64, some .i64, none, some .i64, some .i64, none, some .i64, some .i64, none, some .i64, some .i64, none, some .i64, some .i64, none] false) [qka3_130, qka3_131]
@[simp] noncomputable def qka3_137 : SE := .app (.eidx 23) [.inp 1, .inp 75]
@[simp] noncomputable def qka3_152 : SE := .app (.bin .add) [.inp 76, .int .i64 1]
@[simp] noncomputable def qka3_153 : SE := .app (.bin .leq) [.inp 74, .int .i64 10]
@[simp] noncomputable def qka3_154 : SE := .app (.part 3 1 false) [qka3_124]
@[simp] noncomputable def qka3_155 : SE := .app .len [qka3_154]
@[simp] noncomputable def qka3_156 : SE := .app (.bin .gtr) [qka3_155, .int .i64 30]
@[simp] noncomputable def qka3_157 : SE := .app (.part 4 1 false) [qka3_124]
@[simp] noncomputable def qka3_158 : SE := .app .len [qka3_157]
@[simp] noncomputable def qka3_159 : SE := .app (.bin .gtr) [qka3_158, .int .i64 10]
@[simp] noncomputable def qka3_160 : SE := .app .pick [qka3_156, .bool true, qka3_159]
@[simp] noncomputable def qka3_161 : SE := .app (.part 5 1 false) [qka3_124]
@[simp] noncomputable def qka3_162 : SE := .app .len [qka3_161]
@[simp] noncomputable def qka3_163 : SE := .app (.bin .gtr) [qka3_162, .int .i64 100]
@[simp] noncomputable def qka3_164 : SE := .app (.bin .lss) [.inp 63, .app .len [.inp 43]]
@[simp] noncomputable def qka3_165 : SE := .app (.bin .geq) [.inp 63, .inp 47]
@[simp] noncomputable def qka3_166 : SE := .app (.eidx 3) [.inp 43, .inp 63]
@[simp] noncomputable def qka3_167 : SE := .app (.eoff 0) [qka3_166]
@[simp] noncomputable def qka3_168 : SE := .app (.eload 1 false) [qka3_167]
@[simp] noncomputable def qka3_169 : SE := .app .pick [qka3_165, .inp 64, .bool false]
@[simp] noncomputable def qka3_170 : SE := .app (.bin .add) [.inp 63, .int .i64 1]
@[simp] noncomputable def qka3_171 : SE := .app (.part 0 1 false) [.inp 41]
@[simp] noncomputable def qka3_172 : SE := .app (.bin .geq) [qka3_171, .int .i64 0]
@[simp] noncomputable def qka3_173 : SE := .app (.eidx 23) [.inp 1, .inp 76]
@[simp] noncomputable def qka3_174 : SE := .app (.eoff 1) [qka3_173]
@[simp] noncomputable def qka3_175 : SE := .app (.eoff 0) [qka3_174]
@[simp] noncomputable def qka3_176 : SE := .app (.eload 1 false) [qka3_175]
@[simp] noncomputable def qka3_177 : SE := .app (.bin .eql) [qka3_176, .inp 74]
@[simp] noncomputable def qka3_178 : SE := .app (.bin .lss) [.inp 75, .int .i64 0]
@[simp] noncomputable def qka3_179 : SE := .app (.eoff 0) [qka3_173]
@[simp] noncomputable def qka3_180 : SE := .app (.eoff 0) [qka3_137]
@[simp] noncomputable def qka3_181 : SE := .app (.eload 1 false) [qka3_179]
@[simp] noncomputable def qka3_182 : SE := .app (.eload 1 false) [qka3_180]
@[simp] noncomputable def qka3_183 : SE := .app (.bin .gtr) [qka3_181, qka3_182]
@[simp] noncomputable def qka3_184 : SE := .app .pick [qka3_178, .bool true, qka3_183]
noncomputable def rt_back_Cancel : RT :=
.seg [.chk [] (.isAgg 11) [qka3_0]] <|
.seg [.chk [] (.isAgg 29) [qka3_1]] <|
.seg [.chk [] (.isAgg 74) [qka3_2]] <|
.seg [.chk [] (.isAgg 11) [qka3_0]] <|
.seg [.chk [] (.isAgg 29) [qka3_1]] <|
.seg [.chk [] (.isAgg 74) [qka3_2]] <|
.seg [.chk [] .len [.inp 41],
.isNil 115 [] (.inp 41)] <|
.cond (.inp 115)
 (.seg [.chk [] .len [.nils]] <|
.loop 0 116 [] <|
.seg [.chk [] (.bin .lss) [.int .i64 0, .int .i64 0]] <|
.seg [.chk [] (.isAgg 74) [qka3_3]] <|
.seg [.chk [] (.isAgg 74) [qka3_3]] <|
.seg [.chk [] .len [.nils]] <|
.loop 0 116 [] <|
.seg [.chk [] (.bin .lss) [.int .i64 0, .int .i64 0]] <|
.seg [.chk [] (.bin .lss) [.int .i64 (-1), .int .i64 0]] <|
.seg [.chk [] (.isAgg 74) [qka3_3]] <|
.ret (.tup [.agg [.inp 40, .nils, .inp 42, .inp 43, .inp 44, .inp 45, .inp 46, .inp 47, .inp 48, .inp 49, .inp 50, .inp 51, .inp 52, .inp 53, .inp 54, .inp 55, .inp 56, .inp 57, .inp 58, .inp 59, .inp 60, .inp 61, .inp 62, .inp 63, .inp 64, .inp 65, .inp 66, .inp 67, .inp 68, .inp 69, .inp 70, .inp 71, .inp 72, .inp 73, .inp 74, .inp 75, .inp 76, .inp 77, .inp 78, .inp 79, .inp 80, .inp 81, .inp 82, .inp 83, .inp 84, .inp 85, .inp 86, .inp 87, .inp 88, .inp 89, .inp 90, .inp 91, .inp 92, .inp 93, .inp 94, .inp 95, .inp 96, .inp 97, .inp 98, .inp 99, .inp 100, .inp 101, .inp 102, .inp 103, .inp 104, .inp 105, .inp 106, .inp 107, .inp 108, .inp 109, .inp 110, .inp 111, .inp 112, .inp 113], .bool false]))
 (.seg [.chk [] (.szs 23) [.inp 41],
.chk [] .app [.app .lst [], .inp 41]] <|
.seg [.chk [] .len [qka3_4]] <|
.loop 0 116 [.int .i64 0, qka3_4] <|
.seg [.chk [] (.bin .lss) [.inp 116, qka3_5]] <|
.cond (.app (.bin .lss) [.inp 116, qka3_5])
 (.seg [.chk [] (.eidx 23) [.inp 117, .inp 116]] <|
.seg [.chk [] (.rowget 23 0 23 true) [.inp 117, .inp 116]] <|
.seg [.chk [] (.isAgg 23) [qka3_6]] <|
.seg [.call 118 [] 34 [.agg [.app (.part 0 1 false) [qka3_6], .app (.part 1 1 false) [qka3_6], .app (.part 2 1 false) [qka3_6], .app (.part 3 1 false) [qka3_6], .app (.part 4 1 false) [qka3_6], .app (.part 5 1 false) [qka3_6], .app (.part 6 1 false) [qka3_6], .app (.part 7 1 false) [qka3_6], .app (.part 8 1 false) [qka3_6], .app (.part 9 1 false) [qka3_6], .app (.part 10 1 false) [qka3_6], .app (.part 11 1 false) [qka3_6], .app (.part 12 1 false) [qka3_6], .app (.part 13 1 false) [qka3_6], .app (.part 14 1 false) [qka3_6], .app (.part 15 1 false) [qka3_6], .app (.part 16 1 false) [qka3_6], .app (.part 17 1 false) [qka3_6], .app (.part 18 1 false) [qka3_6], .app (.part 19 1 false) [qka3_6], .app (.part 20 1 false) [qka3_6], .app (.part 21 1 false) [qka3_6], .app (.part 22 1 false) [qka3_6]]] false,
.chk [] (.eidx 23) [.inp 117, .inp 116],
.chk [] (.rowset 23 0 23) [.inp 117, .inp 116, qka3_7],
.chk [] (.isAgg 23) [.inp 118]] <|
.seg [.bind 119 (.app (.rowset 23 0 23) [.inp 117, .inp 116, qka3_7])] <|
.seg [.chk [] (.bin .add) [.inp 116, .int .i64 1]] <|
.again 0 [.app (.bin .add) [.inp 116, .int .i64 1], .inp 119])
 (.seg [.chk [] (.isAgg 74) [qka3_8]] <|
.seg [.chk [] (.isAgg 74) [qka3_8]] <|
.seg [.chk [] .len [.inp 117]] <|
.loop 0 118 [.int .i64 (-1), .int .i64 0] <|
.seg [.chk [] (.bin .lss) [.inp 119, .app .len [.inp 117]]] <|
.cond (.app (.bin .lss) [.inp 119, .app .len [.inp 117]])
 (.seg [.chk [] (.eidx 23) [.inp 117, .inp 119]] <|
.seg [.chk [] (.rowget 23 0 23 true) [.inp 117, .inp 119]] <|
.seg [.chk [] (.isAgg 23) [qka3_9]] <|
.seg [.chk [] (.bin .eql) [qka3_10, .inp 114],
.chk [(qka3_11, true)] (.bin .lss) [.inp 118, .int .i64 0],
.chk [(qka3_12, false), (qka3_11, true)] (.eidx 23) [.inp 117, .inp 118],
.chk [(qka3_12, false), (qka3_11, true)] (.inr 4294967296) [.inp 118],
.chk [(qka3_12, false), (qka3_11, true)] (.rowget 23 0 1 false) [.inp 117, .inp 118],
.chk [(qka3_12, false), (qka3_11, true)] (.bin .gtr) [qka3_13, qka3_14],
.chk [(qka3_11, true)] .pick [qka3_12, .bool true, qka3_15],
.chk [] .pick [qka3_11, qka3_16, .bool false]] <|
.seg [.bind 120 (qka3_16),
.bind 121 (.app .pick [qka3_11, qka3_16, .bool false])] <|
.cond (.inp 121)
 (.seg [.chk [] (.bin .add) [.inp 119, .int .i64 1]] <|
.again 0 [.inp 119, qka3_17])
 (.seg [.chk [] (.bin .add) [.inp 119, .int .i64 1]] <|
.again 0 [.inp 118, qka3_17]))
 (.seg [.chk [] (.bin .lss) [.inp 118, .int .i64 0]] <|
.seg [.chk [(qka3_12, false)] (.eidx 23) [.inp 117, .inp 118]] <|
.seg [.chk [(qka3_12, false)] (.inr 4294967296) [.inp 118]] <|
.seg [.chk [(qka3_12, false)] (.rowget 23 6 1 false) [.inp 117, .inp 118]] <|
.seg [.chk [(qka3_12, false)] (.bin .eql) [qka3_18, .int .u8 0]] <|
.seg [.chk [(qka3_12, false)] (.eqf false) [qka3_22, .nilf]] <|
.seg [.chk [] .pick [qka3_12, .bool true, qka3_23]] <|
.cond (.app .pick [qka3_12, .bool true, qka3_23])
 (.seg [.chk [] (.isAgg 74) [qka3_8]] <|
.ret (qka3_24))
 (.cond (qka3_19)
 (.seg [.chk [] (.eidx 23) [.inp 117, .inp 118],
.chk [] (.inr 4294967296) [.inp 118],
.chk [] (.rowget 23 6 1 false) [.inp 117, .inp 118],
.chk [] (.bin .eql) [qka3_18, .int .u8 0],
.chk [] (.eidx 23) [.inp 117, .inp 118],
.chk [] (.rowget 23 0 23 true) [.inp 117, .inp 118],
.call 120 [] 55 [qka3_25] false] <|
.seg [.chk [] (.bin .eql) [.inp 120, .int .i64 1]] <|
.cond (qka3_26)
 (.seg [.chk [] (.bin .add) [.inp 118, .int .i64 1]] <|
.seg [.chk [] (.szs 23) [.inp 117],
.chk [] .app [.inp 117, .nils],
.chk [] (.bin .add) [.inp 118, .int .i64 1],
.chk [] (.bin .lss) [qka3_27, .int .i64 0],
.chk [] (.slice true true) [.inp 117, .inp 118, qka3_27],
.chk [] (.slice true true) [.inp 117, qka3_27, qka3_27]] <|
.seg [.chk [] (.isAgg 74) [qka3_28]] <|
.ret (qka3_29))
 (.seg [.chk [] (.bin .eql) [.inp 120, .int .i64 2]] <|
.cond (qka3_30)
 (.seg [.chk [] (.eidx 23) [.inp 117, .inp 118],
.chk [] (.inr 4294967296) [.inp 118],
.chk [] (.rowset 23 6 1) [.inp 117, .inp 118, .agg [.int .u8 4]],
.chk [] (.eidx 23) [qka3_31, .inp 118],
.chk [] (.inr 4294967296) [.inp 118],
.chk [] (.rowset 23 21 1) [qka3_31, .inp 118, .agg [.inp 7]],
.chk [] .isOne [.inp 7]] <|
.seg [.chk [] (.isAgg 74) [qka3_8]] <|
.ret (qka3_32))
 (.seg [.chk [] (.isAgg 74) [qka3_8]] <|
.ret (qka3_24))))
 (.cond (qka3_20)
 (.seg [.chk [] (.eidx 23) [.inp 117, .inp 118],
.chk [] (.inr 4294967296) [.inp 118],
.chk [] (.rowget 23 6 1 false) [.inp 117, .inp 118],
.chk [] (.bin .eql) [qka3_18, .int .u8 0],
.chk [] (.eidx 23) [.inp 117, .inp 118],
.chk [] (.rowget 23 0 23 true) [.inp 117, .inp 118],
.call 120 [] 56 [qka3_25, qka3_33, qka3_34] true] <|
.seg [.chk [] (.bin .eql) [.inp 120, .int .i64 1]] <|
.cond (qka3_26)
 (.seg [.chk [] (.bin .add) [.inp 118, .int .i64 1]] <|
.seg [.chk [] (.szs 23) [.inp 117],
.chk [] .app [.inp 117, .nils],
.chk [] (.bin .add) [.inp 118, .int .i64 1],
.chk [] (.bin .lss) [qka3_27, .int .i64 0],
.chk [] (.slice true true) [.inp 117, .inp 118, qka3_27],
.chk [] (.slice true true) [.inp 117, qka3_27, qka3_27]] <|
.seg [.chk [] (.isAgg 74) [qka3_28]] <|
.ret (qka3_29))
 (.seg [.chk [] (.bin .eql) [.inp 120, .int .i64 2]] <|
.cond (qka3_30)
 (.seg [.chk [] (.eidx 23) [.inp 117, .inp 118],
.chk [] (.inr 4294967296) [.inp 118],
.chk [] (.rowset 23 6 1) [.inp 117, .inp 118, .agg [.int .u8 4]],
.chk [] (.eidx 23) [qka3_31, .inp 118],
.chk [] (.inr 4294967296) [.inp 118],
.chk [] (.rowset 23 21 1) [qka3_31, .inp 118, .agg [.inp 7]],
.chk [] .isOne [.inp 7]] <|
.seg [.chk [] (.isAgg 74) [qka3_8]] <|
.ret (qka3_32))
 (.seg [.chk [] (.isAgg 74) [qka3_8]] <|
.ret (qka3_24))))
 (.cond (qka3_21)
 (.seg [.chk [] (.eidx 23) [.inp 117, .inp 118],
.chk [] (.inr 4294967296) [.inp 118],
.chk [] (.rowget 23 6 1 false) [.inp 117, .inp 118],
.chk [] (.bin .eql) [qka3_18, .int .u8 0],
.chk [] (.eidx 23) [.inp 117, .inp 118],
.chk [] (.rowget 23 0 23 true) [.inp 117, .inp 118],
.call 120 [] 57 [qka3_25, qka3_33, qka3_34] true] <|
.seg [.chk [] (.bin .eql) [.inp 120, .int .i64 1]] <|
.cond (qka3_26)
 (.seg [.chk [] (.bin .add) [.inp 118, .int .i64 1]] <|
.seg [.chk [] (.szs 23) [.inp 117],
.chk [] .app [.inp 117, .nils],
.chk [] (.bin .add) [.inp 118, .int .i64 1],
.chk [] (.bin .lss) [qka3_27, .int .i64 0],
.chk [] (.slice true true) [.inp 117, .inp 118, qka3_27],
.chk [] (.slice true true) [.inp 117, qka3_27, qka3_27]] <|
.seg [.chk [] (.isAgg 74) [qka3_28]] <|
.ret (qka3_29))
 (.seg [.chk [] (.bin .eql) [.inp 120, .int .i64 2]] <|
.cond (qka3_30)
 (.seg [.chk [] (.eidx 23) [.inp 117, .inp 118],
.chk [] (.inr 4294967296) [.inp 118],
.chk [] (.rowset 23 6 1) [.inp 117, .inp 118, .agg [.int .u8 4]],
.chk [] (.eidx 23) [qka3_31, .inp 118],
.chk [] (.inr 4294967296) [.inp 118],
.chk [] (.rowset 23 21 1) [qka3_31, .inp 118, .agg [.inp 7]],
.chk [] .isOne [.inp 7]] <|
.seg [.chk [] (.isAgg 74) [qka3_8]] <|
.ret (qka3_32))
 (.seg [.chk [] (.isAgg 74) [qka3_8]] <|
.ret (qka3_24))))
 (.dead 17 [.int .i64 13, .int .i64 1, .nilf, qka3_25])))))))
theorem run_back_Cancel : runF E 10 [.agg [.inp 0, .inp 1, .inp 2, .inp 3, .inp 4, .inp 5, .inp 6, .inp 7, .inp 8, .inp 9, .inp 10], .agg [.inp 11, .inp 12, .inp 13, .inp 14, .inp 15, .inp 16, .inp 17, .inp 18, .inp 19, .inp 20, .inp 21, .inp 22, .inp 23, .inp 24, .inp 25, .inp 26, .inp 27, .inp 28, .inp 29, .inp 30, .inp 31, .inp 32, .inp 33, .inp 34, .inp 35, .inp 36, .inp 37, .inp 38, .inp 39], .agg [.inp 40, .inp 41, .inp 42, .inp 43, .inp 44, .inp 45, .inp 46, .inp 47, .inp 48, .inp 49, .inp 50, .inp 51, .inp 52, .inp 53, .inp 54, .inp 55, .inp 56, .inp 57, .inp 58, .inp 59, .inp 60, .inp 61, .inp 62, .inp 63, .inp 64, .inp 65, .inp 66, .inp 67, .inp 68, .inp 69, .inp 70, .inp 71, .inp 72, .inp 73, .inp 74, .inp 75, .inp 76, .inp 77, .inp 78, .inp 79, .inp 80, .inp 81, .inp 82, .inp 83, .inp 84, .inp 85, .inp 86, .inp 87, .inp 88, .inp 89, .inp 90, .inp 91, .inp 92, .inp 93, .inp 94, .inp 95, .inp 96, .inp 97, .inp 98, .inp 99, .inp 100, .inp 101, .inp 102, .inp 103, .inp 104, .inp 105, .inp 106, .inp 107, .inp 108, .inp 109, .inp 110, .inp 111, .inp 112, .inp 113], .inp 114] 115 = rt_back_Cancel := by kernel_rfl

noncomputable def rt_back_Tick : RT :=
.seg [.chk [] (.isAgg 11) [qka3_0]] <|
.seg [.chk [] (.isAgg 29) [qka3_1]] <|
.seg [.chk [] (.isAgg 23) [qka3_35]] <|
.seg [.call 63 [] 34 [qka3_35] false] <|
.seg [.chk [] (.isAgg 23) [.inp 63]] <|
.seg [.chk [] (.bin .neq) [qka3_36, .int .u8 4]] <|
.seg [.call 64 [(qka3_37, false)] 35 [qka3_0, qka3_1] false] <|
.seg [.chk [] .pick [qka3_37, .bool true, .inp 64]] <|
.cond (.app .pick [qka3_37, .bool true, .inp 64])
 (.seg [.chk [] (.isAgg 23) [qka3_60]] <|
.ret (qka3_61))
 (.seg [.call 65 [] 36 [qka3_0, qka3_1, qka3_60] false] <|
.cond (.inp 65)
 (.seg [.call 66 [] 37 [qka3_0, qka3_1, .agg [qka3_38, qka3_39, qka3_40, qka3_41, qka3_42, qka3_43, .int .u8 3, qka3_44, qka3_45, qka3_46, qka3_47, qka3_48, qka3_49, qka3_50, qka3_51, qka3_52, qka3_53, qka3_54, qka3_55, qka3_56, qka3_57, .int .i64 0, qka3_59]] false] <|
.seg [.chk [] (.isAgg 23) [.inp 66]] <|
.seg [.chk [] (.isAgg 23) [qka3_62]] <|
.ret (.tup [qka3_62, .bool false]))
 (.seg [.call 66 [] 16 [qka3_0, qka3_1, qka3_60] false] <|
.cond (.inp 66)
 (.seg [.chk [] (.isAgg 23) [qka3_60]] <|
.ret (qka3_61))
 (.seg [.call 67 [] 38 [qka3_58] false] <|
.seg [.chk [] .isOne [.inp 67]] <|
.seg [.chk [] (.bin .eql) [.inp 67, .int .i64 0]] <|
.seg [.chk [] (.isAgg 23) [qka3_63]] <|
.ret (.tup [qka3_63, .app (.bin .eql) [.inp 67, .int .i64 0]]))))
theorem run_back_Tick : runF E 12 [.agg [.inp 0, .inp 1, .inp 2, .inp 3, .inp 4, .inp 5, .inp 6, .inp 7, .inp 8, .inp 9, .inp 10], .agg [.inp 11, .inp 12, .inp 13, .inp 14, .inp 15, .inp 16, .inp 17, .inp 18, .inp 19, .inp 20, .inp 21, .inp 22, .inp 23, .inp 24, .inp 25, .inp 26, .inp 27, .inp 28, .inp 29, .inp 30, .inp 31, .inp 32, .inp 33, .inp 34, .inp 35, .inp 36, .inp 37, .inp 38, .inp 39], .agg [.inp 40, .inp 41, .inp 42, .inp 43, .inp 44, .inp 45, .inp 46, .inp 47, .inp 48, .inp 49, .inp 50, .inp 51, .inp 52, .inp 53, .inp 54, .inp 55, .inp 56, .inp 57, .inp 58, .inp 59, .inp 60, .inp 61, .inp 62]] 63 = rt_back_Tick := by kernel_rfl

noncomputable def rt_beyond_Rear : RT :=
.seg [.chk [] (.isAgg 11) [qka3_0]] <|
.seg [.chk [] (.bin .lss) [.inp 11, .int .i64 0]] <|
.seg [.chk [(qka3_64, false)] .len [.inp 1]] <|
.seg [.chk [(qka3_64, false)] (.bin .geq) [.inp 11, .app .len [.inp 1]]] <|
.seg [.chk [] .pick [qka3_64, .bool true, qka3_65]] <|
.cond (qka3_66)
 (.seg [.chk [] (.eload 2 true) [qka3_67]] <|
.seg [.chk [] (.isAgg 2) [qka3_68]] <|
.ret (qka3_69))
 (.seg [.chk [] (.eidx 2) [.inp 1, .inp 11],
.chk [] (.eoff 0) [qka3_70],
.chk [] (.eload 2 true) [qka3_71],
.call 12 [] 72 [qka3_0, qka3_72] false,
.chk [] (.isAgg 2) [.inp 12]] <|
.ret (qka3_73))
theorem run_beyond_Rear : runF E 46 [.agg [.inp 0, .inp 1, .inp 2, .inp 3, .inp 4, .inp 5, .inp 6, .inp 7, .inp 8, .inp 9, .inp 10], .inp 11] 12 = rt_beyond_Rear := by kernel_rfl

noncomputable def rt_join_Beyond : RT :=
.seg [.chk [] (.isAgg 11) [qka3_0]] <|
.seg [.chk [] (.isAgg 2) [.agg [.inp 11, .inp 12]]] <|
.seg [.call 13 [] 88 [qka3_0, .agg [.inp 11, .inp 12]] false] <|
.cond (.inp 13)
 (.seg [.chk [] (.eidx 11) [.inp 0, .inp 11],
.chk [] (.eoff 1) [qka3_74],
.chk [] (.eaidx 4 2) [qka3_75, .inp 12],
.chk [] (.eload 2 true) [qka3_76],
.chk [] (.isAgg 2) [qka3_77]] <|
.ret (qka3_78))
 (.seg [.chk [] (.eload 2 true) [qka3_67]] <|
.seg [.chk [] (.isAgg 2) [qka3_68]] <|
.ret (qka3_69))
theorem run_join_Beyond : runF E 72 [.agg [.inp 0, .inp 1, .inp 2, .inp 3, .inp 4, .inp 5, .inp 6, .inp 7, .inp 8, .inp 9, .inp 10], .agg [.inp 11, .inp 12]] 13 = rt_join_Beyond := by kernel_rfl

noncomputable def rt_join_Has : RT :=
.seg [.chk [] (.isAgg 11) [qka3_0]] <|
.seg [.chk [] (.isAgg 2) [.agg [.inp 11, .inp 12]]] <|
.seg [.chk [] (.bin .geq) [.inp 11, .int .i64 0],
.chk [(qka3_79, true)] .len [.inp 0],
.chk [(qka3_79, true)] (.bin .lss) [.inp 11, .app .len [.inp 0]],
.chk [] .pick [qka3_79, qka3_80, .bool false],
.chk [(qka3_81, true)] (.bin .geq) [.inp 12, .int .i64 0],
.chk [] .pick [qka3_81, qka3_82, .bool false],
.chk [(qka3_83, true)] (.eidx 11) [.inp 0, .inp 11],
.chk [(qka3_83, true)] (.eoff 0) [qka3_74],
.chk [(qka3_83, true)] (.eload 1 false) [qka3_84],
.call 13 [(qka3_83, true)] 100 [qka3_85] false,
.chk [(qka3_83, true)] (.bin .lss) [.inp 12, .inp 13],
.chk [] .pick [qka3_83, qka3_86, .bool false]] <|
.seg [.bind 14 (qka3_87),
.bind 15 (qka3_83)] <|
.ret (.inp 14)
theorem run_join_Has : runF E 88 [.agg [.inp 0, .inp 1, .inp 2, .inp 3, .inp 4, .inp 5, .inp 6, .inp 7, .inp 8, .inp 9, .inp 10], .agg [.inp 11, .inp 12]] 13 = rt_join_Has := by kernel_rfl

noncomputable def rt_port_Ports : RT :=
.seg [.call 1 [] 111 [.inp 0] false] <|
.seg [.chk [] (.part 0 1 false) [.inp 1]] <|
.ret (.app (.part 0 1 false) [.inp 1])
theorem run_port_Ports : runF E 100 [.inp 0] 1 = rt_port_Ports := by kernel_rfl

noncomputable def rt_lockbarref03_Down : RT :=
.seg [.chk [] (.bin .leq) [.inp 0, .int .i64 0]] <|
.cond (.app (.bin .leq) [.inp 0, .int .i64 0])
 (.ret (.int .i64 0))
 (.seg [.chk [] (.bin .sub) [.inp 0, .int .i64 1]] <|
.ret (.app (.bin .sub) [.inp 0, .int .i64 1]))
theorem run_lockbarref03_Down : runF E 27 [.inp 0] 1 = rt_lockbarref03_Down := by kernel_rfl

noncomputable def rt_lockbarref05_Ports : RT :=
.seg [.chk [] (.bin .eql) [.inp 0, .int .u8 1]] <|
.cond (.app (.bin .eql) [.inp 0, .int .u8 1])
 (.ret (.int .i64 2))
 (.seg [.chk [] (.bin .eql) [.inp 0, .int .u8 2]] <|
.cond (.app (.bin .eql) [.inp 0, .int .u8 2])
 (.ret (.int .i64 3))
 (.seg [.chk [] (.bin .eql) [.inp 0, .int .u8 3]] <|
.cond (.app (.bin .eql) [.inp 0, .int .u8 3])
 (.ret (.int .i64 4))
 (.ret (.int .i64 0))))
theorem run_lockbarref05_Ports : runF E 101 [.inp 0] 1 = rt_lockbarref05_Ports := by kernel_rfl

noncomputable def rt_lockbarref06_Great : RT :=
.seg [.chk [] (.isAgg 11) [qka3_0]] <|
.loop 0 11 [.int .i64 0] <|
.seg [.chk [] .len [.inp 2]] <|
.seg [.chk [] (.bin .lss) [.inp 11, .app .len [.inp 2]]] <|
.seg [.chk [(qka3_94, true)] (.bin .leq) [.inp 11, .int .i64 30]] <|
.seg [.chk [] .pick [qka3_94, qka3_95, .bool false]] <|
.cond (.app .pick [qka3_94, qka3_95, .bool false])
 (.seg [.chk [] (.eidx 3) [.inp 2, .inp 11]] <|
.seg [.chk [] (.eoff 2) [qka3_96]] <|
.seg [.chk [] (.eload 1 false) [qka3_97]] <|
.seg [.chk [] .len [qka3_98]] <|
.seg [.chk [] (.bin .gtr) [qka3_99, .int .i64 20]] <|
.cond (.app (.bin .gtr) [qka3_99, .int .i64 20])
 (.ret (.bool true))
 (.seg [.chk [] (.bin .add) [.inp 11, .int .i64 1]] <|
.again 0 [.app (.bin .add) [.inp 11, .int .i64 1]]))
 (.seg [.chk [] .len [.inp 0]] <|
.seg [.chk [] (.bin .gtr) [.app .len [.inp 0], .int .i64 40]] <|
.seg [.chk [(qka3_100, false)] .len [.inp 1]] <|
.seg [.chk [(qka3_100, false)] (.bin .gtr) [.app .len [.inp 1], .int .i64 30]] <|
.seg [.chk [] .pick [qka3_100, .bool true, qka3_101]] <|
.seg [.chk [(qka3_102, false)] .len [.inp 2]] <|
.seg [.chk [(qka3_102, false)] (.bin .gtr) [.app .len [.inp 2], .int .i64 30]] <|
.seg [.chk [] .pick [qka3_102, .bool true, qka3_103]] <|
.seg [.chk [(qka3_104, false)] .len [.inp 3]] <|
.seg [.chk [(qka3_104, false)] (.bin .gtr) [.app .len [.inp 3], .int .i64 40]] <|
.seg [.chk [] .pick [qka3_104, .bool true, qka3_105]] <|
.seg [.bind 12 (.app .pick [qka3_104, .bool true, qka3_105]),
.bind 13 (qka3_102),
.bind 14 (qka3_104)] <|
.ret (.inp 12))
theorem run_lockbarref06_Great : runF E 7 [.agg [.inp 0, .inp 1, .inp 2, .inp 3, .inp 4, .inp 5, .inp 6, .inp 7, .inp 8, .inp 9, .inp 10]] 11 = rt_lockbarref06_Great := by kernel_rfl

noncomputable def rt_lockbarref07_none : RT :=
.ret (qka3_106)
theorem run_lockbarref07_none : runF E 90 [] 0 = rt_lockbarref07_none := by kernel_rfl

noncomputable def rt_lockbarref07_Has : RT :=
.seg [.chk [] (.isAgg 11) [qka3_0]] <|
.seg [.chk [] (.isAgg 2) [.agg [.inp 11, .inp 12]]] <|
.seg [.chk [] (.bin .geq) [.inp 11, .int .i64 0],
.chk [(qka3_79, true)] .len [.inp 0],
.chk [(qka3_79, true)] (.bin .lss) [.inp 11, .app .len [.inp 0]],
.chk [] .pick [qka3_79, qka3_80, .bool false],
.chk [(qka3_81, true)] (.bin .geq) [.inp 12, .int .i64 0],
.chk [] .pick [qka3_81, qka3_82, .bool false],
.chk [(qka3_83, true)] (.eidx 11) [.inp 0, .inp 11],
.chk [(qka3_83, true)] (.eoff 0) [qka3_74],
.chk [(qka3_83, true)] (.eload 1 false) [qka3_84],
.call 13 [(qka3_83, true)] 101 [qka3_85] false,
.chk [(qka3_83, true)] (.bin .lss) [.inp 12, .inp 13],
.chk [] .pick [qka3_83, qka3_86, .bool false]] <|
.seg [.bind 14 (qka3_87),
.bind 15 (qka3_83)] <|
.ret (.inp 14)
theorem run_lockbarref07_Has : runF E 89 [.agg [.inp 0, .inp 1, .inp 2, .inp 3, .inp 4, .inp 5, .inp 6, .inp 7, .inp 8, .inp 9, .inp 10], .agg [.inp 11, .inp 12]] 13 = rt_lockbarref07_Has := by kernel_rfl

noncomputable def rt_lockbarref07_Beyond : RT :=
.seg [.chk [] (.isAgg 11) [qka3_0]] <|
.seg [.chk [] (.isAgg 2) [.agg [.inp 11, .inp 12]]] <|
.seg [.call 13 [] 89 [qka3_0, .agg [.inp 11, .inp 12]] false] <|
.seg [.chk [] (.un .not) [.inp 13]] <|
.cond (.inp 13)
 (.seg [.chk [] (.eidx 11) [.inp 0, .inp 11],
.chk [] (.eoff 1) [qka3_74],
.chk [] (.eaidx 4 2) [qka3_75, .inp 12],
.chk [] (.eload 2 true) [qka3_76],
.chk [] (.isAgg 2) [qka3_77]] <|
.ret (qka3_78))
 (.seg [.call 14 [] 90 [] false] <|
.seg [.chk [] (.isAgg 2) [.inp 14]] <|
.ret (.agg [.app (.part 0 1 false) [.inp 14], .app (.part 1 1 false) [.inp 14]]))
theorem run_lockbarref07_Beyond : runF E 74 [.agg [.inp 0, .inp 1, .inp 2, .inp 3, .inp 4, .inp 5, .inp 6, .inp 7, .inp 8, .inp 9, .inp 10], .agg [.inp 11, .inp 12]] 13 = rt_lockbarref07_Beyond := by kernel_rfl

noncomputable def rt_lockbarref10_Rear : RT :=
.seg [.chk [] (.isAgg 11) [qka3_0]] <|
.seg [.chk [] (.bin .lss) [.inp 11, .int .i64 0]] <|
.seg [.chk [(qka3_64, false)] .len [.inp 1]] <|
.seg [.chk [(qka3_64, false)] (.bin .geq) [.inp 11, .app .len [.inp 1]]] <|
.seg [.chk [] .pick [qka3_64, .bool true, qka3_65]] <|
.cond (qka3_66)
 (.seg [.call 12 [] 73 [] false] <|
.seg [.chk [] (.isAgg 2) [.inp 12]] <|
.ret (qka3_73))
 (.seg [.chk [] (.eidx 2) [.inp 1, .inp 11],
.chk [] (.eoff 0) [qka3_70],
.chk [] (.eload 2 true) [qka3_71],
.call 12 [] 74 [qka3_0, qka3_72] false,
.chk [] (.isAgg 2) [.inp 12]] <|
.ret (qka3_73))
theorem run_lockbarref10_Rear : runF E 47 [.agg [.inp 0, .inp 1, .inp 2, .inp 3, .inp 4, .inp 5, .inp 6, .inp 7, .inp 8, .inp 9, .inp 10], .inp 11] 12 = rt_lockbarref10_Rear := by kernel_rfl

noncomputable def rt_lockbarref10_none : RT :=
.ret (qka3_106)
theorem run_lockbarref10_none : runF E 73 [] 0 = rt_lockbarref10_none := by kernel_rfl

noncomputable def rt_port_of : RT :=
.seg [.chk [] (.conv .i64) [.inp 0]] <|
.seg [.chk [] (.bin .lss) [.app (.conv .i64) [.inp 0], .int .i64 4]] <|
.cond (.app (.bin .lss) [.app (.conv .i64) [.inp 0], .int .i64 4])
 (.seg [.chk [] (.eaidx 4 7) [qka3_116, .inp 0]] <|
.seg [.chk [] (.eload 7 true) [qka3_117]] <|
.seg [.chk [] (.isAgg 7) [qka3_118]] <|
.seg [.bind 1 (qka3_117),
.bind 2 (qka3_118),
.bind 3 (.app (.part 0 1 false) [qka3_118]),
.bind 4 (.app (.part 1 1 false) [qka3_118]),
.bind 5 (.app (.part 2 1 false) [qka3_118]),
.bind 6 (.app (.part 3 1 false) [qka3_118]),
.bind 7 (.app (.part 4 1 false) [qka3_118]),
.bind 8 (.app (.part 5 1 false) [qka3_118]),
.bind 9 (.app (.part 6 1 false) [qka3_118])] <|
.ret (.agg [.inp 3, .inp 4, .inp 5, .inp 6, .inp 7, .inp 8, .inp 9]))
 (.ret (.agg [.int .i64 0, .int .i64 0, .int .i64 0, .int .i64 0, .int .i64 0, .int .i64 0, .bool false]))
theorem run_port_of : runF E 111 [.inp 0] 1 = rt_port_of := by kernel_rfl

noncomputable def rt_lockbarref18_Same : RT :=
.seg [.chk [] (.isAgg 74) [qka3_88]] <|
.seg [.chk [] (.isAgg 74) [.agg [.inp 74, .inp 75, .inp 76, .inp 77, .inp 78, .inp 79, .inp 80, .inp 81, .inp 82, .inp 83, .inp 84, .inp 85, .inp 86, .inp 87, .inp 88, .inp 89, .inp 90, .inp 91, .inp 92, .inp 93, .inp 94, .inp 95, .inp 96, .inp 97, .inp 98, .inp 99, .inp 100, .inp 101, .inp 102, .inp 103, .inp 104, .inp 105, .inp 106, .inp 107, .inp 108, .inp 109, .inp 110, .inp 111, .inp 112, .inp 113, .inp 114, .inp 115, .inp 116, .inp 117, .inp 118, .inp 119, .inp 120, .inp 121, .inp 122, .inp 123, .inp 124, .inp 125, .inp 126, .inp 127, .inp 128, .inp 129, .inp 130, .inp 131, .inp 132, .inp 133, .inp 134, .inp 135, .inp 136, .inp 137, .inp 138, .inp 139, .inp 140, .inp 141, .inp 142, .inp 143, .inp 144, .inp 145, .inp 146, .inp 147]]] <|
.seg [.chk [] .len [.inp 1]] <|
.seg [.chk [] .len [.inp 75]] <|
.seg [.chk [] (.bin .neq) [.app .len [.inp 1], .app .len [.inp 75]]] <|
.cond (.app (.bin .neq) [.app .len [.inp 1], .app .len [.inp 75]])
 (.ret (.bool false))
 (.loop 0 148 [.int .i64 0] <|
.seg [.chk [] .len [.inp 1]] <|
.seg [.chk [] (.bin .lss) [.inp 148, .app .len [.inp 1]]] <|
.cond (.app (.bin .lss) [.inp 148, .app .len [.inp 1]])
 (.seg [.chk [] (.eidx 23) [.inp 1, .inp 148],
.chk [] (.eload 23 true) [qka3_127],
.chk [] (.eidx 23) [.inp 75, .inp 148],
.chk [] (.eload 23 true) [qka3_128],
.call 149 [] 15 [.app (.eload 23 true) [qka3_127], .app (.eload 23 true) [qka3_128]] false,
.chk [] (.un .not) [.inp 149]] <|
.cond (.inp 149)
 (.seg [.chk [] (.bin .add) [.inp 148, .int .i64 1]] <|
.again 0 [.app (.bin .add) [.inp 148, .int .i64 1]])
 (.ret (.bool false)))
 (.seg [.chk [] (.bin .eql) [.inp 0, .inp 74]] <|
.seg [.chk [(qka3_129, true)] (.eqa [ some .i64, some .i64, none, some .i64, some .i64, none, some .i64, some .i64, none, some .i64, some .i64, none, some .i64, some .i64, none, some .i64, some .i64, none, some .i64, some .i64, none, some .i64, some .i64, none, some .i64, some .i64, none, some .i64, some .i64, none, some .i64, some .i64, none, some .i64, some .i64, none, some .i64, some .i64, none, some .i64, some .i64, none, some .i64, some .i64, none, some .i64, some .i64, none, some .i64, some .i64, none, some .i64, some .i64, none, some .i64, some .i64, none, some .i64, some .i64, none, some .i64, some .i64, none, some .i64, some .i64, none, some .i64, some .i64, none, some .i64, some .i64, none] false) [qka3_130, qka3_131]] <|
.seg [.chk [] .pick [qka3_129, qka3_132, .bool false]] <|
.seg [.bind 149 (.app .pick [qka3_129, qka3_132, .bool false]),
.bind 150 (qka3_132)] <|
.ret (.inp 149)))
theorem run_lockbarref18_Same : runF E 14 [.agg [.inp 0, .inp 1, .inp 2, .inp 3, .inp 4, .inp 5, .inp 6, .inp 7, .inp 8, .inp 9, .inp 10, .inp 11, .inp 12, .inp 13, .inp 14, .inp 15, .inp 16, .inp 17, .inp 18, .inp 19, .inp 20, .inp 21, .inp 22, .inp 23, .inp 24, .inp 25, .inp 26, .inp 27, .inp 28, .inp 29, .inp 30, .inp 31, .inp 32, .inp 33, .inp 34, .inp 35, .inp 36, .inp 37, .inp 38, .inp 39, .inp 40, .inp 41, .inp 42, .inp 43, .inp 44, .inp 45, .inp 46, .inp 47, .inp 48, .inp 49, .inp 50, .inp 51, .inp 52, .inp 53, .inp 54, .inp 55, .inp 56, .inp 57, .inp 58, .inp 59, .inp 60, .inp 61, .inp 62, .inp 63, .inp 64, .inp 65, .inp 66, .inp 67, .inp 68, .inp 69, .inp 70, .inp 71, .inp 72, .inp 73], .agg [.inp 74, .inp 75, .inp 76, .inp 77, .inp 78, .inp 79, .inp 80, .inp 81, .inp 82, .inp 83, .inp 84, .inp 85, .inp 86, .inp 87, .inp 88, .inp 89, .inp 90, .inp 91, .inp 92, .inp 93, .inp 94, .inp 95, .inp 96, .inp 97, .inp 98, .inp 99, .inp 100, .inp 101, .inp 102, .inp 103, .inp 104, .inp 105, .inp 106, .inp 107, .inp 108, .inp 109, .inp 110, .inp 111, .inp 112, .inp 113, .inp 114, .inp 115, .inp 116, .inp 117, .inp 118, .inp 119, .inp 120, .inp 121, .inp 122, .inp 123, .inp 124, .inp 125, .inp 126, .inp 127, .inp 128, .inp 129, .inp 130, .inp 131, .inp 132, .inp 133, .inp 134, .inp 135, .inp 136, .inp 137, .inp 138, .inp 139, .inp 140, .inp 141, .inp 142, .inp 143, .inp 144, .inp 145, .inp 146, .inp 147]] 148 = rt_lockbarref18_Same := by kernel_rfl

noncomputable def rt_lockbarref18_Great : RT :=
.seg [.chk [] (.isAgg 74) [qka3_88]] <|
.loop 0 74 [.int .i64 0] <|
.seg [.chk [] .len [.inp 1]] <|
.seg [.chk [] (.bin .lss) [.inp 74, .app .len [.inp 1]]] <|
.seg [.chk [(qka3_122, true)] (.bin .leq) [.inp 74, .int .i64 10]] <|
.seg [.chk [] .pick [qka3_122, qka3_153, .bool false]] <|
.cond (.app .pick [qka3_122, qka3_153, .bool false])
 (.seg [.chk [] (.eidx 23) [.inp 1, .inp 74]] <|
.seg [.chk [] (.eload 23 true) [qka3_123]] <|
.seg [.chk [] (.isAgg 23) [qka3_124]] <|
.seg [.chk [] .len [qka3_154]] <|
.seg [.chk [] (.bin .gtr) [qka3_155, .int .i64 30]] <|
.seg [.chk [(qka3_156, false)] .len [qka3_157]] <|
.seg [.chk [(qka3_156, false)] (.bin .gtr) [qka3_158, .int .i64 10]] <|
.seg [.chk [] .pick [qka3_156, .bool true, qka3_159]] <|
.seg [.chk [(qka3_160, false)] .len [qka3_161]] <|
.seg [.chk [(qka3_160, false)] (.bin .gtr) [qka3_162, .int .i64 100]] <|
.seg [.chk [] .pick [qka3_160, .bool true, qka3_163]] <|
.seg [.bind 75 (qka3_160),
.bind 76 (.app .pick [qka3_160, .bool true, qka3_163])] <|
.cond (.inp 76)
 (.ret (.bool true))
 (.seg [.chk [] (.bin .add) [.inp 74, .int .i64 1]] <|
.again 0 [qka3_126]))
 (.seg [.chk [] .len [.inp 1]] <|
.seg [.chk [] (.bin .gtr) [.app .len [.inp 1], .int .i64 10]] <|
.ret (.app (.bin .gtr) [.app .len [.inp 1], .int .i64 10]))
theorem run_lockbarref18_Great : runF E 8 [.agg [.inp 0, .inp 1, .inp 2, .inp 3, .inp 4, .inp 5, .inp 6, .inp 7, .inp 8, .inp 9, .inp 10, .inp 11, .inp 12, .inp 13, .inp 14, .inp 15, .inp 16, .inp 17, .inp 18, .inp 19, .inp 20, .inp 21, .inp 22, .inp 23, .inp 24, .inp 25, .inp 26, .inp 27, .inp 28, .inp 29, .inp 30, .inp 31, .inp 32, .inp 33, .inp 34, .inp 35, .inp 36, .inp 37, .inp 38, .inp 39, .inp 40, .inp 41, .inp 42, .inp 43, .inp 44, .inp 45, .inp 46, .inp 47, .inp 48, .inp 49, .inp 50, .inp 51, .inp 52, .inp 53, .inp 54, .inp 55, .inp 56, .inp 57, .inp 58, .inp 59, .inp 60, .inp 61, .inp 62, .inp 63, .inp 64, .inp 65, .inp 66, .inp 67, .inp 68, .inp 69, .inp 70, .inp 71, .inp 72, .inp 73]] 74 = rt_lockbarref18_Great := by kernel_rfl

noncomputable def rt_lockbarref22_In : RT :=
.seg [.chk [] (.isAgg 11) [qka3_0]] <|
.seg [.chk [] (.isAgg 29) [qka3_1]] <|
.seg [.chk [] (.isAgg 23) [qka3_35]] <|
.loop 0 63 [.int .i64 0] <|
.seg [.chk [] .len [.inp 43]] <|
.seg [.chk [] (.bin .lss) [.inp 63, .app .len [.inp 43]]] <|
.cond (qka3_164)
 (.seg [.chk [] (.bin .geq) [.inp 63, .inp 47],
.chk [(qka3_165, true)] (.eidx 3) [.inp 43, .inp 63],
.chk [(qka3_165, true)] (.eoff 0) [qka3_166],
.chk [(qka3_165, true)] (.eload 1 false) [qka3_167],
.call 64 [(qka3_165, true)] 23 [qka3_0, qka3_1, qka3_168] false,
.chk [] .pick [qka3_165, .inp 64, .bool false]] <|
.cond (qka3_169)
 (.ret (.bool true))
 (.seg [.chk [] (.bin .add) [.inp 63, .int .i64 1]] <|
.again 0 [qka3_170]))
 (.ret (.bool false))
theorem run_lockbarref22_In : runF E 17 [.agg [.inp 0, .inp 1, .inp 2, .inp 3, .inp 4, .inp 5, .inp 6, .inp 7, .inp 8, .inp 9, .inp 10], .agg [.inp 11, .inp 12, .inp 13, .inp 14, .inp 15, .inp 16, .inp 17, .inp 18, .inp 19, .inp 20, .inp 21, .inp 22, .inp 23, .inp 24, .inp 25, .inp 26, .inp 27, .inp 28, .inp 29, .inp 30, .inp 31, .inp 32, .inp 33, .inp 34, .inp 35, .inp 36, .inp 37, .inp 38, .inp 39], .agg [.inp 40, .inp 41, .inp 42, .inp 43, .inp 44, .inp 45, .inp 46, .inp 47, .inp 48, .inp 49, .inp 50, .inp 51, .inp 52, .inp 53, .inp 54, .inp 55, .inp 56, .inp 57, .inp 58, .inp 59, .inp 60, .inp 61, .inp 62]] 63 = rt_lockbarref22_In := by kernel_rfl

noncomputable def rt_lockbarref22_told : RT :=
.seg [.chk [] (.isAgg 11) [qka3_0]] <|
.seg [.chk [] (.isAgg 29) [qka3_1]] <|
.seg [.chk [] (.isAgg 23) [qka3_35]] <|
.loop 0 63 [.int .i64 0] <|
.seg [.chk [] .len [.inp 43]] <|
.seg [.chk [] (.bin .lss) [.inp 63, .app .len [.inp 43]]] <|
.cond (qka3_164)
 (.seg [.chk [] (.bin .geq) [.inp 63, .inp 47],
.chk [(qka3_165, true)] (.eidx 3) [.inp 43, .inp 63],
.chk [(qka3_165, true)] (.eoff 0) [qka3_166],
.chk [(qka3_165, true)] (.eload 1 false) [qka3_167],
.call 64 [(qka3_165, true)] 24 [qka3_0, qka3_1, qka3_168] false,
.chk [] .pick [qka3_165, .inp 64, .bool false]] <|
.cond (qka3_169)
 (.ret (.bool true))
 (.seg [.chk [] (.bin .add) [.inp 63, .int .i64 1]] <|
.again 0 [qka3_170]))
 (.ret (.bool false))
theorem run_lockbarref22_told : runF E 40 [.agg [.inp 0, .inp 1, .inp 2, .inp 3, .inp 4, .inp 5, .inp 6, .inp 7, .inp 8, .inp 9, .inp 10], .agg [.inp 11, .inp 12, .inp 13, .inp 14, .inp 15, .inp 16, .inp 17, .inp 18, .inp 19, .inp 20, .inp 21, .inp 22, .inp 23, .inp 24, .inp 25, .inp 26, .inp 27, .inp 28, .inp 29, .inp 30, .inp 31, .inp 32, .inp 33, .inp 34, .inp 35, .inp 36, .inp 37, .inp 38, .inp 39], .agg [.inp 40, .inp 41, .inp 42, .inp 43, .inp 44, .inp 45, .inp 46, .inp 47, .inp 48, .inp 49, .inp 50, .inp 51, .inp 52, .inp 53, .inp 54, .inp 55, .inp 56, .inp 57, .inp 58, .inp 59, .inp 60, .inp 61, .inp 62]] 63 = rt_lockbarref22_told := by kernel_rfl

noncomputable def rt_lockbarref22_Rear : RT :=
.seg [.chk [] (.isAgg 11) [qka3_0]] <|
.seg [.chk [] (.isAgg 29) [qka3_1]] <|
.seg [.call 41 [] 47 [qka3_0, .inp 40] false] <|
.seg [.chk [] (.isAgg 2) [.inp 41]] <|
.seg [.chk [] (.bin .geq) [qka3_171, .int .i64 0]] <|
.seg [.call 42 [(qka3_172, true)] 23 [qka3_0, qka3_1, qka3_171] false] <|
.seg [.chk [] .pick [qka3_172, .inp 42, .bool false]] <|
.ret (.app .pick [qka3_172, .inp 42, .bool false])
theorem run_lockbarref22_Rear : runF E 19 [.agg [.inp 0, .inp 1, .inp 2, .inp 3, .inp 4, .inp 5, .inp 6, .inp 7, .inp 8, .inp 9, .inp 10], .agg [.inp 11, .inp 12, .inp 13, .inp 14, .inp 15, .inp 16, .inp 17, .inp 18, .inp 19, .inp 20, .inp 21, .inp 22, .inp 23, .inp 24, .inp 25, .inp 26, .inp 27, .inp 28, .inp 29, .inp 30, .inp 31, .inp 32, .inp 33, .inp 34, .inp 35, .inp 36, .inp 37, .inp 38, .inp 39], .inp 40] 41 = rt_lockbarref22_Rear := by kernel_rfl

noncomputable def rt_lockbarref22_find : RT :=
.seg [.chk [] (.isAgg 74) [qka3_88]] <|
.loop 0 75 [.int .i64 (-1), .int .i64 0] <|
.seg [.chk [] .len [.inp 1]] <|
.seg [.chk [] (.bin .lss) [.inp 76, .app .len [.inp 1]]] <|
.cond (.app (.bin .lss) [.inp 76, .app .len [.inp 1]])
 (.seg [.chk [] (.eidx 23) [.inp 1, .inp 76],
.chk [] (.eoff 1) [qka3_173],
.chk [] (.eoff 0) [qka3_174],
.chk [] (.eload 1 false) [qka3_175],
.chk [] (.bin .eql) [qka3_176, .inp 74],
.chk [(qka3_177, true)] (.bin .lss) [.inp 75, .int .i64 0],
.chk [(qka3_178, false), (qka3_177, true)] (.eidx 23) [.inp 1, .inp 76],
.chk [(qka3_178, false), (qka3_177, true)] (.eoff 0) [qka3_173],
.chk [(qka3_178, false), (qka3_177, true)] (.eload 1 false) [qka3_179],
.chk [(qka3_178, false), (qka3_177, true)] (.eidx 23) [.inp 1, .inp 75],
.chk [(qka3_178, false), (qka3_177, true)] (.eoff 0) [qka3_137],
.chk [(qka3_178, false), (qka3_177, true)] (.eload 1 false) [qka3_180],
.chk [(qka3_178, false), (qka3_177, true)] (.bin .gtr) [qka3_181, qka3_182],
.chk [(qka3_177, true)] .pick [qka3_178, .bool true, qka3_183],
.chk [] .pick [qka3_177, qka3_184, .bool false]] <|
.seg [.bind 77 (qka3_183),
.bind 78 (qka3_184),
.bind 79 (.app .pick [qka3_177, qka3_184, .bool false])] <|
.cond (.inp 79)
 (.seg [.chk [] (.bin .add) [.inp 76, .int .i64 1]] <|
.again 0 [.inp 76, qka3_152])
 (.seg [.chk [] (.bin .add) [.inp 76, .int .i64 1]] <|
.again 0 [.inp 75, qka3_152]))
 (.ret (.inp 75))
theorem run_lockbarref22_find : runF E 33 [.agg [.inp 0, .inp 1, .inp 2, .inp 3, .inp 4, .inp 5, .inp 6, .inp 7, .inp 8, .inp 9, .inp 10, .inp 11, .inp 12, .inp 13, .inp 14, .inp 15, .inp 16, .inp 17, .inp 18, .inp 19, .inp 20, .inp 21, .inp 22, .inp 23, .inp 24, .inp 25, .inp 26, .inp 27, .inp 28, .inp 29, .inp 30, .inp 31, .inp 32, .inp 33, .inp 34, .inp 35, .inp 36, .inp 37, .inp 38, .inp 39, .inp 40, .inp 41, .inp 42, .inp 43, .inp 44, .inp 45, .inp 46, .inp 47, .inp 48, .inp 49, .inp 50, .inp 51, .inp 52, .inp 53, .inp 54, .inp 55, .inp 56, .inp 57, .inp 58, .inp 59, .inp 60, .inp 61, .inp 62, .inp 63, .inp 64, .inp 65, .inp 66, .inp 67, .inp 68, .inp 69, .inp 70, .inp 71, .inp 72, .inp 73], .inp 74] 75 = rt_lockbarref22_find := by kernel_rfl

end Go.Lb.LK
