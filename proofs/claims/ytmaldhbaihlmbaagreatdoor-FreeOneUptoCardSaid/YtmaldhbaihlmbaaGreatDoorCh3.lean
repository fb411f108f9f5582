/- What functions come to, printed by a program, checked by the kernel. -/
import Derived.Test.YtmaldhbaihlmbaaGreatDoorCh1
set_option linter.unusedSimpArgs false
set_option linter.unusedVariables false
namespace Go.Lb.LK
open Go Go.Lb Go.Proofs
@[simp] noncomputable def qka1_0 : SE := .agg [.inp 0, .inp 1, .inp 2, .inp 3, .inp 4, .inp 5, .inp 6, .inp 7, .inp 8, .inp 9, .inp 10]
@[simp] noncomputable def qka1_1 : SE := .agg [.inp 11, .inp 12, .inp 13, .inp 14, .inp 15, .inp 16, .inp 17, .inp 18, .inp 19, .inp 20, .inp 21, .inp 22, .inp 23, .inp 24, .inp 25, .inp 26, .inp 27, .inp 28, .inp 29, .inp 30, .inp 31, .inp 32, .inp 33, .inp 34, .inp 35, .inp 36, .inp 37, .inp 38, .inp 39]
@[simp] noncomputable def qka1_2 : SE := .agg [.inp 40, .inp 41, .inp 42, .inp 43, .inp 44, .inp 45, .inp 46, .inp 47, .inp 48, .inp 49, .inp 50, .inp 51, .inp 52, .inp 53, .inp 54, .inp 55, .inp 56, .inp 57, .inp 58, .inp 59, .inp 60, .inp 61, .inp 62, .inp 63, .inp 64, .inp 65, .inp 66, .inp 67, .inp 68, .inp 69, .inp 70, .inp 71, .inp 72, .inp 73, .inp 74, .inp 75, .inp 76, .inp 77, .inp 78, .inp 79, .inp 80, .inp 81, .inp 82, .inp 83, .inp 84, .inp 85, .inp 86, .inp 87, .inp 88, .inp 89, .inp 90, .inp 91, .inp 92, .inp 93, .inp 94, .inp 95, .inp 96, .inp 97, .inp 98, .inp 99, .inp 100, .inp 101, .inp 102, .inp 103, .inp 104, .inp 105, .inp 106, .inp 107, .inp 108, .inp 109, .inp 110, .inp 111, .inp 112, .inp 113]
@[simp] noncomputable def qka1_3 : SE := .agg [.inp 114, .inp 115, .inp 116]
@[simp] noncomputable def qka1_4 : SE := .app (.eidx 23) [.inp 41, .inp 117]
@[simp] noncomputable def qka1_5 : SE := .app (.eload 23 true) [qka1_4]
@[simp] noncomputable def qka1_6 : SE := .app (.part 1 1 false) [qka1_5]
@[simp] noncomputable def qka1_7 : SE := .app (.bin .eql) [qka1_6, .inp 114]
@[simp] noncomputable def qka1_8 : SE := .app (.part 6 1 false) [qka1_5]
@[simp] noncomputable def qka1_9 : SE := .app (.bin .neq) [qka1_8, .int .u8 3]
@[simp] noncomputable def qka1_10 : SE := .app (.eidx 3) [.inp 116, .inp 119]
@[simp] noncomputable def qka1_11 : SE := .app (.eload 3 true) [qka1_10]
@[simp] noncomputable def qka1_12 : SE := .app (.bin .geq) [.inp 119, .int .i64 0]
@[simp] noncomputable def qka1_13 : SE := .app (.bin .lss) [.inp 122, .app .len [.inp 121]]
@[simp] noncomputable def qka1_14 : SE := .app (.eidx 3) [.inp 121, .inp 122]
@[simp] noncomputable def qka1_15 : SE := .app (.eload 3 true) [qka1_14]
@[simp] noncomputable def qka1_16 : SE := .app (.part 0 1 false) [qka1_15]
@[simp] noncomputable def qka1_17 : SE := .app (.bin .add) [.inp 122, .int .i64 1]
@[simp] noncomputable def qka1_18 : SE := .app (.bin .geq) [.inp 122, .int .i64 0]
@[simp] noncomputable def qka1_19 : SE := .app (.eidx 3) [.inp 124, .inp 125]
@[simp] noncomputable def qka1_20 : SE := .app (.eload 3 true) [qka1_19]
@[simp] noncomputable def qka1_21 : SE := .app (.bin .geq) [.app .len [.inp 41], .int .i64 6]
@[simp] noncomputable def qka1_22 : SE := .app (.bin .lss) [.inp 124, .app .len [.inp 123]]
@[simp] noncomputable def qka1_23 : SE := .app (.eidx 3) [.inp 123, .inp 124]
@[simp] noncomputable def qka1_24 : SE := .app (.eload 3 true) [qka1_23]
@[simp] noncomputable def qka1_25 : SE := .agg [.app (.part 0 1 false) [qka1_24], .app (.part 1 1 false) [qka1_24], .app (.part 2 1 false) [qka1_24]]
@[simp] noncomputable def qka1_26 : SE := .app (.bin .add) [.inp 124, .int .i64 1]
@[simp] noncomputable def qka1_27 : SE := .app (.bin .geq) [.inp 124, .int .i64 0]
@[simp] noncomputable def qka1_28 : SE := .app (.bin .lss) [.inp 121, .app .len [.inp 120]]
@[simp] noncomputable def qka1_29 : SE := .app (.eidx 3) [.inp 120, .inp 121]
@[simp] noncomputable def qka1_30 : SE := .app (.eload 3 true) [qka1_29]
@[simp] noncomputable def qka1_31 : SE := .app (.part 0 1 false) [qka1_30]
@[simp] noncomputable def qka1_32 : SE := .app (.bin .add) [.inp 121, .int .i64 1]
@[simp] noncomputable def qka1_33 : SE := .app (.bin .geq) [.inp 121, .int .i64 0]
@[simp] noncomputable def qka1_34 : SE := .app (.bin .lss) [.inp 123, .app .len [.inp 122]]
@[simp] noncomputable def qka1_35 : SE := .app (.eidx 3) [.inp 122, .inp 123]
@[simp] noncomputable def qka1_36 : SE := .app (.eload 3 true) [qka1_35]
@[simp] noncomputable def qka1_37 : SE := .agg [.app (.part 0 1 false) [qka1_36], .app (.part 1 1 false) [qka1_36], .app (.part 2 1 false) [qka1_36]]
@[simp] noncomputable def qka1_38 : SE := .app (.bin .add) [.inp 123, .int .i64 1]
@[simp] noncomputable def qka1_39 : SE := .app (.bin .geq) [.inp 123, .int .i64 0]
@[simp] noncomputable def qka1_40 : SE := .app (.eidx 3) [.inp 116, .inp 118]
@[simp] noncomputable def qka1_41 : SE := .app (.eload 3 true) [qka1_40]
@[simp] noncomputable def qka1_42 : SE := .app (.bin .geq) [.inp 118, .int .i64 0]
@[simp] noncomputable def qka1_43 : SE := .app (.eidx 3) [.inp 119, .inp 120]
@[simp] noncomputable def qka1_44 : SE := .app (.eload 3 true) [qka1_43]
@[simp] noncomputable def qka1_45 : SE := .agg [.inp 0, .inp 1, .inp 2, .inp 3, .inp 4, .inp 5, .inp 6, .inp 7, .inp 8, .inp 9, .inp 10, .inp 11, .inp 12, .inp 13, .inp 14, .inp 15, .inp 16, .inp 17, .inp 18, .inp 19, .inp 20, .inp 21, .inp 22, .inp 23, .inp 24, .inp 25, .inp 26, .inp 27, .inp 28, .inp 29, .inp 30, .inp 31, .inp 32, .inp 33, .inp 34, .inp 35, .inp 36, .inp 37, .inp 38, .inp 39, .inp 40, .inp 41, .inp 42, .inp 43, .inp 44, .inp 45, .inp 46, .inp 47, .inp 48, .inp 49, .inp 50, .inp 51, .inp 52, .inp 53, .inp 54, .inp 55, .inp 56, .inp 57, .inp 58, .inp 59, .inp 60, .inp 61, .inp 62, .inp 63, .inp 64, .inp 65, .inp 66, .inp 67, .inp 68, .inp 69, .inp 70, .inp 71, .inp 72, .inp 73]
@[simp] noncomputable def qka1_46 : SE := .app (.bin .gtr) [.app .len [.inp 1], .int .i64 6]
@[simp] noncomputable def qka1_47 : SE := .app (.bin .lss) [.inp 0, .int .i64 1]
@[simp] noncomputable def qka1_48 : SE := .app .pick [qka1_46, .bool true, qka1_47]
@[simp] noncomputable def qka1_49 : SE := .app (.bin .gtr) [.inp 0, .int .i64 1073741824]
@[simp] noncomputable def qka1_50 : SE := .app (.eidx 23) [.inp 1, .inp 76]
@[simp] noncomputable def qka1_51 : SE := .app (.eload 23 true) [qka1_50]
@[simp] noncomputable def qka1_52 : SE := .app (.part 0 1 false) [qka1_51]
@[simp] noncomputable def qka1_53 : SE := .agg [qka1_52, .app (.part 1 1 false) [qka1_51], .app (.part 2 1 false) [qka1_51], .app (.part 3 1 false) [qka1_51], .app (.part 4 1 false) [qka1_51], .app (.part 5 1 false) [qka1_51], .app (.part 6 1 false) [qka1_51], .app (.part 7 1 false) [qka1_51], .app (.part 8 1 false) [qka1_51], .app (.part 9 1 false) [qka1_51], .app (.part 10 1 false) [qka1_51], .app (.part 11 1 false) [qka1_51], .app (.part 12 1 false) [qka1_51], .app (.part 13 1 false) [qka1_51], .app (.part 14 1 false) [qka1_51], .app (.part 15 1 false) [qka1_51], .app (.part 16 1 false) [qka1_51], .app (.part 17 1 false) [qka1_51], .app (.part 18 1 false) [qka1_51], .app (.part 19 1 false) [qka1_51], .app (.part 20 1 false) [qka1_51], .app (.part 21 1 false) [qka1_51], .app (.part 22 1 false) [qka1_51]]
@[simp] noncomputable def qka1_54 : SE := .app (.bin .leq) [qka1_52, .inp 75]
@[simp] noncomputable def qka1_55 : SE := .app .pick [.app (.un .not) [.inp 77], .bool true, qka1_54]
@[simp] noncomputable def qka1_56 : SE := .app (.bin .geq) [qka1_52, .inp 0]
@[simp] noncomputable def qka1_57 : SE := .app .pick [qka1_55, .bool true, qka1_56]
@[simp] noncomputable def qka1_58 : SE := .app (.slice false true) [.inp 1, .inp 76]
@[simp] noncomputable def qka1_59 : SE := .app .len [qka1_58]
@[simp] noncomputable def qka1_60 : SE := .app (.eidx 23) [qka1_58, .inp 78]
@[simp] noncomputable def qka1_61 : SE := .app (.eload 23 true) [qka1_60]
@[simp] noncomputable def qka1_62 : SE := .agg [.app (.part 0 1 false) [qka1_61], .app (.part 1 1 false) [qka1_61], .app (.part 2 1 false) [qka1_61], .app (.part 3 1 false) [qka1_61], .app (.part 4 1 false) [qka1_61], .app (.part 5 1 false) [qka1_61], .app (.part 6 1 false) [qka1_61], .app (.part 7 1 false) [qka1_61], .app (.part 8 1 false) [qka1_61], .app (.part 9 1 false) [qka1_61], .app (.part 10 1 false) [qka1_61], .app (.part 11 1 false) [qka1_61], .app (.part 12 1 false) [qka1_61], .app (.part 13 1 false) [qka1_61], .app (.part 14 1 false) [qka1_61], .app (.part 15 1 false) [qka1_61], .app (.part 16 1 false) [qka1_61], .app (.part 17 1 false) [qka1_61], .app (.part 18 1 false) [qka1_61], .app (.part 19 1 false) [qka1_61], .app (.part 20 1 false) [qka1_61], .app (.part 21 1 false) [qka1_61], .app (.part 22 1 false) [qka1_61]]
@[simp] noncomputable def qka1_63 : SE := .app (.bin .add) [.inp 76, .int .i64 1]
@[simp] noncomputable def qka1_64 : SE := .agg [.inp 2, .inp 3, .inp 4, .inp 5, .inp 6, .inp 7, .inp 8, .inp 9, .inp 10, .inp 11, .inp 12, .inp 13, .inp 14, .inp 15, .inp 16, .inp 17, .inp 18, .inp 19, .inp 20, .inp 21, .inp 22, .inp 23, .inp 24, .inp 25, .inp 26, .inp 27, .inp 28, .inp 29, .inp 30, .inp 31, .inp 32, .inp 33, .inp 34, .inp 35, .inp 36, .inp 37, .inp 38, .inp 39, .inp 40, .inp 41, .inp 42, .inp 43, .inp 44, .inp 45, .inp 46, .inp 47, .inp 48, .inp 49, .inp 50, .inp 51, .inp 52, .inp 53, .inp 54, .inp 55, .inp 56, .inp 57, .inp 58, .inp 59, .inp 60, .inp 61, .inp 62, .inp 63, .inp 64, .inp 65, .inp 66, .inp 67, .inp 68, .inp 69, .inp 70, .inp 71, .inp 72, .inp 73]
@[simp] noncomputable def qka1_65 : SE := .app (.aidx 24 3 0 3 true) [qka1_64, .inp 77]
@[simp] noncomputable def qka1_66 : SE := .app (.bin .eql) [.inp 0, .inp 74]
@[simp] noncomputable def qka1_67 : SE := .agg [.inp 76, .inp 77, .inp 78, .inp 79, .inp 80, .inp 81, .inp 82, .inp 83, .inp 84, .inp 85, .inp 86, .inp 87, .inp 88, .inp 89, .inp 90, .inp 91, .inp 92, .inp 93, .inp 94, .inp 95, .inp 96, .inp 97, .inp 98, .inp 99, .inp 100, .inp 101, .inp 102, .inp 103, .inp 104, .inp 105, .inp 106, .inp 107, .inp 108, .inp 109, .inp 110, .inp 111, .inp 112, .inp 113, .inp 114, .inp 115, .inp 116, .inp 117, .inp 118, .inp 119, .inp 120, .inp 121, .inp 122, .inp 123, .inp 124, .inp 125, .inp 126, .inp 127, .inp 128, .inp 129, .inp 130, .inp 131, .inp 132, .inp 133, .inp 134, .inp 135, .inp 136, .inp 137, .inp 138, .inp 139, .inp 140, .inp 141, .inp 142, .inp 143, .inp 144, .inp 145, .inp 146, .inp 147]
@[simp] noncomputable def qka1_68 : SE := .app (.eqa [ some .i64, some .i64, none, some .i64, some .i64, none, some .i64, some .i64, none, some .i64, some .i64, none, some .i64, some .i64, none, some .i64, some .i64, none, some .i64, some .i64, none, some .i64, some .i64, none, some .i64, some .i64, none, some .i64, some .i64, none, some .i64, some .i64, none, some .i64, some .i64, none, some .i64, some .i64, none, some .i64, some .i64, none, some .i64, some .i64, none, some .i64, some .i64, none, some .i64, some .i64, none, some .i64, some .i64, none, some .i64, some .i64, none, some .i64, some .i64, none, some .i64, some .i64, none, some .i64, some .i64, none, some .i64, some .i64, none, some .i64, some .i64, none] false) [qka1_64, qka1_67]
@[simp] noncomputable def qka1_69 : SE := .app (.eidx 23) [.inp 1, .inp 148]
@[simp] noncomputable def qka1_70 : SE := .app (.eload 23 true) [qka1_69]
@[simp] noncomputable def qka1_71 : SE := .app (.eidx 23) [.inp 75, .inp 148]
@[simp] noncomputable def qka1_72 : SE := .app (.eload 23 true) [qka1_71]
@[simp] noncomputable def qka1_73 : SE := .app .app [.app .lst [], .inp 1]
@[simp] noncomputable def qka1_74 : SE := .app .len [qka1_73]
@[simp] noncomputable def qka1_75 : SE := .app (.rowget 23 0 23 true) [.inp 76, .inp 75]
@[simp] noncomputable def qka1_76 : SE := .agg [.app (.part 0 1 false) [.inp 77], .app (.part 1 1 false) [.inp 77], .app (.part 2 1 false) [.inp 77], .app (.part 3 1 false) [.inp 77], .app (.part 4 1 false) [.inp 77], .app (.part 5 1 false) [.inp 77], .app (.part 6 1 false) [.inp 77], .app (.part 7 1 false) [.inp 77], .app (.part 8 1 false) [.inp 77], .app (.part 9 1 false) [.inp 77], .app (.part 10 1 false) [.inp 77], .app (.part 11 1 false) [.inp 77], .app (.part 12 1 false) [.inp 77], .app (.part 13 1 false) [.inp 77], .app (.part 14 1 false) [.inp 77], .app (.part 15 1 false) [.inp 77], .app (.part 16 1 false) [.inp 77], .app (.part 17 1 false) [.inp 77], .app (.part 18 1 false) [.inp 77], .app (.part 19 1 false) [.inp 77], .app (.part 20 1 false) [.inp 77], .app (.part 21 1 false) [.inp 77], .app (.part 22 1 false) [.inp 77]]
@[simp] noncomputable def qka1_77 : SE := .ref [.int .i64 0, .int .i64 0, .int .i64 0, .int .i64 0, .int .i64 0, .int .i64 0, .bool false, .int .i64 2, .int .i64 0, .int .i64 1, .int .i64 0, .int .i64 0, .int .i64 1, .bool false, .int .i64 3, .int .i64 0, .int .i64 1, .int .i64 0, .int .i64 2, .int .i64 2, .bool true, .int .i64 4, .int .i64 0, .int .i64 1, .int .i64 2, .int .i64 3, .int .i64 2, .bool false] 0
@[simp] noncomputable def qka1_78 : SE := .app (.eaidx 4 7) [qka1_77, .inp 0]
@[simp] noncomputable def qka1_79 : SE := .app (.eload 7 true) [qka1_78]
@[simp] noncomputable def qka1_80 : SE := .app .lst [.agg [.app (.part 1 1 false) [.inp 3], .app (.part 2 1 false) [.inp 3]], .agg [.app (.part 3 1 false) [.inp 3], .app (.part 4 1 false) [.inp 3]]]
@[simp] noncomputable def qka1_81 : SE := .app (.part 5 1 false) [.inp 3]
@[simp] noncomputable def qka1_82 : SE := .app (.slice false true) [qka1_80, qka1_81]
@[simp] noncomputable def qka1_83 : SE := .app (.eidx 2) [.inp 4, .inp 6]
@[simp] noncomputable def qka1_84 : SE := .app (.eload 2 true) [qka1_83]
@[simp] noncomputable def qka1_85 : SE := .app (.part 0 1 false) [qka1_84]
@[simp] noncomputable def qka1_86 : SE := .app (.part 1 1 false) [qka1_84]
@[simp] noncomputable def qka1_87 : SE := .app (.bin .eql) [qka1_86, .inp 1]
@[simp] noncomputable def qka1_88 : SE := .app (.bin .eql) [qka1_85, .inp 2]
@[simp] noncomputable def qka1_89 : SE := .app (.bin .add) [.inp 6, .int .i64 1]
@[simp] noncomputable def qka1_90 : SE := .tup [.int .i64 0, .bool false]
@[simp] noncomputable def qka1_91 : SE := .app (.part 6 1 false) [.inp 4]
@[simp] noncomputable def qka1_92 : SE := .app (.un .not) [qka1_91]
@[simp] noncomputable def qka1_93 : SE := .tup [.app (.tproj 0) [.inp 3], .app (.tproj 1) [.inp 3]]
@[simp] noncomputable def qka1_94 : SE := .agg [.inp 11, .inp 12, .inp 13]
@[simp] noncomputable def qka1_95 : SE := .app (.bin .geq) [.inp 11, .int .i64 0]
@[simp] noncomputable def qka1_96 : SE := .app (.bin .lss) [.inp 11, .app .len [.inp 0]]
@[simp] noncomputable def qka1_97 : SE := .app .pick [qka1_95, qka1_96, .bool false]
@[simp] noncomputable def qka1_98 : SE := .app (.eidx 11) [.inp 0, .inp 11]
@[simp] noncomputable def qka1_99 : SE := .app (.eoff 0) [qka1_98]
@[simp] noncomputable def qka1_100 : SE := .app (.eload 1 false) [qka1_99]
@[simp] noncomputable def qka1_101 : SE := .app (.bin .lss) [.inp 11, .int .i64 0]
@[simp] noncomputable def qka1_102 : SE := .app (.bin .geq) [.inp 11, .app .len [.inp 2]]
@[simp] noncomputable def qka1_103 : SE := .app .pick [qka1_101, .bool true, qka1_102]
@[simp] noncomputable def qka1_104 : SE := .app (.eidx 3) [.inp 2, .inp 11]
@[simp] noncomputable def qka1_105 : SE := .app (.eoff 2) [qka1_104]
@[simp] noncomputable def qka1_106 : SE := .app (.eload 1 false) [qka1_105]
@[simp] noncomputable def qka1_107 : SE := .app (.un .not) [.app (.tproj 1) [.inp 14]]
@[simp] noncomputable def qka1_108 : SE := .app (.bin .neq) [qka1_100, .int .u8 2]
@[simp] noncomputable def qka1_109 : SE := .tup [.int .i64 0, .int .i64 0, .bool false]
@[simp] noncomputable def qka1_110 : SE := .tup [.inp 11, .app (.tproj 0) [.inp 16], .bool true]
@[simp] noncomputable def qka1_111 : SE := .agg [.app (.tproj 0) [.inp 15], .app (.tproj 1) [.inp 15], .inp 14]
@[simp] noncomputable def qka1_112 : SE := .app .lst [qka1_111]
@[simp] noncomputable def qka1_113 : SE := .app (.bin .lss) [.inp 17, .app .len [.inp 3]]
@[simp] noncomputable def qka1_114 : SE := .app (.eidx 4) [.inp 3, .inp 17]
@[simp] noncomputable def qka1_115 : SE := .app (.eload 4 true) [qka1_114]
@[simp] noncomputable def qka1_116 : SE := .app (.part 0 1 false) [qka1_115]
@[simp] noncomputable def qka1_117 : SE := .app (.bin .eql) [qka1_116, .inp 11]
@[simp] noncomputable def qka1_118 : SE := .app .pick [.app (.tproj 1) [.inp 16], qka1_117, .bool false]
@[simp] noncomputable def qka1_119 : SE := .app (.part 1 1 false) [qka1_115]
@[simp] noncomputable def qka1_120 : SE := .app (.bin .eql) [qka1_119, .app (.tproj 0) [.inp 16]]
@[simp] noncomputable def qka1_121 : SE := .app .pick [qka1_118, qka1_120, .bool false]
@[simp] noncomputable def qka1_122 : SE := .app (.part 2 1 false) [qka1_115]
@[simp] noncomputable def qka1_123 : SE := .app (.part 3 1 false) [qka1_115]
@[simp] noncomputable def qka1_124 : SE := .agg [qka1_116, qka1_119, qka1_122, qka1_123]
@[simp] noncomputable def qka1_125 : SE := .agg [qka1_122, qka1_123, .inp 14]
@[simp] noncomputable def qka1_126 : SE := .app .lst [qka1_125]
@[simp] noncomputable def qka1_127 : SE := .app .app [.inp 18, qka1_126]
@[simp] noncomputable def qka1_128 : SE := .app (.bin .add) [.inp 17, .int .i64 1]
@[simp] noncomputable def qka1_129 : SE := .app (.eidx 3) [.inp 13, .inp 14]
@[simp] noncomputable def qka1_130 : SE := .app (.eload 3 true) [qka1_129]
@[simp] noncomputable def qka1_131 : SE := .agg [.app (.part 0 1 false) [qka1_130], .app (.part 1 1 false) [qka1_130], .app (.part 2 1 false) [qka1_130]]
@[simp] noncomputable def qka1_132 : SE := .app (.eidx 3) [.inp 16, .inp 17]
@[simp] noncomputable def qka1_133 : SE := .app (.eload 3 true) [qka1_132]
@[simp] noncomputable def qka1_134 : SE := .agg [.app (.part 0 1 false) [qka1_133], .app (.part 1 1 false) [qka1_133], .app (.part 2 1 false) [qka1_133]]
@[simp] noncomputable def qka1_135 : SE := .app (.mm true) [.inp 0, .int .i64 0]
@[simp] noncomputable def qka1_136 : SE := .app (.bin .add) [.inp 2, .inp 3]
@[simp] noncomputable def qka1_137 : SE := .app (.bin .eql) [.inp 0, .int .u8 2]
@[simp] noncomputable def qka1_138 : SE := .app (.bin .lss) [.inp 1, .int .i64 0]
@[simp] noncomputable def qka1_139 : SE := .app (.bin .geq) [.inp 1, .inp 2]
@[simp] noncomputable def qka1_140 : SE := .app (.bin .eql) [.inp 1, .app (.tproj 0) [.inp 5]]
@[simp] noncomputable def qka1_141 : SE := .app (.bin .eql) [.inp 2, .app (.tproj 1) [.inp 5]]
@[simp] noncomputable def qka1_142 : SE := .app .pick [qka1_140, qka1_141, .bool false]
@[simp] noncomputable def qka1_143 : SE := .app (.bin .eql) [.inp 1, .app (.tproj 1) [.inp 5]]
@[simp] noncomputable def qka1_144 : SE := .app (.bin .eql) [.inp 2, .app (.tproj 0) [.inp 5]]
@[simp] noncomputable def qka1_145 : SE := .app .pick [qka1_143, qka1_144, .bool false]
@[simp] noncomputable def qka1_146 : SE := .app (.bin .neq) [.inp 0, .int .u8 2]
@[simp] noncomputable def qka1_147 : SE := .app (.bin .geq) [.inp 11, .app .len [.inp 0]]
@[simp] noncomputable def qka1_148 : SE := .app .pick [qka1_101, .bool true, qka1_147]
@[simp] noncomputable def qka1_149 : SE := .app (.bin .lss) [.inp 12, .int .i64 0]
@[simp] noncomputable def qka1_150 : SE := .app .pick [qka1_148, .bool true, qka1_149]
@[simp] noncomputable def qka1_151 : SE := .app (.bin .geq) [.inp 12, .inp 13]
@[simp] noncomputable def qka1_152 : SE := .app (.eload 11 true) [qka1_98]
@[simp] noncomputable def qka1_153 : SE := .app (.bin .lss) [.inp 11, .app .len [.inp 2]]
@[simp] noncomputable def qka1_154 : SE := .app (.bin .leq) [.inp 11, .int .i64 30]
@[simp] noncomputable def qka1_155 : SE := .app .len [qka1_106]
@[simp] noncomputable def qka1_156 : SE := .app (.bin .gtr) [.app .len [.inp 0], .int .i64 40]
@[simp] noncomputable def qka1_157 : SE := .app (.bin .gtr) [.app .len [.inp 1], .int .i64 30]
@[simp] noncomputable def qka1_158 : SE := .app .pick [qka1_156, .bool true, qka1_157]
@[simp] noncomputable def qka1_159 : SE := .app (.bin .gtr) [.app .len [.inp 2], .int .i64 30]
@[simp] noncomputable def qka1_160 : SE := .app .pick [qka1_158, .bool true, qka1_159]
@[simp] noncomputable def qka1_161 : SE := .app (.bin .gtr) [.app .len [.inp 3], .int .i64 40]
noncomputable def rt_free_Can : RT :=
.seg [.chk [] (.isAgg 11) [qka1_0]] <|
.seg [.chk [] (.isAgg 29) [qka1_1]] <|
.seg [.chk [] (.isAgg 74) [qka1_2]] <|
.seg [.chk [] (.isAgg 3) [qka1_3]] <|
.seg [.chk [] .len [.inp 41]] <|
.loop 0 117 [.int .i64 0] <|
.seg [.chk [] (.bin .lss) [.inp 117, .app .len [.inp 41]]] <|
.cond (.app (.bin .lss) [.inp 117, .app .len [.inp 41]])
 (.seg [.chk [] (.eidx 23) [.inp 41, .inp 117]] <|
.seg [.chk [] (.eload 23 true) [qka1_4]] <|
.seg [.chk [] (.isAgg 23) [qka1_5]] <|
.seg [.chk [] (.bin .eql) [qka1_6, .inp 114]] <|
.seg [.chk [(qka1_7, true)] (.bin .neq) [qka1_8, .int .u8 3]] <|
.seg [.chk [] .pick [qka1_7, qka1_9, .bool false]] <|
.seg [.bind 118 (.app .pick [qka1_7, qka1_9, .bool false])] <|
.cond (.inp 118)
 (.seg [.chk [] (.bin .geq) [.inp 117, .int .i64 0]] <|
.cond (.app (.bin .geq) [.inp 117, .int .i64 0])
 (.ret (.int .i64 190))
 (.seg [.chk [] .len [.inp 116]] <|
.loop 0 119 [.int .i64 0] <|
.seg [.chk [] (.bin .lss) [.inp 119, .app .len [.inp 116]]] <|
.cond (.app (.bin .lss) [.inp 119, .app .len [.inp 116]])
 (.seg [.chk [] (.eidx 3) [.inp 116, .inp 119]] <|
.seg [.chk [] (.eload 3 true) [qka1_10]] <|
.seg [.chk [] (.isAgg 3) [qka1_11]] <|
.seg [.call 120 [] 18 [qka1_0, qka1_1, qka1_2, .app (.part 0 1 false) [qka1_11]] false] <|
.seg [.chk [] (.un .not) [.inp 120]] <|
.cond (.inp 120)
 (.seg [.chk [] (.bin .add) [.inp 119, .int .i64 1]] <|
.again 0 [.app (.bin .add) [.inp 119, .int .i64 1]])
 (.seg [.chk [] (.bin .geq) [.inp 119, .int .i64 0]] <|
.seg [.call 121 [(qka1_12, false)] 52 [qka1_0, .inp 115] false] <|
.cond (qka1_12)
 (.ret (.int .i64 190))
 (.seg [.chk [] .len [.inp 121]] <|
.loop 0 122 [.int .i64 0] <|
.seg [.chk [] (.bin .lss) [.inp 122, .app .len [.inp 121]]] <|
.cond (qka1_13)
 (.seg [.chk [] (.eidx 3) [.inp 121, .inp 122]] <|
.seg [.chk [] (.eload 3 true) [qka1_14]] <|
.seg [.chk [] (.isAgg 3) [qka1_15]] <|
.seg [.call 123 [] 18 [qka1_0, qka1_1, qka1_2, qka1_16] false] <|
.seg [.chk [] (.un .not) [.inp 123]] <|
.cond (.inp 123)
 (.seg [.chk [] (.bin .add) [.inp 122, .int .i64 1]] <|
.again 0 [qka1_17])
 (.seg [.chk [] (.bin .geq) [.inp 122, .int .i64 0]] <|
.cond (qka1_18)
 (.ret (.int .i64 190))
 (.seg [.call 124 [] 54 [qka1_0, qka1_3] false] <|
.seg [.chk [] .len [.inp 124]] <|
.loop 0 125 [.int .i64 0] <|
.seg [.chk [] (.bin .lss) [.inp 125, .app .len [.inp 124]]] <|
.cond (.app (.bin .lss) [.inp 125, .app .len [.inp 124]])
 (.seg [.chk [] (.eidx 3) [.inp 124, .inp 125]] <|
.seg [.chk [] (.eload 3 true) [qka1_19]] <|
.seg [.chk [] (.isAgg 3) [qka1_20]] <|
.seg [.call 126 [] 20 [qka1_0, qka1_1, qka1_2, .agg [.app (.part 0 1 false) [qka1_20], .app (.part 1 1 false) [qka1_20], .app (.part 2 1 false) [qka1_20]]] false] <|
.seg [.chk [] (.un .not) [.inp 126]] <|
.cond (.inp 126)
 (.seg [.chk [] (.bin .add) [.inp 125, .int .i64 1]] <|
.again 0 [.app (.bin .add) [.inp 125, .int .i64 1]])
 (.seg [.chk [] (.bin .geq) [.inp 125, .int .i64 0]] <|
.cond (.app (.bin .geq) [.inp 125, .int .i64 0])
 (.ret (.int .i64 190))
 (.seg [.chk [] .len [.inp 41]] <|
.seg [.chk [] (.bin .geq) [.app .len [.inp 41], .int .i64 6]] <|
.cond (qka1_21)
 (.ret (.int .i64 191))
 (.ret (.int .i64 0)))))
 (.seg [.chk [] (.bin .geq) [.int .i64 (-1), .int .i64 0]] <|
.seg [.chk [] .len [.inp 41]] <|
.seg [.chk [] (.bin .geq) [.app .len [.inp 41], .int .i64 6]] <|
.cond (qka1_21)
 (.ret (.int .i64 191))
 (.ret (.int .i64 0))))))
 (.seg [.chk [] (.bin .geq) [.int .i64 (-1), .int .i64 0]] <|
.seg [.call 123 [] 54 [qka1_0, qka1_3] false] <|
.seg [.chk [] .len [.inp 123]] <|
.loop 0 124 [.int .i64 0] <|
.seg [.chk [] (.bin .lss) [.inp 124, .app .len [.inp 123]]] <|
.cond (qka1_22)
 (.seg [.chk [] (.eidx 3) [.inp 123, .inp 124]] <|
.seg [.chk [] (.eload 3 true) [qka1_23]] <|
.seg [.chk [] (.isAgg 3) [qka1_24]] <|
.seg [.call 125 [] 20 [qka1_0, qka1_1, qka1_2, qka1_25] false] <|
.seg [.chk [] (.un .not) [.inp 125]] <|
.cond (.inp 125)
 (.seg [.chk [] (.bin .add) [.inp 124, .int .i64 1]] <|
.again 0 [qka1_26])
 (.seg [.chk [] (.bin .geq) [.inp 124, .int .i64 0]] <|
.cond (qka1_27)
 (.ret (.int .i64 190))
 (.seg [.chk [] .len [.inp 41]] <|
.seg [.chk [] (.bin .geq) [.app .len [.inp 41], .int .i64 6]] <|
.cond (qka1_21)
 (.ret (.int .i64 191))
 (.ret (.int .i64 0)))))
 (.seg [.chk [] (.bin .geq) [.int .i64 (-1), .int .i64 0]] <|
.seg [.chk [] .len [.inp 41]] <|
.seg [.chk [] (.bin .geq) [.app .len [.inp 41], .int .i64 6]] <|
.cond (qka1_21)
 (.ret (.int .i64 191))
 (.ret (.int .i64 0)))))))
 (.seg [.chk [] (.bin .geq) [.int .i64 (-1), .int .i64 0]] <|
.seg [.call 120 [] 52 [qka1_0, .inp 115] false] <|
.seg [.chk [] .len [.inp 120]] <|
.loop 0 121 [.int .i64 0] <|
.seg [.chk [] (.bin .lss) [.inp 121, .app .len [.inp 120]]] <|
.cond (qka1_28)
 (.seg [.chk [] (.eidx 3) [.inp 120, .inp 121]] <|
.seg [.chk [] (.eload 3 true) [qka1_29]] <|
.seg [.chk [] (.isAgg 3) [qka1_30]] <|
.seg [.call 122 [] 18 [qka1_0, qka1_1, qka1_2, qka1_31] false] <|
.seg [.chk [] (.un .not) [.inp 122]] <|
.cond (.inp 122)
 (.seg [.chk [] (.bin .add) [.inp 121, .int .i64 1]] <|
.again 0 [qka1_32])
 (.seg [.chk [] (.bin .geq) [.inp 121, .int .i64 0]] <|
.cond (qka1_33)
 (.ret (.int .i64 190))
 (.seg [.call 123 [] 54 [qka1_0, qka1_3] false] <|
.seg [.chk [] .len [.inp 123]] <|
.loop 0 124 [.int .i64 0] <|
.seg [.chk [] (.bin .lss) [.inp 124, .app .len [.inp 123]]] <|
.cond (qka1_22)
 (.seg [.chk [] (.eidx 3) [.inp 123, .inp 124]] <|
.seg [.chk [] (.eload 3 true) [qka1_23]] <|
.seg [.chk [] (.isAgg 3) [qka1_24]] <|
.seg [.call 125 [] 20 [qka1_0, qka1_1, qka1_2, qka1_25] false] <|
.seg [.chk [] (.un .not) [.inp 125]] <|
.cond (.inp 125)
 (.seg [.chk [] (.bin .add) [.inp 124, .int .i64 1]] <|
.again 0 [qka1_26])
 (.seg [.chk [] (.bin .geq) [.inp 124, .int .i64 0]] <|
.cond (qka1_27)
 (.ret (.int .i64 190))
 (.seg [.chk [] .len [.inp 41]] <|
.seg [.chk [] (.bin .geq) [.app .len [.inp 41], .int .i64 6]] <|
.cond (qka1_21)
 (.ret (.int .i64 191))
 (.ret (.int .i64 0)))))
 (.seg [.chk [] (.bin .geq) [.int .i64 (-1), .int .i64 0]] <|
.seg [.chk [] .len [.inp 41]] <|
.seg [.chk [] (.bin .geq) [.app .len [.inp 41], .int .i64 6]] <|
.cond (qka1_21)
 (.ret (.int .i64 191))
 (.ret (.int .i64 0))))))
 (.seg [.chk [] (.bin .geq) [.int .i64 (-1), .int .i64 0]] <|
.seg [.call 122 [] 54 [qka1_0, qka1_3] false] <|
.seg [.chk [] .len [.inp 122]] <|
.loop 0 123 [.int .i64 0] <|
.seg [.chk [] (.bin .lss) [.inp 123, .app .len [.inp 122]]] <|
.cond (qka1_34)
 (.seg [.chk [] (.eidx 3) [.inp 122, .inp 123]] <|
.seg [.chk [] (.eload 3 true) [qka1_35]] <|
.seg [.chk [] (.isAgg 3) [qka1_36]] <|
.seg [.call 124 [] 20 [qka1_0, qka1_1, qka1_2, qka1_37] false] <|
.seg [.chk [] (.un .not) [.inp 124]] <|
.cond (.inp 124)
 (.seg [.chk [] (.bin .add) [.inp 123, .int .i64 1]] <|
.again 0 [qka1_38])
 (.seg [.chk [] (.bin .geq) [.inp 123, .int .i64 0]] <|
.cond (qka1_39)
 (.ret (.int .i64 190))
 (.seg [.chk [] .len [.inp 41]] <|
.seg [.chk [] (.bin .geq) [.app .len [.inp 41], .int .i64 6]] <|
.cond (qka1_21)
 (.ret (.int .i64 191))
 (.ret (.int .i64 0)))))
 (.seg [.chk [] (.bin .geq) [.int .i64 (-1), .int .i64 0]] <|
.seg [.chk [] .len [.inp 41]] <|
.seg [.chk [] (.bin .geq) [.app .len [.inp 41], .int .i64 6]] <|
.cond (qka1_21)
 (.ret (.int .i64 191))
 (.ret (.int .i64 0)))))))
 (.seg [.chk [] (.bin .add) [.inp 117, .int .i64 1]] <|
.again 0 [.app (.bin .add) [.inp 117, .int .i64 1]]))
 (.seg [.chk [] (.bin .geq) [.int .i64 (-1), .int .i64 0]] <|
.seg [.chk [] .len [.inp 116]] <|
.loop 0 118 [.int .i64 0] <|
.seg [.chk [] (.bin .lss) [.inp 118, .app .len [.inp 116]]] <|
.cond (.app (.bin .lss) [.inp 118, .app .len [.inp 116]])
 (.seg [.chk [] (.eidx 3) [.inp 116, .inp 118]] <|
.seg [.chk [] (.eload 3 true) [qka1_40]] <|
.seg [.chk [] (.isAgg 3) [qka1_41]] <|
.seg [.call 119 [] 18 [qka1_0, qka1_1, qka1_2, .app (.part 0 1 false) [qka1_41]] false] <|
.seg [.chk [] (.un .not) [.inp 119]] <|
.cond (.inp 119)
 (.seg [.chk [] (.bin .add) [.inp 118, .int .i64 1]] <|
.again 0 [.app (.bin .add) [.inp 118, .int .i64 1]])
 (.seg [.chk [] (.bin .geq) [.inp 118, .int .i64 0]] <|
.seg [.call 120 [(qka1_42, false)] 52 [qka1_0, .inp 115] false] <|
.cond (qka1_42)
 (.ret (.int .i64 190))
 (.seg [.chk [] .len [.inp 120]] <|
.loop 0 121 [.int .i64 0] <|
.seg [.chk [] (.bin .lss) [.inp 121, .app .len [.inp 120]]] <|
.cond (qka1_28)
 (.seg [.chk [] (.eidx 3) [.inp 120, .inp 121]] <|
.seg [.chk [] (.eload 3 true) [qka1_29]] <|
.seg [.chk [] (.isAgg 3) [qka1_30]] <|
.seg [.call 122 [] 18 [qka1_0, qka1_1, qka1_2, qka1_31] false] <|
.seg [.chk [] (.un .not) [.inp 122]] <|
.cond (.inp 122)
 (.seg [.chk [] (.bin .add) [.inp 121, .int .i64 1]] <|
.again 0 [qka1_32])
 (.seg [.chk [] (.bin .geq) [.inp 121, .int .i64 0]] <|
.cond (qka1_33)
 (.ret (.int .i64 190))
 (.seg [.call 123 [] 54 [qka1_0, qka1_3] false] <|
.seg [.chk [] .len [.inp 123]] <|
.loop 0 124 [.int .i64 0] <|
.seg [.chk [] (.bin .lss) [.inp 124, .app .len [.inp 123]]] <|
.cond (qka1_22)
 (.seg [.chk [] (.eidx 3) [.inp 123, .inp 124]] <|
.seg [.chk [] (.eload 3 true) [qka1_23]] <|
.seg [.chk [] (.isAgg 3) [qka1_24]] <|
.seg [.call 125 [] 20 [qka1_0, qka1_1, qka1_2, qka1_25] false] <|
.seg [.chk [] (.un .not) [.inp 125]] <|
.cond (.inp 125)
 (.seg [.chk [] (.bin .add) [.inp 124, .int .i64 1]] <|
.again 0 [qka1_26])
 (.seg [.chk [] (.bin .geq) [.inp 124, .int .i64 0]] <|
.cond (qka1_27)
 (.ret (.int .i64 190))
 (.seg [.chk [] .len [.inp 41]] <|
.seg [.chk [] (.bin .geq) [.app .len [.inp 41], .int .i64 6]] <|
.cond (qka1_21)
 (.ret (.int .i64 191))
 (.ret (.int .i64 0)))))
 (.seg [.chk [] (.bin .geq) [.int .i64 (-1), .int .i64 0]] <|
.seg [.chk [] .len [.inp 41]] <|
.seg [.chk [] (.bin .geq) [.app .len [.inp 41], .int .i64 6]] <|
.cond (qka1_21)
 (.ret (.int .i64 191))
 (.ret (.int .i64 0))))))
 (.seg [.chk [] (.bin .geq) [.int .i64 (-1), .int .i64 0]] <|
.seg [.call 122 [] 54 [qka1_0, qka1_3] false] <|
.seg [.chk [] .len [.inp 122]] <|
.loop 0 123 [.int .i64 0] <|
.seg [.chk [] (.bin .lss) [.inp 123, .app .len [.inp 122]]] <|
.cond (qka1_34)
 (.seg [.chk [] (.eidx 3) [.inp 122, .inp 123]] <|
.seg [.chk [] (.eload 3 true) [qka1_35]] <|
.seg [.chk [] (.isAgg 3) [qka1_36]] <|
.seg [.call 124 [] 20 [qka1_0, qka1_1, qka1_2, qka1_37] false] <|
.seg [.chk [] (.un .not) [.inp 124]] <|
.cond (.inp 124)
 (.seg [.chk [] (.bin .add) [.inp 123, .int .i64 1]] <|
.again 0 [qka1_38])
 (.seg [.chk [] (.bin .geq) [.inp 123, .int .i64 0]] <|
.cond (qka1_39)
 (.ret (.int .i64 190))
 (.seg [.chk [] .len [.inp 41]] <|
.seg [.chk [] (.bin .geq) [.app .len [.inp 41], .int .i64 6]] <|
.cond (qka1_21)
 (.ret (.int .i64 191))
 (.ret (.int .i64 0)))))
 (.seg [.chk [] (.bin .geq) [.int .i64 (-1), .int .i64 0]] <|
.seg [.chk [] .len [.inp 41]] <|
.seg [.chk [] (.bin .geq) [.app .len [.inp 41], .int .i64 6]] <|
.cond (qka1_21)
 (.ret (.int .i64 191))
 (.ret (.int .i64 0)))))))
 (.seg [.chk [] (.bin .geq) [.int .i64 (-1), .int .i64 0]] <|
.seg [.call 119 [] 52 [qka1_0, .inp 115] false] <|
.seg [.chk [] .len [.inp 119]] <|
.loop 0 120 [.int .i64 0] <|
.seg [.chk [] (.bin .lss) [.inp 120, .app .len [.inp 119]]] <|
.cond (.app (.bin .lss) [.inp 120, .app .len [.inp 119]])
 (.seg [.chk [] (.eidx 3) [.inp 119, .inp 120]] <|
.seg [.chk [] (.eload 3 true) [qka1_43]] <|
.seg [.chk [] (.isAgg 3) [qka1_44]] <|
.seg [.call 121 [] 18 [qka1_0, qka1_1, qka1_2, .app (.part 0 1 false) [qka1_44]] false] <|
.seg [.chk [] (.un .not) [.inp 121]] <|
.cond (.inp 121)
 (.seg [.chk [] (.bin .add) [.inp 120, .int .i64 1]] <|
.again 0 [.app (.bin .add) [.inp 120, .int .i64 1]])
 (.seg [.chk [] (.bin .geq) [.inp 120, .int .i64 0]] <|
.cond (.app (.bin .geq) [.inp 120, .int .i64 0])
 (.ret (.int .i64 190))
 (.seg [.call 122 [] 54 [qka1_0, qka1_3] false] <|
.seg [.chk [] .len [.inp 122]] <|
.loop 0 123 [.int .i64 0] <|
.seg [.chk [] (.bin .lss) [.inp 123, .app .len [.inp 122]]] <|
.cond (qka1_34)
 (.seg [.chk [] (.eidx 3) [.inp 122, .inp 123]] <|
.seg [.chk [] (.eload 3 true) [qka1_35]] <|
.seg [.chk [] (.isAgg 3) [qka1_36]] <|
.seg [.call 124 [] 20 [qka1_0, qka1_1, qka1_2, qka1_37] false] <|
.seg [.chk [] (.un .not) [.inp 124]] <|
.cond (.inp 124)
 (.seg [.chk [] (.bin .add) [.inp 123, .int .i64 1]] <|
.again 0 [qka1_38])
 (.seg [.chk [] (.bin .geq) [.inp 123, .int .i64 0]] <|
.cond (qka1_39)
 (.ret (.int .i64 190))
 (.seg [.chk [] .len [.inp 41]] <|
.seg [.chk [] (.bin .geq) [.app .len [.inp 41], .int .i64 6]] <|
.cond (qka1_21)
 (.ret (.int .i64 191))
 (.ret (.int .i64 0)))))
 (.seg [.chk [] (.bin .geq) [.int .i64 (-1), .int .i64 0]] <|
.seg [.chk [] .len [.inp 41]] <|
.seg [.chk [] (.bin .geq) [.app .len [.inp 41], .int .i64 6]] <|
.cond (qka1_21)
 (.ret (.int .i64 191))
 (.ret (.int .i64 0))))))
 (.seg [.chk [] (.bin .geq) [.int .i64 (-1), .int .i64 0]] <|
.seg [.call 121 [] 54 [qka1_0, qka1_3] false] <|
.seg [.chk [] .len [.inp 121]] <|
.loop 0 122 [.int .i64 0] <|
.seg [.chk [] (.bin .lss) [.inp 122, .app .len [.inp 121]]] <|
.cond (qka1_13)
 (.seg [.chk [] (.eidx 3) [.inp 121, .inp 122]] <|
.seg [.chk [] (.eload 3 true) [qka1_14]] <|
.seg [.chk [] (.isAgg 3) [qka1_15]] <|
.seg [.call 123 [] 20 [qka1_0, qka1_1, qka1_2, .agg [qka1_16, .app (.part 1 1 false) [qka1_15], .app (.part 2 1 false) [qka1_15]]] false] <|
.seg [.chk [] (.un .not) [.inp 123]] <|
.cond (.inp 123)
 (.seg [.chk [] (.bin .add) [.inp 122, .int .i64 1]] <|
.again 0 [qka1_17])
 (.seg [.chk [] (.bin .geq) [.inp 122, .int .i64 0]] <|
.cond (qka1_18)
 (.ret (.int .i64 190))
 (.seg [.chk [] .len [.inp 41]] <|
.seg [.chk [] (.bin .geq) [.app .len [.inp 41], .int .i64 6]] <|
.cond (qka1_21)
 (.ret (.int .i64 191))
 (.ret (.int .i64 0)))))
 (.seg [.chk [] (.bin .geq) [.int .i64 (-1), .int .i64 0]] <|
.seg [.chk [] .len [.inp 41]] <|
.seg [.chk [] (.bin .geq) [.app .len [.inp 41], .int .i64 6]] <|
.cond (qka1_21)
 (.ret (.int .i64 191))
 (.ret (.int .i64 0))))))
theorem run_free_Can : runF E 22 [.agg [.inp 0, .inp 1, .inp 2, .inp 3, .inp 4, .inp 5, .inp 6, .inp 7, .inp 8, .inp 9, .inp 10], .agg [.inp 11, .inp 12, .inp 13, .inp 14, .inp 15, .inp 16, .inp 17, .inp 18, .inp 19, .inp 20, .inp 21, .inp 22, .inp 23, .inp 24, .inp 25, .inp 26, .inp 27, .inp 28, .inp 29, .inp 30, .inp 31, .inp 32, .inp 33, .inp 34, .inp 35, .inp 36, .inp 37, .inp 38, .inp 39], .agg [.inp 40, .inp 41, .inp 42, .inp 43, .inp 44, .inp 45, .inp 46, .inp 47, .inp 48, .inp 49, .inp 50, .inp 51, .inp 52, .inp 53, .inp 54, .inp 55, .inp 56, .inp 57, .inp 58, .inp 59, .inp 60, .inp 61, .inp 62, .inp 63, .inp 64, .inp 65, .inp 66, .inp 67, .inp 68, .inp 69, .inp 70, .inp 71, .inp 72, .inp 73, .inp 74, .inp 75, .inp 76, .inp 77, .inp 78, .inp 79, .inp 80, .inp 81, .inp 82, .inp 83, .inp 84, .inp 85, .inp 86, .inp 87, .inp 88, .inp 89, .inp 90, .inp 91, .inp 92, .inp 93, .inp 94, .inp 95, .inp 96, .inp 97, .inp 98, .inp 99, .inp 100, .inp 101, .inp 102, .inp 103, .inp 104, .inp 105, .inp 106, .inp 107, .inp 108, .inp 109, .inp 110, .inp 111, .inp 112, .inp 113], .agg [.inp 114, .inp 115, .inp 116]] 117 = rt_free_Can := by kernel_rfl

noncomputable def rt_free_Right : RT :=
.seg [.chk [] (.isAgg 74) [qka1_45]] <|
.seg [.chk [] .len [.inp 1]] <|
.seg [.chk [] (.bin .gtr) [.app .len [.inp 1], .int .i64 6]] <|
.seg [.chk [(qka1_46, false)] (.bin .lss) [.inp 0, .int .i64 1]] <|
.seg [.chk [] .pick [qka1_46, .bool true, qka1_47]] <|
.seg [.chk [(qka1_48, false)] (.bin .gtr) [.inp 0, .int .i64 1073741824]] <|
.seg [.chk [] .pick [qka1_48, .bool true, qka1_49]] <|
.seg [.bind 74 (.app .pick [qka1_48, .bool true, qka1_49])] <|
.cond (.inp 74)
 (.ret (.bool false))
 (.seg [.chk [] .len [.inp 1]] <|
.loop 0 75 [.int .i64 0, .int .i64 0] <|
.seg [.chk [] (.bin .lss) [.inp 76, .app .len [.inp 1]]] <|
.cond (.app (.bin .lss) [.inp 76, .app .len [.inp 1]])
 (.seg [.chk [] (.eidx 23) [.inp 1, .inp 76]] <|
.seg [.chk [] (.eload 23 true) [qka1_50]] <|
.seg [.chk [] (.isAgg 23) [qka1_51]] <|
.seg [.call 77 [] 57 [qka1_53] false] <|
.seg [.chk [] (.un .not) [.inp 77]] <|
.seg [.chk [(.app (.un .not) [.inp 77], false)] (.bin .leq) [qka1_52, .inp 75]] <|
.seg [.chk [] .pick [.app (.un .not) [.inp 77], .bool true, qka1_54]] <|
.seg [.chk [(qka1_55, false)] (.bin .geq) [qka1_52, .inp 0]] <|
.seg [.chk [] .pick [qka1_55, .bool true, qka1_56]] <|
.seg [.chk [(qka1_57, false)] (.szs 23) [.inp 1],
.chk [(qka1_57, false)] (.slice false true) [.inp 1, .inp 76]] <|
.cond (qka1_57)
 (.seg [.bind 78 (qka1_55)] <|
.ret (.bool false))
 (.seg [.chk [] .len [qka1_58]] <|
.loop 1 78 [.int .i64 0] <|
.seg [.chk [] (.bin .lss) [.inp 78, qka1_59]] <|
.cond (.app (.bin .lss) [.inp 78, qka1_59])
 (.seg [.chk [] (.eidx 23) [qka1_58, .inp 78]] <|
.seg [.chk [] (.eload 23 true) [qka1_60]] <|
.seg [.chk [] (.isAgg 23) [qka1_61]] <|
.seg [.chk [] (.isAgg 23) [qka1_62]] <|
.seg [.call 79 [] 56 [qka1_53, qka1_62] false] <|
.seg [.chk [] (.un .not) [.inp 79]] <|
.cond (.inp 79)
 (.seg [.chk [] (.bin .add) [.inp 78, .int .i64 1]] <|
.again 1 [.app (.bin .add) [.inp 78, .int .i64 1]])
 (.seg [.chk [] (.bin .geq) [.inp 78, .int .i64 0]] <|
.seg [.bind 80 (qka1_55)] <|
.cond (.app (.bin .geq) [.inp 78, .int .i64 0])
 (.ret (.bool false))
 (.seg [.chk [] (.bin .add) [.inp 76, .int .i64 1]] <|
.again 0 [qka1_52, qka1_63])))
 (.seg [.chk [] (.bin .geq) [.int .i64 (-1), .int .i64 0]] <|
.seg [.bind 79 (qka1_55)] <|
.seg [.chk [] (.bin .add) [.inp 76, .int .i64 1]] <|
.again 0 [qka1_52, qka1_63])))
 (.loop 0 77 [.int .i64 0] <|
.seg [.chk [] (.bin .lss) [.inp 77, .int .i64 24]] <|
.cond (.app (.bin .lss) [.inp 77, .int .i64 24])
 (.seg [.chk [] (.aidx 24 3 0 3 true) [qka1_64, .inp 77]] <|
.seg [.chk [] (.isAgg 3) [qka1_65]] <|
.seg [.bind 78 (qka1_65),
.bind 79 (.app (.part 0 1 false) [qka1_65]),
.bind 80 (.app (.part 1 1 false) [qka1_65]),
.bind 81 (.app (.part 2 1 false) [qka1_65])] <|
.seg [.call 82 [] 60 [.agg [.inp 79, .inp 80, .inp 81]] false] <|
.seg [.chk [] (.un .not) [.inp 82]] <|
.cond (.inp 82)
 (.seg [.chk [] (.bin .add) [.inp 77, .int .i64 1]] <|
.again 0 [.app (.bin .add) [.inp 77, .int .i64 1]])
 (.ret (.bool false)))
 (.ret (.bool true))))
theorem run_free_Right : runF E 24 [.agg [.inp 0, .inp 1, .inp 2, .inp 3, .inp 4, .inp 5, .inp 6, .inp 7, .inp 8, .inp 9, .inp 10, .inp 11, .inp 12, .inp 13, .inp 14, .inp 15, .inp 16, .inp 17, .inp 18, .inp 19, .inp 20, .inp 21, .inp 22, .inp 23, .inp 24, .inp 25, .inp 26, .inp 27, .inp 28, .inp 29, .inp 30, .inp 31, .inp 32, .inp 33, .inp 34, .inp 35, .inp 36, .inp 37, .inp 38, .inp 39, .inp 40, .inp 41, .inp 42, .inp 43, .inp 44, .inp 45, .inp 46, .inp 47, .inp 48, .inp 49, .inp 50, .inp 51, .inp 52, .inp 53, .inp 54, .inp 55, .inp 56, .inp 57, .inp 58, .inp 59, .inp 60, .inp 61, .inp 62, .inp 63, .inp 64, .inp 65, .inp 66, .inp 67, .inp 68, .inp 69, .inp 70, .inp 71, .inp 72, .inp 73]] 74 = rt_free_Right := by kernel_rfl

noncomputable def rt_free_Same : RT :=
.seg [.chk [] (.isAgg 74) [qka1_45]] <|
.seg [.chk [] (.isAgg 74) [.agg [.inp 74, .inp 75, .inp 76, .inp 77, .inp 78, .inp 79, .inp 80, .inp 81, .inp 82, .inp 83, .inp 84, .inp 85, .inp 86, .inp 87, .inp 88, .inp 89, .inp 90, .inp 91, .inp 92, .inp 93, .inp 94, .inp 95, .inp 96, .inp 97, .inp 98, .inp 99, .inp 100, .inp 101, .inp 102, .inp 103, .inp 104, .inp 105, .inp 106, .inp 107, .inp 108, .inp 109, .inp 110, .inp 111, .inp 112, .inp 113, .inp 114, .inp 115, .inp 116, .inp 117, .inp 118, .inp 119, .inp 120, .inp 121, .inp 122, .inp 123, .inp 124, .inp 125, .inp 126, .inp 127, .inp 128, .inp 129, .inp 130, .inp 131, .inp 132, .inp 133, .inp 134, .inp 135, .inp 136, .inp 137, .inp 138, .inp 139, .inp 140, .inp 141, .inp 142, .inp 143, .inp 144, .inp 145, .inp 146, .inp 147]]] <|
.seg [.chk [] (.bin .eql) [.inp 0, .inp 74]] <|
.seg [.chk [(qka1_66, true)] (.eqa [ some .i64, some .i64, none, some .i64, some .i64, none, some .i64, some .i64, none, some .i64, some .i64, none, some .i64, some .i64, none, some .i64, some .i64, none, some .i64, some .i64, none, some .i64, some .i64, none, some .i64, some .i64, none, some .i64, some .i64, none, some .i64, some .i64, none, some .i64, some .i64, none, some .i64, some .i64, none, some .i64, some .i64, none, some .i64, some .i64, none, some .i64, some .i64, none, some .i64, some .i64, none, some .i64, some .i64, none, some .i64, some .i64, none, some .i64, some .i64, none, some .i64, some .i64, none, some .i64, some .i64, none, some .i64, some .i64, none, some .i64, some .i64, none] false) [qka1_64, qka1_67]] <|
.seg [.chk [] .pick [qka1_66, qka1_68, .bool false]] <|
.cond (.app .pick [qka1_66, qka1_68, .bool false])
 (.seg [.chk [] .len [.inp 1]] <|
.seg [.chk [] .len [.inp 75]] <|
.seg [.chk [] (.bin .neq) [.app .len [.inp 1], .app .len [.inp 75]]] <|
.cond (.app (.bin .neq) [.app .len [.inp 1], .app .len [.inp 75]])
 (.seg [.bind 148 (qka1_68)] <|
.ret (.bool false))
 (.seg [.chk [] .len [.inp 1]] <|
.loop 0 148 [.int .i64 0] <|
.seg [.chk [] (.bin .lss) [.inp 148, .app .len [.inp 1]]] <|
.cond (.app (.bin .lss) [.inp 148, .app .len [.inp 1]])
 (.seg [.chk [] (.eidx 23) [.inp 1, .inp 148]] <|
.seg [.chk [] (.eload 23 true) [qka1_69]] <|
.seg [.chk [] (.isAgg 23) [qka1_70]] <|
.seg [.chk [] (.eidx 23) [.inp 75, .inp 148]] <|
.seg [.chk [] (.eload 23 true) [qka1_71]] <|
.seg [.chk [] (.isAgg 23) [qka1_72]] <|
.seg [.call 149 [] 64 [.agg [.app (.part 0 1 false) [qka1_70], .app (.part 1 1 false) [qka1_70], .app (.part 2 1 false) [qka1_70], .app (.part 3 1 false) [qka1_70], .app (.part 4 1 false) [qka1_70], .app (.part 5 1 false) [qka1_70], .app (.part 6 1 false) [qka1_70], .app (.part 7 1 false) [qka1_70], .app (.part 8 1 false) [qka1_70], .app (.part 9 1 false) [qka1_70], .app (.part 10 1 false) [qka1_70], .app (.part 11 1 false) [qka1_70], .app (.part 12 1 false) [qka1_70], .app (.part 13 1 false) [qka1_70], .app (.part 14 1 false) [qka1_70], .app (.part 15 1 false) [qka1_70], .app (.part 16 1 false) [qka1_70], .app (.part 17 1 false) [qka1_70], .app (.part 18 1 false) [qka1_70], .app (.part 19 1 false) [qka1_70], .app (.part 20 1 false) [qka1_70], .app (.part 21 1 false) [qka1_70], .app (.part 22 1 false) [qka1_70]], .agg [.app (.part 0 1 false) [qka1_72], .app (.part 1 1 false) [qka1_72], .app (.part 2 1 false) [qka1_72], .app (.part 3 1 false) [qka1_72], .app (.part 4 1 false) [qka1_72], .app (.part 5 1 false) [qka1_72], .app (.part 6 1 false) [qka1_72], .app (.part 7 1 false) [qka1_72], .app (.part 8 1 false) [qka1_72], .app (.part 9 1 false) [qka1_72], .app (.part 10 1 false) [qka1_72], .app (.part 11 1 false) [qka1_72], .app (.part 12 1 false) [qka1_72], .app (.part 13 1 false) [qka1_72], .app (.part 14 1 false) [qka1_72], .app (.part 15 1 false) [qka1_72], .app (.part 16 1 false) [qka1_72], .app (.part 17 1 false) [qka1_72], .app (.part 18 1 false) [qka1_72], .app (.part 19 1 false) [qka1_72], .app (.part 20 1 false) [qka1_72], .app (.part 21 1 false) [qka1_72], .app (.part 22 1 false) [qka1_72]]] false] <|
.seg [.chk [] (.un .not) [.inp 149]] <|
.cond (.inp 149)
 (.seg [.chk [] (.bin .add) [.inp 148, .int .i64 1]] <|
.again 0 [.app (.bin .add) [.inp 148, .int .i64 1]])
 (.seg [.bind 150 (qka1_68)] <|
.ret (.bool false)))
 (.seg [.bind 149 (qka1_68)] <|
.ret (.bool true))))
 (.seg [.bind 148 (qka1_68)] <|
.ret (.bool false))
theorem run_free_Same : runF E 26 [.agg [.inp 0, .inp 1, .inp 2, .inp 3, .inp 4, .inp 5, .inp 6, .inp 7, .inp 8, .inp 9, .inp 10, .inp 11, .inp 12, .inp 13, .inp 14, .inp 15, .inp 16, .inp 17, .inp 18, .inp 19, .inp 20, .inp 21, .inp 22, .inp 23, .inp 24, .inp 25, .inp 26, .inp 27, .inp 28, .inp 29, .inp 30, .inp 31, .inp 32, .inp 33, .inp 34, .inp 35, .inp 36, .inp 37, .inp 38, .inp 39, .inp 40, .inp 41, .inp 42, .inp 43, .inp 44, .inp 45, .inp 46, .inp 47, .inp 48, .inp 49, .inp 50, .inp 51, .inp 52, .inp 53, .inp 54, .inp 55, .inp 56, .inp 57, .inp 58, .inp 59, .inp 60, .inp 61, .inp 62, .inp 63, .inp 64, .inp 65, .inp 66, .inp 67, .inp 68, .inp 69, .inp 70, .inp 71, .inp 72, .inp 73], .agg [.inp 74, .inp 75, .inp 76, .inp 77, .inp 78, .inp 79, .inp 80, .inp 81, .inp 82, .inp 83, .inp 84, .inp 85, .inp 86, .inp 87, .inp 88, .inp 89, .inp 90, .inp 91, .inp 92, .inp 93, .inp 94, .inp 95, .inp 96, .inp 97, .inp 98, .inp 99, .inp 100, .inp 101, .inp 102, .inp 103, .inp 104, .inp 105, .inp 106, .inp 107, .inp 108, .inp 109, .inp 110, .inp 111, .inp 112, .inp 113, .inp 114, .inp 115, .inp 116, .inp 117, .inp 118, .inp 119, .inp 120, .inp 121, .inp 122, .inp 123, .inp 124, .inp 125, .inp 126, .inp 127, .inp 128, .inp 129, .inp 130, .inp 131, .inp 132, .inp 133, .inp 134, .inp 135, .inp 136, .inp 137, .inp 138, .inp 139, .inp 140, .inp 141, .inp 142, .inp 143, .inp 144, .inp 145, .inp 146, .inp 147]] 148 = rt_free_Same := by kernel_rfl

noncomputable def rt_free_Own : RT :=
.seg [.chk [] (.isAgg 74) [qka1_45]] <|
.seg [.chk [] .len [.inp 1],
.isNil 74 [] (.inp 1)] <|
.cond (.inp 74)
 (.seg [.chk [] .len [.nils]] <|
.loop 0 75 [] <|
.seg [.chk [] (.bin .lss) [.int .i64 0, .int .i64 0]] <|
.seg [.chk [] (.isAgg 74) [.agg [.inp 0, .enil, .inp 2, .inp 3, .inp 4, .inp 5, .inp 6, .inp 7, .inp 8, .inp 9, .inp 10, .inp 11, .inp 12, .inp 13, .inp 14, .inp 15, .inp 16, .inp 17, .inp 18, .inp 19, .inp 20, .inp 21, .inp 22, .inp 23, .inp 24, .inp 25, .inp 26, .inp 27, .inp 28, .inp 29, .inp 30, .inp 31, .inp 32, .inp 33, .inp 34, .inp 35, .inp 36, .inp 37, .inp 38, .inp 39, .inp 40, .inp 41, .inp 42, .inp 43, .inp 44, .inp 45, .inp 46, .inp 47, .inp 48, .inp 49, .inp 50, .inp 51, .inp 52, .inp 53, .inp 54, .inp 55, .inp 56, .inp 57, .inp 58, .inp 59, .inp 60, .inp 61, .inp 62, .inp 63, .inp 64, .inp 65, .inp 66, .inp 67, .inp 68, .inp 69, .inp 70, .inp 71, .inp 72, .inp 73]]] <|
.ret (.agg [.inp 0, .nils, .inp 2, .inp 3, .inp 4, .inp 5, .inp 6, .inp 7, .inp 8, .inp 9, .inp 10, .inp 11, .inp 12, .inp 13, .inp 14, .inp 15, .inp 16, .inp 17, .inp 18, .inp 19, .inp 20, .inp 21, .inp 22, .inp 23, .inp 24, .inp 25, .inp 26, .inp 27, .inp 28, .inp 29, .inp 30, .inp 31, .inp 32, .inp 33, .inp 34, .inp 35, .inp 36, .inp 37, .inp 38, .inp 39, .inp 40, .inp 41, .inp 42, .inp 43, .inp 44, .inp 45, .inp 46, .inp 47, .inp 48, .inp 49, .inp 50, .inp 51, .inp 52, .inp 53, .inp 54, .inp 55, .inp 56, .inp 57, .inp 58, .inp 59, .inp 60, .inp 61, .inp 62, .inp 63, .inp 64, .inp 65, .inp 66, .inp 67, .inp 68, .inp 69, .inp 70, .inp 71, .inp 72, .inp 73]))
 (.seg [.chk [] (.szs 23) [.inp 1],
.chk [] .app [.app .lst [], .inp 1]] <|
.seg [.chk [] .len [qka1_73]] <|
.loop 0 75 [.int .i64 0, qka1_73] <|
.seg [.chk [] (.bin .lss) [.inp 75, qka1_74]] <|
.cond (.app (.bin .lss) [.inp 75, qka1_74])
 (.seg [.chk [] (.eidx 23) [.inp 76, .inp 75]] <|
.seg [.chk [] (.rowget 23 0 23 true) [.inp 76, .inp 75]] <|
.seg [.chk [] (.isAgg 23) [qka1_75]] <|
.seg [.call 77 [] 67 [.agg [.app (.part 0 1 false) [qka1_75], .app (.part 1 1 false) [qka1_75], .app (.part 2 1 false) [qka1_75], .app (.part 3 1 false) [qka1_75], .app (.part 4 1 false) [qka1_75], .app (.part 5 1 false) [qka1_75], .app (.part 6 1 false) [qka1_75], .app (.part 7 1 false) [qka1_75], .app (.part 8 1 false) [qka1_75], .app (.part 9 1 false) [qka1_75], .app (.part 10 1 false) [qka1_75], .app (.part 11 1 false) [qka1_75], .app (.part 12 1 false) [qka1_75], .app (.part 13 1 false) [qka1_75], .app (.part 14 1 false) [qka1_75], .app (.part 15 1 false) [qka1_75], .app (.part 16 1 false) [qka1_75], .app (.part 17 1 false) [qka1_75], .app (.part 18 1 false) [qka1_75], .app (.part 19 1 false) [qka1_75], .app (.part 20 1 false) [qka1_75], .app (.part 21 1 false) [qka1_75], .app (.part 22 1 false) [qka1_75]]] false,
.chk [] (.eidx 23) [.inp 76, .inp 75],
.chk [] (.rowset 23 0 23) [.inp 76, .inp 75, qka1_76],
.chk [] (.isAgg 23) [.inp 77]] <|
.seg [.bind 78 (.app (.rowset 23 0 23) [.inp 76, .inp 75, qka1_76])] <|
.seg [.chk [] (.bin .add) [.inp 75, .int .i64 1]] <|
.again 0 [.app (.bin .add) [.inp 75, .int .i64 1], .inp 78])
 (.seg [.chk [] (.isAgg 74) [.agg [.inp 0, .row 18, .inp 2, .inp 3, .inp 4, .inp 5, .inp 6, .inp 7, .inp 8, .inp 9, .inp 10, .inp 11, .inp 12, .inp 13, .inp 14, .inp 15, .inp 16, .inp 17, .inp 18, .inp 19, .inp 20, .inp 21, .inp 22, .inp 23, .inp 24, .inp 25, .inp 26, .inp 27, .inp 28, .inp 29, .inp 30, .inp 31, .inp 32, .inp 33, .inp 34, .inp 35, .inp 36, .inp 37, .inp 38, .inp 39, .inp 40, .inp 41, .inp 42, .inp 43, .inp 44, .inp 45, .inp 46, .inp 47, .inp 48, .inp 49, .inp 50, .inp 51, .inp 52, .inp 53, .inp 54, .inp 55, .inp 56, .inp 57, .inp 58, .inp 59, .inp 60, .inp 61, .inp 62, .inp 63, .inp 64, .inp 65, .inp 66, .inp 67, .inp 68, .inp 69, .inp 70, .inp 71, .inp 72, .inp 73]]] <|
.ret (.agg [.inp 0, .inp 76, .inp 2, .inp 3, .inp 4, .inp 5, .inp 6, .inp 7, .inp 8, .inp 9, .inp 10, .inp 11, .inp 12, .inp 13, .inp 14, .inp 15, .inp 16, .inp 17, .inp 18, .inp 19, .inp 20, .inp 21, .inp 22, .inp 23, .inp 24, .inp 25, .inp 26, .inp 27, .inp 28, .inp 29, .inp 30, .inp 31, .inp 32, .inp 33, .inp 34, .inp 35, .inp 36, .inp 37, .inp 38, .inp 39, .inp 40, .inp 41, .inp 42, .inp 43, .inp 44, .inp 45, .inp 46, .inp 47, .inp 48, .inp 49, .inp 50, .inp 51, .inp 52, .inp 53, .inp 54, .inp 55, .inp 56, .inp 57, .inp 58, .inp 59, .inp 60, .inp 61, .inp 62, .inp 63, .inp 64, .inp 65, .inp 66, .inp 67, .inp 68, .inp 69, .inp 70, .inp 71, .inp 72, .inp 73])))
theorem run_free_Own : runF E 28 [.agg [.inp 0, .inp 1, .inp 2, .inp 3, .inp 4, .inp 5, .inp 6, .inp 7, .inp 8, .inp 9, .inp 10, .inp 11, .inp 12, .inp 13, .inp 14, .inp 15, .inp 16, .inp 17, .inp 18, .inp 19, .inp 20, .inp 21, .inp 22, .inp 23, .inp 24, .inp 25, .inp 26, .inp 27, .inp 28, .inp 29, .inp 30, .inp 31, .inp 32, .inp 33, .inp 34, .inp 35, .inp 36, .inp 37, .inp 38, .inp 39, .inp 40, .inp 41, .inp 42, .inp 43, .inp 44, .inp 45, .inp 46, .inp 47, .inp 48, .inp 49, .inp 50, .inp 51, .inp 52, .inp 53, .inp 54, .inp 55, .inp 56, .inp 57, .inp 58, .inp 59, .inp 60, .inp 61, .inp 62, .inp 63, .inp 64, .inp 65, .inp 66, .inp 67, .inp 68, .inp 69, .inp 70, .inp 71, .inp 72, .inp 73]] 74 = rt_free_Own := by kernel_rfl

noncomputable def rt_port_of : RT :=
.seg [.chk [] (.conv .i64) [.inp 0]] <|
.seg [.chk [] (.bin .lss) [.app (.conv .i64) [.inp 0], .int .i64 4]] <|
.cond (.app (.bin .lss) [.app (.conv .i64) [.inp 0], .int .i64 4])
 (.seg [.chk [] (.eaidx 4 7) [qka1_77, .inp 0]] <|
.seg [.chk [] (.eload 7 true) [qka1_78]] <|
.seg [.chk [] (.isAgg 7) [qka1_79]] <|
.seg [.bind 1 (qka1_78),
.bind 2 (qka1_79),
.bind 3 (.app (.part 0 1 false) [qka1_79]),
.bind 4 (.app (.part 1 1 false) [qka1_79]),
.bind 5 (.app (.part 2 1 false) [qka1_79]),
.bind 6 (.app (.part 3 1 false) [qka1_79]),
.bind 7 (.app (.part 4 1 false) [qka1_79]),
.bind 8 (.app (.part 5 1 false) [qka1_79]),
.bind 9 (.app (.part 6 1 false) [qka1_79])] <|
.ret (.agg [.inp 3, .inp 4, .inp 5, .inp 6, .inp 7, .inp 8, .inp 9]))
 (.ret (.agg [.int .i64 0, .int .i64 0, .int .i64 0, .int .i64 0, .int .i64 0, .int .i64 0, .bool false]))
theorem run_port_of : runF E 163 [.inp 0] 1 = rt_port_of := by kernel_rfl

noncomputable def rt_port_Way : RT :=
.seg [.chk [] .isOne [.inp 2]] <|
.seg [.chk [] .isOne [.inp 0]] <|
.seg [.chk [] .isOne [.inp 1]] <|
.seg [.call 3 [] 163 [.inp 0] false] <|
.seg [.chk [] (.isAgg 7) [.inp 3]] <|
.seg [.chk [] (.slice false true) [qka1_80, qka1_81]] <|
.seg [.chk [] .len [qka1_82]] <|
.seg [.bind 4 (qka1_82),
.bind 5 (.app .len [qka1_82])] <|
.loop 0 6 [.int .i64 0] <|
.seg [.chk [] (.bin .lss) [.inp 6, .inp 5]] <|
.cond (.app (.bin .lss) [.inp 6, .inp 5])
 (.seg [.chk [] (.eidx 2) [.inp 4, .inp 6]] <|
.seg [.chk [] (.eload 2 true) [qka1_83]] <|
.seg [.chk [] (.isAgg 2) [qka1_84]] <|
.seg [.chk [] (.bin .eql) [qka1_85, .inp 1]] <|
.cond (.app (.bin .eql) [qka1_85, .inp 1])
 (.seg [.chk [] (.bin .eql) [qka1_86, .inp 2]] <|
.cond (.app (.bin .eql) [qka1_86, .inp 2])
 (.seg [.chk [] .isOne [.inp 6]] <|
.seg [.chk [] (.un .not) [.bool false]] <|
.seg [.chk [] .isOne [.inp 6]] <|
.ret (.tup [.inp 6, .bool true]))
 (.seg [.chk [] (.un .not) [.bool true]] <|
.seg [.chk [] (.bin .eql) [qka1_86, .inp 1]] <|
.cond (qka1_87)
 (.seg [.chk [] (.bin .eql) [qka1_85, .inp 2]] <|
.cond (qka1_88)
 (.seg [.chk [] .isOne [.inp 6]] <|
.seg [.chk [] (.un .not) [.bool false]] <|
.seg [.chk [] .isOne [.inp 6]] <|
.ret (.tup [.inp 6, .bool true]))
 (.seg [.chk [] (.un .not) [.bool true]] <|
.seg [.chk [] (.bin .add) [.inp 6, .int .i64 1]] <|
.again 0 [qka1_89]))
 (.seg [.chk [] (.bin .add) [.inp 6, .int .i64 1]] <|
.again 0 [qka1_89])))
 (.seg [.chk [] (.bin .eql) [qka1_86, .inp 1]] <|
.cond (qka1_87)
 (.seg [.chk [] (.bin .eql) [qka1_85, .inp 2]] <|
.cond (qka1_88)
 (.seg [.chk [] .isOne [.inp 6]] <|
.seg [.chk [] (.un .not) [.bool false]] <|
.seg [.chk [] .isOne [.inp 6]] <|
.ret (.tup [.inp 6, .bool true]))
 (.seg [.chk [] (.un .not) [.bool true]] <|
.seg [.chk [] (.bin .add) [.inp 6, .int .i64 1]] <|
.again 0 [qka1_89]))
 (.seg [.chk [] (.bin .add) [.inp 6, .int .i64 1]] <|
.again 0 [qka1_89])))
 (.ret (qka1_90))
theorem run_port_Way : runF E 162 [.inp 0, .inp 1, .inp 2] 3 = rt_port_Way := by kernel_rfl

noncomputable def rt_port_Pos : RT :=
.seg [.call 3 [] 162 [.inp 0, .inp 1, .inp 2] false] <|
.seg [.chk [] (.tproj 0) [.inp 3]] <|
.seg [.chk [] (.tproj 1) [.inp 3]] <|
.seg [.call 4 [(.app (.tproj 1) [.inp 3], true)] 163 [.inp 0] false] <|
.seg [.chk [(.app (.tproj 1) [.inp 3], true)] (.part 6 1 false) [.inp 4]] <|
.seg [.chk [(.app (.tproj 1) [.inp 3], true)] (.un .not) [qka1_91]] <|
.seg [.chk [] .pick [.app (.tproj 1) [.inp 3], qka1_92, .bool false]] <|
.cond (.app .pick [.app (.tproj 1) [.inp 3], qka1_92, .bool false])
 (.ret (.tup [.int .i64 (-1), .app (.tproj 1) [.inp 3]]))
 (.ret (qka1_93))
theorem run_port_Pos : runF E 137 [.inp 0, .inp 1, .inp 2] 3 = rt_port_Pos := by kernel_rfl

noncomputable def rt_layout_Step : RT :=
.seg [.chk [] (.isAgg 11) [qka1_0]] <|
.seg [.chk [] (.isAgg 3) [qka1_94]] <|
.seg [.chk [] (.isAgg 11) [qka1_0]] <|
.seg [.chk [] (.bin .geq) [.inp 11, .int .i64 0]] <|
.seg [.chk [(qka1_95, true)] .len [.inp 0]] <|
.seg [.chk [(qka1_95, true)] (.bin .lss) [.inp 11, .app .len [.inp 0]]] <|
.seg [.chk [] .pick [qka1_95, qka1_96, .bool false]] <|
.seg [.chk [] (.un .not) [qka1_97]] <|
.seg [.bind 14 (.app (.un .not) [qka1_97])] <|
.cond (.inp 14)
 (.ret (qka1_90))
 (.seg [.chk [] (.eidx 11) [.inp 0, .inp 11],
.chk [] (.eoff 0) [qka1_98],
.chk [] (.eload 1 false) [qka1_99],
.call 15 [] 162 [qka1_100, .inp 12, .inp 13] false,
.chk [] (.tproj 0) [.inp 15],
.chk [] (.tproj 1) [.inp 15]] <|
.ret (.tup [.app (.tproj 0) [.inp 15], .app (.tproj 1) [.inp 15]]))
theorem run_layout_Step : runF E 136 [.agg [.inp 0, .inp 1, .inp 2, .inp 3, .inp 4, .inp 5, .inp 6, .inp 7, .inp 8, .inp 9, .inp 10], .agg [.inp 11, .inp 12, .inp 13]] 14 = rt_layout_Step := by kernel_rfl

noncomputable def rt_beyond_Over : RT :=
.seg [.chk [] (.isAgg 11) [qka1_0]] <|
.seg [.chk [] (.bin .lss) [.inp 11, .int .i64 0]] <|
.seg [.chk [(qka1_101, false)] .len [.inp 2]] <|
.seg [.chk [(qka1_101, false)] (.bin .geq) [.inp 11, .app .len [.inp 2]]] <|
.seg [.chk [] .pick [qka1_101, .bool true, qka1_102]] <|
.cond (qka1_103)
 (.ret (.nils))
 (.seg [.chk [] (.eidx 3) [.inp 2, .inp 11]] <|
.seg [.chk [] (.eoff 2) [qka1_104]] <|
.seg [.chk [] (.eload 1 false) [qka1_105]] <|
.seg [.call 12 [] 84 [qka1_106] false] <|
.ret (.inp 12))
theorem run_beyond_Over : runF E 52 [.agg [.inp 0, .inp 1, .inp 2, .inp 3, .inp 4, .inp 5, .inp 6, .inp 7, .inp 8, .inp 9, .inp 10], .inp 11] 12 = rt_beyond_Over := by kernel_rfl

noncomputable def rt_beyond_Point : RT :=
.seg [.chk [] (.isAgg 11) [qka1_0]] <|
.seg [.chk [] (.isAgg 3) [qka1_94]] <|
.seg [.call 14 [] 136 [qka1_0, qka1_94] false] <|
.seg [.chk [] (.tproj 0) [.inp 14]] <|
.seg [.chk [] (.tproj 1) [.inp 14]] <|
.seg [.chk [] (.un .not) [.app (.tproj 1) [.inp 14]]] <|
.seg [.chk [(qka1_107, false)] (.eidx 11) [.inp 0, .inp 11]] <|
.seg [.chk [(qka1_107, false)] (.eoff 0) [qka1_98]] <|
.seg [.chk [(qka1_107, false)] (.eload 1 false) [qka1_99]] <|
.seg [.chk [(qka1_107, false)] (.bin .neq) [qka1_100, .int .u8 2]] <|
.seg [.chk [] .pick [qka1_107, .bool true, qka1_108]] <|
.seg [.bind 15 (.app .pick [qka1_107, .bool true, qka1_108])] <|
.cond (.inp 15)
 (.ret (qka1_109))
 (.seg [.call 16 [] 137 [.int .u8 2, .inp 12, .inp 13] false] <|
.seg [.chk [] (.tproj 0) [.inp 16]] <|
.seg [.chk [] (.tproj 1) [.inp 16]] <|
.ret (qka1_110))
theorem run_beyond_Point : runF E 119 [.agg [.inp 0, .inp 1, .inp 2, .inp 3, .inp 4, .inp 5, .inp 6, .inp 7, .inp 8, .inp 9, .inp 10], .agg [.inp 11, .inp 12, .inp 13]] 14 = rt_beyond_Point := by kernel_rfl

noncomputable def rt_beyond_Wants : RT :=
.seg [.chk [] (.isAgg 11) [qka1_0]] <|
.seg [.chk [] (.isAgg 3) [qka1_94]] <|
.seg [.chk [] .isOne [.inp 14]] <|
.seg [.call 15 [] 119 [qka1_0, qka1_94] false] <|
.seg [.chk [] (.tproj 0) [.inp 15]] <|
.seg [.chk [] (.tproj 1) [.inp 15]] <|
.seg [.chk [] (.tproj 2) [.inp 15]] <|
.cond (.app (.tproj 2) [.inp 15])
 (.seg [.chk [] .isOne [.app (.tproj 0) [.inp 15]],
.chk [] .isOne [.app (.tproj 1) [.inp 15]],
.chk [] .isOne [.inp 14]] <|
.seg [.chk [] (.isAgg 3) [qka1_111]] <|
.seg [.chk [] (.szs 3) [qka1_112],
.chk [] .app [.nils, qka1_112]] <|
.seg [.chk [] (.isAgg 11) [qka1_0]] <|
.seg [.chk [] (.isAgg 3) [qka1_94]] <|
.seg [.call 16 [] 136 [qka1_0, qka1_94] false] <|
.seg [.chk [] (.tproj 0) [.inp 16]] <|
.seg [.chk [] (.tproj 1) [.inp 16]] <|
.seg [.chk [] .len [.inp 3]] <|
.loop 0 17 [.int .i64 0, .app .app [.nils, qka1_112]] <|
.seg [.chk [] (.bin .lss) [.inp 17, .app .len [.inp 3]]] <|
.cond (qka1_113)
 (.seg [.chk [] (.eidx 4) [.inp 3, .inp 17]] <|
.seg [.chk [] (.eload 4 true) [qka1_114]] <|
.seg [.chk [] (.isAgg 4) [qka1_115]] <|
.seg [.chk [(.app (.tproj 1) [.inp 16], true)] (.bin .eql) [qka1_116, .inp 11]] <|
.seg [.chk [] .pick [.app (.tproj 1) [.inp 16], qka1_117, .bool false]] <|
.seg [.chk [(qka1_118, true)] (.bin .eql) [qka1_119, .app (.tproj 0) [.inp 16]]] <|
.seg [.chk [] .pick [qka1_118, qka1_120, .bool false]] <|
.cond (qka1_121)
 (.seg [.chk [] (.isAgg 4) [qka1_124]] <|
.seg [.chk [] .isOne [qka1_122],
.chk [] .isOne [qka1_123],
.chk [] .isOne [.inp 14]] <|
.seg [.chk [] (.isAgg 3) [qka1_125]] <|
.seg [.chk [] (.szs 3) [qka1_126],
.chk [] .app [.inp 18, qka1_126]] <|
.seg [.bind 19 (qka1_126),
.bind 20 (qka1_127)] <|
.seg [.chk [] (.un .not) [.bool true]] <|
.seg [.bind 21 (qka1_118)] <|
.seg [.chk [] (.bin .add) [.inp 17, .int .i64 1]] <|
.again 0 [qka1_128, .inp 20])
 (.seg [.bind 19 (qka1_118)] <|
.seg [.chk [] (.bin .add) [.inp 17, .int .i64 1]] <|
.again 0 [qka1_128, .inp 18]))
 (.ret (.inp 18)))
 (.seg [.chk [] (.isAgg 11) [qka1_0]] <|
.seg [.chk [] (.isAgg 3) [qka1_94]] <|
.seg [.call 16 [] 136 [qka1_0, qka1_94] false] <|
.seg [.chk [] (.tproj 0) [.inp 16]] <|
.seg [.chk [] (.tproj 1) [.inp 16]] <|
.seg [.chk [] .len [.inp 3]] <|
.loop 0 17 [.int .i64 0, .nils] <|
.seg [.chk [] (.bin .lss) [.inp 17, .app .len [.inp 3]]] <|
.cond (qka1_113)
 (.seg [.chk [] (.eidx 4) [.inp 3, .inp 17]] <|
.seg [.chk [] (.eload 4 true) [qka1_114]] <|
.seg [.chk [] (.isAgg 4) [qka1_115]] <|
.seg [.chk [(.app (.tproj 1) [.inp 16], true)] (.bin .eql) [qka1_116, .inp 11]] <|
.seg [.chk [] .pick [.app (.tproj 1) [.inp 16], qka1_117, .bool false]] <|
.seg [.chk [(qka1_118, true)] (.bin .eql) [qka1_119, .app (.tproj 0) [.inp 16]]] <|
.seg [.chk [] .pick [qka1_118, qka1_120, .bool false]] <|
.cond (qka1_121)
 (.seg [.chk [] (.isAgg 4) [qka1_124]] <|
.seg [.chk [] .isOne [qka1_122],
.chk [] .isOne [qka1_123],
.chk [] .isOne [.inp 14]] <|
.seg [.chk [] (.isAgg 3) [qka1_125]] <|
.seg [.chk [] (.szs 3) [qka1_126],
.chk [] .app [.inp 18, qka1_126]] <|
.seg [.bind 19 (qka1_126),
.bind 20 (qka1_127)] <|
.seg [.chk [] (.un .not) [.bool true]] <|
.seg [.bind 21 (qka1_118)] <|
.seg [.chk [] (.bin .add) [.inp 17, .int .i64 1]] <|
.again 0 [qka1_128, .inp 20])
 (.seg [.bind 19 (qka1_118)] <|
.seg [.chk [] (.bin .add) [.inp 17, .int .i64 1]] <|
.again 0 [qka1_128, .inp 18]))
 (.ret (.inp 18)))
theorem run_beyond_Wants : runF E 87 [.agg [.inp 0, .inp 1, .inp 2, .inp 3, .inp 4, .inp 5, .inp 6, .inp 7, .inp 8, .inp 9, .inp 10], .agg [.inp 11, .inp 12, .inp 13], .inp 14] 15 = rt_beyond_Wants := by kernel_rfl

noncomputable def rt_need_Of : RT :=
.seg [.chk [] (.isAgg 11) [qka1_0]] <|
.seg [.chk [] (.isAgg 3) [qka1_94]] <|
.seg [.chk [] (.isAgg 11) [qka1_0]] <|
.seg [.chk [] (.isAgg 3) [qka1_94]] <|
.seg [.chk [] .len [.inp 13]] <|
.loop 0 14 [.int .i64 0, .nils] <|
.seg [.chk [] (.bin .lss) [.inp 14, .app .len [.inp 13]]] <|
.cond (.app (.bin .lss) [.inp 14, .app .len [.inp 13]])
 (.seg [.chk [] (.eidx 3) [.inp 13, .inp 14]] <|
.seg [.chk [] (.eload 3 true) [qka1_129]] <|
.seg [.chk [] (.isAgg 3) [qka1_130]] <|
.seg [.chk [] (.isAgg 3) [qka1_131]] <|
.seg [.call 16 [] 87 [qka1_0, qka1_131, .inp 14] false,
.chk [] (.szs 3) [.inp 16],
.chk [] .app [.inp 15, .inp 16]] <|
.seg [.chk [] (.un .not) [.bool true]] <|
.seg [.chk [] (.bin .add) [.inp 14, .int .i64 1]] <|
.again 0 [.app (.bin .add) [.inp 14, .int .i64 1], .app .app [.inp 15, .inp 16]])
 (.seg [.call 16 [] 52 [qka1_0, .inp 12] false] <|
.seg [.chk [] .len [.inp 16]] <|
.loop 0 17 [.int .i64 0, .inp 15] <|
.seg [.chk [] (.bin .lss) [.inp 17, .app .len [.inp 16]]] <|
.cond (.app (.bin .lss) [.inp 17, .app .len [.inp 16]])
 (.seg [.chk [] (.eidx 3) [.inp 16, .inp 17]] <|
.seg [.chk [] (.eload 3 true) [qka1_132]] <|
.seg [.chk [] (.isAgg 3) [qka1_133]] <|
.seg [.chk [] .len [.inp 13]] <|
.seg [.chk [] (.isAgg 3) [qka1_134]] <|
.seg [.call 19 [] 87 [qka1_0, qka1_134, .app .len [.inp 13]] false,
.chk [] (.szs 3) [.inp 19],
.chk [] .app [.inp 18, .inp 19]] <|
.seg [.chk [] (.un .not) [.bool true]] <|
.seg [.chk [] (.bin .add) [.inp 17, .int .i64 1]] <|
.again 0 [qka1_128, .app .app [.inp 18, .inp 19]])
 (.ret (.inp 18)))
theorem run_need_Of : runF E 54 [.agg [.inp 0, .inp 1, .inp 2, .inp 3, .inp 4, .inp 5, .inp 6, .inp 7, .inp 8, .inp 9, .inp 10], .agg [.inp 11, .inp 12, .inp 13]] 14 = rt_need_Of := by kernel_rfl

noncomputable def rt_lockbarref03_Late : RT :=
.seg [.chk [] (.bin .gtr) [.inp 0, .inp 1]] <|
.ret (.app (.bin .gtr) [.inp 0, .inp 1])
theorem run_lockbarref03_Late : runF E 75 [.inp 0, .inp 1] 2 = rt_lockbarref03_Late := by kernel_rfl

noncomputable def rt_lockbarref03_within : RT :=
.seg [.chk [] (.mm true) [.inp 0, .int .i64 0]] <|
.seg [.chk [] (.mm false) [qka1_135, .inp 1]] <|
.ret (.app (.mm false) [qka1_135, .inp 1])
theorem run_lockbarref03_within : runF E 183 [.inp 0, .inp 1] 2 = rt_lockbarref03_within := by kernel_rfl

noncomputable def rt_lockbarref03_Count : RT :=
.seg [.call 1 [] 183 [.inp 0, .int .i64 65535] false] <|
.ret (.inp 1)
theorem run_lockbarref03_Count : runF E 178 [.inp 0] 1 = rt_lockbarref03_Count := by kernel_rfl

noncomputable def rt_lockbarref03_More : RT :=
.seg [.call 2 [] 178 [.inp 0] false] <|
.seg [.call 3 [] 178 [.inp 1] false] <|
.seg [.chk [] (.bin .add) [.inp 2, .inp 3]] <|
.seg [.chk [] (.mm false) [qka1_136, .int .i64 65535]] <|
.ret (.app (.mm false) [qka1_136, .int .i64 65535])
theorem run_lockbarref03_More : runF E 160 [.inp 0, .inp 1] 2 = rt_lockbarref03_More := by kernel_rfl

noncomputable def rt_lockbarref03_Row : RT :=
.seg [.chk [] (.un .not) [.inp 0]] <|
.cond (.inp 0)
 (.seg [.call 2 [] 160 [.inp 1, .int .i64 1] false] <|
.ret (.inp 2))
 (.ret (.int .i64 0))
theorem run_lockbarref03_Row : runF E 133 [.inp 0, .inp 1] 2 = rt_lockbarref03_Row := by kernel_rfl

noncomputable def rt_lockbarref05_Ways : RT :=
.seg [.chk [] (.bin .eql) [.inp 0, .int .u8 1]] <|
.cond (.app (.bin .eql) [.inp 0, .int .u8 1])
 (.ret (.int .i64 1))
 (.seg [.chk [] (.bin .eql) [.inp 0, .int .u8 2]] <|
.cond (qka1_137)
 (.ret (.int .i64 2))
 (.seg [.chk [] (.bin .eql) [.inp 0, .int .u8 3]] <|
.cond (.app (.bin .eql) [.inp 0, .int .u8 3])
 (.ret (.int .i64 2))
 (.ret (.int .i64 0))))
theorem run_lockbarref05_Ways : runF E 158 [.inp 0] 1 = rt_lockbarref05_Ways := by kernel_rfl

noncomputable def rt_lockbarref05_Ends : RT :=
.seg [.chk [] (.bin .lss) [.inp 1, .int .i64 0]] <|
.seg [.call 2 [(qka1_138, false)] 158 [.inp 0] false] <|
.seg [.chk [(qka1_138, false)] (.bin .geq) [.inp 1, .inp 2]] <|
.seg [.chk [] .pick [qka1_138, .bool true, qka1_139]] <|
.cond (.app .pick [qka1_138, .bool true, qka1_139])
 (.ret (qka1_109))
 (.seg [.chk [] (.bin .eql) [.inp 1, .int .i64 0]] <|
.cond (.app (.bin .eql) [.inp 1, .int .i64 0])
 (.ret (.tup [.int .i64 0, .int .i64 1, .bool true]))
 (.seg [.chk [] (.bin .eql) [.inp 0, .int .u8 2]] <|
.cond (qka1_137)
 (.ret (.tup [.int .i64 0, .int .i64 2, .bool true]))
 (.ret (.tup [.int .i64 2, .int .i64 3, .bool true]))))
theorem run_lockbarref05_Ends : runF E 159 [.inp 0, .inp 1] 2 = rt_lockbarref05_Ends := by kernel_rfl

noncomputable def rt_lockbarref05_Way : RT :=
.loop 0 3 [.int .i64 0] <|
.seg [.call 4 [] 158 [.inp 0] false] <|
.seg [.chk [] (.bin .lss) [.inp 3, .inp 4]] <|
.cond (.app (.bin .lss) [.inp 3, .inp 4])
 (.seg [.call 5 [] 159 [.inp 0, .inp 3] false] <|
.seg [.chk [] (.tproj 0) [.inp 5]] <|
.seg [.chk [] (.tproj 1) [.inp 5]] <|
.seg [.chk [] (.tproj 2) [.inp 5]] <|
.seg [.chk [] (.bin .eql) [.inp 1, .app (.tproj 0) [.inp 5]]] <|
.seg [.chk [(qka1_140, true)] (.bin .eql) [.inp 2, .app (.tproj 1) [.inp 5]]] <|
.seg [.chk [] .pick [qka1_140, qka1_141, .bool false]] <|
.seg [.chk [(qka1_142, false)] (.bin .eql) [.inp 1, .app (.tproj 1) [.inp 5]]] <|
.seg [.chk [(qka1_143, true), (qka1_142, false)] (.bin .eql) [.inp 2, .app (.tproj 0) [.inp 5]]] <|
.seg [.chk [(qka1_142, false)] .pick [qka1_143, qka1_144, .bool false]] <|
.seg [.chk [] .pick [qka1_142, .bool true, qka1_145]] <|
.seg [.bind 6 (qka1_142),
.bind 7 (qka1_145),
.bind 8 (.app .pick [qka1_142, .bool true, qka1_145])] <|
.cond (.inp 8)
 (.ret (.tup [.inp 3, .bool true]))
 (.seg [.chk [] (.bin .add) [.inp 3, .int .i64 1]] <|
.again 0 [.app (.bin .add) [.inp 3, .int .i64 1]]))
 (.ret (qka1_90))
theorem run_lockbarref05_Way : runF E 132 [.inp 0, .inp 1, .inp 2] 3 = rt_lockbarref05_Way := by kernel_rfl

noncomputable def rt_lockbarref05_Pos : RT :=
.seg [.call 3 [] 132 [.inp 0, .inp 1, .inp 2] false] <|
.seg [.chk [] (.tproj 0) [.inp 3]] <|
.seg [.chk [] (.tproj 1) [.inp 3]] <|
.seg [.chk [(.app (.tproj 1) [.inp 3], true)] (.bin .neq) [.inp 0, .int .u8 2]] <|
.seg [.chk [] .pick [.app (.tproj 1) [.inp 3], qka1_146, .bool false]] <|
.cond (.app .pick [.app (.tproj 1) [.inp 3], qka1_146, .bool false])
 (.ret (.tup [.int .i64 (-1), .bool true]))
 (.ret (qka1_93))
theorem run_lockbarref05_Pos : runF E 131 [.inp 0, .inp 1, .inp 2] 3 = rt_lockbarref05_Pos := by kernel_rfl

noncomputable def rt_lockbarref06_At : RT :=
.seg [.chk [] (.isAgg 11) [qka1_0]] <|
.seg [.chk [] (.isAgg 2) [.agg [.inp 11, .inp 12]]] <|
.seg [.chk [] (.bin .lss) [.inp 11, .int .i64 0],
.chk [(qka1_101, false)] .len [.inp 0],
.chk [(qka1_101, false)] (.bin .geq) [.inp 11, .app .len [.inp 0]],
.chk [] .pick [qka1_101, .bool true, qka1_147],
.chk [(qka1_148, false)] (.bin .lss) [.inp 12, .int .i64 0],
.chk [] .pick [qka1_148, .bool true, qka1_149],
.chk [(qka1_150, false)] (.eidx 11) [.inp 0, .inp 11],
.chk [(qka1_150, false)] (.eoff 0) [qka1_98],
.chk [(qka1_150, false)] (.eload 1 false) [qka1_99],
.call 13 [(qka1_150, false)] 176 [qka1_100] false,
.chk [(qka1_150, false)] (.bin .geq) [.inp 12, .inp 13],
.chk [] .pick [qka1_150, .bool true, qka1_151]] <|
.seg [.bind 14 (qka1_150),
.bind 15 (.app .pick [qka1_150, .bool true, qka1_151])] <|
.cond (.inp 15)
 (.ret (.tup [.agg [.int .u8 0, .int .i64 0, .int .i64 0, .int .i64 0, .int .i64 0, .int .i64 0, .int .i64 0, .int .i64 0, .int .i64 0, .int .i64 0, .int .i64 0], .bool false]))
 (.seg [.chk [] (.eidx 11) [.inp 0, .inp 11]] <|
.seg [.chk [] (.eload 11 true) [qka1_98]] <|
.seg [.chk [] (.isAgg 11) [qka1_152]] <|
.ret (.tup [.agg [.app (.part 0 1 false) [qka1_152], .app (.part 1 1 false) [qka1_152], .app (.part 2 1 false) [qka1_152], .app (.part 3 1 false) [qka1_152], .app (.part 4 1 false) [qka1_152], .app (.part 5 1 false) [qka1_152], .app (.part 6 1 false) [qka1_152], .app (.part 7 1 false) [qka1_152], .app (.part 8 1 false) [qka1_152], .app (.part 9 1 false) [qka1_152], .app (.part 10 1 false) [qka1_152]], .bool true]))
theorem run_lockbarref06_At : runF E 181 [.agg [.inp 0, .inp 1, .inp 2, .inp 3, .inp 4, .inp 5, .inp 6, .inp 7, .inp 8, .inp 9, .inp 10], .agg [.inp 11, .inp 12]] 13 = rt_lockbarref06_At := by kernel_rfl

noncomputable def rt_lockbarref06_Step : RT :=
.seg [.chk [] (.isAgg 11) [qka1_0]] <|
.seg [.chk [] (.isAgg 3) [qka1_94]] <|
.seg [.chk [] (.bin .lss) [.inp 11, .int .i64 0]] <|
.seg [.chk [(qka1_101, false)] .len [.inp 0]] <|
.seg [.chk [(qka1_101, false)] (.bin .geq) [.inp 11, .app .len [.inp 0]]] <|
.seg [.chk [] .pick [qka1_101, .bool true, qka1_147]] <|
.cond (qka1_148)
 (.ret (qka1_90))
 (.seg [.chk [] (.eidx 11) [.inp 0, .inp 11],
.chk [] (.eoff 0) [qka1_98],
.chk [] (.eload 1 false) [qka1_99],
.call 14 [] 132 [qka1_100, .inp 12, .inp 13] false,
.chk [] (.tproj 0) [.inp 14],
.chk [] (.tproj 1) [.inp 14]] <|
.ret (.tup [.app (.tproj 0) [.inp 14], .app (.tproj 1) [.inp 14]]))
theorem run_lockbarref06_Step : runF E 110 [.agg [.inp 0, .inp 1, .inp 2, .inp 3, .inp 4, .inp 5, .inp 6, .inp 7, .inp 8, .inp 9, .inp 10], .agg [.inp 11, .inp 12, .inp 13]] 14 = rt_lockbarref06_Step := by kernel_rfl

noncomputable def rt_lockbarref06_Great : RT :=
.seg [.chk [] (.isAgg 11) [qka1_0]] <|
.loop 0 11 [.int .i64 0] <|
.seg [.chk [] .len [.inp 2]] <|
.seg [.chk [] (.bin .lss) [.inp 11, .app .len [.inp 2]]] <|
.seg [.chk [(qka1_153, true)] (.bin .leq) [.inp 11, .int .i64 30]] <|
.seg [.chk [] .pick [qka1_153, qka1_154, .bool false]] <|
.cond (.app .pick [qka1_153, qka1_154, .bool false])
 (.seg [.chk [] (.eidx 3) [.inp 2, .inp 11]] <|
.seg [.chk [] (.eoff 2) [qka1_104]] <|
.seg [.chk [] (.eload 1 false) [qka1_105]] <|
.seg [.chk [] .len [qka1_106]] <|
.seg [.chk [] (.bin .gtr) [qka1_155, .int .i64 20]] <|
.cond (.app (.bin .gtr) [qka1_155, .int .i64 20])
 (.ret (.bool true))
 (.seg [.chk [] (.bin .add) [.inp 11, .int .i64 1]] <|
.again 0 [.app (.bin .add) [.inp 11, .int .i64 1]]))
 (.seg [.chk [] .len [.inp 0]] <|
.seg [.chk [] (.bin .gtr) [.app .len [.inp 0], .int .i64 40]] <|
.seg [.chk [(qka1_156, false)] .len [.inp 1]] <|
.seg [.chk [(qka1_156, false)] (.bin .gtr) [.app .len [.inp 1], .int .i64 30]] <|
.seg [.chk [] .pick [qka1_156, .bool true, qka1_157]] <|
.seg [.chk [(qka1_158, false)] .len [.inp 2]] <|
.seg [.chk [(qka1_158, false)] (.bin .gtr) [.app .len [.inp 2], .int .i64 30]] <|
.seg [.chk [] .pick [qka1_158, .bool true, qka1_159]] <|
.seg [.chk [(qka1_160, false)] .len [.inp 3]] <|
.seg [.chk [(qka1_160, false)] (.bin .gtr) [.app .len [.inp 3], .int .i64 40]] <|
.seg [.chk [] .pick [qka1_160, .bool true, qka1_161]] <|
.seg [.bind 12 (.app .pick [qka1_160, .bool true, qka1_161]),
.bind 13 (qka1_158),
.bind 14 (qka1_160)] <|
.ret (.inp 12))
theorem run_lockbarref06_Great : runF E 8 [.agg [.inp 0, .inp 1, .inp 2, .inp 3, .inp 4, .inp 5, .inp 6, .inp 7, .inp 8, .inp 9, .inp 10]] 11 = rt_lockbarref06_Great := by kernel_rfl

noncomputable def rt_lockbarref10_there : RT :=
.seg [.chk [] (.isAgg 11) [qka1_0]] <|
.seg [.chk [] (.isAgg 3) [qka1_94]] <|
.seg [.call 14 [] 110 [qka1_0, qka1_94] false] <|
.seg [.chk [] (.tproj 0) [.inp 14]] <|
.seg [.chk [] (.tproj 1) [.inp 14]] <|
.ret (.app (.tproj 1) [.inp 14])
theorem run_lockbarref10_there : runF E 130 [.agg [.inp 0, .inp 1, .inp 2, .inp 3, .inp 4, .inp 5, .inp 6, .inp 7, .inp 8, .inp 9, .inp 10], .agg [.inp 11, .inp 12, .inp 13]] 14 = rt_lockbarref10_there := by kernel_rfl

noncomputable def rt_lockbarref10_Over : RT :=
.seg [.chk [] (.isAgg 11) [qka1_0]] <|
.seg [.chk [] (.bin .lss) [.inp 11, .int .i64 0]] <|
.seg [.chk [(qka1_101, false)] .len [.inp 2]] <|
.seg [.chk [(qka1_101, false)] (.bin .geq) [.inp 11, .app .len [.inp 2]]] <|
.seg [.chk [] .pick [qka1_101, .bool true, qka1_102]] <|
.cond (qka1_103)
 (.ret (.nils))
 (.seg [.chk [] (.eidx 3) [.inp 2, .inp 11]] <|
.seg [.chk [] (.eoff 2) [qka1_104]] <|
.seg [.chk [] (.eload 1 false) [qka1_105]] <|
.seg [.chk [] (.szs 3) [qka1_106],
.chk [] .app [.app .lst [], qka1_106]] <|
.ret (.app .app [.app .lst [], qka1_106]))
theorem run_lockbarref10_Over : runF E 31 [.agg [.inp 0, .inp 1, .inp 2, .inp 3, .inp 4, .inp 5, .inp 6, .inp 7, .inp 8, .inp 9, .inp 10], .inp 11] 12 = rt_lockbarref10_Over := by kernel_rfl

noncomputable def rt_lockbarref10_Point : RT :=
.seg [.chk [] (.isAgg 11) [qka1_0]] <|
.seg [.chk [] (.isAgg 3) [qka1_94]] <|
.seg [.call 14 [] 130 [qka1_0, qka1_94] false] <|
.seg [.chk [] (.un .not) [.inp 14]] <|
.seg [.chk [(.app (.un .not) [.inp 14], false)] (.eidx 11) [.inp 0, .inp 11]] <|
.seg [.chk [(.app (.un .not) [.inp 14], false)] (.eoff 0) [qka1_98]] <|
.seg [.chk [(.app (.un .not) [.inp 14], false)] (.eload 1 false) [qka1_99]] <|
.seg [.chk [(.app (.un .not) [.inp 14], false)] (.bin .neq) [qka1_100, .int .u8 2]] <|
.seg [.chk [] .pick [.app (.un .not) [.inp 14], .bool true, qka1_108]] <|
.seg [.bind 15 (.app .pick [.app (.un .not) [.inp 14], .bool true, qka1_108])] <|
.cond (.inp 15)
 (.ret (qka1_109))
 (.seg [.call 16 [] 131 [.int .u8 2, .inp 12, .inp 13] false] <|
.seg [.chk [] (.tproj 0) [.inp 16]] <|
.seg [.chk [] (.tproj 1) [.inp 16]] <|
.ret (qka1_110))
theorem run_lockbarref10_Point : runF E 109 [.agg [.inp 0, .inp 1, .inp 2, .inp 3, .inp 4, .inp 5, .inp 6, .inp 7, .inp 8, .inp 9, .inp 10], .agg [.inp 11, .inp 12, .inp 13]] 14 = rt_lockbarref10_Point := by kernel_rfl

end Go.Lb.LK
