/- What functions come to, printed by a program, checked by the kernel. -/
/- Of a kernel that may be all other routes are as they were, and so are its machines, and Next; what comes of it is told; the kernel may be behind it. -/
import Derived.Test.YtkcpgfjlmicnnaaGreatDoorCh1
import Derived.Test.YtkcpgfjlmicnnaaGreatDoorCh8
set_option linter.unusedSimpArgs false
set_option linter.unusedVariables false
namespace Go.Lb.LK
open Go Go.Lb Go.Proofs
@[simp] noncomputable def qkbackothers_0 : SE := .agg [.inp 0, .inp 1, .inp 2, .inp 3, .inp 4, .inp 5, .inp 6, .inp 7, .inp 8, .inp 9, .inp 10]
@[simp] noncomputable def qkbackothers_1 : SE := .agg [.inp 11, .inp 12, .inp 13, .inp 14, .inp 15, .inp 16, .inp 17, .inp 18, .inp 19, .inp 20, .inp 21, .inp 22, .inp 23, .inp 24, .inp 25, .inp 26, .inp 27, .inp 28, .inp 29, .inp 30, .inp 31, .inp 32, .inp 33, .inp 34, .inp 35, .inp 36, .inp 37, .inp 38, .inp 39]
@[simp] noncomputable def qkbackothers_2 : SE := .agg [.inp 40, .inp 41, .inp 42, .inp 43, .inp 44, .inp 45, .inp 46, .inp 47, .inp 48, .inp 49, .inp 50, .inp 51, .inp 52, .inp 53, .inp 54, .inp 55, .inp 56, .inp 57, .inp 58, .inp 59, .inp 60, .inp 61, .inp 62, .inp 63, .inp 64, .inp 65, .inp 66, .inp 67, .inp 68, .inp 69, .inp 70, .inp 71, .inp 72, .inp 73, .inp 74, .inp 75, .inp 76, .inp 77, .inp 78, .inp 79, .inp 80, .inp 81, .inp 82, .inp 83, .inp 84, .inp 85, .inp 86, .inp 87, .inp 88, .inp 89, .inp 90, .inp 91, .inp 92, .inp 93, .inp 94, .inp 95, .inp 96, .inp 97, .inp 98, .inp 99, .inp 100, .inp 101, .inp 102, .inp 103, .inp 104, .inp 105, .inp 106, .inp 107, .inp 108, .inp 109, .inp 110, .inp 111, .inp 112, .inp 113]
@[simp] noncomputable def qkbackothers_3 : SE := .app (.part 0 1 false) [.app (.tproj 0) [.inp 117]]
@[simp] noncomputable def qkbackothers_4 : SE := .app (.bin .neq) [qkbackothers_3, .inp 40]
@[simp] noncomputable def qkbackothers_5 : SE := .app (.part 2 1 false) [.app (.tproj 0) [.inp 117]]
@[simp] noncomputable def qkbackothers_6 : SE := .app (.part 3 1 false) [.app (.tproj 0) [.inp 117]]
@[simp] noncomputable def qkbackothers_7 : SE := .app (.part 4 1 false) [.app (.tproj 0) [.inp 117]]
@[simp] noncomputable def qkbackothers_8 : SE := .app (.part 5 1 false) [.app (.tproj 0) [.inp 117]]
@[simp] noncomputable def qkbackothers_9 : SE := .app (.part 6 1 false) [.app (.tproj 0) [.inp 117]]
@[simp] noncomputable def qkbackothers_10 : SE := .app (.part 7 1 false) [.app (.tproj 0) [.inp 117]]
@[simp] noncomputable def qkbackothers_11 : SE := .app (.part 8 1 false) [.app (.tproj 0) [.inp 117]]
@[simp] noncomputable def qkbackothers_12 : SE := .app (.part 9 1 false) [.app (.tproj 0) [.inp 117]]
@[simp] noncomputable def qkbackothers_13 : SE := .app (.part 10 1 false) [.app (.tproj 0) [.inp 117]]
@[simp] noncomputable def qkbackothers_14 : SE := .app (.part 11 1 false) [.app (.tproj 0) [.inp 117]]
@[simp] noncomputable def qkbackothers_15 : SE := .app (.part 12 1 false) [.app (.tproj 0) [.inp 117]]
@[simp] noncomputable def qkbackothers_16 : SE := .app (.part 13 1 false) [.app (.tproj 0) [.inp 117]]
@[simp] noncomputable def qkbackothers_17 : SE := .app (.part 14 1 false) [.app (.tproj 0) [.inp 117]]
@[simp] noncomputable def qkbackothers_18 : SE := .app (.part 15 1 false) [.app (.tproj 0) [.inp 117]]
@[simp] noncomputable def qkbackothers_19 : SE := .app (.part 16 1 false) [.app (.tproj 0) [.inp 117]]
@[simp] noncomputable def qkbackothers_20 : SE := .app (.part 17 1 false) [.app (.tproj 0) [.inp 117]]
@[simp] noncomputable def qkbackothers_21 : SE := .app (.part 18 1 false) [.app (.tproj 0) [.inp 117]]
@[simp] noncomputable def qkbackothers_22 : SE := .app (.part 19 1 false) [.app (.tproj 0) [.inp 117]]
@[simp] noncomputable def qkbackothers_23 : SE := .app (.part 20 1 false) [.app (.tproj 0) [.inp 117]]
@[simp] noncomputable def qkbackothers_24 : SE := .app (.part 21 1 false) [.app (.tproj 0) [.inp 117]]
@[simp] noncomputable def qkbackothers_25 : SE := .app (.part 22 1 false) [.app (.tproj 0) [.inp 117]]
@[simp] noncomputable def qkbackothers_26 : SE := .app (.part 23 1 false) [.app (.tproj 0) [.inp 117]]
@[simp] noncomputable def qkbackothers_27 : SE := .app (.part 24 1 false) [.app (.tproj 0) [.inp 117]]
@[simp] noncomputable def qkbackothers_28 : SE := .app (.part 25 1 false) [.app (.tproj 0) [.inp 117]]
@[simp] noncomputable def qkbackothers_29 : SE := .app (.part 26 1 false) [.app (.tproj 0) [.inp 117]]
@[simp] noncomputable def qkbackothers_30 : SE := .app (.part 27 1 false) [.app (.tproj 0) [.inp 117]]
@[simp] noncomputable def qkbackothers_31 : SE := .app (.part 28 1 false) [.app (.tproj 0) [.inp 117]]
@[simp] noncomputable def qkbackothers_32 : SE := .app (.part 29 1 false) [.app (.tproj 0) [.inp 117]]
@[simp] noncomputable def qkbackothers_33 : SE := .app (.part 30 1 false) [.app (.tproj 0) [.inp 117]]
@[simp] noncomputable def qkbackothers_34 : SE := .app (.part 31 1 false) [.app (.tproj 0) [.inp 117]]
@[simp] noncomputable def qkbackothers_35 : SE := .app (.part 32 1 false) [.app (.tproj 0) [.inp 117]]
@[simp] noncomputable def qkbackothers_36 : SE := .app (.part 33 1 false) [.app (.tproj 0) [.inp 117]]
@[simp] noncomputable def qkbackothers_37 : SE := .app (.part 34 1 false) [.app (.tproj 0) [.inp 117]]
@[simp] noncomputable def qkbackothers_38 : SE := .app (.part 35 1 false) [.app (.tproj 0) [.inp 117]]
@[simp] noncomputable def qkbackothers_39 : SE := .app (.part 36 1 false) [.app (.tproj 0) [.inp 117]]
@[simp] noncomputable def qkbackothers_40 : SE := .app (.part 37 1 false) [.app (.tproj 0) [.inp 117]]
@[simp] noncomputable def qkbackothers_41 : SE := .app (.part 38 1 false) [.app (.tproj 0) [.inp 117]]
@[simp] noncomputable def qkbackothers_42 : SE := .app (.part 39 1 false) [.app (.tproj 0) [.inp 117]]
@[simp] noncomputable def qkbackothers_43 : SE := .app (.part 40 1 false) [.app (.tproj 0) [.inp 117]]
@[simp] noncomputable def qkbackothers_44 : SE := .app (.part 41 1 false) [.app (.tproj 0) [.inp 117]]
@[simp] noncomputable def qkbackothers_45 : SE := .app (.part 42 1 false) [.app (.tproj 0) [.inp 117]]
@[simp] noncomputable def qkbackothers_46 : SE := .app (.part 43 1 false) [.app (.tproj 0) [.inp 117]]
@[simp] noncomputable def qkbackothers_47 : SE := .app (.part 44 1 false) [.app (.tproj 0) [.inp 117]]
@[simp] noncomputable def qkbackothers_48 : SE := .app (.part 45 1 false) [.app (.tproj 0) [.inp 117]]
@[simp] noncomputable def qkbackothers_49 : SE := .app (.part 46 1 false) [.app (.tproj 0) [.inp 117]]
@[simp] noncomputable def qkbackothers_50 : SE := .app (.part 47 1 false) [.app (.tproj 0) [.inp 117]]
@[simp] noncomputable def qkbackothers_51 : SE := .app (.part 48 1 false) [.app (.tproj 0) [.inp 117]]
@[simp] noncomputable def qkbackothers_52 : SE := .app (.part 49 1 false) [.app (.tproj 0) [.inp 117]]
@[simp] noncomputable def qkbackothers_53 : SE := .app (.part 50 1 false) [.app (.tproj 0) [.inp 117]]
@[simp] noncomputable def qkbackothers_54 : SE := .app (.part 51 1 false) [.app (.tproj 0) [.inp 117]]
@[simp] noncomputable def qkbackothers_55 : SE := .app (.part 52 1 false) [.app (.tproj 0) [.inp 117]]
@[simp] noncomputable def qkbackothers_56 : SE := .app (.part 53 1 false) [.app (.tproj 0) [.inp 117]]
@[simp] noncomputable def qkbackothers_57 : SE := .app (.part 54 1 false) [.app (.tproj 0) [.inp 117]]
@[simp] noncomputable def qkbackothers_58 : SE := .app (.part 55 1 false) [.app (.tproj 0) [.inp 117]]
@[simp] noncomputable def qkbackothers_59 : SE := .app (.part 56 1 false) [.app (.tproj 0) [.inp 117]]
@[simp] noncomputable def qkbackothers_60 : SE := .app (.part 57 1 false) [.app (.tproj 0) [.inp 117]]
@[simp] noncomputable def qkbackothers_61 : SE := .app (.part 58 1 false) [.app (.tproj 0) [.inp 117]]
@[simp] noncomputable def qkbackothers_62 : SE := .app (.part 59 1 false) [.app (.tproj 0) [.inp 117]]
@[simp] noncomputable def qkbackothers_63 : SE := .app (.part 60 1 false) [.app (.tproj 0) [.inp 117]]
@[simp] noncomputable def qkbackothers_64 : SE := .app (.part 61 1 false) [.app (.tproj 0) [.inp 117]]
@[simp] noncomputable def qkbackothers_65 : SE := .app (.part 62 1 false) [.app (.tproj 0) [.inp 117]]
@[simp] noncomputable def qkbackothers_66 : SE := .app (.part 63 1 false) [.app (.tproj 0) [.inp 117]]
@[simp] noncomputable def qkbackothers_67 : SE := .app (.part 64 1 false) [.app (.tproj 0) [.inp 117]]
@[simp] noncomputable def qkbackothers_68 : SE := .app (.part 65 1 false) [.app (.tproj 0) [.inp 117]]
@[simp] noncomputable def qkbackothers_69 : SE := .app (.part 66 1 false) [.app (.tproj 0) [.inp 117]]
@[simp] noncomputable def qkbackothers_70 : SE := .app (.part 67 1 false) [.app (.tproj 0) [.inp 117]]
@[simp] noncomputable def qkbackothers_71 : SE := .app (.part 68 1 false) [.app (.tproj 0) [.inp 117]]
@[simp] noncomputable def qkbackothers_72 : SE := .app (.part 69 1 false) [.app (.tproj 0) [.inp 117]]
@[simp] noncomputable def qkbackothers_73 : SE := .app (.part 70 1 false) [.app (.tproj 0) [.inp 117]]
@[simp] noncomputable def qkbackothers_74 : SE := .app (.part 71 1 false) [.app (.tproj 0) [.inp 117]]
@[simp] noncomputable def qkbackothers_75 : SE := .app (.part 72 1 false) [.app (.tproj 0) [.inp 117]]
@[simp] noncomputable def qkbackothers_76 : SE := .app (.part 73 1 false) [.app (.tproj 0) [.inp 117]]
@[simp] noncomputable def qkbackothers_77 : SE := .agg [qkbackothers_5, qkbackothers_6, qkbackothers_7, qkbackothers_8, qkbackothers_9, qkbackothers_10, qkbackothers_11, qkbackothers_12, qkbackothers_13, qkbackothers_14, qkbackothers_15, qkbackothers_16, qkbackothers_17, qkbackothers_18, qkbackothers_19, qkbackothers_20, qkbackothers_21, qkbackothers_22, qkbackothers_23, qkbackothers_24, qkbackothers_25, qkbackothers_26, qkbackothers_27, qkbackothers_28, qkbackothers_29, qkbackothers_30, qkbackothers_31, qkbackothers_32, qkbackothers_33, qkbackothers_34, qkbackothers_35, qkbackothers_36, qkbackothers_37, qkbackothers_38, qkbackothers_39, qkbackothers_40, qkbackothers_41, qkbackothers_42, qkbackothers_43, qkbackothers_44, qkbackothers_45, qkbackothers_46, qkbackothers_47, qkbackothers_48, qkbackothers_49, qkbackothers_50, qkbackothers_51, qkbackothers_52, qkbackothers_53, qkbackothers_54, qkbackothers_55, qkbackothers_56, qkbackothers_57, qkbackothers_58, qkbackothers_59, qkbackothers_60, qkbackothers_61, qkbackothers_62, qkbackothers_63, qkbackothers_64, qkbackothers_65, qkbackothers_66, qkbackothers_67, qkbackothers_68, qkbackothers_69, qkbackothers_70, qkbackothers_71, qkbackothers_72, qkbackothers_73, qkbackothers_74, qkbackothers_75, qkbackothers_76]
@[simp] noncomputable def qkbackothers_78 : SE := .agg [.inp 42, .inp 43, .inp 44, .inp 45, .inp 46, .inp 47, .inp 48, .inp 49, .inp 50, .inp 51, .inp 52, .inp 53, .inp 54, .inp 55, .inp 56, .inp 57, .inp 58, .inp 59, .inp 60, .inp 61, .inp 62, .inp 63, .inp 64, .inp 65, .inp 66, .inp 67, .inp 68, .inp 69, .inp 70, .inp 71, .inp 72, .inp 73, .inp 74, .inp 75, .inp 76, .inp 77, .inp 78, .inp 79, .inp 80, .inp 81, .inp 82, .inp 83, .inp 84, .inp 85, .inp 86, .inp 87, .inp 88, .inp 89, .inp 90, .inp 91, .inp 92, .inp 93, .inp 94, .inp 95, .inp 96, .inp 97, .inp 98, .inp 99, .inp 100, .inp 101, .inp 102, .inp 103, .inp 104, .inp 105, .inp 106, .inp 107, .inp 108, .inp 109, .inp 110, .inp 111, .inp 112, .inp 113]
@[simp] noncomputable def qkbackothers_79 : SE := .app (.eqa [ some .i64, some .i64, none, some .i64, some .i64, none, some .i64, some .i64, none, some .i64, some .i64, none, some .i64, some .i64, none, some .i64, some .i64, none, some .i64, some .i64, none, some .i64, some .i64, none, some .i64, some .i64, none, some .i64, some .i64, none, some .i64, some .i64, none, some .i64, some .i64, none, some .i64, some .i64, none, some .i64, some .i64, none, some .i64, some .i64, none, some .i64, some .i64, none, some .i64, some .i64, none, some .i64, some .i64, none, some .i64, some .i64, none, some .i64, some .i64, none, some .i64, some .i64, none, some .i64, some .i64, none, some .i64, some .i64, none, some .i64, some .i64, none] true) [qkbackothers_77, qkbackothers_78]
@[simp] noncomputable def qkbackothers_80 : SE := .app .pick [qkbackothers_4, .bool true, qkbackothers_79]
@[simp] noncomputable def qkbackothers_81 : SE := .app (.part 1 1 false) [.app (.tproj 0) [.inp 117]]
@[simp] noncomputable def qkbackothers_82 : SE := .agg [qkbackothers_3, qkbackothers_81, qkbackothers_5, qkbackothers_6, qkbackothers_7, qkbackothers_8, qkbackothers_9, qkbackothers_10, qkbackothers_11, qkbackothers_12, qkbackothers_13, qkbackothers_14, qkbackothers_15, qkbackothers_16, qkbackothers_17, qkbackothers_18, qkbackothers_19, qkbackothers_20, qkbackothers_21, qkbackothers_22, qkbackothers_23, qkbackothers_24, qkbackothers_25, qkbackothers_26, qkbackothers_27, qkbackothers_28, qkbackothers_29, qkbackothers_30, qkbackothers_31, qkbackothers_32, qkbackothers_33, qkbackothers_34, qkbackothers_35, qkbackothers_36, qkbackothers_37, qkbackothers_38, qkbackothers_39, qkbackothers_40, qkbackothers_41, qkbackothers_42, qkbackothers_43, qkbackothers_44, qkbackothers_45, qkbackothers_46, qkbackothers_47, qkbackothers_48, qkbackothers_49, qkbackothers_50, qkbackothers_51, qkbackothers_52, qkbackothers_53, qkbackothers_54, qkbackothers_55, qkbackothers_56, qkbackothers_57, qkbackothers_58, qkbackothers_59, qkbackothers_60, qkbackothers_61, qkbackothers_62, qkbackothers_63, qkbackothers_64, qkbackothers_65, qkbackothers_66, qkbackothers_67, qkbackothers_68, qkbackothers_69, qkbackothers_70, qkbackothers_71, qkbackothers_72, qkbackothers_73, qkbackothers_74, qkbackothers_75, qkbackothers_76]
@[simp] noncomputable def qkbackothers_83 : SE := .app (.eqb false) [.app (.tproj 1) [.inp 117], .inp 118]
@[simp] noncomputable def qkbackothers_84 : SE := .app .len [qkbackothers_81]
@[simp] noncomputable def qkbackothers_85 : SE := .app (.bin .eql) [.app .len [.inp 41], qkbackothers_84]
@[simp] noncomputable def qkbackothers_86 : SE := .app .pick [.app (.tproj 1) [.inp 117], qkbackothers_85, .bool false]
@[simp] noncomputable def qkbackothers_87 : SE := .app (.un .not) [qkbackothers_86]
@[simp] noncomputable def qkbackothers_88 : SE := .app .pick [qkbackothers_83, qkbackothers_87, .bool false]
@[simp] noncomputable def qkbackothers_89 : SE := .app (.eidx 23) [.inp 41, .inp 127]
@[simp] noncomputable def qkbackothers_90 : SE := .app (.eload 23 true) [qkbackothers_89]
@[simp] noncomputable def qkbackothers_91 : SE := .app (.bin .lss) [.inp 125, qkbackothers_84]
@[simp] noncomputable def qkbackothers_92 : SE := .app (.eidx 23) [qkbackothers_81, .inp 125]
@[simp] noncomputable def qkbackothers_93 : SE := .app (.eoff 0) [qkbackothers_92]
@[simp] noncomputable def qkbackothers_94 : SE := .app (.eload 1 false) [qkbackothers_93]
@[simp] noncomputable def qkbackothers_95 : SE := .app (.part 0 1 false) [qkbackothers_90]
@[simp] noncomputable def qkbackothers_96 : SE := .app (.bin .eql) [qkbackothers_94, qkbackothers_95]
@[simp] noncomputable def qkbackothers_97 : SE := .app (.eload 23 true) [qkbackothers_92]
@[simp] noncomputable def qkbackothers_98 : SE := .app (.part 1 1 false) [qkbackothers_90]
@[simp] noncomputable def qkbackothers_99 : SE := .app (.part 6 1 false) [qkbackothers_90]
@[simp] noncomputable def qkbackothers_100 : SE := .app (.part 21 1 false) [qkbackothers_90]
@[simp] noncomputable def qkbackothers_101 : SE := .agg [qkbackothers_95, qkbackothers_98, .app (.part 2 1 false) [qkbackothers_90], .app (.part 3 1 false) [qkbackothers_90], .app (.part 4 1 false) [qkbackothers_90], .app (.part 5 1 false) [qkbackothers_90], qkbackothers_99, .app (.part 7 1 false) [qkbackothers_90], .app (.part 8 1 false) [qkbackothers_90], .app (.part 9 1 false) [qkbackothers_90], .app (.part 10 1 false) [qkbackothers_90], .app (.part 11 1 false) [qkbackothers_90], .app (.part 12 1 false) [qkbackothers_90], .app (.part 13 1 false) [qkbackothers_90], .app (.part 14 1 false) [qkbackothers_90], .app (.part 15 1 false) [qkbackothers_90], .app (.part 16 1 false) [qkbackothers_90], .app (.part 17 1 false) [qkbackothers_90], .app (.part 18 1 false) [qkbackothers_90], .app (.part 19 1 false) [qkbackothers_90], .app (.part 20 1 false) [qkbackothers_90], qkbackothers_100, .app (.part 22 1 false) [qkbackothers_90]]
@[simp] noncomputable def qkbackothers_102 : SE := .app (.bin .add) [.inp 125, .int .i64 1]
@[simp] noncomputable def qkbackothers_103 : SE := .app (.bin .add) [.inp 127, .int .i64 1]
@[simp] noncomputable def qkbackothers_104 : SE := .app (.bin .neq) [qkbackothers_98, .inp 114]
@[simp] noncomputable def qkbackothers_105 : SE := .app (.part 6 1 false) [qkbackothers_97]
@[simp] noncomputable def qkbackothers_106 : SE := .app (.bin .neq) [qkbackothers_105, .int .u8 4]
@[simp] noncomputable def qkbackothers_107 : SE := .app (.bin .add) [.inp 126, .int .i64 1]
@[simp] noncomputable def qkbackothers_108 : SE := .app (.bin .neq) [qkbackothers_99, .int .u8 1]
@[simp] noncomputable def qkbackothers_109 : SE := .app (.bin .neq) [qkbackothers_99, .int .u8 2]
@[simp] noncomputable def qkbackothers_110 : SE := .app .pick [qkbackothers_108, qkbackothers_109, .bool false]
@[simp] noncomputable def qkbackothers_111 : SE := .app (.bin .geq) [.inp 7, .int .i64 0]
@[simp] noncomputable def qkbackothers_112 : SE := .app (.bin .leq) [.inp 7, .int .i64 1073741824]
@[simp] noncomputable def qkbackothers_113 : SE := .app (.bin .eql) [.inp 125, qkbackothers_84]
@[simp] noncomputable def qkbackothers_114 : SE := .app (.bin .leq) [.inp 126, .int .i64 1]
@[simp] noncomputable def qkbackothers_115 : SE := .app .pick [qkbackothers_113, qkbackothers_114, .bool false]
@[simp] noncomputable def qkbackothers_116 : SE := .app (.bin .eql) [.inp 126, .int .i64 1]
@[simp] noncomputable def qkbackothers_117 : SE := .app (.eqb false) [.app (.tproj 1) [.inp 117], qkbackothers_116]
@[simp] noncomputable def qkbackothers_118 : SE := .app .pick [qkbackothers_115, qkbackothers_117, .bool false]
@[simp] noncomputable def qkbackothers_119 : SE := .app .pick [qkbackothers_111, qkbackothers_112, .bool false]
@[simp] noncomputable def qkbackothers_120 : SE := .app (.un .not) [qkbackothers_119]
@[simp] noncomputable def qkbackothers_121 : SE := .app .pick [qkbackothers_120, .bool true, .inp 128]
@[simp] noncomputable def qkbackothers_122 : SE := .app .pick [qkbackothers_118, qkbackothers_121, .bool false]
noncomputable def rt_lockbarlaw22_BackOthers : RT :=
.seg [.chk [] (.isAgg 11) [qkbackothers_0]] <|
.seg [.chk [] (.isAgg 29) [qkbackothers_1]] <|
.seg [.chk [] (.isAgg 74) [qkbackothers_2]] <|
.seg [.call 115 [] 7 [qkbackothers_0] false] <|
.seg [.call 116 [(.inp 115, false)] 20 [qkbackothers_2] false] <|
.seg [.chk [(.inp 115, false)] (.un .not) [.inp 116]] <|
.seg [.chk [] .pick [.inp 115, .bool true, .app (.un .not) [.inp 116]]] <|
.cond (.app .pick [.inp 115, .bool true, .app (.un .not) [.inp 116]])
 (.seg [.call 117 [] 9 [] false] <|
.ret (.inp 117))
 (.seg [.call 117 [] 10 [qkbackothers_0, qkbackothers_1, qkbackothers_2, .inp 114] false] <|
.seg [.chk [] (.tproj 0) [.inp 117]] <|
.seg [.chk [] (.tproj 1) [.inp 117]] <|
.seg [.chk [] (.isAgg 74) [.app (.tproj 0) [.inp 117]]] <|
.seg [.chk [] (.bin .neq) [qkbackothers_3, .inp 40]] <|
.seg [.chk [(qkbackothers_4, false)] (.eqa [ some .i64, some .i64, none, some .i64, some .i64, none, some .i64, some .i64, none, some .i64, some .i64, none, some .i64, some .i64, none, some .i64, some .i64, none, some .i64, some .i64, none, some .i64, some .i64, none, some .i64, some .i64, none, some .i64, some .i64, none, some .i64, some .i64, none, some .i64, some .i64, none, some .i64, some .i64, none, some .i64, some .i64, none, some .i64, some .i64, none, some .i64, some .i64, none, some .i64, some .i64, none, some .i64, some .i64, none, some .i64, some .i64, none, some .i64, some .i64, none, some .i64, some .i64, none, some .i64, some .i64, none, some .i64, some .i64, none, some .i64, some .i64, none] true) [qkbackothers_77, qkbackothers_78]] <|
.seg [.chk [] .pick [qkbackothers_4, .bool true, qkbackothers_79]] <|
.seg [.call 118 [(qkbackothers_80, false)] 14 [qkbackothers_82, qkbackothers_2] false] <|
.seg [.chk [(qkbackothers_80, false)] (.eqb false) [.app (.tproj 1) [.inp 117], .inp 118]] <|
.seg [.chk [(.app (.tproj 1) [.inp 117], true), (qkbackothers_83, true), (qkbackothers_80, false)] .len [.inp 41]] <|
.seg [.chk [(.app (.tproj 1) [.inp 117], true), (qkbackothers_83, true), (qkbackothers_80, false)] .len [qkbackothers_81]] <|
.seg [.chk [(.app (.tproj 1) [.inp 117], true), (qkbackothers_83, true), (qkbackothers_80, false)] (.bin .eql) [.app .len [.inp 41], qkbackothers_84]] <|
.seg [.chk [(qkbackothers_83, true), (qkbackothers_80, false)] .pick [.app (.tproj 1) [.inp 117], qkbackothers_85, .bool false]] <|
.seg [.chk [(qkbackothers_83, true), (qkbackothers_80, false)] (.un .not) [qkbackothers_86]] <|
.seg [.chk [(qkbackothers_80, false)] .pick [qkbackothers_83, qkbackothers_87, .bool false]] <|
.seg [.chk [] .pick [qkbackothers_80, .bool true, qkbackothers_88]] <|
.seg [.bind 119 (qkbackothers_79),
.bind 120 (qkbackothers_80),
.bind 121 (qkbackothers_86),
.bind 122 (qkbackothers_87),
.bind 123 (qkbackothers_88),
.bind 124 (.app .pick [qkbackothers_80, .bool true, qkbackothers_88])] <|
.cond (.inp 124)
 (.ret (.bool false))
 (.loop 0 125 [.int .i64 0, .int .i64 0, .int .i64 0] <|
.seg [.chk [] .len [.inp 41]] <|
.seg [.chk [] (.bin .lss) [.inp 127, .app .len [.inp 41]]] <|
.cond (.app (.bin .lss) [.inp 127, .app .len [.inp 41]])
 (.seg [.chk [] (.eidx 23) [.inp 41, .inp 127]] <|
.seg [.chk [] (.eload 23 true) [qkbackothers_89]] <|
.seg [.chk [] (.isAgg 23) [qkbackothers_90]] <|
.seg [.chk [] .len [qkbackothers_81],
.chk [] (.bin .lss) [.inp 125, qkbackothers_84],
.chk [(qkbackothers_91, true)] (.eidx 23) [qkbackothers_81, .inp 125],
.chk [(qkbackothers_91, true)] (.eoff 0) [qkbackothers_92],
.chk [(qkbackothers_91, true)] (.eload 1 false) [qkbackothers_93],
.chk [(qkbackothers_91, true)] (.bin .eql) [qkbackothers_94, qkbackothers_95],
.chk [] .pick [qkbackothers_91, qkbackothers_96, .bool false]] <|
.seg [.bind 128 (qkbackothers_96),
.bind 129 (.app .pick [qkbackothers_91, qkbackothers_96, .bool false])] <|
.cond (.inp 129)
 (.seg [.chk [] (.eidx 23) [qkbackothers_81, .inp 125],
.chk [] (.eload 23 true) [qkbackothers_92],
.call 130 [] 15 [qkbackothers_97, qkbackothers_101] false,
.chk [] (.un .not) [.inp 130]] <|
.cond (.inp 130)
 (.seg [.chk [] (.bin .add) [.inp 125, .int .i64 1]] <|
.seg [.chk [] (.bin .add) [.inp 127, .int .i64 1]] <|
.again 0 [qkbackothers_102, .inp 126, qkbackothers_103])
 (.seg [.chk [] (.bin .add) [.inp 126, .int .i64 1]] <|
.seg [.chk [] (.eidx 23) [qkbackothers_81, .inp 125]] <|
.seg [.chk [] (.eload 23 true) [qkbackothers_92]] <|
.seg [.chk [] (.isAgg 23) [qkbackothers_97]] <|
.seg [.chk [] (.bin .neq) [qkbackothers_98, .inp 114]] <|
.seg [.chk [(qkbackothers_104, false)] (.bin .neq) [qkbackothers_105, .int .u8 4]] <|
.seg [.chk [] .pick [qkbackothers_104, .bool true, qkbackothers_106]] <|
.seg [.bind 131 (.app .pick [qkbackothers_104, .bool true, qkbackothers_106])] <|
.cond (.inp 131)
 (.ret (.bool false))
 (.seg [.chk [] .isOne [qkbackothers_99],
.chk [] .isOne [qkbackothers_100]] <|
.seg [.call 132 [] 15 [.agg [.app (.part 0 1 false) [qkbackothers_97], .app (.part 1 1 false) [qkbackothers_97], .app (.part 2 1 false) [qkbackothers_97], .app (.part 3 1 false) [qkbackothers_97], .app (.part 4 1 false) [qkbackothers_97], .app (.part 5 1 false) [qkbackothers_97], qkbackothers_99, .app (.part 7 1 false) [qkbackothers_97], .app (.part 8 1 false) [qkbackothers_97], .app (.part 9 1 false) [qkbackothers_97], .app (.part 10 1 false) [qkbackothers_97], .app (.part 11 1 false) [qkbackothers_97], .app (.part 12 1 false) [qkbackothers_97], .app (.part 13 1 false) [qkbackothers_97], .app (.part 14 1 false) [qkbackothers_97], .app (.part 15 1 false) [qkbackothers_97], .app (.part 16 1 false) [qkbackothers_97], .app (.part 17 1 false) [qkbackothers_97], .app (.part 18 1 false) [qkbackothers_97], .app (.part 19 1 false) [qkbackothers_97], .app (.part 20 1 false) [qkbackothers_97], qkbackothers_100, .app (.part 22 1 false) [qkbackothers_97]], qkbackothers_101] false] <|
.seg [.chk [] (.un .not) [.inp 132]] <|
.cond (.inp 132)
 (.seg [.chk [] (.bin .add) [.inp 125, .int .i64 1]] <|
.seg [.chk [] (.bin .add) [.inp 127, .int .i64 1]] <|
.again 0 [qkbackothers_102, qkbackothers_107, qkbackothers_103])
 (.ret (.bool false)))))
 (.seg [.chk [] (.bin .add) [.inp 126, .int .i64 1]] <|
.seg [.chk [] (.bin .neq) [qkbackothers_98, .inp 114]] <|
.seg [.chk [(qkbackothers_104, false)] (.bin .neq) [qkbackothers_99, .int .u8 1]] <|
.seg [.chk [(qkbackothers_108, true), (qkbackothers_104, false)] (.bin .neq) [qkbackothers_99, .int .u8 2]] <|
.seg [.chk [(qkbackothers_104, false)] .pick [qkbackothers_108, qkbackothers_109, .bool false]] <|
.seg [.chk [] .pick [qkbackothers_104, .bool true, qkbackothers_110]] <|
.seg [.bind 130 (qkbackothers_110),
.bind 131 (.app .pick [qkbackothers_104, .bool true, qkbackothers_110])] <|
.cond (.inp 131)
 (.ret (.bool false))
 (.seg [.chk [] (.bin .add) [.inp 127, .int .i64 1]] <|
.again 0 [.inp 125, qkbackothers_107, qkbackothers_103])))
 (.seg [.chk [] (.bin .geq) [.inp 7, .int .i64 0]] <|
.seg [.chk [(qkbackothers_111, true)] (.bin .leq) [.inp 7, .int .i64 1073741824]] <|
.seg [.chk [] .pick [qkbackothers_111, qkbackothers_112, .bool false]] <|
.seg [.chk [] .len [qkbackothers_81]] <|
.seg [.chk [] (.bin .eql) [.inp 125, qkbackothers_84]] <|
.seg [.chk [(qkbackothers_113, true)] (.bin .leq) [.inp 126, .int .i64 1]] <|
.seg [.chk [] .pick [qkbackothers_113, qkbackothers_114, .bool false]] <|
.seg [.chk [(qkbackothers_115, true)] (.bin .eql) [.inp 126, .int .i64 1]] <|
.seg [.chk [(qkbackothers_115, true)] (.eqb false) [.app (.tproj 1) [.inp 117], qkbackothers_116]] <|
.seg [.chk [] .pick [qkbackothers_115, qkbackothers_117, .bool false]] <|
.seg [.chk [(qkbackothers_118, true)] (.un .not) [qkbackothers_119]] <|
.seg [.call 128 [(qkbackothers_120, false), (qkbackothers_118, true)] 20 [qkbackothers_82] false] <|
.seg [.chk [(qkbackothers_118, true)] .pick [qkbackothers_120, .bool true, .inp 128]] <|
.seg [.chk [] .pick [qkbackothers_118, qkbackothers_121, .bool false]] <|
.seg [.call 129 [(qkbackothers_122, true)] 9 [] false] <|
.seg [.chk [] .pick [qkbackothers_122, .inp 129, .bool false]] <|
.seg [.bind 130 (.app .pick [qkbackothers_122, .inp 129, .bool false]),
.bind 131 (qkbackothers_115),
.bind 132 (qkbackothers_118),
.bind 133 (qkbackothers_121),
.bind 134 (qkbackothers_122)] <|
.ret (.inp 130))))
theorem run_lockbarlaw22_BackOthers : runF E 5 [.agg [.inp 0, .inp 1, .inp 2, .inp 3, .inp 4, .inp 5, .inp 6, .inp 7, .inp 8, .inp 9, .inp 10], .agg [.inp 11, .inp 12, .inp 13, .inp 14, .inp 15, .inp 16, .inp 17, .inp 18, .inp 19, .inp 20, .inp 21, .inp 22, .inp 23, .inp 24, .inp 25, .inp 26, .inp 27, .inp 28, .inp 29, .inp 30, .inp 31, .inp 32, .inp 33, .inp 34, .inp 35, .inp 36, .inp 37, .inp 38, .inp 39], .agg [.inp 40, .inp 41, .inp 42, .inp 43, .inp 44, .inp 45, .inp 46, .inp 47, .inp 48, .inp 49, .inp 50, .inp 51, .inp 52, .inp 53, .inp 54, .inp 55, .inp 56, .inp 57, .inp 58, .inp 59, .inp 60, .inp 61, .inp 62, .inp 63, .inp 64, .inp 65, .inp 66, .inp 67, .inp 68, .inp 69, .inp 70, .inp 71, .inp 72, .inp 73, .inp 74, .inp 75, .inp 76, .inp 77, .inp 78, .inp 79, .inp 80, .inp 81, .inp 82, .inp 83, .inp 84, .inp 85, .inp 86, .inp 87, .inp 88, .inp 89, .inp 90, .inp 91, .inp 92, .inp 93, .inp 94, .inp 95, .inp 96, .inp 97, .inp 98, .inp 99, .inp 100, .inp 101, .inp 102, .inp 103, .inp 104, .inp 105, .inp 106, .inp 107, .inp 108, .inp 109, .inp 110, .inp 111, .inp 112, .inp 113], .inp 114] 115 = rt_lockbarlaw22_BackOthers := by kernel_rfl

end Go.Lb.LK

namespace Go.Lb.LK
open Go Go.Lb Go.Proofs Go.RowKit

theorem cancelN_ok {l : Lay} {im : Img} {k : Kern} {x : Int} (h : k.ok) : (cancelN l im k x).1.ok := by
  rcases cancel_cases l im k x with e | ⟨m, hm, _, _, ⟨e, _⟩ | ⟨e, _⟩⟩
  · rw [e]; exact h
  · rw [e]
    intro y hy
    rcases List.mem_append.1 hy with hy | hy
    · exact h y (List.mem_of_mem_take hy)
    · exact h y (List.mem_of_mem_drop hy)
  · rw [e]
    intro y hy
    rcases List.mem_or_eq_of_mem_set hy with hy | rfl
    · exact h y hy
    · exact ⟨by simp, by simp⟩
set_option maxRecDepth 100000 in
set_option maxHeartbeats 4000000 in
theorem c_BackOthers (l : Lay) (hl : l.ok) (im : Img) (hi : im.ok) (k : Kern) (hkl : k.len) (hk : k.ok) (x : Int) : C f_lockbarlaw22_BackOthers [l.av, im.av, k.av, I x] (.bool true) := by
  refine ctr (l.cells ++ im.cells ++ k.cells ++ [I x]) run_lockbarlaw22_BackOthers rfl (lik l im k x) rfl ?_ rfl
  unfold rt_lockbarlaw22_BackOthers
  simp [Lay.cells, Img.cells, Kern.cells]
  refine call (c_r06_Great l) (by simp [Lay.cells]) (by simp) ?_
  simp
  refine callIf (avs := [k.av]) (.bool (rightK k)) rfl (fun _ => ⟨by simp [Kern.cells], c_r18Right k hkl hk⟩) (by simp) ?_
  cases g1 : great6 l
  case true =>
    simp
    exact call c_wakes22 rfl (by simp) (by simp)
  cases g2 : rightK k
  case false =>
    simp
    exact call c_wakes22 rfl (by simp) (by simp)
  simp
  refine call (c_back_Cancel l hl im hi k hkl x) (by simp [Lay.cells, Img.cells, Kern.cells]) (by simp) ?_
  have hcl := cancelN_len (l := l) (im := im) (x := x) hkl
  have hcr := fun h => cancel_right (l := l) (im := im) (x := x) g2 h
  have hk1 := hkl.1
  have w1 : IntKind.i64.wrap 1 = 1 := by decide
  have hok : (cancelN l im k x).1.ok := cancelN_ok hk
  have hr18 := c_r18Right (cancelN l im k x).1 hcl hok
  have hsm := c_r18Same (cancelN l im k x).1 k hcl
  rcases cancel_cases l im k x with h | ⟨m, hm, _, hsig, ⟨h, h5⟩ | ⟨h, h5⟩⟩
  · rw [h] at hcr hr18 hsm ⊢
    rw [sameK_refl] at hsm
    have hms := machSame_refl k
    rw [← machSame_def] at hms
    simp only [mcells] at hms
    simp [Kern.cells, hms, -AV.eqs]
    refine callIf (avs := [k.av, k.av]) (.bool true) rfl (fun _ => ⟨by simp [Kern.cells], hsm⟩) (by simp) ?_
    simp [Kern.cells, hms, -AV.eqs]
    refine RTwp_loop rfl (fun vs => ∃ i : Nat, i ≤ k.held.length ∧ vs = [I i, I 0, I i]) (fun vs => match vs with | [_, _, .int _ j] => k.held.length - j.toNat | _ => 0) ⟨0, by omega, by simp⟩ ?_
    rintro vs - ⟨i, hik, rfl⟩
    by_cases hlt : i < k.held.length
    · have hw := wrap_succ (i := i) (by omega)
      simp [hlt, Kern.cells, Hd.cells, hw]
      refine call (same_refl (k.at hkl hlt)) (by simp [hlt, Kern.cells, Hd.cells]) (fun _ => rfl) ?_
      simp [hw]
      exact ⟨⟨i + 1, by omega, rfl⟩, by omega⟩
    · have : i = k.held.length := by omega
      subst this
      simp [Kern.cells]
      refine callIf (avs := [k.av]) (.bool true) rfl (fun _ => ⟨by simp [Kern.cells], by have := c_r18Right k hkl hk; rw [g2] at this; exact this⟩) (by simp) ?_
      simp [Kern.cells]
      refine callIf (avs := []) (.bool true) rfl (fun _ => ⟨rfl, c_wakes22⟩) (by simp) ?_
      simp [Kern.cells]
  · obtain ⟨o, ho⟩ : ∃ o, o = ({ k with held := k.held.take m ++ k.held.drop (m + 1) } : Kern) := ⟨_, rfl⟩
    have on : o.next = k.next := by rw [ho]
    have ow : o.want = k.want := by rw [ho]
    have orr : o.run = k.run := by rw [ho]
    have ofl : o.fail = k.fail := by rw [ho]
    have olen : o.held.length + 1 = k.held.length := by rw [ho]; simp; omega
    have og1 : ∀ n, n < m → ∀ h : n < o.held.length, ∀ h' : n < k.held.length, o.held[n] = k.held[n] := by
      intro n hn h h'
      simp only [ho]
      rw [List.getElem_append_left (by simp; omega), List.getElem_take]
    have og2 : ∀ n, m ≤ n → ∀ h : n < o.held.length, ∀ h' : n + 1 < k.held.length, o.held[n] = k.held[n + 1] := by
      intro n hn h h'
      simp only [ho]
      rw [List.getElem_append_right (by simp; omega), List.getElem_drop]
      congr 1
      simp; omega
    rw [← ho] at h
    rw [h] at hcr hr18 hsm hcl ⊢
    simp only at hcr hr18 hsm hcl
    have hfin : (l.approach < 0 ∨ 1073741824 < l.approach) ∨ rightK o = true := by
      by_cases hf : 0 ≤ l.approach ∧ l.approach ≤ 1073741824
      · exact .inr (hcr hf)
      · exact .inl (by omega)
    have hsf : sameK o k = false := by simp [sameK, show ¬ o.held.length = k.held.length by omega]
    rw [hsf] at hsm
    have hms := machSame_refl k
    rw [← machSame_def] at hms
    simp only [mcells] at hms
    have hle : ¬ ((k.held.length : Int) = (o.held.length : Int)) := by omega
    simp [Kern.cells, on, ow, orr, ofl, hms, hle, -AV.eqs]
    refine callIf (avs := [o.av, k.av]) (.bool false) rfl (fun _ => ⟨by simp [Kern.cells, on, ow, orr, ofl], hsm⟩) (by simp) ?_
    simp [Kern.cells, on, ow, orr, ofl, hms, hle, -AV.eqs]
    refine RTwp_loop rfl (fun vs => ∃ i n c : Nat, i ≤ k.held.length ∧ vs = [I n, I c, I i] ∧ ((i ≤ m ∧ n = i ∧ c = 0) ∨ (m < i ∧ n + 1 = i ∧ c = 1))) (fun vs => match vs with | [_, _, .int _ j] => k.held.length - j.toNat | _ => 0) ⟨0, 0, 0, by omega, by simp, .inl ⟨by omega, rfl, rfl⟩⟩ ?_
    rintro vs - ⟨i, n, c, hik, rfl, hinv⟩
    by_cases hlt : i < k.held.length
    · have hw := wrap_succ (i := i) (by omega)
      have hwn := wrap_succ (i := n) (by omega)
      have hwc := wrap_succ (i := c) (by omega)
      by_cases him : i = m
      · subst him
        have hn : n = i := by omega
        have hc : c = 0 := by omega
        subst hn hc
        have hst := comes_one h5
        by_cases hno : n < o.held.length
        · have hne : ¬ o.held[n].id = k.held[n].id := by
            rw [og2 n (by omega) hno (by omega)]
            have := id_rise g2 (n + 1) (by omega) n (by omega)
            omega
          simp [hlt, hno, Kern.cells, Hd.cells, hw, w1, hne, hsig]
          exact ⟨by omega, fun _ => ⟨⟨n + 1, by omega, n, 1, by omega, by omega⟩, by omega⟩⟩
        · simp [hlt, hno, Kern.cells, Hd.cells, hw, w1, hsig]
          exact ⟨by omega, fun _ => ⟨⟨n + 1, by omega, n, 1, by omega, by omega⟩, by omega⟩⟩
      · obtain ⟨hno, he⟩ : ∃ h : n < o.held.length, o.held[n] = k.held[i] := by
          rcases hinv with ⟨a, rfl, b⟩ | ⟨a, rfl, b⟩
          · exact ⟨by omega, og1 n (by omega) (by omega) hlt⟩
          · exact ⟨by omega, og2 n (by omega) (by omega) hlt⟩
        simp [hlt, hno, he, Kern.cells, Hd.cells, hw, hwn]
        refine call (same_refl (k.at hkl hlt)) (by simp [hlt, hno, he, Kern.cells, Hd.cells]) (fun _ => rfl) ?_
        simp [hw, hwn]
        exact ⟨⟨i + 1, by omega, n + 1, c, by omega, by omega⟩, by omega⟩
    · have hn : n = o.held.length := by omega
      have hc : c = 1 := by omega
      subst hn hc
      simp [hlt, Kern.cells]
      refine callIf (avs := [o.av]) (.bool (rightK o)) rfl (fun _ => ⟨by simp [Kern.cells, on, ow, orr, ofl], hr18⟩) (by simp) ?_
      simp [Kern.cells]
      refine callIf (avs := []) (.bool true) rfl (fun _ => ⟨rfl, c_wakes22⟩) (by simp) ?_
      simp [Kern.cells]
      exact hfin
  · obtain ⟨o, ho⟩ : ∃ o, o = ({ k with held := k.held.set m { k.held[m] with stage := 4, timer := l.approach } } : Kern) := ⟨_, rfl⟩
    have on : o.next = k.next := by rw [ho]
    have ow : o.want = k.want := by rw [ho]
    have orr : o.run = k.run := by rw [ho]
    have ofl : o.fail = k.fail := by rw [ho]
    have olen : o.held.length = k.held.length := by rw [ho]; simp
    have og1 : ∀ n, n ≠ m → ∀ h : n < o.held.length, ∀ h' : n < k.held.length, o.held[n] = k.held[n] := by
      intro n hn h h'
      simp only [ho]
      rw [List.getElem_set, if_neg (fun e => hn e.symm)]
    have og2 : ∀ h : m < o.held.length, o.held[m] = { k.held[m] with stage := 4, timer := l.approach } := by
      intro h
      simp only [ho]
      rw [List.getElem_set, if_pos rfl]
    rw [← ho] at h
    rw [h] at hcr hr18 hsm hcl ⊢
    simp only at hcr hr18 hsm hcl
    have hfin : (l.approach < 0 ∨ 1073741824 < l.approach) ∨ rightK o = true := by
      by_cases hf : 0 ≤ l.approach ∧ l.approach ≤ 1073741824
      · exact .inr (hcr hf)
      · exact .inl (by omega)
    have hms := machSame_refl k
    rw [← machSame_def] at hms
    simp only [mcells] at hms
    have hle : ((k.held.length : Int) = (o.held.length : Int)) := by omega
    simp [Kern.cells, on, ow, orr, ofl, hms, olen, -AV.eqs]
    refine callIf (avs := [o.av, k.av]) (.bool (sameK o k)) rfl (fun _ => ⟨by simp [Kern.cells, on, ow, orr, ofl], hsm⟩) (by simp) ?_
    simp [Kern.cells, on, ow, orr, ofl, hms, olen, -AV.eqs]
    refine RTwp_loop rfl (fun vs => ∃ i c : Nat, i ≤ k.held.length ∧ vs = [I i, I c, I i] ∧ ((i ≤ m ∧ c = 0) ∨ (m < i ∧ c = 1))) (fun vs => match vs with | [_, _, .int _ j] => k.held.length - j.toNat | _ => 0) ⟨0, 0, by omega, by simp, .inl ⟨by omega, rfl⟩⟩ ?_
    rintro vs - ⟨i, c, hik, rfl, hinv⟩
    by_cases hlt : i < k.held.length
    · have hw := wrap_succ (i := i) (by omega)
      have hwc := wrap_succ (i := c) (by omega)
      have hno : i < o.held.length := by omega
      by_cases him : i = m
      · subst him
        have hc : c = 0 := by omega
        subst hc
        have hst := comes_two h5
        have he := og2 hno
        have hsf : sameS { k.held[i] with stage := 4, timer := l.approach } k.held[i] = false := by
          simp [sameS, show ¬ 4 = k.held[i].stage by omega]
        have hs1 := c_r17Same { k.held[i] with stage := 4, timer := l.approach } k.held[i] (k.at hkl hlt)
        rw [hsf] at hs1
        simp [hlt, hno, he, Kern.cells, Hd.cells, hw, w1, hsig]
        refine call hs1 (by simp [hlt, hno, he, Kern.cells, Hd.cells, hsig]) (fun _ => rfl) ?_
        simp [hlt, hno, he, Kern.cells, Hd.cells, hw, w1, hsig]
        refine call (same_refl (k.at hkl hlt)) (by simp [hlt, hno, he, Kern.cells, Hd.cells, hsig]) (fun _ => rfl) ?_
        simp [hw, w1]
        exact ⟨⟨i + 1, by omega, 1, by omega, by omega⟩, by omega⟩
      · have he : o.held[i] = k.held[i] := og1 i him hno hlt
        simp [hlt, hno, he, Kern.cells, Hd.cells, hw]
        refine call (same_refl (k.at hkl hlt)) (by simp [hlt, hno, he, Kern.cells, Hd.cells]) (fun _ => rfl) ?_
        simp [hw]
        exact ⟨⟨i + 1, by omega, c, by omega, by omega⟩, by omega⟩
    · have hi2 : i = k.held.length := by omega
      have hc : c = 1 := by omega
      subst hi2 hc
      simp [hlt, Kern.cells, olen]
      refine callIf (avs := [o.av]) (.bool (rightK o)) rfl (fun _ => ⟨by simp [Kern.cells, on, ow, orr, ofl], hr18⟩) (by simp) ?_
      simp [Kern.cells]
      refine callIf (avs := []) (.bool true) rfl (fun _ => ⟨rfl, c_wakes22⟩) (by simp) ?_
      simp [Kern.cells]
      exact ⟨by omega, hfin⟩
end Go.Lb.LK
