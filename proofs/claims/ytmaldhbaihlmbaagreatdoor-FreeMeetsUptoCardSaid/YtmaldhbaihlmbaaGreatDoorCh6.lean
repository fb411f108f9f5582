/- What functions come to, printed by a program, checked by the kernel. -/
/- The trees of the functions. -/
/-
  DERIVED: THE SHELF's CONTRACTS AT THIS DUMP, IN PLAIN WORDS (tools/lay-plain.mjs out of 'TryzShelf.lean', which tools/lay-shelf.mjs wrote): THE SAME DECLARATIONS UNDER THE SAME NAMES: 'import', 'namespace', 'open', 'def', 'theorem' AND NOTHING ELSE: no command of the shelf's: FOR A HAND-IN. Each laying: the table of numbers ('.._ren') and one theorem, a field a fact of the dump's own or the kernel's comparison; each contract: ONE APPLICATION.
-/
/- The data of the program, and as pure values. -/
/- An image, a held route, as pure values. -/
/- Contracts over this program. -/
/- Counting, bits, an image. -/
/- Counting, an image. -/
/- An image: what is occupied, where points stand; counting on. -/
/- Counting on; an image behind a tick. -/
/- Rows that are sorted and compacted: the plain law. -/
import Derived.Test.YtmaldhbaihlmbaaGreatDoorCh1
import Derived.Test.YtmaldhbaihlmbaaGreatDoorCh2
import Derived.Test.YtmaldhbaihlmbaaGreatDoorCh3
import Derived.Test.YtmaldhbaihlmbaaGreatDoorCh4
import Derived.Test.YtmaldhbaihlmbaaGreatDoorCh5
import Derived.Shelf.Small.Bits
import Derived.Shelf.Strconv.Itoa0
import Derived.Shelf.Sort.Plain
import Derived.Ground.Names2Prog
import Derived.Shelf.Slices.CompactI
import Derived.Test.YtmaldhbaihlmbaaGreatDoorProg
import Derived.Test.YtmaldhbaihlmbaaGreatDoorFw10
set_option linter.unusedSimpArgs false
set_option linter.unusedVariables false
namespace Go.Lb.LK
open Go Go.Lb Go.Proofs
@[simp] noncomputable def qka4_0 : SE := .app .app [.app .lst [], .inp 0]
@[simp] noncomputable def qka4_1 : SE := .app .app [qka4_0, .inp 1]
@[simp] noncomputable def qka4_2 : SE := .app .len [qka4_1]
@[simp] noncomputable def qka4_3 : SE := .app (.rowget 3 0 1 false) [qka4_1, .inp 2]
@[simp] noncomputable def qka4_4 : SE := .app (.rowget 3 0 1 false) [qka4_1, .inp 3]
@[simp] noncomputable def qka4_5 : SE := .app (.bin .eql) [qka4_3, qka4_4]
@[simp] noncomputable def qka4_6 : SE := .app (.rowget 3 1 1 false) [qka4_1, .inp 2]
@[simp] noncomputable def qka4_7 : SE := .app (.rowget 3 1 1 false) [qka4_1, .inp 3]
@[simp] noncomputable def qka4_8 : SE := .app (.bin .neq) [qka4_6, qka4_7]
@[simp] noncomputable def qka4_9 : SE := .agg [.inp 0, .inp 1, .inp 2, .inp 3, .inp 4, .inp 5, .inp 6, .inp 7, .inp 8, .inp 9, .inp 10]
@[simp] noncomputable def qka4_10 : SE := .agg [.inp 11, .inp 12, .inp 13]
@[simp] noncomputable def qka4_11 : SE := .agg [.int .i64 0, .int .i64 1, .app .lst [.agg [.int .i64 1, .int .i64 0, .int .i64 1]]]
@[simp] noncomputable def qka4_12 : SE := .agg [.inp 0, .app .lst [.agg [.int .i64 0, .int .i64 0]], .app .lst [qka4_11], .nils, .int .i64 1, .int .i64 1, .int .i64 9, .int .i64 1, .int .i64 1, .int .i64 1, .int .i64 1]
@[simp] noncomputable def qka4_13 : SE := .app (.part 2 1 false) [.app (.tproj 0) [.inp 0]]
@[simp] noncomputable def qka4_14 : SE := .agg [.app (.part 0 1 false) [.app (.tproj 0) [.inp 0]], .app (.part 1 1 false) [.app (.tproj 0) [.inp 0]], qka4_13, .app (.part 3 1 false) [.app (.tproj 0) [.inp 0]], .app (.part 4 1 false) [.app (.tproj 0) [.inp 0]], .app (.part 5 1 false) [.app (.tproj 0) [.inp 0]], .app (.part 6 1 false) [.app (.tproj 0) [.inp 0]], .app (.part 7 1 false) [.app (.tproj 0) [.inp 0]], .app (.part 8 1 false) [.app (.tproj 0) [.inp 0]], .app (.part 9 1 false) [.app (.tproj 0) [.inp 0]], .app (.part 10 1 false) [.app (.tproj 0) [.inp 0]]]
@[simp] noncomputable def qka4_15 : SE := .agg [.app (.part 0 1 false) [.app (.tproj 1) [.inp 0]], .app (.part 1 1 false) [.app (.tproj 1) [.inp 0]], .app (.part 2 1 false) [.app (.tproj 1) [.inp 0]], .app (.part 3 1 false) [.app (.tproj 1) [.inp 0]], .app (.part 4 1 false) [.app (.tproj 1) [.inp 0]], .app (.part 5 1 false) [.app (.tproj 1) [.inp 0]], .app (.part 6 1 false) [.app (.tproj 1) [.inp 0]], .app (.part 7 1 false) [.app (.tproj 1) [.inp 0]], .app (.part 8 1 false) [.app (.tproj 1) [.inp 0]], .app (.part 9 1 false) [.app (.tproj 1) [.inp 0]], .app (.part 10 1 false) [.app (.tproj 1) [.inp 0]], .app (.part 11 1 false) [.app (.tproj 1) [.inp 0]], .app (.part 12 1 false) [.app (.tproj 1) [.inp 0]], .app (.part 13 1 false) [.app (.tproj 1) [.inp 0]], .app (.part 14 1 false) [.app (.tproj 1) [.inp 0]], .app (.part 15 1 false) [.app (.tproj 1) [.inp 0]], .app (.part 16 1 false) [.app (.tproj 1) [.inp 0]], .app (.part 17 1 false) [.app (.tproj 1) [.inp 0]], .app (.part 18 1 false) [.app (.tproj 1) [.inp 0]], .app (.part 19 1 false) [.app (.tproj 1) [.inp 0]], .app (.part 20 1 false) [.app (.tproj 1) [.inp 0]], .app (.part 21 1 false) [.app (.tproj 1) [.inp 0]], .app (.part 22 1 false) [.app (.tproj 1) [.inp 0]], .app (.part 23 1 false) [.app (.tproj 1) [.inp 0]], .app (.part 24 1 false) [.app (.tproj 1) [.inp 0]], .app (.part 25 1 false) [.app (.tproj 1) [.inp 0]], .app (.part 26 1 false) [.app (.tproj 1) [.inp 0]], .app (.part 27 1 false) [.app (.tproj 1) [.inp 0]], .app (.part 28 1 false) [.app (.tproj 1) [.inp 0]]]
@[simp] noncomputable def qka4_16 : SE := .app (.part 2 1 false) [.inp 1]
@[simp] noncomputable def qka4_17 : SE := .app (.part 3 1 false) [.inp 1]
@[simp] noncomputable def qka4_18 : SE := .app (.part 4 1 false) [.inp 1]
@[simp] noncomputable def qka4_19 : SE := .app (.part 5 1 false) [.inp 1]
@[simp] noncomputable def qka4_20 : SE := .app (.part 6 1 false) [.inp 1]
@[simp] noncomputable def qka4_21 : SE := .app (.part 7 1 false) [.inp 1]
@[simp] noncomputable def qka4_22 : SE := .app (.part 8 1 false) [.inp 1]
@[simp] noncomputable def qka4_23 : SE := .app (.part 9 1 false) [.inp 1]
@[simp] noncomputable def qka4_24 : SE := .app (.part 10 1 false) [.inp 1]
@[simp] noncomputable def qka4_25 : SE := .app (.part 11 1 false) [.inp 1]
@[simp] noncomputable def qka4_26 : SE := .app (.part 12 1 false) [.inp 1]
@[simp] noncomputable def qka4_27 : SE := .app (.part 13 1 false) [.inp 1]
@[simp] noncomputable def qka4_28 : SE := .app (.part 14 1 false) [.inp 1]
@[simp] noncomputable def qka4_29 : SE := .app (.part 15 1 false) [.inp 1]
@[simp] noncomputable def qka4_30 : SE := .app (.part 16 1 false) [.inp 1]
@[simp] noncomputable def qka4_31 : SE := .app (.part 17 1 false) [.inp 1]
@[simp] noncomputable def qka4_32 : SE := .app (.part 18 1 false) [.inp 1]
@[simp] noncomputable def qka4_33 : SE := .app (.part 19 1 false) [.inp 1]
@[simp] noncomputable def qka4_34 : SE := .app (.part 20 1 false) [.inp 1]
@[simp] noncomputable def qka4_35 : SE := .app (.part 21 1 false) [.inp 1]
@[simp] noncomputable def qka4_36 : SE := .app (.part 22 1 false) [.inp 1]
@[simp] noncomputable def qka4_37 : SE := .app (.part 23 1 false) [.inp 1]
@[simp] noncomputable def qka4_38 : SE := .app (.part 24 1 false) [.inp 1]
@[simp] noncomputable def qka4_39 : SE := .app (.part 25 1 false) [.inp 1]
@[simp] noncomputable def qka4_40 : SE := .app (.part 26 1 false) [.inp 1]
@[simp] noncomputable def qka4_41 : SE := .app (.part 27 1 false) [.inp 1]
@[simp] noncomputable def qka4_42 : SE := .app (.part 28 1 false) [.inp 1]
@[simp] noncomputable def qka4_43 : SE := .app (.part 29 1 false) [.inp 1]
@[simp] noncomputable def qka4_44 : SE := .app (.part 30 1 false) [.inp 1]
@[simp] noncomputable def qka4_45 : SE := .app (.part 31 1 false) [.inp 1]
@[simp] noncomputable def qka4_46 : SE := .app (.part 32 1 false) [.inp 1]
@[simp] noncomputable def qka4_47 : SE := .app (.part 33 1 false) [.inp 1]
@[simp] noncomputable def qka4_48 : SE := .app (.part 34 1 false) [.inp 1]
@[simp] noncomputable def qka4_49 : SE := .app (.part 35 1 false) [.inp 1]
@[simp] noncomputable def qka4_50 : SE := .app (.part 36 1 false) [.inp 1]
@[simp] noncomputable def qka4_51 : SE := .app (.part 37 1 false) [.inp 1]
@[simp] noncomputable def qka4_52 : SE := .app (.part 38 1 false) [.inp 1]
@[simp] noncomputable def qka4_53 : SE := .app (.part 39 1 false) [.inp 1]
@[simp] noncomputable def qka4_54 : SE := .app (.part 40 1 false) [.inp 1]
@[simp] noncomputable def qka4_55 : SE := .app (.part 41 1 false) [.inp 1]
@[simp] noncomputable def qka4_56 : SE := .app (.part 42 1 false) [.inp 1]
@[simp] noncomputable def qka4_57 : SE := .app (.part 43 1 false) [.inp 1]
@[simp] noncomputable def qka4_58 : SE := .app (.part 44 1 false) [.inp 1]
@[simp] noncomputable def qka4_59 : SE := .app (.part 45 1 false) [.inp 1]
@[simp] noncomputable def qka4_60 : SE := .app (.part 46 1 false) [.inp 1]
@[simp] noncomputable def qka4_61 : SE := .app (.part 47 1 false) [.inp 1]
@[simp] noncomputable def qka4_62 : SE := .app (.part 48 1 false) [.inp 1]
@[simp] noncomputable def qka4_63 : SE := .app (.part 49 1 false) [.inp 1]
@[simp] noncomputable def qka4_64 : SE := .app (.part 50 1 false) [.inp 1]
@[simp] noncomputable def qka4_65 : SE := .app (.part 51 1 false) [.inp 1]
@[simp] noncomputable def qka4_66 : SE := .app (.part 52 1 false) [.inp 1]
@[simp] noncomputable def qka4_67 : SE := .app (.part 53 1 false) [.inp 1]
@[simp] noncomputable def qka4_68 : SE := .app (.part 54 1 false) [.inp 1]
@[simp] noncomputable def qka4_69 : SE := .app (.part 55 1 false) [.inp 1]
@[simp] noncomputable def qka4_70 : SE := .app (.part 56 1 false) [.inp 1]
@[simp] noncomputable def qka4_71 : SE := .app (.part 57 1 false) [.inp 1]
@[simp] noncomputable def qka4_72 : SE := .app (.part 58 1 false) [.inp 1]
@[simp] noncomputable def qka4_73 : SE := .app (.part 59 1 false) [.inp 1]
@[simp] noncomputable def qka4_74 : SE := .app (.part 60 1 false) [.inp 1]
@[simp] noncomputable def qka4_75 : SE := .app (.part 61 1 false) [.inp 1]
@[simp] noncomputable def qka4_76 : SE := .app (.part 62 1 false) [.inp 1]
@[simp] noncomputable def qka4_77 : SE := .app (.part 63 1 false) [.inp 1]
@[simp] noncomputable def qka4_78 : SE := .app (.part 64 1 false) [.inp 1]
@[simp] noncomputable def qka4_79 : SE := .app (.part 65 1 false) [.inp 1]
@[simp] noncomputable def qka4_80 : SE := .app (.part 66 1 false) [.inp 1]
@[simp] noncomputable def qka4_81 : SE := .app (.part 67 1 false) [.inp 1]
@[simp] noncomputable def qka4_82 : SE := .app (.part 68 1 false) [.inp 1]
@[simp] noncomputable def qka4_83 : SE := .app (.part 69 1 false) [.inp 1]
@[simp] noncomputable def qka4_84 : SE := .app (.part 70 1 false) [.inp 1]
@[simp] noncomputable def qka4_85 : SE := .app (.part 71 1 false) [.inp 1]
@[simp] noncomputable def qka4_86 : SE := .app (.part 72 1 false) [.inp 1]
@[simp] noncomputable def qka4_87 : SE := .app (.part 73 1 false) [.inp 1]
@[simp] noncomputable def qka4_88 : SE := .agg [.app (.part 0 1 false) [.inp 1], .app (.part 1 1 false) [.inp 1], qka4_16, qka4_17, qka4_18, qka4_19, qka4_20, qka4_21, qka4_22, qka4_23, qka4_24, qka4_25, qka4_26, qka4_27, qka4_28, qka4_29, qka4_30, qka4_31, qka4_32, qka4_33, qka4_34, qka4_35, qka4_36, qka4_37, qka4_38, qka4_39, qka4_40, qka4_41, qka4_42, qka4_43, qka4_44, qka4_45, qka4_46, qka4_47, qka4_48, qka4_49, qka4_50, qka4_51, qka4_52, qka4_53, qka4_54, qka4_55, qka4_56, qka4_57, qka4_58, qka4_59, qka4_60, qka4_61, qka4_62, qka4_63, qka4_64, qka4_65, qka4_66, qka4_67, qka4_68, qka4_69, qka4_70, qka4_71, qka4_72, qka4_73, qka4_74, qka4_75, qka4_76, qka4_77, qka4_78, qka4_79, qka4_80, qka4_81, qka4_82, qka4_83, qka4_84, qka4_85, qka4_86, qka4_87]
@[simp] noncomputable def qka4_89 : SE := .app .lst [.agg [.int .i64 0, .int .i64 0, .int .i64 1]]
@[simp] noncomputable def qka4_90 : SE := .agg [.int .i64 0, .int .i64 0, qka4_89]
@[simp] noncomputable def qka4_91 : SE := .app (.eidx 3) [qka4_13, .int .i64 0]
@[simp] noncomputable def qka4_92 : SE := .app (.eoff 2) [qka4_91]
@[simp] noncomputable def qka4_93 : SE := .app (.eload 1 false) [qka4_92]
@[simp] noncomputable def qka4_94 : SE := .agg [.int .i64 3, .int .i64 0, .int .i64 0, qka4_89, qka4_93, .app .lst [.agg [.int .i64 7, .int .i64 1, .int .i64 0]], .int .u8 1, .int .i64 0, .bool false, .bool false, .bool false, .bool false, .bool false, .bool false, .bool false, .bool false, .bool false, .bool false, .bool false, .bool false, .bool false, .int .i64 0, .bool false]
@[simp] noncomputable def qka4_95 : SE := .agg [.int .i64 4, .inp 8, qka4_16, qka4_17, qka4_18, qka4_19, qka4_20, qka4_21, qka4_22, qka4_23, qka4_24, qka4_25, qka4_26, qka4_27, qka4_28, qka4_29, qka4_30, qka4_31, qka4_32, qka4_33, qka4_34, qka4_35, qka4_36, qka4_37, qka4_38, qka4_39, qka4_40, qka4_41, qka4_42, qka4_43, qka4_44, qka4_45, qka4_46, qka4_47, qka4_48, qka4_49, qka4_50, qka4_51, qka4_52, qka4_53, qka4_54, qka4_55, qka4_56, qka4_57, qka4_58, qka4_59, qka4_60, qka4_61, qka4_62, qka4_63, qka4_64, qka4_65, qka4_66, qka4_67, qka4_68, qka4_69, qka4_70, qka4_71, qka4_72, qka4_73, qka4_74, qka4_75, qka4_76, qka4_77, qka4_78, qka4_79, qka4_80, qka4_81, qka4_82, qka4_83, qka4_84, qka4_85, qka4_86, qka4_87]
@[simp] noncomputable def qka4_96 : SE := .agg [.int .i64 4, .app (.rowset 23 6 1) [.inp 8, .int .i64 0, .agg [.int .u8 2]], qka4_16, qka4_17, qka4_18, qka4_19, qka4_20, qka4_21, qka4_22, qka4_23, qka4_24, qka4_25, qka4_26, qka4_27, qka4_28, qka4_29, qka4_30, qka4_31, qka4_32, qka4_33, qka4_34, qka4_35, qka4_36, qka4_37, qka4_38, qka4_39, qka4_40, qka4_41, qka4_42, qka4_43, qka4_44, qka4_45, qka4_46, qka4_47, qka4_48, qka4_49, qka4_50, qka4_51, qka4_52, qka4_53, qka4_54, qka4_55, qka4_56, qka4_57, qka4_58, qka4_59, qka4_60, qka4_61, qka4_62, qka4_63, qka4_64, qka4_65, qka4_66, qka4_67, qka4_68, qka4_69, qka4_70, qka4_71, qka4_72, qka4_73, qka4_74, qka4_75, qka4_76, qka4_77, qka4_78, qka4_79, qka4_80, qka4_81, qka4_82, qka4_83, qka4_84, qka4_85, qka4_86, qka4_87]
@[simp] noncomputable def qka4_97 : SE := .app (.bin .eql) [.inp 2, .int .i64 0]
@[simp] noncomputable def qka4_98 : SE := .app (.bin .eql) [.inp 4, .int .i64 190]
@[simp] noncomputable def qka4_99 : SE := .app .pick [qka4_97, qka4_98, .bool false]
@[simp] noncomputable def qka4_100 : SE := .app .pick [qka4_99, .inp 5, .bool false]
@[simp] noncomputable def qka4_101 : SE := .app .pick [qka4_100, .app (.un .not) [.inp 7], .bool false]
@[simp] noncomputable def qka4_102 : SE := .app (.bin .eql) [.app (.tproj 0) [.inp 9], .int .i64 3]
@[simp] noncomputable def qka4_103 : SE := .app .pick [qka4_101, qka4_102, .bool false]
@[simp] noncomputable def qka4_104 : SE := .app .pick [qka4_103, .app (.tproj 1) [.inp 9], .bool false]
@[simp] noncomputable def qka4_105 : SE := .app (.un .not) [.app (.tproj 1) [.inp 10]]
@[simp] noncomputable def qka4_106 : SE := .app .pick [qka4_104, qka4_105, .bool false]
@[simp] noncomputable def qka4_107 : SE := .app (.bin .eql) [.app (.tproj 0) [.inp 11], .int .i64 1]
@[simp] noncomputable def qka4_108 : SE := .app .pick [qka4_106, qka4_107, .bool false]
@[simp] noncomputable def qka4_109 : SE := .app .pick [qka4_108, .app (.tproj 1) [.inp 11], .bool false]
@[simp] noncomputable def qka4_110 : SE := .app .pick [qka4_109, .app (.un .not) [.inp 12], .bool false]
@[simp] noncomputable def qka4_111 : SE := .app .pick [qka4_110, .inp 14, .bool false]
@[simp] noncomputable def qka4_112 : SE := .app (.bin .eql) [.inp 13, .int .i64 190]
@[simp] noncomputable def qka4_113 : SE := .app .pick [qka4_111, qka4_112, .bool false]
@[simp] noncomputable def qka4_114 : SE := .app .pick [qka4_113, .app (.un .not) [.inp 15], .bool false]
@[simp] noncomputable def qka4_115 : SE := .app .pick [qka4_114, .app (.un .not) [.inp 16], .bool false]
@[simp] noncomputable def qka4_116 : SE := .app .pick [qka4_115, .inp 17, .bool false]
@[simp] noncomputable def qka4_117 : SE := .app .pick [qka4_116, .inp 19, .bool false]
@[simp] noncomputable def qka4_118 : SE := .app .pick [qka4_117, .app (.un .not) [.inp 20], .bool false]
@[simp] noncomputable def qka4_119 : SE := .app .pick [qka4_118, .inp 22, .bool false]
noncomputable def rt_lockbarref13_Clash : RT :=
.seg [.chk [] (.szs 3) [.inp 0],
.chk [] .app [.app .lst [], .inp 0]] <|
.seg [.chk [] (.szs 3) [.inp 1],
.chk [] .app [qka4_0, .inp 1]] <|
.loop 0 2 [.int .i64 0] <|
.seg [.chk [] .len [qka4_1]] <|
.seg [.chk [] (.bin .lss) [.inp 2, qka4_2]] <|
.cond (.app (.bin .lss) [.inp 2, qka4_2])
 (.loop 1 3 [.int .i64 0] <|
.seg [.chk [] (.bin .lss) [.inp 3, .inp 2]] <|
.cond (.app (.bin .lss) [.inp 3, .inp 2])
 (.seg [.chk [] (.eidx 3) [qka4_1, .inp 2],
.chk [] (.inr 4294967296) [.inp 2],
.chk [] (.rowget 3 0 1 false) [qka4_1, .inp 2],
.chk [] (.eidx 3) [qka4_1, .inp 3],
.chk [] (.inr 4294967296) [.inp 3],
.chk [] (.rowget 3 0 1 false) [qka4_1, .inp 3],
.chk [] (.bin .eql) [qka4_3, qka4_4],
.chk [(qka4_5, true)] (.eidx 3) [qka4_1, .inp 2],
.chk [(qka4_5, true)] (.inr 4294967296) [.inp 2],
.chk [(qka4_5, true)] (.rowget 3 1 1 false) [qka4_1, .inp 2],
.chk [(qka4_5, true)] (.eidx 3) [qka4_1, .inp 3],
.chk [(qka4_5, true)] (.inr 4294967296) [.inp 3],
.chk [(qka4_5, true)] (.rowget 3 1 1 false) [qka4_1, .inp 3],
.chk [(qka4_5, true)] (.bin .neq) [qka4_6, qka4_7],
.chk [] .pick [qka4_5, qka4_8, .bool false]] <|
.seg [.bind 4 (qka4_5),
.bind 5 (qka4_8),
.bind 6 (.app .pick [qka4_5, qka4_8, .bool false])] <|
.cond (.inp 6)
 (.ret (.bool true))
 (.seg [.chk [] (.bin .add) [.inp 3, .int .i64 1]] <|
.again 1 [.app (.bin .add) [.inp 3, .int .i64 1]]))
 (.seg [.chk [] (.bin .add) [.inp 2, .int .i64 1]] <|
.again 0 [.app (.bin .add) [.inp 2, .int .i64 1]]))
 (.ret (.bool false))
theorem run_lockbarref13_Clash : runF E 69 [.inp 0, .inp 1] 2 = rt_lockbarref13_Clash := by kernel_rfl

noncomputable def rt_lockbarref13_Fine : RT :=
.seg [.chk [] (.isAgg 11) [qka4_9]] <|
.seg [.chk [] (.isAgg 3) [qka4_10]] <|
.seg [.call 14 [] 32 [qka4_9, qka4_10] false] <|
.seg [.call 15 [] 69 [.inp 14, .nils] false] <|
.seg [.chk [] (.un .not) [.inp 15]] <|
.ret (.app (.un .not) [.inp 15])
theorem run_lockbarref13_Fine : runF E 30 [.agg [.inp 0, .inp 1, .inp 2, .inp 3, .inp 4, .inp 5, .inp 6, .inp 7, .inp 8, .inp 9, .inp 10], .agg [.inp 11, .inp 12, .inp 13]] 14 = rt_lockbarref13_Fine := by kernel_rfl

noncomputable def rt_lockbarlaw18_rest : RT :=
.loop 0 0 [.int .i64 0, .int .i64 0, .int .i64 0, .bool false, .int .i64 0, .int .i64 0, .bool false, .int .i64 0, .int .i64 0, .bool false, .int .i64 0, .int .i64 0, .bool false, .int .i64 0, .int .i64 0, .bool false, .int .i64 0, .int .i64 0, .bool false, .int .i64 0, .int .i64 0, .bool false, .int .i64 0, .int .i64 0, .bool false, .int .i64 0, .int .i64 0, .bool false, .int .i64 0, .int .i64 0, .bool false, .int .i64 0, .int .i64 0, .bool false, .int .i64 0, .int .i64 0, .bool false, .int .i64 0, .int .i64 0, .bool false, .int .i64 0, .int .i64 0, .bool false, .int .i64 0, .int .i64 0, .bool false, .int .i64 0, .int .i64 0, .bool false, .int .i64 0, .int .i64 0, .bool false, .int .i64 0, .int .i64 0, .bool false, .int .i64 0, .int .i64 0, .bool false, .int .i64 0, .int .i64 0, .bool false, .int .i64 0, .int .i64 0, .bool false, .int .i64 0, .int .i64 0, .bool false, .int .i64 0, .int .i64 0, .bool false, .int .i64 0, .int .i64 0, .bool false] <|
.seg [.chk [] (.bin .lss) [.inp 0, .int .i64 24]] <|
.cond (.app (.bin .lss) [.inp 0, .int .i64 24])
 (.seg [.chk [] (.inr 24) [.inp 0]] <|
.seg [.chk [] (.inr 24) [.inp 0]] <|
.seg [.chk [] (.inr 24) [.inp 0]] <|
.seg [.chk [] (.bin .add) [.inp 0, .int .i64 1]] <|
.again 0 [.app (.bin .add) [.inp 0, .int .i64 1], .app (.cellset 2 24 3 0 1 2) [.inp 0, .inp 1, .agg [.int .i64 (-1)]], .app (.cellset 2 24 3 0 1 3) [.inp 0, .inp 2, .agg [.int .i64 (-1)]], .app (.cellset 2 24 3 0 1 4) [.inp 0, .inp 3, .agg [.int .i64 (-1)]], .app (.cellset 2 24 3 0 1 5) [.inp 0, .inp 4, .agg [.int .i64 (-1)]], .app (.cellset 2 24 3 0 1 6) [.inp 0, .inp 5, .agg [.int .i64 (-1)]], .app (.cellset 2 24 3 0 1 7) [.inp 0, .inp 6, .agg [.int .i64 (-1)]], .app (.cellset 2 24 3 0 1 8) [.inp 0, .inp 7, .agg [.int .i64 (-1)]], .app (.cellset 2 24 3 0 1 9) [.inp 0, .inp 8, .agg [.int .i64 (-1)]], .app (.cellset 2 24 3 0 1 10) [.inp 0, .inp 9, .agg [.int .i64 (-1)]], .app (.cellset 2 24 3 0 1 11) [.inp 0, .inp 10, .agg [.int .i64 (-1)]], .app (.cellset 2 24 3 0 1 12) [.inp 0, .inp 11, .agg [.int .i64 (-1)]], .app (.cellset 2 24 3 0 1 13) [.inp 0, .inp 12, .agg [.int .i64 (-1)]], .app (.cellset 2 24 3 0 1 14) [.inp 0, .inp 13, .agg [.int .i64 (-1)]], .app (.cellset 2 24 3 0 1 15) [.inp 0, .inp 14, .agg [.int .i64 (-1)]], .app (.cellset 2 24 3 0 1 16) [.inp 0, .inp 15, .agg [.int .i64 (-1)]], .app (.cellset 2 24 3 0 1 17) [.inp 0, .inp 16, .agg [.int .i64 (-1)]], .app (.cellset 2 24 3 0 1 18) [.inp 0, .inp 17, .agg [.int .i64 (-1)]], .app (.cellset 2 24 3 0 1 19) [.inp 0, .inp 18, .agg [.int .i64 (-1)]], .app (.cellset 2 24 3 0 1 20) [.inp 0, .inp 19, .agg [.int .i64 (-1)]], .app (.cellset 2 24 3 0 1 21) [.inp 0, .inp 20, .agg [.int .i64 (-1)]], .app (.cellset 2 24 3 0 1 22) [.inp 0, .inp 21, .agg [.int .i64 (-1)]], .app (.cellset 2 24 3 0 1 23) [.inp 0, .inp 22, .agg [.int .i64 (-1)]], .app (.cellset 2 24 3 0 1 24) [.inp 0, .inp 23, .agg [.int .i64 (-1)]], .app (.cellset 2 24 3 0 1 25) [.inp 0, .inp 24, .agg [.int .i64 (-1)]], .app (.cellset 2 24 3 0 1 26) [.inp 0, .inp 25, .agg [.int .i64 (-1)]], .app (.cellset 2 24 3 0 1 27) [.inp 0, .inp 26, .agg [.int .i64 (-1)]], .app (.cellset 2 24 3 0 1 28) [.inp 0, .inp 27, .agg [.int .i64 (-1)]], .app (.cellset 2 24 3 0 1 29) [.inp 0, .inp 28, .agg [.int .i64 (-1)]], .app (.cellset 2 24 3 0 1 30) [.inp 0, .inp 29, .agg [.int .i64 (-1)]], .app (.cellset 2 24 3 0 1 31) [.inp 0, .inp 30, .agg [.int .i64 (-1)]], .app (.cellset 2 24 3 0 1 32) [.inp 0, .inp 31, .agg [.int .i64 (-1)]], .app (.cellset 2 24 3 0 1 33) [.inp 0, .inp 32, .agg [.int .i64 (-1)]], .app (.cellset 2 24 3 0 1 34) [.inp 0, .inp 33, .agg [.int .i64 (-1)]], .app (.cellset 2 24 3 0 1 35) [.inp 0, .inp 34, .agg [.int .i64 (-1)]], .app (.cellset 2 24 3 0 1 36) [.inp 0, .inp 35, .agg [.int .i64 (-1)]], .app (.cellset 2 24 3 0 1 37) [.inp 0, .inp 36, .agg [.int .i64 (-1)]], .app (.cellset 2 24 3 0 1 38) [.inp 0, .inp 37, .agg [.int .i64 (-1)]], .app (.cellset 2 24 3 0 1 39) [.inp 0, .inp 38, .agg [.int .i64 (-1)]], .app (.cellset 2 24 3 0 1 40) [.inp 0, .inp 39, .agg [.int .i64 (-1)]], .app (.cellset 2 24 3 0 1 41) [.inp 0, .inp 40, .agg [.int .i64 (-1)]], .app (.cellset 2 24 3 0 1 42) [.inp 0, .inp 41, .agg [.int .i64 (-1)]], .app (.cellset 2 24 3 0 1 43) [.inp 0, .inp 42, .agg [.int .i64 (-1)]], .app (.cellset 2 24 3 0 1 44) [.inp 0, .inp 43, .agg [.int .i64 (-1)]], .app (.cellset 2 24 3 0 1 45) [.inp 0, .inp 44, .agg [.int .i64 (-1)]], .app (.cellset 2 24 3 0 1 46) [.inp 0, .inp 45, .agg [.int .i64 (-1)]], .app (.cellset 2 24 3 0 1 47) [.inp 0, .inp 46, .agg [.int .i64 (-1)]], .app (.cellset 2 24 3 0 1 48) [.inp 0, .inp 47, .agg [.int .i64 (-1)]], .app (.cellset 2 24 3 0 1 49) [.inp 0, .inp 48, .agg [.int .i64 (-1)]], .app (.cellset 2 24 3 0 1 50) [.inp 0, .inp 49, .agg [.int .i64 (-1)]], .app (.cellset 2 24 3 0 1 51) [.inp 0, .inp 50, .agg [.int .i64 (-1)]], .app (.cellset 2 24 3 0 1 52) [.inp 0, .inp 51, .agg [.int .i64 (-1)]], .app (.cellset 2 24 3 0 1 53) [.inp 0, .inp 52, .agg [.int .i64 (-1)]], .app (.cellset 2 24 3 0 1 54) [.inp 0, .inp 53, .agg [.int .i64 (-1)]], .app (.cellset 2 24 3 0 1 55) [.inp 0, .inp 54, .agg [.int .i64 (-1)]], .app (.cellset 2 24 3 0 1 56) [.inp 0, .inp 55, .agg [.int .i64 (-1)]], .app (.cellset 2 24 3 0 1 57) [.inp 0, .inp 56, .agg [.int .i64 (-1)]], .app (.cellset 2 24 3 0 1 58) [.inp 0, .inp 57, .agg [.int .i64 (-1)]], .app (.cellset 2 24 3 0 1 59) [.inp 0, .inp 58, .agg [.int .i64 (-1)]], .app (.cellset 2 24 3 0 1 60) [.inp 0, .inp 59, .agg [.int .i64 (-1)]], .app (.cellset 2 24 3 0 1 61) [.inp 0, .inp 60, .agg [.int .i64 (-1)]], .app (.cellset 2 24 3 0 1 62) [.inp 0, .inp 61, .agg [.int .i64 (-1)]], .app (.cellset 2 24 3 0 1 63) [.inp 0, .inp 62, .agg [.int .i64 (-1)]], .app (.cellset 2 24 3 0 1 64) [.inp 0, .inp 63, .agg [.int .i64 (-1)]], .app (.cellset 2 24 3 0 1 65) [.inp 0, .inp 64, .agg [.int .i64 (-1)]], .app (.cellset 2 24 3 0 1 66) [.inp 0, .inp 65, .agg [.int .i64 (-1)]], .app (.cellset 2 24 3 0 1 67) [.inp 0, .inp 66, .agg [.int .i64 (-1)]], .app (.cellset 2 24 3 0 1 68) [.inp 0, .inp 67, .agg [.int .i64 (-1)]], .app (.cellset 2 24 3 0 1 69) [.inp 0, .inp 68, .agg [.int .i64 (-1)]], .app (.cellset 2 24 3 0 1 70) [.inp 0, .inp 69, .agg [.int .i64 (-1)]], .app (.cellset 2 24 3 0 1 71) [.inp 0, .inp 70, .agg [.int .i64 (-1)]], .app (.cellset 2 24 3 0 1 72) [.inp 0, .inp 71, .agg [.int .i64 (-1)]], .app (.cellset 2 24 3 0 1 73) [.inp 0, .inp 72, .agg [.int .i64 (-1)]]])
 (.seg [.chk [] (.isAgg 74) [.agg [.int .i64 1, .enil, .inp 1, .inp 2, .inp 3, .inp 4, .inp 5, .inp 6, .inp 7, .inp 8, .inp 9, .inp 10, .inp 11, .inp 12, .inp 13, .inp 14, .inp 15, .inp 16, .inp 17, .inp 18, .inp 19, .inp 20, .inp 21, .inp 22, .inp 23, .inp 24, .inp 25, .inp 26, .inp 27, .inp 28, .inp 29, .inp 30, .inp 31, .inp 32, .inp 33, .inp 34, .inp 35, .inp 36, .inp 37, .inp 38, .inp 39, .inp 40, .inp 41, .inp 42, .inp 43, .inp 44, .inp 45, .inp 46, .inp 47, .inp 48, .inp 49, .inp 50, .inp 51, .inp 52, .inp 53, .inp 54, .inp 55, .inp 56, .inp 57, .inp 58, .inp 59, .inp 60, .inp 61, .inp 62, .inp 63, .inp 64, .inp 65, .inp 66, .inp 67, .inp 68, .inp 69, .inp 70, .inp 71, .inp 72]]] <|
.ret (.agg [.int .i64 1, .nils, .inp 1, .inp 2, .inp 3, .inp 4, .inp 5, .inp 6, .inp 7, .inp 8, .inp 9, .inp 10, .inp 11, .inp 12, .inp 13, .inp 14, .inp 15, .inp 16, .inp 17, .inp 18, .inp 19, .inp 20, .inp 21, .inp 22, .inp 23, .inp 24, .inp 25, .inp 26, .inp 27, .inp 28, .inp 29, .inp 30, .inp 31, .inp 32, .inp 33, .inp 34, .inp 35, .inp 36, .inp 37, .inp 38, .inp 39, .inp 40, .inp 41, .inp 42, .inp 43, .inp 44, .inp 45, .inp 46, .inp 47, .inp 48, .inp 49, .inp 50, .inp 51, .inp 52, .inp 53, .inp 54, .inp 55, .inp 56, .inp 57, .inp 58, .inp 59, .inp 60, .inp 61, .inp 62, .inp 63, .inp 64, .inp 65, .inp 66, .inp 67, .inp 68, .inp 69, .inp 70, .inp 71, .inp 72]))
theorem run_lockbarlaw18_rest : runF E 40 [] 0 = rt_lockbarlaw18_rest := by kernel_rfl

noncomputable def rt_lockbarlaw18_two : RT :=
.seg [.bind 0 (.app .lst [.agg [.int .u8 1, .int .i64 (-1), .int .i64 0, .int .i64 1, .int .i64 0, .int .i64 (-1), .int .i64 0, .int .i64 (-1), .int .i64 0, .int .i64 0, .int .i64 0], .agg [.int .u8 1, .int .i64 0, .int .i64 1, .int .i64 (-1), .int .i64 0, .int .i64 (-1), .int .i64 0, .int .i64 (-1), .int .i64 0, .int .i64 0, .int .i64 0]])] <|
.seg [.chk [] (.isAgg 3) [qka4_11]] <|
.seg [.call 1 [] 41 [] false,
.call 2 [] 76 [qka4_12, .inp 1, .agg [.int .u32 0, .int .u32 0, .int .u32 0, .int .u32 0]] true,
.chk [] (.isAgg 29) [.inp 2]] <|
.ret (.tup [qka4_12, .agg [.app (.part 0 1 false) [.inp 2], .app (.part 1 1 false) [.inp 2], .app (.part 2 1 false) [.inp 2], .app (.part 3 1 false) [.inp 2], .app (.part 4 1 false) [.inp 2], .app (.part 5 1 false) [.inp 2], .app (.part 6 1 false) [.inp 2], .app (.part 7 1 false) [.inp 2], .app (.part 8 1 false) [.inp 2], .app (.part 9 1 false) [.inp 2], .app (.part 10 1 false) [.inp 2], .app (.part 11 1 false) [.inp 2], .app (.part 12 1 false) [.inp 2], .app (.part 13 1 false) [.inp 2], .app (.part 14 1 false) [.inp 2], .app (.part 15 1 false) [.inp 2], .app (.part 16 1 false) [.inp 2], .app (.part 17 1 false) [.inp 2], .app (.part 18 1 false) [.inp 2], .app (.part 19 1 false) [.inp 2], .app (.part 20 1 false) [.inp 2], .app (.part 21 1 false) [.inp 2], .app (.part 22 1 false) [.inp 2], .app (.part 23 1 false) [.inp 2], .app (.part 24 1 false) [.inp 2], .app (.part 25 1 false) [.inp 2], .app (.part 26 1 false) [.inp 2], .app (.part 27 1 false) [.inp 2], .app (.part 28 1 false) [.inp 2]]])
theorem run_lockbarlaw18_two : runF E 39 [] 0 = rt_lockbarlaw18_two := by kernel_rfl

noncomputable def rt_lockbarlaw18_wakes : RT :=
.seg [.call 0 [] 39 [] false] <|
.seg [.chk [] (.tproj 0) [.inp 0]] <|
.seg [.chk [] (.tproj 1) [.inp 0]] <|
.seg [.chk [] (.isAgg 11) [.app (.tproj 0) [.inp 0]]] <|
.seg [.chk [] (.isAgg 29) [.app (.tproj 1) [.inp 0]]] <|
.seg [.call 1 [] 40 [] false] <|
.seg [.chk [] (.isAgg 74) [.inp 1]] <|
.seg [.call 2 [] 22 [qka4_14, qka4_15, qka4_88, qka4_90] true] <|
.seg [.call 3 [] 41 [] false,
.call 4 [] 22 [qka4_14, .inp 3, qka4_88, qka4_90] true] <|
.seg [.call 5 [] 18 [qka4_14, qka4_15, qka4_88, .int .i64 1] false,
.call 6 [] 41 [] false,
.call 7 [] 18 [qka4_14, .inp 6, qka4_88, .int .i64 1] false] <|
.seg [.chk [] (.eidx 3) [qka4_13, .int .i64 0],
.chk [] (.eoff 2) [qka4_91],
.chk [] (.eload 1 false) [qka4_92],
.chk [] .isOne [qka4_93],
.chk [] (.isAgg 23) [qka4_94]] <|
.seg [.bind 8 (.app .lst [qka4_94])] <|
.seg [.call 9 [] 12 [qka4_95, .int .i64 1] true] <|
.seg [.chk [] (.tproj 0) [.inp 9]] <|
.seg [.chk [] (.tproj 1) [.inp 9]] <|
.seg [.call 10 [] 12 [qka4_95, .int .i64 2] true] <|
.seg [.chk [] (.tproj 0) [.inp 10]] <|
.seg [.chk [] (.tproj 1) [.inp 10]] <|
.seg [.call 11 [] 14 [qka4_95, .int .i64 7] true] <|
.seg [.chk [] (.tproj 0) [.inp 11]] <|
.seg [.chk [] (.tproj 1) [.inp 11]] <|
.seg [.call 12 [] 16 [qka4_95, .int .i64 7] true] <|
.seg [.chk [] (.eidx 23) [.inp 8, .int .i64 0]] <|
.seg [.chk [] (.inr 4294967296) [.int .i64 0]] <|
.seg [.chk [] (.rowset 23 6 1) [.inp 8, .int .i64 0, .agg [.int .u8 2]]] <|
.seg [.call 13 [] 22 [qka4_14, qka4_15, qka4_96, .agg [.int .i64 5, .int .i64 0, .app .lst [.agg [.int .i64 1, .int .i64 0, .int .i64 0]]]] true] <|
.seg [.chk [] (.bin .eql) [.inp 2, .int .i64 0],
.chk [(qka4_97, true)] (.bin .eql) [.inp 4, .int .i64 190],
.chk [] .pick [qka4_97, qka4_98, .bool false],
.chk [] .pick [qka4_99, .inp 5, .bool false],
.chk [(qka4_100, true)] (.un .not) [.inp 7],
.chk [] .pick [qka4_100, .app (.un .not) [.inp 7], .bool false],
.chk [(qka4_101, true)] (.bin .eql) [.app (.tproj 0) [.inp 9], .int .i64 3],
.chk [] .pick [qka4_101, qka4_102, .bool false],
.chk [] .pick [qka4_103, .app (.tproj 1) [.inp 9], .bool false],
.chk [(qka4_104, true)] (.un .not) [.app (.tproj 1) [.inp 10]],
.chk [] .pick [qka4_104, qka4_105, .bool false],
.chk [(qka4_106, true)] (.bin .eql) [.app (.tproj 0) [.inp 11], .int .i64 1],
.chk [] .pick [qka4_106, qka4_107, .bool false],
.chk [] .pick [qka4_108, .app (.tproj 1) [.inp 11], .bool false],
.chk [(qka4_109, true)] (.un .not) [.inp 12],
.chk [] .pick [qka4_109, .app (.un .not) [.inp 12], .bool false],
.call 14 [(qka4_110, true)] 16 [qka4_96, .int .i64 7] true,
.chk [] .pick [qka4_110, .inp 14, .bool false],
.chk [(qka4_111, true)] (.bin .eql) [.inp 13, .int .i64 190],
.chk [] .pick [qka4_111, qka4_112, .bool false],
.call 15 [(qka4_113, true)] 20 [qka4_14, qka4_15, qka4_96, .agg [.int .i64 7, .int .i64 0, .int .i64 0]] true,
.chk [(qka4_113, true)] (.un .not) [.inp 15],
.chk [] .pick [qka4_113, .app (.un .not) [.inp 15], .bool false],
.call 16 [(qka4_114, true)] 20 [qka4_14, qka4_15, qka4_96, .agg [.int .i64 (-1), .int .i64 0, .int .i64 0]] true,
.chk [(qka4_114, true)] (.un .not) [.inp 16],
.chk [] .pick [qka4_114, .app (.un .not) [.inp 16], .bool false],
.call 17 [(qka4_115, true)] 24 [qka4_96] true,
.chk [] .pick [qka4_115, .inp 17, .bool false],
.call 18 [(qka4_116, true)] 40 [] false,
.call 19 [(qka4_116, true)] 24 [.inp 18] false,
.chk [] .pick [qka4_116, .inp 19, .bool false],
.call 20 [(qka4_117, true)] 24 [.agg [.int .i64 0, .nils, .int .i64 0, .int .i64 0, .bool false, .int .i64 0, .int .i64 0, .bool false, .int .i64 0, .int .i64 0, .bool false, .int .i64 0, .int .i64 0, .bool false, .int .i64 0, .int .i64 0, .bool false, .int .i64 0, .int .i64 0, .bool false, .int .i64 0, .int .i64 0, .bool false, .int .i64 0, .int .i64 0, .bool false, .int .i64 0, .int .i64 0, .bool false, .int .i64 0, .int .i64 0, .bool false, .int .i64 0, .int .i64 0, .bool false, .int .i64 0, .int .i64 0, .bool false, .int .i64 0, .int .i64 0, .bool false, .int .i64 0, .int .i64 0, .bool false, .int .i64 0, .int .i64 0, .bool false, .int .i64 0, .int .i64 0, .bool false, .int .i64 0, .int .i64 0, .bool false, .int .i64 0, .int .i64 0, .bool false, .int .i64 0, .int .i64 0, .bool false, .int .i64 0, .int .i64 0, .bool false, .int .i64 0, .int .i64 0, .bool false, .int .i64 0, .int .i64 0, .bool false, .int .i64 0, .int .i64 0, .bool false, .int .i64 0, .int .i64 0, .bool false]] false,
.chk [(qka4_117, true)] (.un .not) [.inp 20],
.chk [] .pick [qka4_117, .app (.un .not) [.inp 20], .bool false],
.call 21 [(qka4_118, true)] 28 [qka4_96] false,
.call 22 [(qka4_118, true)] 26 [.inp 21, qka4_96] false,
.chk [] .pick [qka4_118, .inp 22, .bool false],
.call 23 [(qka4_119, true)] 40 [] false,
.call 24 [(qka4_119, true)] 26 [qka4_96, .inp 23] false,
.chk [(qka4_119, true)] (.un .not) [.inp 24],
.chk [] .pick [qka4_119, .app (.un .not) [.inp 24], .bool false]] <|
.seg [.bind 25 (.app .pick [qka4_119, .app (.un .not) [.inp 24], .bool false]),
.bind 26 (qka4_100),
.bind 27 (qka4_101),
.bind 28 (qka4_103),
.bind 29 (qka4_104),
.bind 30 (qka4_106),
.bind 31 (qka4_108),
.bind 32 (qka4_109),
.bind 33 (qka4_110),
.bind 34 (qka4_111),
.bind 35 (qka4_113),
.bind 36 (qka4_114),
.bind 37 (qka4_115),
.bind 38 (qka4_116),
.bind 39 (qka4_117),
.bind 40 (qka4_118),
.bind 41 (qka4_119)] <|
.ret (.inp 25)
theorem run_lockbarlaw18_wakes : runF E 11 [] 0 = rt_lockbarlaw18_wakes := by kernel_rfl

end Go.Lb.LK


namespace Go.Proofs
open Go.Shelf
def Tryz.lays125_ren : Go.Shelf.Ren := ⟨fun | 125 => 127 | 128 => 148 | 129 => 149 | n => n, fun | 46 => 134 | 3 => 3 | 51 => 31 | 53 => 177 | 4 => 4 | 5 => 5 | 9 => 9 | n => n, fun | n => n⟩
theorem Tryz.lays125 : Go.Proofs.Lays.n125 Tryz.prog Tryz.lays125_ren := {
  mixed := by kernel_rfl
  f125 := Tryz.func127.trans (congrArg some (by kernel_rfl))
  f128 := Tryz.func148.trans (congrArg some (by kernel_rfl))
  f129 := Tryz.func149.trans (congrArg some (by kernel_rfl))
  t3 := Tryz.underlying3
  a3 := Tryz.isAgg3
  z3 := Tryz.sizeOf3
  v3 := Tryz.zeroValue3
  t4 := Tryz.underlying4
  a4 := Tryz.isAgg4
  z4 := Tryz.sizeOf4
  v4 := Tryz.zeroValue4
  t5 := Tryz.underlying5
  a5 := Tryz.isAgg5
  z5 := Tryz.sizeOf5
  v5 := Tryz.zeroValue5
  t9 := Tryz.underlying9
  a9 := Tryz.isAgg9
  z9 := Tryz.sizeOf9
  v9 := Tryz.zeroValue9
  t46 := Tryz.underlying134
  a46 := Tryz.isAgg134
  z46 := Tryz.sizeOf134
  v46 := Tryz.zeroValue134
  t51 := Tryz.underlying31
  a51 := Tryz.isAgg31
  z51 := Tryz.sizeOf31
  v51 := Tryz.zeroValue31
  t53 := Tryz.underlying177
  a53 := Tryz.isAgg177
  z53 := Tryz.sizeOf177
  v53 := Tryz.zeroValue177 }
/-- bits.Len: "Len returns the minimum number of bits required to represent x; the result is 0 for x == 0.": IT RETURNS 'Lib.bitLen x'; the world is as it was. (A uint has 64 bits in the model.) ITS CALLEE bits.Len64 IS MET BY ITS OWN CONTRACT OFF THE SHELF (lay that first). (LAID: no walk: one application.) -/
theorem Tryz.bits_Len (x : Int) (w : World) (h0 : 0 ≤ x) (h1 : x ≤ 18446744073709551615) :
    Calls Tryz.prog 127 #[.int .u64 x] w fun e w' => e = .returned (.int .i64 (Lib.bitLen x.toNat)) ∧ w' = w := Any.bits_Len Tryz.lays125 x w h0 h1
def Tryz.lays189_ren : Go.Shelf.Ren := ⟨fun | 189 => 91 | 125 => 127 | 257 => 126 | 128 => 148 | 129 => 149 | 294 => 139 | 295 => 140 | 296 => 141 | 297 => 142 | 298 => 143 | 299 => 144 | 216 => 145 | 300 => 146 | 301 => 147 | 328 => 164 | 329 => 165 | 330 => 166 | 331 => 167 | 332 => 168 | 215 => 169 | 343 => 180 | n => n, fun | 28 => 102 | 3 => 3 | 46 => 134 | 0 => 0 | 51 => 31 | 53 => 177 | 4 => 4 | 183 => 170 | 182 => 169 | 131 => 51 | 5 => 5 | 9 => 9 | 218 => 192 | 222 => 196 | 228 => 208 | 229 => 209 | n => n, fun | n => n⟩
theorem Tryz.lays189 : Go.Proofs.Lays.n189 Tryz.prog Tryz.lays189_ren := {
  mixed := by kernel_rfl
  f125 := Tryz.func127.trans (congrArg some (by kernel_rfl))
  f128 := Tryz.func148.trans (congrArg some (by kernel_rfl))
  f129 := Tryz.func149.trans (congrArg some (by kernel_rfl))
  f189 := Tryz.func91.trans (congrArg some (by kernel_rfl))
  f215 := Tryz.func169.trans (congrArg some (by kernel_rfl))
  f216 := Tryz.func145.trans (congrArg some (by kernel_rfl))
  f257 := Tryz.func126.trans (congrArg some (by kernel_rfl))
  f294 := Tryz.func139.trans (congrArg some (by kernel_rfl))
  f295 := Tryz.func140.trans (congrArg some (by kernel_rfl))
  f296 := Tryz.func141.trans (congrArg some (by kernel_rfl))
  f297 := Tryz.func142.trans (congrArg some (by kernel_rfl))
  f298 := Tryz.func143.trans (congrArg some (by kernel_rfl))
  f299 := Tryz.func144.trans (congrArg some (by kernel_rfl))
  f300 := Tryz.func146.trans (congrArg some (by kernel_rfl))
  f301 := Tryz.func147.trans (congrArg some (by kernel_rfl))
  f328 := Tryz.func164.trans (congrArg some (by kernel_rfl))
  f329 := Tryz.func165.trans (congrArg some (by kernel_rfl))
  f330 := Tryz.func166.trans (congrArg some (by kernel_rfl))
  f331 := Tryz.func167.trans (congrArg some (by kernel_rfl))
  f332 := Tryz.func168.trans (congrArg some (by kernel_rfl))
  f343 := Tryz.func180.trans (congrArg some (by kernel_rfl))
  t0 := Tryz.underlying0
  a0 := Tryz.isAgg0
  z0 := Tryz.sizeOf0
  v0 := Tryz.zeroValue0
  t3 := Tryz.underlying3
  a3 := Tryz.isAgg3
  z3 := Tryz.sizeOf3
  v3 := Tryz.zeroValue3
  t4 := Tryz.underlying4
  a4 := Tryz.isAgg4
  z4 := Tryz.sizeOf4
  v4 := Tryz.zeroValue4
  t5 := Tryz.underlying5
  a5 := Tryz.isAgg5
  z5 := Tryz.sizeOf5
  v5 := Tryz.zeroValue5
  t9 := Tryz.underlying9
  a9 := Tryz.isAgg9
  z9 := Tryz.sizeOf9
  v9 := Tryz.zeroValue9
  t28 := Tryz.underlying102
  a28 := Tryz.isAgg102
  z28 := Tryz.sizeOf102
  v28 := Tryz.zeroValue102
  t46 := Tryz.underlying134
  a46 := Tryz.isAgg134
  z46 := Tryz.sizeOf134
  v46 := Tryz.zeroValue134
  t51 := Tryz.underlying31
  a51 := Tryz.isAgg31
  z51 := Tryz.sizeOf31
  v51 := Tryz.zeroValue31
  t53 := Tryz.underlying177
  a53 := Tryz.isAgg177
  z53 := Tryz.sizeOf177
  v53 := Tryz.zeroValue177
  t131 := Tryz.underlying51
  a131 := Tryz.isAgg51
  z131 := Tryz.sizeOf51
  v131 := Tryz.zeroValue51
  t182 := Tryz.underlying169
  a182 := Tryz.isAgg169
  z182 := Tryz.sizeOf169
  v182 := Tryz.zeroValue169
  t183 := Tryz.underlying170
  a183 := Tryz.isAgg170
  z183 := Tryz.sizeOf170
  v183 := Tryz.zeroValue170
  t218 := Tryz.underlying192
  a218 := Tryz.isAgg192
  z218 := Tryz.sizeOf192
  v218 := Tryz.zeroValue192
  t222 := Tryz.underlying196
  a222 := Tryz.isAgg196
  z222 := Tryz.sizeOf196
  v222 := Tryz.zeroValue196
  t228 := Tryz.underlying208
  a228 := Tryz.isAgg208
  z228 := Tryz.sizeOf208
  v228 := Tryz.zeroValue208
  t229 := Tryz.underlying209
  a229 := Tryz.isAgg209
  z229 := Tryz.sizeOf209
  v229 := Tryz.zeroValue209 }
open Go.Sort Go.RowKit in
theorem Tryz.slices_Sort_int (blk off cap : Nat) (zs : List Int) (w : World) (hH : Holds (Value.int .i64) w blk off zs.toArray) (hblk : blk < w.heap.size) (hsz : zs.length < 4611686018427387904) :
    Calls Tryz.prog 91 #[.slice (some ⟨blk, off, none⟩) zs.length cap] w fun e w' =>
      e = .returned (.tuple #[]) ∧ ∃ n os, w' = grow (putRow (Value.int .i64) (Sort.ahead w n) blk off (zs.mergeSort fun x y => decide (x ≤ y)).toArray) os := Any.slices_Sort_int Tryz.lays189 blk off cap zs w hH hblk hsz
def Tryz.laysNm220_ren : Go.Shelf.Ren := ⟨fun | 20 => 92 | n => n, fun | 22 => 102 | 3 => 3 | 4 => 4 | 0 => 0 | n => n, fun | n => n⟩
theorem Tryz.laysNm220 : Go.Proofs.Lays2.n20 Tryz.prog Tryz.laysNm220_ren := {
  mixed := by kernel_rfl
  f20 := Tryz.func92.trans (congrArg some (by kernel_rfl))
  t0 := Tryz.underlying0
  a0 := Tryz.isAgg0
  z0 := Tryz.sizeOf0
  v0 := Tryz.zeroValue0
  t3 := Tryz.underlying3
  a3 := Tryz.isAgg3
  z3 := Tryz.sizeOf3
  v3 := Tryz.zeroValue3
  t4 := Tryz.underlying4
  a4 := Tryz.isAgg4
  z4 := Tryz.sizeOf4
  v4 := Tryz.zeroValue4
  t22 := Tryz.underlying102
  a22 := Tryz.isAgg102
  z22 := Tryz.sizeOf102
  v22 := Tryz.zeroValue102
  i3 := by kernel_rfl }
open Go.RowKit Go.Lib Go.Sort in
/-- slices.Compact at []int: "Compact replaces consecutive runs of equal elements with a single copy. This is like the uniq command found on Unix. Compact modifies the contents of the slice s and returns the modified slice, which may have a smaller length. Compact zeroes the elements between the new length and the original length. The result preserves the nilness of s.": IT RETURNS THE SLICE CUT TO 'Lib.compact zs'; ITS CELLS HOLD 'Lib.compact zs', THEN ZERO VALUES up to the old length; all else is as it was, but for the count of draws. IN THE WORDS OF slices.Sort's CONTRACT ('Holds', 'putRow'): so the everyday 'slices.Sort(xs); xs = slices.Compact(xs)' goes from the one contract to the other. It asks 'zs.length ≤ cap' (every slice's: the reslicing 's[:k]' looks at it). Length 0, nil: '.._empty'. (LAID: no walk: one application.) -/
theorem Tryz.slices_Compact_int (blk off cap : Nat) (zs : List Int) (w : World) (hH : Holds (Value.int .i64) w blk off zs.toArray) (hsz : zs.length ≤ 9223372036854775807) (hcap : zs.length ≤ cap) :
    Calls Tryz.prog 92 #[.slice (some ⟨blk, off, none⟩) zs.length cap] w fun e w' => e = .returned (.slice (some ⟨blk, off, none⟩) (Lib.compact zs).length cap) ∧ ∃ q, w' = putRow (Value.int .i64) (Sort.ahead w q) blk off (Lib.compact zs ++ List.replicate (zs.length - (Lib.compact zs).length) 0).toArray := Any.slices_Compact_int Tryz.laysNm220 blk off cap zs w hH hsz hcap
open Go.RowKit Go.Lib Go.Sort in
/-- The same at a slice of length 0, a nil one too: it comes back as it is. (LAID: no walk: one application.) -/
theorem Tryz.slices_Compact_int_empty (a : Option Addr) (cap : Nat) (w : World) :
    Calls Tryz.prog 92 #[.slice a 0 cap] w fun e w' => e = .returned (.slice a 0 cap) ∧ w' = w := Any.slices_Compact_int_empty Tryz.laysNm220 a cap w
end Go.Proofs

namespace Go.Lb.LK
open Go Go.Lb

structure Port where
  s : Int
  p : Int
  deriving DecidableEq
def Port.cells (x : Port) : List AV := [I x.s, I x.p]
abbrev Port.av (x : Port) : AV := .agg x.cells

structure Sec where
  kind : Int
  j0 : Port
  j1 : Port
  j2 : Port
  j3 : Port
  c0 : Int
  c1 : Int
  deriving DecidableEq
def Sec.cells (x : Sec) : List AV := [U x.kind, I x.j0.s, I x.j0.p, I x.j1.s, I x.j1.p, I x.j2.s, I x.j2.p, I x.j3.s, I x.j3.p, I x.c0, I x.c1]
abbrev Sec.av (x : Sec) : AV := .agg x.cells

structure Step where
  s : Int
  i : Int
  o : Int
  deriving DecidableEq
def Step.cells (x : Step) : List AV := [I x.s, I x.i, I x.o]
abbrev Step.av (x : Step) : AV := .agg x.cells

structure Exi where
  a : Port
  over : List Step
  deriving DecidableEq
def Exi.cells (x : Exi) : List AV := [I x.a.s, I x.a.p, .sl (x.over.map Step.av)]
abbrev Exi.av (x : Exi) : AV := .agg x.cells

structure Flank where
  s : Int
  way : Int
  point : Int
  pos : Int
  deriving DecidableEq
def Flank.cells (x : Flank) : List AV := [I x.s, I x.way, I x.point, I x.pos]
abbrev Flank.av (x : Flank) : AV := .agg x.cells

structure Lay where
  secs : List Sec
  sigs : List Port
  exits : List Exi
  flanks : List Flank
  clear : Int
  drive : Int
  stale : Int
  approach : Int
  over : Int
  press : Int
  link : Int
  deriving DecidableEq
def Lay.cells (l : Lay) : List AV := [.sl (l.secs.map Sec.av), .sl (l.sigs.map Port.av), .sl (l.exits.map Exi.av), .sl (l.flanks.map Flank.av), I l.clear, I l.drive, I l.stale, I l.approach, I l.over, I l.press, I l.link]
abbrev Lay.av (l : Lay) : AV := .agg l.cells

structure Path where
  sig : Int
  exit : Int
  steps : List Step
  deriving DecidableEq
def Path.cells (x : Path) : List AV := [I x.sig, I x.exit, .sl (x.steps.map Step.av)]
abbrev Path.av (x : Path) : AV := .agg x.cells

structure Need where
  p : Int
  pos : Int
  k : Int
  deriving DecidableEq
def Need.cells (x : Need) : List AV := [I x.p, I x.pos, I x.k]
abbrev Need.av (x : Need) : AV := .agg x.cells
abbrev needs (l : List Need) : AV := .sl (l.map Need.av)
abbrev steps (l : List Step) : AV := .sl (l.map Step.av)

@[simp] theorem Port.pure (x : Port) : AV.pureAll x.cells = true := by simp [Port.cells, AV.pureAll, AV.pure]
@[simp] theorem Sec.pure (x : Sec) : AV.pureAll x.cells = true := by simp [Sec.cells, AV.pureAll, AV.pure]
@[simp] theorem Step.pure (x : Step) : AV.pureAll x.cells = true := by simp [Step.cells, AV.pureAll, AV.pure]
@[simp] theorem steps_pure (l : List Step) : AV.pureAll (l.map Step.av) = true := pureAll_map _ (fun x => by simp [AV.pure]) l
@[simp] theorem Exi.pure (x : Exi) : AV.pureAll x.cells = true := by simp [Exi.cells, AV.pureAll, AV.pure]
@[simp] theorem Flank.pure (x : Flank) : AV.pureAll x.cells = true := by simp [Flank.cells, AV.pureAll, AV.pure]
@[simp] theorem Path.pure (x : Path) : AV.pureAll x.cells = true := by simp [Path.cells, AV.pureAll, AV.pure]
@[simp] theorem Need.pure (x : Need) : AV.pureAll x.cells = true := by simp [Need.cells, AV.pureAll, AV.pure]
@[simp] theorem needs_pure (l : List Need) : AV.pureAll (l.map Need.av) = true := pureAll_map _ (fun x => by simp [AV.pure]) l
@[simp] theorem Lay.pure (l : Lay) : AV.pureAll l.cells = true := by
  simp [Lay.cells, AV.pureAll, AV.pure, pureAll_map Sec.av (fun x => by simp [AV.pure]), pureAll_map Port.av (fun x => by simp [AV.pure]), pureAll_map Exi.av (fun x => by simp [AV.pure]), pureAll_map Flank.av (fun x => by simp [AV.pure])]

/-! ### The form of the data -/
def iT : TS := .int .i64
def portT : TS := .agg [iT, iT]
def secT : TS := .agg [.int .u8, .agg [portT, portT, portT, portT], .agg [iT, iT]]
def sigT : TS := .agg [portT]
def stepT : TS := .agg [iT, iT, iT]
def exitT : TS := .agg [portT, .sl true stepT]
def flankT : TS := .agg [iT, iT, iT, iT]
def timesT : TS := .agg [iT, iT, iT, iT, iT, iT, iT]
def layT : TS := .agg [.sl true secT, .sl true sigT, .sl true exitT, .sl true flankT, timesT]
def pathT : TS := .agg [iT, iT, .sl true stepT]
def needT : TS := .agg [iT, iT, iT]

theorem sec_of {cs : List AV} (h : secT.fits cs) : ∃ s : Sec, AV.agg cs = s.av ∧ 0 ≤ s.kind ∧ s.kind ≤ 255 := by
  simp only [secT, portT, iT, fits_agg, fitsAll_int, fitsAll_agg, fitsAll_nil, List.append_nil, List.cons_append, List.nil_append] at h
  obtain ⟨m, q, rfl, hm, a0, q, rfl, _, a1, q, rfl, _, a2, q, rfl, _, a3, q, rfl, _, a4, q, rfl, _, a5, q, rfl, _, a6, q, rfl, _, a7, q, rfl, _, a8, q, rfl, _, a9, q, rfl, _, rfl⟩ := h
  exact ⟨⟨m, ⟨a0, a1⟩, ⟨a2, a3⟩, ⟨a4, a5⟩, ⟨a6, a7⟩, a8, a9⟩, rfl, by simpa using hm⟩
theorem sig_of {cs : List AV} (h : sigT.fits cs) : ∃ s : Port, AV.agg cs = s.av := by
  simp only [sigT, portT, iT, fits_agg, fitsAll_int, fitsAll_agg, fitsAll_sl, fitsAll_nil, List.append_nil, List.cons_append, List.nil_append] at h
  obtain ⟨a0, q, rfl, _, a1, q, rfl, _, rfl⟩ := h
  exact ⟨⟨a0, a1⟩, rfl⟩
theorem step_of {cs : List AV} (h : stepT.fits cs) : ∃ s : Step, AV.agg cs = s.av := by
  simp only [stepT, iT, fits_agg, fitsAll_int, fitsAll_agg, fitsAll_sl, fitsAll_nil, List.append_nil, List.cons_append, List.nil_append] at h
  obtain ⟨a0, q, rfl, _, a1, q, rfl, _, a2, q, rfl, _, rfl⟩ := h
  exact ⟨⟨a0, a1, a2⟩, rfl⟩
theorem flank_of {cs : List AV} (h : flankT.fits cs) : ∃ s : Flank, AV.agg cs = s.av := by
  simp only [flankT, iT, fits_agg, fitsAll_int, fitsAll_agg, fitsAll_sl, fitsAll_nil, List.append_nil, List.cons_append, List.nil_append] at h
  obtain ⟨a0, q, rfl, _, a1, q, rfl, _, a2, q, rfl, _, a3, q, rfl, _, rfl⟩ := h
  exact ⟨⟨a0, a1, a2, a3⟩, rfl⟩
theorem need_of {cs : List AV} (h : needT.fits cs) : ∃ s : Need, AV.agg cs = s.av := by
  simp only [needT, iT, fits_agg, fitsAll_int, fitsAll_agg, fitsAll_sl, fitsAll_nil, List.append_nil, List.cons_append, List.nil_append] at h
  obtain ⟨a0, q, rfl, _, a1, q, rfl, _, a2, q, rfl, _, rfl⟩ := h
  exact ⟨⟨a0, a1, a2⟩, rfl⟩
theorem exit_of {cs : List AV} (h : exitT.fits cs) : ∃ s : Exi, AV.agg cs = s.av := by
  simp only [exitT, portT, iT, fits_agg, fitsAll_int, fitsAll_agg, fitsAll_sl, fitsAll_nil, List.append_nil, List.cons_append, List.nil_append] at h
  obtain ⟨a0, q, rfl, _, a1, q, rfl, _, es, q, rfl, hs, rfl⟩ := h
  obtain ⟨ov, rfl⟩ := sl_map (g := Step.av) (fun cs h => step_of h) es hs.2
  exact ⟨⟨⟨a0, a1⟩, ov⟩, rfl⟩
/-- Kinds are bytes. -/
def Lay.ok (l : Lay) : Prop := ∀ s ∈ l.secs, 0 ≤ s.kind ∧ s.kind ≤ 255
theorem lay_of {cs : List AV} (h : layT.fits cs) : ∃ l : Lay, AV.agg cs = l.av ∧ l.ok := by
  simp only [layT, timesT, iT, fits_agg, fitsAll_int, fitsAll_agg, fitsAll_sl, fitsAll_nil, List.append_nil, List.cons_append, List.nil_append] at h
  obtain ⟨s1, q, rfl, h1, s2, q, rfl, h2, s3, q, rfl, h3, s4, q, rfl, h4, a0, q, rfl, _, a1, q, rfl, _, a2, q, rfl, _, a3, q, rfl, _, a4, q, rfl, _, a5, q, rfl, _, a6, q, rfl, _, rfl⟩ := h
  obtain ⟨secs, rfl, hs⟩ := sl_mapP (g := Sec.av) (Q := fun s => 0 ≤ s.kind ∧ s.kind ≤ 255) (fun cs h => sec_of h) s1 h1.2
  obtain ⟨sigs, rfl⟩ := sl_map (g := Port.av) (fun cs h => sig_of h) s2 h2.2
  obtain ⟨exits, rfl⟩ := sl_map (g := Exi.av) (fun cs h => exit_of h) s3 h3.2
  obtain ⟨fls, rfl⟩ := sl_map (g := Flank.av) (fun cs h => flank_of h) s4 h4.2
  exact ⟨⟨secs, sigs, exits, fls, a0, a1, a2, a3, a4, a5, a6⟩, rfl, hs⟩
theorem path_of {cs : List AV} (h : pathT.fits cs) : ∃ l : Path, AV.agg cs = l.av := by
  simp only [pathT, iT, fits_agg, fitsAll_int, fitsAll_agg, fitsAll_sl, fitsAll_nil, List.append_nil, List.cons_append, List.nil_append] at h
  obtain ⟨a0, q, rfl, _, a1, q, rfl, _, es, q, rfl, hs, rfl⟩ := h
  obtain ⟨ov, rfl⟩ := sl_map (g := Step.av) (fun cs h => step_of h) es hs.2
  exact ⟨⟨a0, a1, ov⟩, rfl⟩
theorem lay_arg {x : AV} (h : layT.fits x.cells) (h2 : aggIf true x) : ∃ l : Lay, x = l.av ∧ l.ok := by
  obtain ⟨cs, rfl⟩ := h2.1 rfl
  exact lay_of h
theorem path_arg {x : AV} (h : pathT.fits x.cells) (h2 : aggIf true x) : ∃ l : Path, x = l.av := by
  obtain ⟨cs, rfl⟩ := h2.1 rfl
  exact path_of h
theorem need_arg {x : AV} (h : needT.fits x.cells) (h2 : aggIf true x) : ∃ l : Need, x = l.av := by
  obtain ⟨cs, rfl⟩ := h2.1 rfl
  exact need_of h
theorem int_arg {x : AV} (h : iT.fits x.cells) (h2 : aggIf false x) : ∃ n, x = I n := by
  obtain ⟨n, h1, _⟩ := fits_int.1 h
  have : x = I n := by
    cases x <;> simp_all [AV.cells, aggIf]
  exact ⟨n, this⟩
end Go.Lb.LK

namespace Go.Lb.LK
open Go Go.Lb

abbrev W (n : Int) : AV := .int .u32 n
abbrev B (b : Bool) : AV := .bool b

structure Img where
  age : Int
  free : Nat → Int
  occ : Int
  nor : Int
  rev : Int
  lamp : Int
def Img.cells (x : Img) : List AV := [I x.age, I (x.free 0), I (x.free 1), I (x.free 2), I (x.free 3), I (x.free 4), I (x.free 5), I (x.free 6), I (x.free 7), I (x.free 8), I (x.free 9), I (x.free 10), I (x.free 11), I (x.free 12), I (x.free 13), I (x.free 14), I (x.free 15), I (x.free 16), I (x.free 17), I (x.free 18), I (x.free 19), I (x.free 20), I (x.free 21), I (x.free 22), I (x.free 23), W x.occ, W x.nor, W x.rev, W x.lamp]
abbrev Img.av (x : Img) : AV := .agg x.cells
def Img.ok (x : Img) : Prop := (0 ≤ x.occ ∧ x.occ ≤ 4294967295) ∧ (0 ≤ x.nor ∧ x.nor ≤ 4294967295) ∧ (0 ≤ x.rev ∧ x.rev ≤ 4294967295) ∧ (0 ≤ x.lamp ∧ x.lamp ≤ 4294967295)

structure Hd where
  id : Int
  path : Path
  over : List Step
  needs : List Need
  stage : Int
  gone : Int
  was : Nat → Bool
  opn : Bool
  timer : Int
  shown : Bool
def Hd.cells (x : Hd) : List AV := [I x.id, I x.path.sig, I x.path.exit, steps x.path.steps, steps x.over, Go.Lb.LK.needs x.needs, U x.stage, I x.gone, .bool (x.was 0), .bool (x.was 1), .bool (x.was 2), .bool (x.was 3), .bool (x.was 4), .bool (x.was 5), .bool (x.was 6), .bool (x.was 7), .bool (x.was 8), .bool (x.was 9), .bool (x.was 10), .bool (x.was 11), .bool x.opn, I x.timer, .bool x.shown]
abbrev Hd.av (x : Hd) : AV := .agg x.cells

@[simp] theorem Img.pure (x : Img) : AV.pureAll x.cells = true := by simp [Img.cells, AV.pureAll, AV.pure]
@[simp] theorem Hd.pure (x : Hd) : AV.pureAll x.cells = true := by simp [Hd.cells, AV.pureAll, AV.pure]

@[simp] theorem pv_cellset (b len n j : Nat) (k : IntKind) (u v : AV) : pv (.cellset b len 1 0 1 j) [.int k (n : Nat), u, .agg [v]] = if j = b + n then v else u := by
  simp only [pv, AV.cells, Int.toNat_natCast, Nat.mul_one, Nat.add_zero]
  by_cases h : j = b + n
  · subst h; simp
  · have : ¬ (b + n ≤ j ∧ j < b + n + 1) := by omega
    simp [this, h]
@[simp] theorem pok_cellset (b len n j : Nat) (k : IntKind) (i : Int) (u v : AV) : pok (.cellset b len 1 0 n j) [.int k i, u, v] = (0 ≤ i ∧ i < len ∧ v.cells.length = n ∧ AV.ones v.cells = true ∧ j < b + len * 1 ∧ 0 + n ≤ 1) := rfl

/-- What an array's cell holds. -/
theorem free_get (x : Img) {i : Nat} (h : i < 24) (d : AV) : x.cells.getD (i + 1) d = I (x.free i) := by
  match i, h with
  | 0, _ => rfl
  | 1, _ => rfl
  | 2, _ => rfl
  | 3, _ => rfl
  | 4, _ => rfl
  | 5, _ => rfl
  | 6, _ => rfl
  | 7, _ => rfl
  | 8, _ => rfl
  | 9, _ => rfl
  | 10, _ => rfl
  | 11, _ => rfl
  | 12, _ => rfl
  | 13, _ => rfl
  | 14, _ => rfl
  | 15, _ => rfl
  | 16, _ => rfl
  | 17, _ => rfl
  | 18, _ => rfl
  | 19, _ => rfl
  | 20, _ => rfl
  | 21, _ => rfl
  | 22, _ => rfl
  | 23, _ => rfl
  | n + 24, h => exact absurd h (by omega)
theorem was_get (x : Hd) {i : Nat} (h : i < 12) (d : AV) : x.cells.getD (i + 8) d = .bool (x.was i) := by
  match i, h with
  | 0, _ => rfl
  | 1, _ => rfl
  | 2, _ => rfl
  | 3, _ => rfl
  | 4, _ => rfl
  | 5, _ => rfl
  | 6, _ => rfl
  | 7, _ => rfl
  | 8, _ => rfl
  | 9, _ => rfl
  | 10, _ => rfl
  | 11, _ => rfl
def wcells (w : Nat → Bool) : List AV := [.bool (w 0), .bool (w 1), .bool (w 2), .bool (w 3), .bool (w 4), .bool (w 5), .bool (w 6), .bool (w 7), .bool (w 8), .bool (w 9), .bool (w 10), .bool (w 11)]
theorem wget (w : Nat → Bool) {i : Nat} (h : i < 12) (d : AV) : (wcells w).getD i d = .bool (w i) := by
  match i, h with
  | 0, _ => rfl
  | 1, _ => rfl
  | 2, _ => rfl
  | 3, _ => rfl
  | 4, _ => rfl
  | 5, _ => rfl
  | 6, _ => rfl
  | 7, _ => rfl
  | 8, _ => rfl
  | 9, _ => rfl
  | 10, _ => rfl
  | 11, _ => rfl
/-- Turned at one place. -/
def upd {α : Type} (w : Nat → α) (k : Nat) (v : α) : Nat → α := fun j => if j = k then v else w j

/-! ### Forms -/
def uT : TS := .int .u32
def inT : TS := .agg [uT, uT, uT, uT]
def imgT : TS := .agg [iT, .agg [iT, iT, iT, iT, iT, iT, iT, iT, iT, iT, iT, iT, iT, iT, iT, iT, iT, iT, iT, iT, iT, iT, iT, iT], inT]
def heldT : TS := .agg [iT, pathT, .sl true stepT, .sl true needT, .int .u8, iT, .agg [.bool, .bool, .bool, .bool, .bool, .bool, .bool, .bool, .bool, .bool, .bool, .bool], .bool, iT, .bool]
end Go.Lb.LK

namespace Go.Lb.LK
open Go Go.Lb Go.Proofs Go.RowKit

/-- A function of numbers that leaves the world alone. -/
theorem contract_of_calls {P : Program} {f : FuncId} {avs : List AV} {vs : List Value} {r : AV} {v : Value} (hr : r.pure = true) (ha : ∀ c us, Rvs c avs us → us = vs) (hv : ∀ c, Rv c r v) (h : ∀ w, Calls P f ⟨vs⟩ w fun e w' => e = .returned v ∧ w' = w) : Contract P [] f avs r := by
  refine ⟨hr, fun w c us _ him _ hvs => ?_⟩
  rw [ha c us hvs]
  refine (h w).mono ?_
  rintro e w' ⟨rfl, rfl⟩
  exact ⟨v, c, rfl, Cx.Le.refl c, by assumption, him, fun _ _ => ⟨fun _ _ h => h, fun _ h => h⟩, hv c, Below.refl _ _⟩

theorem EOkS : EnvOk ES := ⟨fun f h => by simp [ES] at h, fun f h => by simp [ES] at h, fun g es h => by simp [ES] at h⟩
theorem bits0 : Contract PR [] f_mathbits_Len [.int .u64 0] (.int .i64 0) := by
  refine contract_of_calls (vs := [.int .u64 0]) (v := .int .i64 0) rfl (fun c us h => ?_) (fun c => .int _ _) (fun w => Tryz.bits_Len 0 w (by omega) (by omega))
  cases h with
  | cons _ v _ vs h1 h2 => cases h1; cases h2; rfl
theorem sort0 : Contract PR [] f_slices_Sort_int [.sl []] (.tup []) := by
  refine contract_of EOkS EmixS [] run_slices_Sort_int rfl rfl rfl ?_ rfl
  unfold rt_slices_Sort_int
  refine RTwp_chk.2 ⟨fun _ => by simp, ?_⟩
  refine RTwp_nil.2 (RTwp_chk.2 ⟨fun _ => by simp, RTwp_nil.2 ?_⟩)
  refine RTwp_call0 (r := .int .i64 0) bits0 (by simp) ?_
  simp
  refine RTwp_loop rfl (fun vs => vs = []) (fun _ => 0) rfl ?_
  rintro vs - rfl
  simp
  refine RTwp_loop rfl (fun vs => vs = []) (fun _ => 0) rfl ?_
  rintro vs - rfl
  simp
theorem srtOk : SrtOk PR f_slices_Sort_int := ⟨fun blk off cap zs w h1 h2 h3 => Tryz.slices_Sort_int blk off cap zs w h1 h2 h3, sort0⟩
theorem cptOk : CptOk PR f_slices_Compact_int := ⟨fun blk off cap zs w h1 h2 h3 => Tryz.slices_Compact_int blk off cap zs w h1 h2 h3, fun a cap w => Tryz.slices_Compact_int_empty a cap w⟩
theorem EOk : EnvOk E := by
  refine ⟨fun f h => ?_, fun f h => ?_, fun g es h => ?_⟩
  · have : f = f_slices_Compact_int := by simpa [E, cptF] using h
    rw [this]; exact cptOk
  · have : f = f_slices_Sort_int := by simpa [E, srtF] using h
    rw [this]; exact srtOk
  · have hall : (GL.all fun es => SE.wfs 0 (fun _ => false) es) = true := by kernel_rfl
    have hm : es ∈ GL := by
      have h : GL[g]? = some es := h
      exact List.mem_of_getElem? h
    exact List.all_eq_true.1 hall es hm
abbrev C (f : Nat) (avs : List AV) (r : AV) : Prop := Contract PR GL f avs r
theorem ctr {f n : Nat} {args : List SE} (vs : List AV) {rt : RT} (hrun : runF E f args n = rt) (hw : SE.wfs n (fun _ => false) args = true)
    (hp : AV.pureAll vs = true) {r : AV} (hr : r.pure = true) (h : RTwp PR GL (fun x => x = r) rt (fun _ _ => False) (envOf vs)) {avs : List AV} (ha : dens (envOf vs) args = avs) : C f avs r :=
  contract_of EOk Emix vs hrun hw hp hr h ha

theorem filter_take {α : Type} (p : α → Bool) (l : List α) {i : Nat} (h : i < l.length) : (l.take (i + 1)).filter p = (l.take i).filter p ++ (if p l[i] = true then [l[i]] else []) := by
  rw [List.take_add_one, List.getElem?_eq_getElem h, List.filter_append]
  congr 1
  simp only [Option.toList_some, List.filter_cons, List.filter_nil]
theorem filter_take_len {α : Type} (p : α → Bool) (l : List α) (i : Nat) : ((l.take i).filter p).length ≤ l.length := by
  have := List.length_filter_le p (l.take i)
  have : (l.take i).length ≤ l.length := by simp; omega
  omega
theorem flatMap_take {α β : Type} (f : α → List β) (l : List α) {i : Nat} (h : i < l.length) : (l.take (i + 1)).flatMap f = (l.take i).flatMap f ++ f l[i] := by
  rw [List.take_add_one, List.getElem?_eq_getElem h, List.flatMap_append]
  simp
theorem map_take {α β : Type} (f : α → β) (l : List α) {i : Nat} (h : i < l.length) : (l.take (i + 1)).map f = (l.take i).map f ++ [f l[i]] := by
  rw [List.take_add_one, List.getElem?_eq_getElem h, List.map_append]
  simp
@[simp] theorem ite_avbool (c : Prop) [Decidable c] (a b : Bool) : (if c then AV.bool a else AV.bool b) = AV.bool (if c then a else b) := by split <;> rfl
@[simp] theorem ite_avint (c : Prop) [Decidable c] (k : IntKind) (a b : Int) : (if c then AV.int k a else AV.int k b) = AV.int k (if c then a else b) := by split <;> rfl

/-- A call that is sure, its arguments reckoned. -/
theorem call {ρ : Nat → AV} {R : AV → Prop} {L : Nat → List AV → Prop} {n f : Nat} {args : List SE} {bo : Bool} {ns : List Nd} {k : RT} {r : AV} {avs : List AV} (hc : C f avs r) (ha : dens ρ args = avs) (hb : bo = true → r.scalar = true)
    (h : RTwp PR GL R (.seg ns k) L (setEnv ρ n r)) : RTwp PR GL R (.seg (.call n [] f args bo :: ns) k) L ρ := RTwp_call0 (by rw [ha]; exact hc) hb h
/-- A call that is wanted under conditions. -/
theorem callIf {ρ : Nat → AV} {R : AV → Prop} {L : Nat → List AV → Prop} {pcs : List (SE × Bool)} {n f : Nat} {args : List SE} {bo : Bool} {ns : List Nd} {k : RT} {avs : List AV} (r : AV) (hr : r.pure = true) (hc : Holds ρ pcs → dens ρ args = avs ∧ C f avs r) (hb : bo = true → r.scalar = true)
    (h : RTwp PR GL R (.seg ns k) L (setEnv ρ n r)) : RTwp PR GL R (.seg (.call n pcs f args bo :: ns) k) L ρ := RTwp_call r hr (fun hp => ⟨by rw [(hc hp).1]; exact (hc hp).2, hb⟩) h
end Go.Lb.LK

namespace Go.Lb.LK
open Go Go.Lb Go.Proofs Go.RowKit

def stale (l : Lay) (im : Img) : Bool := decide (l.stale < im.age)
def bitAt (x n : Int) : Bool := decide (0 ≤ n) && (decide (n < 32) && x.toNat.testBit n.toNat)

theorem u32wrap {n : Int} (h0 : 0 ≤ n) (h1 : n ≤ 4294967295) : IntKind.u32.wrap n = n := by
  simp only [IntKind.wrap, IntKind.signed, IntKind.bits]
  simp
  omega
theorem u64wrap {n : Int} (h0 : 0 ≤ n) (h1 : n ≤ 4294967295) : IntKind.u64.wrap n = n := by
  simp only [IntKind.wrap, IntKind.signed, IntKind.bits]
  simp
  omega
theorem pow_i (n : Nat) : (2 : Int) ^ n = ((2 ^ n : Nat) : Int) := by simp
theorem and_pow (x n : Nat) : (((x &&& 2 ^ n : Nat) : Int) != 0) = x.testBit n := by
  cases h : x.testBit n
  · have : x &&& 2 ^ n = 0 := by
      apply Nat.eq_of_testBit_eq
      intro i
      rw [Nat.testBit_and, Nat.testBit_two_pow, Nat.zero_testBit]
      by_cases hi : n = i
      · subst hi; simp [h]
      · simp [hi]
    rw [this]; rfl
  · have : x &&& 2 ^ n ≠ 0 := by
      intro h0
      have := congrArg (Nat.testBit · n) h0
      simp [Nat.testBit_and, h] at this
    simpa using this
theorem g1 (x n : Nat) (hx : x ≤ 4294967295) (hn : n < 32) : (IntKind.u32.wrap ((x % 2 ^ IntKind.u32.bits &&& (IntKind.u32.wrap (2 ^ min n IntKind.u32.bits) % 2 ^ IntKind.u32.bits).toNat : Nat) : Int) != 0) = x.testBit n := by
  have hb : IntKind.u32.bits = 32 := rfl
  have h2 : 2 ^ n ≤ 2 ^ 31 := Nat.pow_le_pow_right (by omega) (by omega)
  have h1 : min n 32 = n := by omega
  have h4 : 2 ^ n ≤ 4294967295 := by omega
  generalize hp : 2 ^ n = p at h4
  rw [hb, h1, pow_i, hp, u32wrap (n := (p : Int)) (by omega) (by omega)]
  have e1 : ((p : Int) % 2 ^ 32).toNat = p := by omega
  have e2 : x % 2 ^ 32 = x := by omega
  have e3 : x &&& p ≤ x := Nat.and_le_left
  rw [e1, e2, u32wrap (by omega) (by omega), ← hp]
  exact and_pow x n
theorem g2 (x n : Nat) (hx : x ≤ 4294967295) (hn : n < 32) : (IntKind.u32.wrap ((((x : Int).fdiv (2 ^ min n IntKind.u32.bits) % 2 ^ IntKind.u32.bits).toNat &&& 1 % 2 ^ IntKind.u32.bits : Nat) : Int) == 1) = x.testBit n := by
  have hb : IntKind.u32.bits = 32 := rfl
  have h1 : min n 32 = n := by omega
  have e4 : Int.fdiv (x : Int) (2 ^ n) = ((x / 2 ^ n : Nat) : Int) := by
    rw [pow_i]
    exact (Int.ofNat_fdiv x (2 ^ n)).symm
  have h6 : x / 2 ^ n ≤ x := Nat.div_le_self _ _
  rw [hb, h1, e4]
  have e1 : (((x / 2 ^ n : Nat) : Int) % 2 ^ 32).toNat = x / 2 ^ n := by generalize x / 2 ^ n = q at h6; omega
  have e2 : 1 % 2 ^ 32 = 1 := rfl
  rw [e1, e2, Nat.and_one_is_mod, Nat.testBit_eq_decide_div_mod_eq]
  have := Nat.mod_two_eq_zero_or_one (x / 2 ^ n)
  rcases this with h | h <;> simp [h] <;> decide

theorem c_bit (x : Int) : C f_image_bit [W x] (.clo f_image_bit_1 [] [.ref [W x] 0]) := by
  refine ctr [W x] run_image_bit rfl rfl rfl ?_ rfl
  unfold rt_image_bit
  simp
theorem c_bit1 (x n : Int) (h0 : 0 ≤ x) (h1 : x ≤ 4294967295) : C f_image_bit_1 [I n, .ref [W x] 0] (.bool (bitAt x n)) := by
  refine ctr [I n, W x] run_image_bit_1 rfl rfl rfl ?_ rfl
  unfold rt_image_bit_1
  obtain ⟨x, rfl⟩ : ∃ k : Nat, x = k := ⟨x.toNat, by omega⟩
  by_cases hn : 0 ≤ n
  · obtain ⟨n, rfl⟩ : ∃ k : Nat, n = k := ⟨n.toNat, by omega⟩
    by_cases hn2 : n < 32
    · have h3 : ((n : Nat) : Int) < 32 := by omega
      simp [bitAt, h3]
      exact g1 x n (by omega) hn2
    · have h3 : ¬ ((n : Nat) : Int) < 32 := by omega
      simp [bitAt, h3]
  · have h3 : ¬ (n ≥ 0) := by omega
    simp [bitAt, hn, h3]
theorem c_r15bit (x n : Int) (h0 : 0 ≤ x) (h1 : x ≤ 4294967295) : C f_lockbarref15_bit [W x, I n] (.bool (bitAt x n)) := by
  refine ctr [W x, I n] run_lockbarref15_bit rfl rfl rfl ?_ rfl
  unfold rt_lockbarref15_bit
  obtain ⟨x, rfl⟩ : ∃ k : Nat, x = k := ⟨x.toNat, by omega⟩
  by_cases hn : 0 ≤ n
  · obtain ⟨n, rfl⟩ : ∃ k : Nat, n = k := ⟨n.toNat, by omega⟩
    by_cases hn2 : n < 32
    · have h3 : ((n : Nat) : Int) < 32 := by omega
      have e1 : IntKind.u64.wrap (n : Int) = n := u64wrap (by omega) (by omega)
      simp [bitAt, h3, e1]
      exact g2 x n (by omega) hn2
    · have h3 : ¬ ((n : Nat) : Int) < 32 := by omega
      simp [bitAt, h3]
  · have h3 : ¬ (n ≥ 0) := by omega
    simp [bitAt, hn, h3]
end Go.Lb.LK

namespace Go.Lb.LK
open Go Go.Lb Go.Proofs Go.RowKit

theorem c_tick_Late (a t : Int) : C f_tick_Late [I a, I t] (.bool (decide (t < a))) := by
  refine ctr [I a, I t] run_tick_Late rfl rfl rfl ?_ rfl
  unfold rt_tick_Late
  simp
theorem c_r03Late (a t : Int) : C f_lockbarref03_Late [I a, I t] (.bool (decide (t < a))) := by
  refine ctr [I a, I t] run_lockbarref03_Late rfl rfl rfl ?_ rfl
  unfold rt_lockbarref03_Late
  simp
theorem li (l : Lay) (im : Img) : AV.pureAll (l.cells ++ im.cells) = true := by simp [pureAll_append]
theorem lii (l : Lay) (im : Img) (s : Int) : AV.pureAll (l.cells ++ im.cells ++ [I s]) = true := by simp [pureAll_append, AV.pureAll, AV.pure]
theorem c_image_Stale (l : Lay) (im : Img) : C f_image_Stale [l.av, im.av] (.bool (stale l im)) := by
  refine ctr (l.cells ++ im.cells) run_image_Stale rfl (li l im) rfl ?_ rfl
  unfold rt_image_Stale
  simp [Lay.cells, Img.cells]
  refine call (c_tick_Late im.age l.stale) (by simp) (by simp) ?_
  simp [stale]
theorem c_r15Stale (l : Lay) (im : Img) : C f_lockbarref15_Stale [l.av, im.av] (.bool (stale l im)) := by
  refine ctr (l.cells ++ im.cells) run_lockbarref15_Stale rfl (li l im) rfl ?_ rfl
  unfold rt_lockbarref15_Stale
  simp [Lay.cells, Img.cells]
  refine call (c_r03Late im.age l.stale) (by simp) (by simp) ?_
  simp [stale]

abbrev cloB (x : Int) : AV := .clo f_image_bit_1 [] [.ref [W x] 0]
theorem c_image_clear (l : Lay) (im : Img) : C f_image_clear [l.av, im.av] (.clo f_image_clear_1 [] [.ref [.bool (stale l im)] 0, .ref [cloB im.occ] 0]) := by
  refine ctr (l.cells ++ im.cells) run_image_clear rfl (li l im) rfl ?_ rfl
  unfold rt_image_clear
  simp [Lay.cells, Img.cells]
  refine call (c_image_Stale l im) (by simp [Lay.cells, Img.cells]) (by simp) ?_
  simp
  refine call (c_bit im.occ) (by simp) (by simp) ?_
  simp
theorem c_image_clear1 (s occ : Int) (st : Bool) (h0 : 0 ≤ occ) (h1 : occ ≤ 4294967295) : C f_image_clear_1 [I s, .ref [.bool st] 0, .ref [cloB occ] 0] (.bool (!st && !bitAt occ s)) := by
  refine ctr [I s, .bool st, W occ] run_image_clear_1 rfl rfl rfl ?_ rfl
  unfold rt_image_clear_1
  simp
  refine callIf (avs := [I s, .ref [W occ] 0]) (.bool (bitAt occ s)) rfl (fun _ => ⟨by simp, c_bit1 occ s h0 h1⟩) (by simp) ?_
  cases st <;> simp

def occupied (l : Lay) (im : Img) (s : Int) : Bool := !decide (0 ≤ s ∧ s < l.secs.length ∧ s < 24) || (stale l im || (bitAt im.occ s || decide (im.free s.toNat < l.clear)))
end Go.Lb.LK

namespace Go.Lb.LK
open Go Go.Lb Go.Proofs Go.RowKit

theorem free_cell (im : Img) (s : Int) (h0 : 0 ≤ s) (h1 : s < 24) : im.cells.getD (s.toNat * 1 + 1) .undef = I (im.free s.toNat) := by
  rw [Nat.mul_one]; exact free_get im (by omega) _
theorem free_cell' (im : Img) (s : Int) (h0 : 0 ≤ s) (h1 : s < 24) : (im.cells[s.toNat * 1 + 1]?).getD .undef = I (im.free s.toNat) := by
  rw [← List.getD_eq_getElem?_getD]; exact free_cell im s h0 h1

def atP (l : Lay) (im : Img) (p : Int) : Int :=
  if 0 ≤ p ∧ p < l.secs.length ∧ (l.secs[p.toNat]?.map (·.kind)) = some 2 ∧ stale l im = false then
    (if bitAt im.nor p = bitAt im.rev p then -1 else if bitAt im.nor p = true then 0 else 1) else -1

theorem c_image_Occupied (l : Lay) (im : Img) (hi : im.ok) (s : Int) : C f_image_Occupied [l.av, im.av, I s] (.bool (occupied l im s)) := by
  refine ctr (l.cells ++ im.cells ++ [I s]) run_image_Occupied rfl (lii l im s) rfl ?_ rfl
  unfold rt_image_Occupied
  simp [Lay.cells, Img.cells]
  by_cases hr : 0 ≤ s ∧ s < l.secs.length ∧ s < 24
  · have h1 : ¬ s < 0 := by omega
    have h2 : ¬ min (l.secs.length : Int) 24 ≤ s := by omega
    simp [h1, h2]
    intro _ _
    refine call (c_image_clear l im) (by simp [Lay.cells, Img.cells]) (by simp) ?_
    simp [stale]
    refine call (c_image_clear1 s im.occ (stale l im) hi.1.1 hi.1.2) (by simp [stale]) (by simp) ?_
    have hc := free_cell' im s hr.1 hr.2.2
    simp only [Img.cells] at hc
    simp at hc
    simp [hc, occupied, hr]
    refine ⟨fun _ => by omega, ?_⟩
    cases stale l im <;> cases bitAt im.occ s <;> simp
  · have h1 : s < 0 ∨ min (l.secs.length : Int) 24 ≤ s := by omega
    rcases h1 with h1 | h1
    · have h2 : ¬ 0 ≤ s := by omega
      simp [occupied, h1, h2]
    · have h2 : 0 ≤ s := by omega
      have h3 : ¬ s < 0 := by omega
      have h5 : ¬ s < min (l.secs.length : Int) 24 := by omega
      simp [occupied, h1, h2, h3, h5]
      exact .inl (by omega)
theorem c_r15Occupied (l : Lay) (im : Img) (hi : im.ok) (s : Int) : C f_lockbarref15_Occupied [l.av, im.av, I s] (.bool (occupied l im s)) := by
  refine ctr (l.cells ++ im.cells ++ [I s]) run_lockbarref15_Occupied rfl (lii l im s) rfl ?_ rfl
  unfold rt_lockbarref15_Occupied
  simp [Lay.cells, Img.cells]
  by_cases hr : 0 ≤ s ∧ s < l.secs.length ∧ s < 24
  · have h1 : ¬ s < 0 := by omega
    have h2 : ¬ (l.secs.length : Int) ≤ s := by omega
    have h3 : ¬ 24 ≤ s := by omega
    simp [h1, h2, h3]
    intro _ _ _
    refine call (c_r15Stale l im) (by simp [Lay.cells, Img.cells]) (by simp) ?_
    simp
    refine callIf (avs := [W im.occ, I s]) (.bool (bitAt im.occ s)) rfl (fun _ => ⟨by simp, c_r15bit im.occ s hi.1.1 hi.1.2⟩) (by simp) ?_
    have hc := free_cell' im s hr.1 hr.2.2
    simp only [Img.cells] at hc
    simp at hc
    simp [hc, occupied, hr]
    refine ⟨?_, ?_⟩
    · intros; omega
    · cases stale l im <;> cases bitAt im.occ s <;> simp
  · have h1 : s < 0 ∨ (l.secs.length : Int) ≤ s ∨ 24 ≤ s := by omega
    by_cases h2 : s < 0
    · have h0 : ¬ 0 ≤ s := by omega
      simp [occupied, h2, h0]
    · by_cases h3 : (l.secs.length : Int) ≤ s
      · simp [occupied, h2, h3]
        intros; omega
      · have h4 : 24 ≤ s := by omega
        simp [occupied, h2, h3, h4]
        intros; omega

theorem c_image_At (l : Lay) (im : Img) (hi : im.ok) (p : Int) : C f_image_At [l.av, im.av, I p] (I (atP l im p)) := by
  refine ctr (l.cells ++ im.cells ++ [I p]) run_image_At rfl (lii l im p) rfl ?_ rfl
  unfold rt_image_At
  simp [Lay.cells, Img.cells]
  by_cases hr : 0 ≤ p ∧ p < l.secs.length
  · obtain ⟨n, rfl⟩ : ∃ n : Nat, p = n := ⟨p.toNat, by omega⟩
    have hlt : n < l.secs.length := by omega
    have h1 : ¬ ((n : Nat) : Int) < 0 := by omega
    have h2 : ¬ (l.secs.length : Int) ≤ n := by omega
    simp [h1, h2, hlt, Sec.cells]
    refine callIf (avs := [l.av, im.av]) (.bool (stale l im)) rfl (fun _ => ⟨by simp [Lay.cells, Img.cells], c_image_Stale l im⟩) (by simp) ?_
    by_cases hk : (l.secs[n]).kind = 2
    · simp [hk, hlt, Sec.cells]
      cases hs : stale l im
      · simp
        refine ⟨fun h => absurd h (by omega), ?_⟩
        refine call (c_bit im.nor) (by simp) (by simp) ?_
        simp
        refine call (c_bit1 im.nor n hi.2.1.1 hi.2.1.2) (by simp) (by simp) ?_
        simp
        refine call (c_bit im.rev) (by simp) (by simp) ?_
        simp
        refine call (c_bit1 im.rev n hi.2.2.1.1 hi.2.2.1.2) (by simp) (by simp) ?_
        simp [atP, hlt, hk, hs]
        cases bitAt im.nor n <;> cases bitAt im.rev n <;> simp
      · simp [atP, hs]
    · simp [hk, hlt, Sec.cells, atP]
  · have h3 : p < 0 ∨ (l.secs.length : Int) ≤ p := by omega
    have ha : atP l im p = -1 := by
      unfold atP; rw [if_neg (by omega)]
    rw [ha]
    rcases h3 with h3 | h3
    · have h5 : ¬ 0 ≤ p := by omega
      simp [h3, h5]
      refine callIf (avs := [l.av, im.av]) (.bool (stale l im)) rfl (fun _ => ⟨by simp [Lay.cells, Img.cells], c_image_Stale l im⟩) (by simp) ?_
      simp [h3, h5]
    · have h4 : ¬ p < 0 := by omega
      have h5 : ¬ p < l.secs.length := by omega
      simp [h3, h4, h5]
      refine callIf (avs := [l.av, im.av]) (.bool (stale l im)) rfl (fun _ => ⟨by simp [Lay.cells, Img.cells], c_image_Stale l im⟩) (by simp) ?_
      simp [h3, h4, h5]
theorem c_r15At (l : Lay) (im : Img) (hi : im.ok) (p : Int) : C f_lockbarref15_At [l.av, im.av, I p] (I (atP l im p)) := by
  refine ctr (l.cells ++ im.cells ++ [I p]) run_lockbarref15_At rfl (lii l im p) rfl ?_ rfl
  unfold rt_lockbarref15_At
  simp [Lay.cells, Img.cells]
  by_cases hr : 0 ≤ p ∧ p < l.secs.length
  · obtain ⟨n, rfl⟩ : ∃ n : Nat, p = n := ⟨p.toNat, by omega⟩
    have hlt : n < l.secs.length := by omega
    have h1 : ¬ ((n : Nat) : Int) < 0 := by omega
    have h2 : ¬ (l.secs.length : Int) ≤ n := by omega
    simp [h1, h2, hlt, Sec.cells]
    refine callIf (avs := [l.av, im.av]) (.bool (stale l im)) rfl (fun _ => ⟨by simp [Lay.cells, Img.cells], c_r15Stale l im⟩) (by simp) ?_
    by_cases hk : (l.secs[n]).kind = 2
    · simp [hk, hlt, Sec.cells]
      cases hs : stale l im
      · simp
        refine ⟨fun h => absurd h (by omega), ?_⟩
        refine call (c_r15bit im.nor n hi.2.1.1 hi.2.1.2) (by simp) (by simp) ?_
        simp
        refine call (c_r15bit im.rev n hi.2.2.1.1 hi.2.2.1.2) (by simp) (by simp) ?_
        simp [atP, hlt, hk, hs]
        cases bitAt im.nor n <;> cases bitAt im.rev n <;> simp
      · simp [atP, hs]
    · simp [hk, hlt, Sec.cells, atP]
  · have h3 : p < 0 ∨ (l.secs.length : Int) ≤ p := by omega
    have ha : atP l im p = -1 := by
      unfold atP; rw [if_neg (by omega)]
    rw [ha]
    rcases h3 with h3 | h3
    · have h5 : ¬ 0 ≤ p := by omega
      simp [h3, h5]
      refine callIf (avs := [l.av, im.av]) (.bool (stale l im)) rfl (fun _ => ⟨by simp [Lay.cells, Img.cells], c_r15Stale l im⟩) (by simp) ?_
      simp [h3, h5]
    · have h4 : ¬ p < 0 := by omega
      have h5 : ¬ p < l.secs.length := by omega
      simp [h3, h4, h5]
      refine callIf (avs := [l.av, im.av]) (.bool (stale l im)) rfl (fun _ => ⟨by simp [Lay.cells, Img.cells], c_r15Stale l im⟩) (by simp) ?_
      simp [h3, h4, h5]
end Go.Lb.LK

namespace Go.Lb.LK
open Go Go.Lb Go.Proofs Go.RowKit

theorem ite_iff {α : Type} {c d : Prop} [Decidable c] [Decidable d] (h : c ↔ d) (x y : α) : (if c then x else y) = if d then x else y := by
  by_cases hc : c
  · rw [if_pos hc, if_pos (h.1 hc)]
  · rw [if_neg hc, if_neg (fun hd => hc (h.2 hd))]
def countT (n : Int) : Int := min (max n 0) 65535
def moreT (n k : Int) : Int := min (countT n + countT k) 65535
def rowT (b : Bool) (n : Int) : Int := if b = true then moreT n 1 else 0

theorem c_r03within (n t : Int) : C f_lockbarref03_within [I n, I t] (I (min (max n 0) t)) := by
  refine ctr [I n, I t] run_lockbarref03_within rfl rfl rfl ?_ rfl
  unfold rt_lockbarref03_within
  simp
theorem c_r03Count (n : Int) : C f_lockbarref03_Count [I n] (I (countT n)) := by
  refine ctr [I n] run_lockbarref03_Count rfl rfl rfl ?_ rfl
  unfold rt_lockbarref03_Count
  refine call (c_r03within n 65535) (by simp) (by simp) ?_
  simp [countT]
theorem c_r03More (n k : Int) : C f_lockbarref03_More [I n, I k] (I (moreT n k)) := by
  refine ctr [I n, I k] run_lockbarref03_More rfl rfl rfl ?_ rfl
  unfold rt_lockbarref03_More
  refine call (c_r03Count n) (by simp) (by simp) ?_
  simp
  refine call (c_r03Count k) (by simp) (by simp) ?_
  simp
  rw [wrap_i (by simp only [countT]; omega) (by simp only [countT]; omega)]; rfl
theorem c_r03Row (b : Bool) (n : Int) : C f_lockbarref03_Row [.bool b, I n] (I (rowT b n)) := by
  refine ctr [.bool b, I n] run_lockbarref03_Row rfl rfl rfl ?_ rfl
  unfold rt_lockbarref03_Row
  simp
  cases b
  · simp [rowT]
  · simp
    refine call (c_r03More n 1) (by simp) (by simp) ?_
    simp [rowT]

def imNew : Img := ⟨65535, fun _ => 0, 0, 0, 0, 0⟩
theorem imNew_ok : imNew.ok := by simp [Img.ok, imNew]
theorem c_r15New : C f_lockbarref15_New [] imNew.av := by
  refine ctr [] run_lockbarref15_New rfl rfl (by simp [AV.pure]) ?_ rfl
  unfold rt_lockbarref15_New
  simp [Img.cells, imNew]

/-- An image's rows, the first m of them gone on. -/
def rowsM (l : Lay) (im : Img) (m : Nat) : Img := { im with free := fun i => if i < m then rowT (!stale l im && !bitAt im.occ i) (im.free i) else im.free i }
theorem rowsM_zero (l : Lay) (im : Img) : rowsM l im 0 = im := by simp [rowsM]
theorem rowsM_succ (l : Lay) (im : Img) (m j : Nat) : (rowsM l im (m + 1)).free j = if j = m then rowT (!stale l im && !bitAt im.occ m) (im.free m) else (rowsM l im m).free j := by
  simp only [rowsM]
  by_cases h : j = m
  · subst h; simp
  · by_cases h2 : j < m
    · simp [h, h2, show j < m + 1 by omega]
    · simp [h, h2, show ¬ j < m + 1 by omega]
theorem stale_rows (l : Lay) (im : Img) (m : Nat) : stale l (rowsM l im m) = stale l im := rfl
def takeI (l : Lay) (im : Img) (o n r p : Int) : Img := rowsM l { im with age := 0, occ := o, nor := n, rev := r, lamp := p } 24
def imRow (f : Img) : List AV := [I (f.free 0), I (f.free 1), I (f.free 2), I (f.free 3), I (f.free 4), I (f.free 5), I (f.free 6), I (f.free 7), I (f.free 8), I (f.free 9), I (f.free 10), I (f.free 11), I (f.free 12), I (f.free 13), I (f.free 14), I (f.free 15), I (f.free 16), I (f.free 17), I (f.free 18), I (f.free 19), I (f.free 20), I (f.free 21), I (f.free 22), I (f.free 23)]

@[simp] theorem ite_I (c : Prop) [Decidable c] (a b : Int) : (if c then I a else I b) = I (if c then a else b) := by split <;> rfl
theorem c_r15rows (l : Lay) (im : Img) (hi : im.ok) : C f_lockbarref15_rows [l.av, im.av] (rowsM l im 24).av := by
  refine ctr (l.cells ++ im.cells) run_lockbarref15_rows rfl (li l im) (by simp [AV.pure]) ?_ rfl
  unfold rt_lockbarref15_rows
  simp [Lay.cells, Img.cells]
  refine RTwp_loop rfl (fun vs => ∃ m : Nat, m ≤ 24 ∧ vs = I m :: imRow (rowsM l im m)) (fun vs => match vs with | .int _ m :: _ => 24 - m.toNat | _ => 0) ⟨0, by omega, by simp [imRow, rowsM_zero]⟩ ?_
  rintro vs - ⟨m, hm, rfl⟩
  simp [imRow]
  refine ⟨fun hlt => ?_, fun hge => ?_⟩
  · have hlt' : m < 24 := by omega
    refine call (c_r15Stale l (rowsM l im m)) (by simp [Lay.cells, Img.cells]; exact ⟨rfl, rfl, rfl, rfl, rfl⟩) (by simp) ?_
    simp [stale_rows]
    refine callIf (avs := [W im.occ, I m]) (.bool (bitAt im.occ m)) rfl (fun _ => ⟨by simp, c_r15bit im.occ m hi.1.1 hi.1.2⟩) (by simp) ?_
    simp
    have hc := free_cell' (rowsM l im m) m (by omega) (by omega)
    simp only [Img.cells] at hc
    simp at hc
    simp only [show (rowsM l im m).occ = im.occ from rfl, show (rowsM l im m).nor = im.nor from rfl, show (rowsM l im m).rev = im.rev from rfl, show (rowsM l im m).lamp = im.lamp from rfl] at hc
    refine ⟨hlt, ⟨hlt, by omega⟩, ?_⟩
    refine call (avs := [.bool (!stale l im && !bitAt im.occ m), I (im.free m)]) (c_r03Row _ _) (by
      have h1 : (rowsM l im m).free m = im.free m := by simp [rowsM]
      simp [hc, h1]) (by simp) ?_
    simp [hlt]
    refine ⟨⟨m + 1, by omega, ?_⟩, ?_⟩
    · rw [wrap_succ (by omega)]
      simp [rowsM_succ]
      and_intros <;> exact ite_iff (by omega) _ _
    · rw [wrap_succ (by omega)]
      simp; omega
  · have : m = 24 := by omega
    subst this
    simp [Img.cells, rowsM]

theorem c_r15Take (l : Lay) (im : Img) (o n r p : Int) (h0 : 0 ≤ o) (h1 : o ≤ 4294967295) (n0 : 0 ≤ n) (n1 : n ≤ 4294967295) (r0 : 0 ≤ r) (r1 : r ≤ 4294967295) (p0 : 0 ≤ p) (p1 : p ≤ 4294967295) :
    C f_lockbarref15_Take [l.av, im.av, .agg [W o, W n, W r, W p]] (takeI l im o n r p).av := by
  refine ctr (l.cells ++ im.cells ++ [W o, W n, W r, W p]) run_lockbarref15_Take rfl (by simp [pureAll_append, AV.pureAll, AV.pure]) (by simp [AV.pure]) ?_ rfl
  unfold rt_lockbarref15_Take
  simp [Lay.cells, Img.cells]
  refine call (c_r15rows l { im with age := 0, occ := o, nor := n, rev := r, lamp := p } ⟨⟨h0, h1⟩, ⟨n0, n1⟩, ⟨r0, r1⟩, ⟨p0, p1⟩⟩) (by simp [Lay.cells, Img.cells]) (by simp [Img.cells, AV.scalar, AV.scalars]) ?_
  simp [Img.cells, takeI]
end Go.Lb.LK

namespace Go.Lb.LK
open Go Go.Lb Go.Proofs Go.RowKit

/-! ### Points -/
theorem sortI_sorted (l : List Int) : (sortI l).Pairwise (fun x y => x ≤ y) := by
  have := List.pairwise_mergeSort (le := fun x y : Int => decide (x ≤ y)) (fun a b c h1 h2 => by simp at *; omega) (fun a b => by simp; omega) l
  exact this.imp (fun h => by simpa using h)
theorem compact_upTo {l : List Int} (hs : l.Pairwise (fun x y => x ≤ y)) : ∀ m, m ≤ l.length → (∀ n, n ∈ Go.Lib.compactUpTo l.toArray m ↔ n ∈ l.take m) ∧ (Go.Lib.compactUpTo l.toArray m).Pairwise (fun x y => x < y)
  | 0, _ => by simp [Go.Lib.compactUpTo]
  | m + 1, h => by
    obtain ⟨h1, h2⟩ := compact_upTo hs m (by omega)
    have hm : l.toArray[m]! = l[m] := by simp [show m < l.length by omega]
    rw [Go.Lib.compactUpTo_succ, hm]
    have ht : l.take (m + 1) = l.take m ++ [l[m]] := by rw [List.take_add_one, List.getElem?_eq_getElem (by omega)]; rfl
    have hle : ∀ x ∈ l.take m, x ≤ l[m] := by
      intro x hx
      obtain ⟨j, hj, rfl⟩ := List.mem_iff_getElem.1 hx
      rw [List.getElem_take]
      rw [List.length_take] at hj
      exact List.pairwise_iff_getElem.1 hs j m (by omega) (by omega) (by omega)
    cases hk : Go.Lib.keeps l.toArray m with
    | true =>
      refine ⟨fun n => ?_, ?_⟩
      · rw [ht]; simp only [h1, if_true, List.mem_append, List.mem_singleton]
      · simp only [if_true]
        rw [List.pairwise_append]
        refine ⟨h2, by simp, fun x hx y hy => ?_⟩
        simp only [List.mem_singleton] at hy; subst hy
        have hx' := (h1 x).1 hx
        have := hle x hx'
        simp only [Go.Lib.keeps, decide_eq_true_eq] at hk
        rcases hk with h0 | hk
        · subst h0; simp at hx'
        · have hm1 : l.toArray[m - 1]! = l[m - 1] := by simp [show m - 1 < l.length by omega]
          rw [hm, hm1] at hk
          obtain ⟨j, hj, rfl⟩ := List.mem_iff_getElem.1 hx'
          rw [List.getElem_take]
          rw [List.length_take] at hj
          have a1 : l[j] ≤ l[m - 1] := by
            rcases Nat.lt_or_ge j (m - 1) with hlt | hge
            · exact List.pairwise_iff_getElem.1 hs j (m - 1) (by omega) (by omega) hlt
            · have : j = m - 1 := by omega
              subst this; exact Int.le_refl _
          have a2 : l[m - 1] ≤ l[m] := by
            rcases Nat.eq_zero_or_pos m with h0 | h0
            · subst h0; exact Int.le_refl _
            · exact List.pairwise_iff_getElem.1 hs (m - 1) m (by omega) (by omega) (by omega)
          omega
    | false =>
      refine ⟨fun n => ?_, by simpa using h2⟩
      rw [ht]
      simp only [Bool.false_eq_true, if_false, List.append_nil, List.mem_append, List.mem_singleton, h1]
      refine ⟨.inl, fun h => h.elim id ?_⟩
      rintro rfl
      have hk' : ¬ (m = 0 ∨ l.toArray[m]! ≠ l.toArray[m - 1]!) := by simpa [Go.Lib.keeps] using hk
      have hm0 : m ≠ 0 := fun h => hk' (.inl h)
      have hm1 : l.toArray[m - 1]! = l[m - 1] := by simp [show m - 1 < l.length by omega]
      rw [hm, hm1] at hk'
      have : l[m] = l[m - 1] := Classical.byContradiction fun h => hk' (.inr h)
      rw [this]
      exact List.mem_iff_getElem.2 ⟨m - 1, by rw [List.length_take]; omega, by rw [List.getElem_take]⟩
theorem compactI_spec {l : List Int} (hs : l.Pairwise (fun x y => x ≤ y)) : (∀ n, n ∈ compactI l ↔ n ∈ l) ∧ (compactI l).Pairwise (fun x y => x < y) := by
  have := compact_upTo hs l.length (Nat.le_refl _)
  rwa [List.take_length] at this

theorem compact_sub (l : List Int) : ∀ m, m ≤ l.length → (Go.Lib.compactUpTo l.toArray m).Sublist (l.take m)
  | 0, _ => by simp [Go.Lib.compactUpTo]
  | m + 1, h => by
    have ih := compact_sub l m (by omega)
    have hm : l.toArray[m]! = l[m] := by simp [show m < l.length by omega]
    rw [Go.Lib.compactUpTo_succ, hm]
    have ht : l.take (m + 1) = l.take m ++ [l[m]] := by rw [List.take_add_one, List.getElem?_eq_getElem (by omega)]; rfl
    rw [ht]
    split
    · exact ih.append (List.Sublist.refl _)
    · exact ih.append (List.nil_sublist [l[m]])
theorem compact_full {l : List Int} (hs : l.Pairwise (fun x y => x < y)) : ∀ m, m ≤ l.length → (Go.Lib.compactUpTo l.toArray m).length = m
  | 0, _ => by simp [Go.Lib.compactUpTo]
  | m + 1, h => by
    have ih := compact_full hs m (by omega)
    have hm : l.toArray[m]! = l[m] := by simp [show m < l.length by omega]
    rw [Go.Lib.compactUpTo_succ]
    have hk : Go.Lib.keeps l.toArray m = true := by
      simp only [Go.Lib.keeps, decide_eq_true_eq]
      rcases Nat.eq_zero_or_pos m with h0 | h0
      · exact .inl h0
      · right
        have hm1 : l.toArray[m - 1]! = l[m - 1] := by simp [show m - 1 < l.length by omega]
        rw [hm, hm1]
        have := List.pairwise_iff_getElem.1 hs (m - 1) m (by omega) (by omega) (by omega)
        omega
    simp [hk, ih]
theorem compact_nodup (l : List Int) : (compactI (sortI l)).length < l.length ↔ ¬ l.Nodup := by
  have hp : (sortI l).Perm l := List.mergeSort_perm _ _
  have hlen : (sortI l).length = l.length := hp.length_eq
  have hs := sortI_sorted l
  constructor
  · intro h hn
    have hn2 : (sortI l).Nodup := hp.nodup_iff.2 hn
    have hlt : (sortI l).Pairwise (fun x y => x < y) := by
      refine List.Pairwise.imp₂ (R := fun x y => x ≤ y) (S := fun x y => x ≠ y) (fun a b h1 h2 => by omega) hs hn2
    have := compact_full hlt (sortI l).length (Nat.le_refl _)
    have e : compactI (sortI l) = Go.Lib.compactUpTo (sortI l).toArray (sortI l).length := by simp [compactI, Go.Lib.compact]
    rw [e] at h
    omega
  · intro hn
    refine Classical.byContradiction fun h => hn ?_
    have hsub := compact_sub (sortI l) (sortI l).length (Nat.le_refl _)
    have e : compactI (sortI l) = Go.Lib.compactUpTo (sortI l).toArray (sortI l).length := by simp [compactI, Go.Lib.compact]
    rw [← e, List.take_length] at hsub
    have heq := hsub.eq_of_length_le (by omega)
    have h2 := (compactI_spec hs).2
    rw [heq] at h2
    exact hp.nodup_iff.1 (h2.imp (fun h => by omega))
end Go.Lb.LK
