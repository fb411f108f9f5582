/- What functions come to, printed by a program, checked by the kernel. -/
/- What functions come to, printed by a program, checked by the kernel. -/
/- The trees of the functions. -/
/-
  DERIVED: THE SHELF's CONTRACTS AT THIS DUMP, IN PLAIN WORDS (tools/lay-plain.mjs out of 'TrydShelf.lean', which tools/lay-shelf.mjs wrote): THE SAME DECLARATIONS UNDER THE SAME NAMES: 'import', 'namespace', 'open', 'def', 'theorem' AND NOTHING ELSE: no command of the shelf's: FOR A HAND-IN. Each laying: the table of numbers ('.._ren') and one theorem, a field a fact of the dump's own or the kernel's comparison; each contract: ONE APPLICATION.
-/
/- The data of the program, and as pure values. -/
/- An image, a held route, as pure values. -/
import Derived.Test.YteihefiaceohdaaDoorCh1
import Derived.Test.YteihefiaceohdaaDoorCh2
import Derived.Test.YteihefiaceohdaaDoorCh3
import Derived.Shelf.Small.Bits
import Derived.Shelf.Strconv.Itoa0
import Derived.Shelf.Sort.Plain
import Derived.Ground.Names2Prog
import Derived.Shelf.Slices.CompactI
import Derived.Test.YteihefiaceohdaaDoorProg
import Derived.Test.YteihefiaceohdaaDoorFw9
set_option linter.unusedSimpArgs false
set_option linter.unusedVariables false
namespace Go.Lb.LK
open Go Go.Lb Go.Proofs
@[simp] noncomputable def qka2_0 : SE := .agg [.inp 0, .inp 1, .inp 2, .inp 3, .inp 4, .inp 5, .inp 6, .inp 7, .inp 8, .inp 9, .inp 10]
@[simp] noncomputable def qka2_1 : SE := .agg [.inp 11, .inp 12, .inp 13, .inp 14, .inp 15, .inp 16, .inp 17, .inp 18, .inp 19, .inp 20, .inp 21, .inp 22, .inp 23, .inp 24, .inp 25, .inp 26, .inp 27, .inp 28, .inp 29, .inp 30, .inp 31, .inp 32, .inp 33, .inp 34, .inp 35, .inp 36, .inp 37, .inp 38, .inp 39]
@[simp] noncomputable def qka2_2 : SE := .app (.bin .lss) [.inp 40, .int .i64 0]
@[simp] noncomputable def qka2_3 : SE := .app (.bin .geq) [.inp 40, .app .len [.inp 0]]
@[simp] noncomputable def qka2_4 : SE := .app .pick [qka2_2, .bool true, qka2_3]
@[simp] noncomputable def qka2_5 : SE := .app (.eidx 11) [.inp 0, .inp 40]
@[simp] noncomputable def qka2_6 : SE := .app (.eoff 0) [qka2_5]
@[simp] noncomputable def qka2_7 : SE := .app (.eload 1 false) [qka2_6]
@[simp] noncomputable def qka2_8 : SE := .app (.bin .neq) [qka2_7, .int .u8 2]
@[simp] noncomputable def qka2_9 : SE := .app .pick [qka2_4, .bool true, qka2_8]
@[simp] noncomputable def qka2_10 : SE := .app (.bin .lss) [.inp 2, .app .len [.inp 0]]
@[simp] noncomputable def qka2_11 : SE := .app (.eidx 3) [.inp 0, .inp 2]
@[simp] noncomputable def qka2_12 : SE := .app (.eoff 0) [qka2_11]
@[simp] noncomputable def qka2_13 : SE := .app (.eidx 3) [.inp 1, .inp 3]
@[simp] noncomputable def qka2_14 : SE := .app (.eoff 0) [qka2_13]
@[simp] noncomputable def qka2_15 : SE := .app (.eload 1 false) [qka2_12]
@[simp] noncomputable def qka2_16 : SE := .app (.eload 1 false) [qka2_14]
@[simp] noncomputable def qka2_17 : SE := .app (.bin .eql) [qka2_15, qka2_16]
@[simp] noncomputable def qka2_18 : SE := .app (.eoff 1) [qka2_11]
@[simp] noncomputable def qka2_19 : SE := .app (.eoff 1) [qka2_13]
@[simp] noncomputable def qka2_20 : SE := .app (.eload 1 false) [qka2_18]
@[simp] noncomputable def qka2_21 : SE := .app (.eload 1 false) [qka2_19]
@[simp] noncomputable def qka2_22 : SE := .app (.bin .neq) [qka2_20, qka2_21]
@[simp] noncomputable def qka2_23 : SE := .app (.bin .add) [.inp 2, .int .i64 1]
@[simp] noncomputable def qka2_24 : SE := .agg [.inp 0, .inp 1, .inp 2, .inp 3, .inp 4, .inp 5, .inp 6, .inp 7, .inp 8, .inp 9, .inp 10, .inp 11, .inp 12, .inp 13, .inp 14, .inp 15, .inp 16, .inp 17, .inp 18, .inp 19, .inp 20, .inp 21, .inp 22]
@[simp] noncomputable def qka2_25 : SE := .app (.bin .lss) [.inp 0, .int .i64 1]
@[simp] noncomputable def qka2_26 : SE := .app (.bin .gtr) [.inp 0, .int .i64 1073741824]
@[simp] noncomputable def qka2_27 : SE := .app .pick [qka2_25, .bool true, qka2_26]
@[simp] noncomputable def qka2_28 : SE := .app (.bin .lss) [.app .len [.inp 3], .int .i64 1]
@[simp] noncomputable def qka2_29 : SE := .app .pick [qka2_27, .bool true, qka2_28]
@[simp] noncomputable def qka2_30 : SE := .app (.bin .gtr) [.app .len [.inp 3], .int .i64 12]
@[simp] noncomputable def qka2_31 : SE := .app .pick [qka2_29, .bool true, qka2_30]
@[simp] noncomputable def qka2_32 : SE := .app (.bin .gtr) [.app .len [.inp 4], .int .i64 2]
@[simp] noncomputable def qka2_33 : SE := .app .pick [qka2_31, .bool true, qka2_32]
@[simp] noncomputable def qka2_34 : SE := .app (.bin .lss) [.inp 6, .int .u8 1]
@[simp] noncomputable def qka2_35 : SE := .app .pick [qka2_33, .bool true, qka2_34]
@[simp] noncomputable def qka2_36 : SE := .app (.bin .geq) [.inp 6, .int .u8 5]
@[simp] noncomputable def qka2_37 : SE := .app .pick [qka2_35, .bool true, qka2_36]
@[simp] noncomputable def qka2_38 : SE := .app (.bin .lss) [.inp 7, .int .i64 0]
@[simp] noncomputable def qka2_39 : SE := .app .pick [qka2_37, .bool true, qka2_38]
@[simp] noncomputable def qka2_40 : SE := .app (.bin .gtr) [.inp 7, .app .len [.inp 3]]
@[simp] noncomputable def qka2_41 : SE := .app .pick [qka2_39, .bool true, qka2_40]
@[simp] noncomputable def qka2_42 : SE := .app (.bin .lss) [.inp 21, .int .i64 0]
@[simp] noncomputable def qka2_43 : SE := .app .pick [qka2_41, .bool true, qka2_42]
@[simp] noncomputable def qka2_44 : SE := .app (.bin .gtr) [.inp 21, .int .i64 1073741824]
@[simp] noncomputable def qka2_45 : SE := .app .pick [qka2_43, .bool true, qka2_44]
@[simp] noncomputable def qka2_46 : SE := .app .app [.app .lst [], .inp 3]
@[simp] noncomputable def qka2_47 : SE := .app .app [qka2_46, .inp 4]
@[simp] noncomputable def qka2_48 : SE := .app .len [qka2_47]
@[simp] noncomputable def qka2_49 : SE := .app (.rowget 3 0 1 false) [qka2_47, .inp 35]
@[simp] noncomputable def qka2_50 : SE := .app (.rowget 3 0 1 false) [qka2_47, .inp 34]
@[simp] noncomputable def qka2_51 : SE := .app (.bin .add) [.inp 35, .int .i64 1]
@[simp] noncomputable def qka2_52 : SE := .app (.eidx 3) [.inp 5, .inp 36]
@[simp] noncomputable def qka2_53 : SE := .app (.eload 3 true) [qka2_52]
@[simp] noncomputable def qka2_54 : SE := .app (.part 2 1 false) [qka2_53]
@[simp] noncomputable def qka2_55 : SE := .app (.bin .lss) [qka2_54, .int .i64 0]
@[simp] noncomputable def qka2_56 : SE := .app (.bin .gtr) [qka2_54, .app .len [.inp 3]]
@[simp] noncomputable def qka2_57 : SE := .app .pick [qka2_55, .bool true, qka2_56]
@[simp] noncomputable def qka2_58 : SE := .app (.part 0 1 false) [qka2_53]
@[simp] noncomputable def qka2_59 : SE := .app (.bin .lss) [qka2_58, .int .i64 0]
@[simp] noncomputable def qka2_60 : SE := .app .pick [qka2_57, .bool true, qka2_59]
@[simp] noncomputable def qka2_61 : SE := .app (.bin .geq) [qka2_58, .int .i64 24]
@[simp] noncomputable def qka2_62 : SE := .app .pick [qka2_60, .bool true, qka2_61]
@[simp] noncomputable def qka2_63 : SE := .app (.part 1 1 false) [qka2_53]
@[simp] noncomputable def qka2_64 : SE := .app (.bin .lss) [qka2_63, .int .i64 0]
@[simp] noncomputable def qka2_65 : SE := .app .pick [qka2_62, .bool true, qka2_64]
@[simp] noncomputable def qka2_66 : SE := .app (.bin .gtr) [qka2_63, .int .i64 1]
@[simp] noncomputable def qka2_67 : SE := .app (.mm true) [.inp 7, .int .i64 0]
@[simp] noncomputable def qka2_68 : SE := .app (.eidx 3) [.inp 3, .inp 24]
@[simp] noncomputable def qka2_69 : SE := .app (.eoff 0) [qka2_68]
@[simp] noncomputable def qka2_70 : SE := .app (.eload 1 false) [qka2_69]
@[simp] noncomputable def qka2_71 : SE := .app .lst [qka2_70]
@[simp] noncomputable def qka2_72 : SE := .app (.bin .add) [.inp 24, .int .i64 1]
@[simp] noncomputable def qka2_73 : SE := .app (.bin .lss) [.inp 26, .app .len [.inp 4]]
@[simp] noncomputable def qka2_74 : SE := .app (.eidx 3) [.inp 4, .inp 26]
@[simp] noncomputable def qka2_75 : SE := .app (.eoff 0) [qka2_74]
@[simp] noncomputable def qka2_76 : SE := .app (.eload 1 false) [qka2_75]
@[simp] noncomputable def qka2_77 : SE := .app .lst [qka2_76]
@[simp] noncomputable def qka2_78 : SE := .app (.eidx 1) [.inp 24, .inp 25]
@[simp] noncomputable def qka2_79 : SE := .app (.eload 1 false) [qka2_78]
@[simp] noncomputable def qka2_80 : SE := .app (.eidx 3) [.inp 5, .inp 24]
@[simp] noncomputable def qka2_81 : SE := .app (.eload 3 true) [qka2_80]
@[simp] noncomputable def qka2_82 : SE := .app (.part 2 1 false) [qka2_81]
@[simp] noncomputable def qka2_83 : SE := .app (.bin .geq) [qka2_82, qka2_67]
@[simp] noncomputable def qka2_84 : SE := .app (.bin .eql) [qka2_82, .app .len [.inp 3]]
@[simp] noncomputable def qka2_85 : SE := .app .pick [qka2_84, .inp 20, .bool false]
@[simp] noncomputable def qka2_86 : SE := .app (.un .not) [qka2_85]
@[simp] noncomputable def qka2_87 : SE := .agg [.app (.part 0 1 false) [qka2_81], .app (.part 1 1 false) [qka2_81], qka2_82]
@[simp] noncomputable def qka2_88 : SE := .app .lst [qka2_87]
@[simp] noncomputable def qka2_89 : SE := .app (.bin .geq) [qka2_67, .app .len [.inp 3]]
@[simp] noncomputable def qka2_90 : SE := .agg [.inp 1, .inp 2, .inp 3]
@[simp] noncomputable def qka2_91 : SE := .app (.part 0 1 false) [.inp 23]
@[simp] noncomputable def qka2_92 : SE := .app (.part 1 1 false) [.inp 23]
@[simp] noncomputable def qka2_93 : SE := .app (.part 2 1 false) [.inp 23]
@[simp] noncomputable def qka2_94 : SE := .app (.eidx 3) [.inp 1, .inp 2]
@[simp] noncomputable def qka2_95 : SE := .app (.eload 3 true) [qka2_11]
@[simp] noncomputable def qka2_96 : SE := .app (.eload 3 true) [qka2_94]
@[simp] noncomputable def qka2_97 : SE := .app (.bin .eql) [.inp 0, .inp 23]
@[simp] noncomputable def qka2_98 : SE := .app .pick [qka2_97, .inp 46, .bool false]
@[simp] noncomputable def qka2_99 : SE := .app .pick [qka2_98, .inp 47, .bool false]
@[simp] noncomputable def qka2_100 : SE := .app .pick [qka2_99, .inp 48, .bool false]
@[simp] noncomputable def qka2_101 : SE := .app (.bin .eql) [.inp 6, .inp 29]
@[simp] noncomputable def qka2_102 : SE := .app .pick [qka2_100, qka2_101, .bool false]
@[simp] noncomputable def qka2_103 : SE := .app (.bin .eql) [.inp 7, .inp 30]
@[simp] noncomputable def qka2_104 : SE := .app .pick [qka2_102, qka2_103, .bool false]
@[simp] noncomputable def qka2_105 : SE := .agg [.inp 8, .inp 9, .inp 10, .inp 11, .inp 12, .inp 13, .inp 14, .inp 15, .inp 16, .inp 17, .inp 18, .inp 19]
@[simp] noncomputable def qka2_106 : SE := .agg [.inp 31, .inp 32, .inp 33, .inp 34, .inp 35, .inp 36, .inp 37, .inp 38, .inp 39, .inp 40, .inp 41, .inp 42]
@[simp] noncomputable def qka2_107 : SE := .app (.eqa [ none, none, none, none, none, none, none, none, none, none, none, none] false) [qka2_105, qka2_106]
@[simp] noncomputable def qka2_108 : SE := .app .pick [qka2_104, qka2_107, .bool false]
@[simp] noncomputable def qka2_109 : SE := .app (.eqb false) [.inp 20, .inp 43]
@[simp] noncomputable def qka2_110 : SE := .app .pick [qka2_108, qka2_109, .bool false]
@[simp] noncomputable def qka2_111 : SE := .app (.bin .eql) [.inp 21, .inp 44]
@[simp] noncomputable def qka2_112 : SE := .app .pick [qka2_110, qka2_111, .bool false]
@[simp] noncomputable def qka2_113 : SE := .app (.eqb false) [.inp 22, .inp 45]
@[simp] noncomputable def qka2_114 : SE := .app (.bin .gtr) [.app .len [.inp 3], .int .i64 30]
@[simp] noncomputable def qka2_115 : SE := .app (.bin .gtr) [.app .len [.inp 4], .int .i64 20]
@[simp] noncomputable def qka2_116 : SE := .app .pick [qka2_114, .bool true, qka2_115]
@[simp] noncomputable def qka2_117 : SE := .app (.bin .gtr) [.app .len [.inp 5], .int .i64 60]
@[simp] noncomputable def qka2_118 : SE := .agg [.inp 40, .inp 41, .inp 42, .inp 43, .inp 44, .inp 45, .inp 46, .inp 47, .inp 48, .inp 49, .inp 50, .inp 51, .inp 52, .inp 53, .inp 54, .inp 55, .inp 56, .inp 57, .inp 58, .inp 59, .inp 60, .inp 61, .inp 62]
@[simp] noncomputable def qka2_119 : SE := .app (.eidx 3) [.inp 63, .inp 64]
@[simp] noncomputable def qka2_120 : SE := .app (.eoff 0) [qka2_119]
@[simp] noncomputable def qka2_121 : SE := .app (.eoff 1) [qka2_119]
@[simp] noncomputable def qka2_122 : SE := .app (.eload 1 false) [qka2_121]
@[simp] noncomputable def qka2_123 : SE := .app (.part 0 1 false) [.inp 63]
@[simp] noncomputable def qka2_124 : SE := .app (.part 1 1 false) [.inp 63]
@[simp] noncomputable def qka2_125 : SE := .app (.part 2 1 false) [.inp 63]
@[simp] noncomputable def qka2_126 : SE := .app (.part 3 1 false) [.inp 63]
@[simp] noncomputable def qka2_127 : SE := .app (.part 4 1 false) [.inp 63]
@[simp] noncomputable def qka2_128 : SE := .app (.part 5 1 false) [.inp 63]
@[simp] noncomputable def qka2_129 : SE := .app (.part 6 1 false) [.inp 63]
@[simp] noncomputable def qka2_130 : SE := .app (.part 7 1 false) [.inp 63]
@[simp] noncomputable def qka2_131 : SE := .app (.part 8 1 false) [.inp 63]
@[simp] noncomputable def qka2_132 : SE := .app (.part 9 1 false) [.inp 63]
@[simp] noncomputable def qka2_133 : SE := .app (.part 10 1 false) [.inp 63]
@[simp] noncomputable def qka2_134 : SE := .app (.part 11 1 false) [.inp 63]
@[simp] noncomputable def qka2_135 : SE := .app (.part 12 1 false) [.inp 63]
@[simp] noncomputable def qka2_136 : SE := .app (.part 13 1 false) [.inp 63]
@[simp] noncomputable def qka2_137 : SE := .app (.part 14 1 false) [.inp 63]
@[simp] noncomputable def qka2_138 : SE := .app (.part 15 1 false) [.inp 63]
@[simp] noncomputable def qka2_139 : SE := .app (.part 16 1 false) [.inp 63]
@[simp] noncomputable def qka2_140 : SE := .app (.part 17 1 false) [.inp 63]
@[simp] noncomputable def qka2_141 : SE := .app (.part 18 1 false) [.inp 63]
@[simp] noncomputable def qka2_142 : SE := .app (.part 19 1 false) [.inp 63]
@[simp] noncomputable def qka2_143 : SE := .app (.part 20 1 false) [.inp 63]
@[simp] noncomputable def qka2_144 : SE := .app (.part 21 1 false) [.inp 63]
@[simp] noncomputable def qka2_145 : SE := .app (.part 22 1 false) [.inp 63]
@[simp] noncomputable def qka2_146 : SE := .agg [qka2_123, qka2_124, qka2_125, qka2_126, qka2_127, qka2_128, qka2_129, qka2_130, qka2_131, qka2_132, qka2_133, qka2_134, qka2_135, qka2_136, qka2_137, qka2_138, qka2_139, qka2_140, qka2_141, qka2_142, qka2_143, qka2_144, qka2_145]
@[simp] noncomputable def qka2_147 : SE := .app .pick [.app (.un .not) [.inp 64], .bool true, .inp 65]
@[simp] noncomputable def qka2_148 : SE := .app .len [qka2_126]
@[simp] noncomputable def qka2_149 : SE := .app (.eidx 3) [qka2_126, .inp 66]
@[simp] noncomputable def qka2_150 : SE := .app (.eoff 0) [qka2_149]
@[simp] noncomputable def qka2_151 : SE := .app (.bin .eql) [.inp 66, .int .i64 0]
@[simp] noncomputable def qka2_152 : SE := .app (.bin .sub) [.inp 66, .int .i64 1]
@[simp] noncomputable def qka2_153 : SE := .agg [qka2_123, qka2_124, qka2_125, qka2_126, qka2_127, qka2_128, qka2_129, qka2_130, .inp 67, .inp 68, .inp 69, .inp 70, .inp 71, .inp 72, .inp 73, .inp 74, .inp 75, .inp 76, .inp 77, .inp 78, qka2_143, qka2_144, qka2_145]
@[simp] noncomputable def qka2_154 : SE := .app (.aidx 12 1 8 1 false) [qka2_153, qka2_152]
@[simp] noncomputable def qka2_155 : SE := .app .pick [qka2_151, .bool true, qka2_154]
@[simp] noncomputable def qka2_156 : SE := .app (.bin .add) [.inp 66, .int .i64 1]
@[simp] noncomputable def qka2_157 : SE := .app (.bin .lss) [.inp 79, qka2_148]
@[simp] noncomputable def qka2_158 : SE := .agg [qka2_123, qka2_124, qka2_125, qka2_126, qka2_127, qka2_128, qka2_129, .inp 79, .inp 67, .inp 68, .inp 69, .inp 70, .inp 71, .inp 72, .inp 73, .inp 74, .inp 75, .inp 76, .inp 77, .inp 78, qka2_143, qka2_144, qka2_145]
@[simp] noncomputable def qka2_159 : SE := .app (.aidx 12 1 8 1 false) [qka2_158, .inp 79]
@[simp] noncomputable def qka2_160 : SE := .app .pick [qka2_157, qka2_159, .bool false]
@[simp] noncomputable def qka2_161 : SE := .app (.eidx 3) [qka2_126, .inp 79]
@[simp] noncomputable def qka2_162 : SE := .app (.eoff 0) [qka2_161]
@[simp] noncomputable def qka2_163 : SE := .app .pick [qka2_160, .app (.un .not) [.inp 80], .bool false]
@[simp] noncomputable def qka2_164 : SE := .app (.bin .sub) [qka2_148, .int .i64 1]
@[simp] noncomputable def qka2_165 : SE := .app (.bin .eql) [.inp 79, qka2_164]
@[simp] noncomputable def qka2_166 : SE := .app (.bin .add) [.inp 79, .int .i64 1]
@[simp] noncomputable def qka2_167 : SE := .app (.aidx 12 1 8 1 false) [qka2_158, qka2_166]
@[simp] noncomputable def qka2_168 : SE := .app .pick [qka2_165, .bool true, qka2_167]
@[simp] noncomputable def qka2_169 : SE := .app (.aidx 12 1 8 1 false) [qka2_158, qka2_164]
@[simp] noncomputable def qka2_170 : SE := .app (.bin .eql) [.inp 79, qka2_148]
@[simp] noncomputable def qka2_171 : SE := .app .pick [qka2_143, .bool true, qka2_170]
@[simp] noncomputable def qka2_172 : SE := .agg [qka2_123, qka2_124, qka2_125, qka2_126, qka2_127, qka2_128, qka2_129, .inp 79, .inp 67, .inp 68, .inp 69, .inp 70, .inp 71, .inp 72, .inp 73, .inp 74, .inp 75, .inp 76, .inp 77, .inp 78, qka2_143, .inp 88, qka2_145]
@[simp] noncomputable def qka2_173 : SE := .app (.aidx 12 1 8 1 false) [qka2_172, qka2_164]
@[simp] noncomputable def qka2_174 : SE := .app (.bin .geq) [.inp 88, .inp 8]
@[simp] noncomputable def qka2_175 : SE := .app .pick [qka2_173, qka2_174, .bool false]
@[simp] noncomputable def qka2_176 : SE := .app .pick [qka2_171, .bool true, qka2_175]
@[simp] noncomputable def qka2_177 : SE := .agg [qka2_123, qka2_124, qka2_125, qka2_126, qka2_127, qka2_128, qka2_129, .inp 79, .inp 67, .inp 68, .inp 69, .inp 70, .inp 71, .inp 72, .inp 73, .inp 74, .inp 75, .inp 76, .inp 77, .inp 78, .inp 91, .inp 88, qka2_145]
@[simp] noncomputable def qka2_178 : SE := .app (.bin .geq) [qka2_144, .inp 8]
@[simp] noncomputable def qka2_179 : SE := .app .pick [qka2_169, qka2_178, .bool false]
@[simp] noncomputable def qka2_180 : SE := .app .pick [qka2_171, .bool true, qka2_179]
@[simp] noncomputable def qka2_181 : SE := .agg [qka2_123, qka2_124, qka2_125, qka2_126, qka2_127, qka2_128, qka2_129, .inp 79, .inp 67, .inp 68, .inp 69, .inp 70, .inp 71, .inp 72, .inp 73, .inp 74, .inp 75, .inp 76, .inp 77, .inp 78, .inp 90, qka2_144, qka2_145]
@[simp] noncomputable def qka2_182 : SE := .agg [qka2_123, qka2_124, qka2_125, qka2_126, qka2_127, qka2_128, .int .u8 2, qka2_130, qka2_131, qka2_132, qka2_133, qka2_134, qka2_135, qka2_136, qka2_137, qka2_138, qka2_139, qka2_140, qka2_141, qka2_142, qka2_143, qka2_144, qka2_145]
@[simp] noncomputable def qka2_183 : SE := .app (.eidx 3) [qka2_126, .int .i64 0]
@[simp] noncomputable def qka2_184 : SE := .app (.eoff 0) [qka2_183]
@[simp] noncomputable def qka2_185 : SE := .agg [.int .u8 1, .int .i64 0, .int .i64 0, .int .i64 0, .int .i64 0, .int .i64 0, .int .i64 0, .int .i64 0, .int .i64 0, .int .i64 0, .int .i64 0]
noncomputable def rt_lockbarref15_At : RT :=
.seg [.chk [] (.isAgg 11) [qka2_0]] <|
.seg [.chk [] (.isAgg 29) [qka2_1]] <|
.seg [.chk [] (.bin .lss) [.inp 40, .int .i64 0]] <|
.seg [.chk [(qka2_2, false)] .len [.inp 0]] <|
.seg [.chk [(qka2_2, false)] (.bin .geq) [.inp 40, .app .len [.inp 0]]] <|
.seg [.chk [] .pick [qka2_2, .bool true, qka2_3]] <|
.seg [.chk [(qka2_4, false)] (.eidx 11) [.inp 0, .inp 40]] <|
.seg [.chk [(qka2_4, false)] (.eoff 0) [qka2_5]] <|
.seg [.chk [(qka2_4, false)] (.eload 1 false) [qka2_6]] <|
.seg [.chk [(qka2_4, false)] (.bin .neq) [qka2_7, .int .u8 2]] <|
.seg [.chk [] .pick [qka2_4, .bool true, qka2_8]] <|
.seg [.call 41 [(qka2_9, false)] 21 [qka2_0, qka2_1] false] <|
.seg [.chk [] .pick [qka2_9, .bool true, .inp 41]] <|
.seg [.bind 42 (qka2_9),
.bind 43 (.app .pick [qka2_9, .bool true, .inp 41])] <|
.cond (.inp 43)
 (.ret (.int .i64 (-1)))
 (.seg [.call 44 [] 48 [.inp 37, .inp 40] false,
.call 45 [] 48 [.inp 38, .inp 40] false] <|
.seg [.chk [] (.eqb false) [.inp 44, .inp 45]] <|
.cond (.app (.eqb false) [.inp 44, .inp 45])
 (.ret (.int .i64 (-1)))
 (.cond (.inp 44)
 (.ret (.int .i64 0))
 (.ret (.int .i64 1))))
theorem run_lockbarref15_At : runF E 27 [.agg [.inp 0, .inp 1, .inp 2, .inp 3, .inp 4, .inp 5, .inp 6, .inp 7, .inp 8, .inp 9, .inp 10], .agg [.inp 11, .inp 12, .inp 13, .inp 14, .inp 15, .inp 16, .inp 17, .inp 18, .inp 19, .inp 20, .inp 21, .inp 22, .inp 23, .inp 24, .inp 25, .inp 26, .inp 27, .inp 28, .inp 29, .inp 30, .inp 31, .inp 32, .inp 33, .inp 34, .inp 35, .inp 36, .inp 37, .inp 38, .inp 39], .inp 40] 41 = rt_lockbarref15_At := by kernel_rfl

noncomputable def rt_lockbarref17_clash : RT :=
.loop 0 2 [.int .i64 0] <|
.seg [.chk [] .len [.inp 0]] <|
.seg [.chk [] (.bin .lss) [.inp 2, .app .len [.inp 0]]] <|
.cond (qka2_10)
 (.loop 1 3 [.int .i64 0] <|
.seg [.chk [] .len [.inp 1]] <|
.seg [.chk [] (.bin .lss) [.inp 3, .app .len [.inp 1]]] <|
.cond (.app (.bin .lss) [.inp 3, .app .len [.inp 1]])
 (.seg [.chk [] (.eidx 3) [.inp 0, .inp 2],
.chk [] (.eoff 0) [qka2_11],
.chk [] (.eload 1 false) [qka2_12],
.chk [] (.eidx 3) [.inp 1, .inp 3],
.chk [] (.eoff 0) [qka2_13],
.chk [] (.eload 1 false) [qka2_14],
.chk [] (.bin .eql) [qka2_15, qka2_16],
.chk [(qka2_17, true)] (.eidx 3) [.inp 0, .inp 2],
.chk [(qka2_17, true)] (.eoff 1) [qka2_11],
.chk [(qka2_17, true)] (.eload 1 false) [qka2_18],
.chk [(qka2_17, true)] (.eidx 3) [.inp 1, .inp 3],
.chk [(qka2_17, true)] (.eoff 1) [qka2_13],
.chk [(qka2_17, true)] (.eload 1 false) [qka2_19],
.chk [(qka2_17, true)] (.bin .neq) [qka2_20, qka2_21],
.chk [] .pick [qka2_17, qka2_22, .bool false]] <|
.seg [.bind 4 (qka2_17),
.bind 5 (qka2_22),
.bind 6 (.app .pick [qka2_17, qka2_22, .bool false])] <|
.cond (.inp 6)
 (.ret (.bool true))
 (.seg [.chk [] (.bin .add) [.inp 3, .int .i64 1]] <|
.again 1 [.app (.bin .add) [.inp 3, .int .i64 1]]))
 (.seg [.chk [] (.bin .add) [.inp 2, .int .i64 1]] <|
.again 0 [qka2_23]))
 (.ret (.bool false))
theorem run_lockbarref17_clash : runF E 47 [.inp 0, .inp 1] 2 = rt_lockbarref17_clash := by kernel_rfl

noncomputable def rt_lockbarref17_Right : RT :=
.seg [.chk [] (.isAgg 23) [qka2_24]] <|
.seg [.chk [] .len [.inp 3]] <|
.seg [.chk [] (.bin .lss) [.inp 0, .int .i64 1]] <|
.seg [.chk [(qka2_25, false)] (.bin .gtr) [.inp 0, .int .i64 1073741824]] <|
.seg [.chk [] .pick [qka2_25, .bool true, qka2_26]] <|
.seg [.chk [(qka2_27, false)] (.bin .lss) [.app .len [.inp 3], .int .i64 1]] <|
.seg [.chk [] .pick [qka2_27, .bool true, qka2_28]] <|
.seg [.chk [(qka2_29, false)] (.bin .gtr) [.app .len [.inp 3], .int .i64 12]] <|
.seg [.chk [] .pick [qka2_29, .bool true, qka2_30]] <|
.seg [.chk [(qka2_31, false)] .len [.inp 4]] <|
.seg [.chk [(qka2_31, false)] (.bin .gtr) [.app .len [.inp 4], .int .i64 2]] <|
.seg [.chk [] .pick [qka2_31, .bool true, qka2_32]] <|
.seg [.chk [(qka2_33, false)] (.bin .lss) [.inp 6, .int .u8 1]] <|
.seg [.chk [] .pick [qka2_33, .bool true, qka2_34]] <|
.seg [.chk [(qka2_35, false)] (.bin .geq) [.inp 6, .int .u8 5]] <|
.seg [.chk [] .pick [qka2_35, .bool true, qka2_36]] <|
.seg [.chk [(qka2_37, false)] (.bin .lss) [.inp 7, .int .i64 0]] <|
.seg [.chk [] .pick [qka2_37, .bool true, qka2_38]] <|
.seg [.chk [(qka2_39, false)] (.bin .gtr) [.inp 7, .app .len [.inp 3]]] <|
.seg [.chk [] .pick [qka2_39, .bool true, qka2_40]] <|
.seg [.chk [(qka2_41, false)] (.bin .lss) [.inp 21, .int .i64 0]] <|
.seg [.chk [] .pick [qka2_41, .bool true, qka2_42]] <|
.seg [.chk [(qka2_43, false)] (.bin .gtr) [.inp 21, .int .i64 1073741824]] <|
.seg [.chk [] .pick [qka2_43, .bool true, qka2_44]] <|
.seg [.call 23 [(qka2_45, false)] 47 [.inp 5, .inp 5] false] <|
.seg [.chk [] .pick [qka2_45, .bool true, .inp 23]] <|
.seg [.bind 24 (qka2_29),
.bind 25 (qka2_31),
.bind 26 (qka2_33),
.bind 27 (qka2_35),
.bind 28 (qka2_37),
.bind 29 (qka2_39),
.bind 30 (qka2_41),
.bind 31 (qka2_43),
.bind 32 (qka2_45),
.bind 33 (.app .pick [qka2_45, .bool true, .inp 23])] <|
.cond (.inp 33)
 (.ret (.bool false))
 (.seg [.chk [] (.szs 3) [.inp 3],
.chk [] .app [.app .lst [], .inp 3],
.chk [] (.szs 3) [.inp 4],
.chk [] .app [qka2_46, .inp 4]] <|
.loop 0 34 [.int .i64 0] <|
.seg [.chk [] .len [qka2_47]] <|
.seg [.chk [] (.bin .lss) [.inp 34, qka2_48]] <|
.cond (.app (.bin .lss) [.inp 34, qka2_48])
 (.loop 1 35 [.int .i64 0] <|
.seg [.chk [] (.bin .lss) [.inp 35, .inp 34]] <|
.cond (.app (.bin .lss) [.inp 35, .inp 34])
 (.seg [.chk [] (.eidx 3) [qka2_47, .inp 35],
.chk [] (.inr 4294967296) [.inp 35],
.chk [] (.rowget 3 0 1 false) [qka2_47, .inp 35],
.chk [] (.eidx 3) [qka2_47, .inp 34],
.chk [] (.inr 4294967296) [.inp 34],
.chk [] (.rowget 3 0 1 false) [qka2_47, .inp 34],
.chk [] (.bin .eql) [qka2_49, qka2_50]] <|
.seg [.bind 36 (.app (.bin .eql) [qka2_49, qka2_50])] <|
.cond (.inp 36)
 (.ret (.bool false))
 (.seg [.chk [] (.bin .add) [.inp 35, .int .i64 1]] <|
.again 1 [qka2_51]))
 (.seg [.chk [] (.bin .add) [.inp 34, .int .i64 1]] <|
.again 0 [.app (.bin .add) [.inp 34, .int .i64 1]]))
 (.loop 0 35 [.app .len [.inp 3]] <|
.seg [.chk [] (.bin .lss) [.inp 35, .int .i64 12]] <|
.cond (.app (.bin .lss) [.inp 35, .int .i64 12])
 (.seg [.chk [] (.inr 12) [.inp 35]] <|
.seg [.chk [] (.aidx 12 1 8 1 false) [qka2_24, .inp 35]] <|
.seg [.bind 36 (.app (.aidx 12 1 8 1 false) [qka2_24, .inp 35])] <|
.cond (.inp 36)
 (.ret (.bool false))
 (.seg [.chk [] (.bin .add) [.inp 35, .int .i64 1]] <|
.again 0 [qka2_51]))
 (.loop 0 36 [.int .i64 0] <|
.seg [.chk [] .len [.inp 5]] <|
.seg [.chk [] (.bin .lss) [.inp 36, .app .len [.inp 5]]] <|
.cond (.app (.bin .lss) [.inp 36, .app .len [.inp 5]])
 (.seg [.chk [] (.eidx 3) [.inp 5, .inp 36]] <|
.seg [.chk [] (.eload 3 true) [qka2_52]] <|
.seg [.chk [] (.isAgg 3) [qka2_53]] <|
.seg [.chk [] (.bin .lss) [qka2_54, .int .i64 0]] <|
.seg [.chk [(qka2_55, false)] (.bin .gtr) [qka2_54, .app .len [.inp 3]]] <|
.seg [.chk [] .pick [qka2_55, .bool true, qka2_56]] <|
.seg [.chk [(qka2_57, false)] (.bin .lss) [qka2_58, .int .i64 0]] <|
.seg [.chk [] .pick [qka2_57, .bool true, qka2_59]] <|
.seg [.chk [(qka2_60, false)] (.bin .geq) [qka2_58, .int .i64 24]] <|
.seg [.chk [] .pick [qka2_60, .bool true, qka2_61]] <|
.seg [.chk [(qka2_62, false)] (.bin .lss) [qka2_63, .int .i64 0]] <|
.seg [.chk [] .pick [qka2_62, .bool true, qka2_64]] <|
.seg [.chk [(qka2_65, false)] (.bin .gtr) [qka2_63, .int .i64 1]] <|
.seg [.chk [] .pick [qka2_65, .bool true, qka2_66]] <|
.seg [.bind 37 (qka2_57),
.bind 38 (qka2_60),
.bind 39 (qka2_62),
.bind 40 (qka2_65),
.bind 41 (.app .pick [qka2_65, .bool true, qka2_66])] <|
.cond (.inp 41)
 (.ret (.bool false))
 (.seg [.chk [] (.bin .add) [.inp 36, .int .i64 1]] <|
.again 0 [.app (.bin .add) [.inp 36, .int .i64 1]]))
 (.ret (.bool true)))))
theorem run_lockbarref17_Right : runF E 18 [.agg [.inp 0, .inp 1, .inp 2, .inp 3, .inp 4, .inp 5, .inp 6, .inp 7, .inp 8, .inp 9, .inp 10, .inp 11, .inp 12, .inp 13, .inp 14, .inp 15, .inp 16, .inp 17, .inp 18, .inp 19, .inp 20, .inp 21, .inp 22]] 23 = rt_lockbarref17_Right := by kernel_rfl

noncomputable def rt_lockbarref17_Sections : RT :=
.seg [.chk [] (.isAgg 23) [qka2_24]] <|
.seg [.chk [] (.mm true) [.inp 7, .int .i64 0]] <|
.loop 0 23 [.nils, qka2_67] <|
.seg [.chk [] .len [.inp 3]] <|
.seg [.chk [] (.bin .lss) [.inp 24, .app .len [.inp 3]]] <|
.cond (.app (.bin .lss) [.inp 24, .app .len [.inp 3]])
 (.seg [.chk [] (.eidx 3) [.inp 3, .inp 24]] <|
.seg [.chk [] (.eoff 0) [qka2_68]] <|
.seg [.chk [] (.eload 1 false) [qka2_69]] <|
.seg [.chk [] .isOne [qka2_70],
.chk [] .isOne [qka2_70]] <|
.seg [.chk [] (.szs 1) [qka2_71],
.chk [] .app [.inp 23, qka2_71]] <|
.seg [.chk [] (.bin .add) [.inp 24, .int .i64 1]] <|
.again 0 [.app .app [.inp 23, qka2_71], qka2_72])
 (.loop 0 25 [.inp 23, .int .i64 0] <|
.seg [.chk [] .len [.inp 4]] <|
.seg [.chk [] (.bin .lss) [.inp 26, .app .len [.inp 4]]] <|
.seg [.chk [(qka2_73, true)] (.un .not) [.inp 20]] <|
.seg [.chk [] .pick [qka2_73, .app (.un .not) [.inp 20], .bool false]] <|
.cond (.app .pick [qka2_73, .app (.un .not) [.inp 20], .bool false])
 (.seg [.chk [] (.eidx 3) [.inp 4, .inp 26]] <|
.seg [.chk [] (.eoff 0) [qka2_74]] <|
.seg [.chk [] (.eload 1 false) [qka2_75]] <|
.seg [.chk [] .isOne [qka2_76],
.chk [] .isOne [qka2_76]] <|
.seg [.chk [] (.szs 1) [qka2_77],
.chk [] .app [.inp 25, qka2_77]] <|
.seg [.chk [] (.bin .add) [.inp 26, .int .i64 1]] <|
.again 0 [.app .app [.inp 25, qka2_77], .app (.bin .add) [.inp 26, .int .i64 1]])
 (.ret (.inp 25)))
theorem run_lockbarref17_Sections : runF E 25 [.agg [.inp 0, .inp 1, .inp 2, .inp 3, .inp 4, .inp 5, .inp 6, .inp 7, .inp 8, .inp 9, .inp 10, .inp 11, .inp 12, .inp 13, .inp 14, .inp 15, .inp 16, .inp 17, .inp 18, .inp 19, .inp 20, .inp 21, .inp 22]] 23 = rt_lockbarref17_Sections := by kernel_rfl

noncomputable def rt_lockbarref17_Has : RT :=
.seg [.chk [] (.isAgg 23) [qka2_24]] <|
.seg [.call 24 [] 25 [qka2_24] false] <|
.loop 0 25 [.int .i64 0] <|
.seg [.chk [] .len [.inp 24]] <|
.seg [.chk [] (.bin .lss) [.inp 25, .app .len [.inp 24]]] <|
.cond (.app (.bin .lss) [.inp 25, .app .len [.inp 24]])
 (.seg [.chk [] (.eidx 1) [.inp 24, .inp 25]] <|
.seg [.chk [] (.eload 1 false) [qka2_78]] <|
.seg [.chk [] (.bin .eql) [qka2_79, .inp 23]] <|
.cond (.app (.bin .eql) [qka2_79, .inp 23])
 (.ret (.bool true))
 (.seg [.chk [] (.bin .add) [.inp 25, .int .i64 1]] <|
.again 0 [.app (.bin .add) [.inp 25, .int .i64 1]]))
 (.ret (.bool false))
theorem run_lockbarref17_Has : runF E 28 [.agg [.inp 0, .inp 1, .inp 2, .inp 3, .inp 4, .inp 5, .inp 6, .inp 7, .inp 8, .inp 9, .inp 10, .inp 11, .inp 12, .inp 13, .inp 14, .inp 15, .inp 16, .inp 17, .inp 18, .inp 19, .inp 20, .inp 21, .inp 22], .inp 23] 24 = rt_lockbarref17_Has := by kernel_rfl

noncomputable def rt_lockbarref17_Needs : RT :=
.seg [.chk [] (.isAgg 23) [qka2_24]] <|
.loop 0 23 [.nils, .int .i64 0] <|
.seg [.chk [] .len [.inp 5]] <|
.seg [.chk [] (.bin .lss) [.inp 24, .app .len [.inp 5]]] <|
.cond (.app (.bin .lss) [.inp 24, .app .len [.inp 5]])
 (.seg [.chk [] (.eidx 3) [.inp 5, .inp 24]] <|
.seg [.chk [] (.eload 3 true) [qka2_80]] <|
.seg [.chk [] (.isAgg 3) [qka2_81]] <|
.seg [.chk [] (.mm true) [.inp 7, .int .i64 0]] <|
.seg [.chk [] (.bin .geq) [qka2_82, qka2_67]] <|
.seg [.chk [(qka2_83, true)] .len [.inp 3]] <|
.seg [.chk [(qka2_83, true)] (.bin .eql) [qka2_82, .app .len [.inp 3]]] <|
.seg [.chk [(qka2_83, true)] .pick [qka2_84, .inp 20, .bool false]] <|
.seg [.chk [(qka2_83, true)] (.un .not) [qka2_85]] <|
.seg [.chk [] .pick [qka2_83, qka2_86, .bool false]] <|
.seg [.bind 25 (qka2_85),
.bind 26 (qka2_86),
.bind 27 (.app .pick [qka2_83, qka2_86, .bool false])] <|
.cond (.inp 27)
 (.seg [.chk [] (.isAgg 3) [qka2_87]] <|
.seg [.chk [] (.szs 3) [qka2_88],
.chk [] .app [.inp 23, qka2_88]] <|
.seg [.bind 28 (qka2_88),
.bind 29 (.app .app [.inp 23, qka2_88])] <|
.seg [.chk [] (.bin .add) [.inp 24, .int .i64 1]] <|
.again 0 [.inp 29, qka2_72])
 (.seg [.chk [] (.bin .add) [.inp 24, .int .i64 1]] <|
.again 0 [.inp 23, qka2_72]))
 (.ret (.inp 23))
theorem run_lockbarref17_Needs : runF E 26 [.agg [.inp 0, .inp 1, .inp 2, .inp 3, .inp 4, .inp 5, .inp 6, .inp 7, .inp 8, .inp 9, .inp 10, .inp 11, .inp 12, .inp 13, .inp 14, .inp 15, .inp 16, .inp 17, .inp 18, .inp 19, .inp 20, .inp 21, .inp 22]] 23 = rt_lockbarref17_Needs := by kernel_rfl

noncomputable def rt_lockbarref17_Over : RT :=
.seg [.chk [] (.isAgg 23) [qka2_24]] <|
.seg [.chk [] (.mm true) [.inp 7, .int .i64 0]] <|
.seg [.chk [] .len [.inp 3]] <|
.seg [.chk [] (.bin .geq) [qka2_67, .app .len [.inp 3]]] <|
.seg [.chk [] .pick [qka2_89, .inp 20, .bool false]] <|
.ret (.app .pick [qka2_89, .inp 20, .bool false])
theorem run_lockbarref17_Over : runF E 24 [.agg [.inp 0, .inp 1, .inp 2, .inp 3, .inp 4, .inp 5, .inp 6, .inp 7, .inp 8, .inp 9, .inp 10, .inp 11, .inp 12, .inp 13, .inp 14, .inp 15, .inp 16, .inp 17, .inp 18, .inp 19, .inp 20, .inp 21, .inp 22]] 23 = rt_lockbarref17_Over := by kernel_rfl

noncomputable def rt_lockbarref17_Own : RT :=
.seg [.chk [] (.isAgg 23) [qka2_24]] <|
.seg [.call 23 [] 62 [qka2_90] false] <|
.seg [.chk [] (.isAgg 3) [.inp 23]] <|
.seg [.chk [] (.szs 3) [.inp 4],
.chk [] .app [.app .lst [], .inp 4]] <|
.seg [.chk [] (.szs 3) [.inp 5],
.chk [] .app [.app .lst [], .inp 5]] <|
.seg [.chk [] (.isAgg 23) [.agg [.inp 0, qka2_91, qka2_92, qka2_93, .row 20, .row 32, .inp 6, .inp 7, .inp 8, .inp 9, .inp 10, .inp 11, .inp 12, .inp 13, .inp 14, .inp 15, .inp 16, .inp 17, .inp 18, .inp 19, .inp 20, .inp 21, .inp 22]]] <|
.ret (.agg [.inp 0, qka2_91, qka2_92, qka2_93, .app .app [.app .lst [], .inp 4], .app .app [.app .lst [], .inp 5], .inp 6, .inp 7, .inp 8, .inp 9, .inp 10, .inp 11, .inp 12, .inp 13, .inp 14, .inp 15, .inp 16, .inp 17, .inp 18, .inp 19, .inp 20, .inp 21, .inp 22])
theorem run_lockbarref17_Own : runF E 45 [.agg [.inp 0, .inp 1, .inp 2, .inp 3, .inp 4, .inp 5, .inp 6, .inp 7, .inp 8, .inp 9, .inp 10, .inp 11, .inp 12, .inp 13, .inp 14, .inp 15, .inp 16, .inp 17, .inp 18, .inp 19, .inp 20, .inp 21, .inp 22]] 23 = rt_lockbarref17_Own := by kernel_rfl

noncomputable def rt_lockbarref17_All : RT :=
.seg [.chk [] .len [.inp 0]] <|
.seg [.chk [] .len [.inp 1]] <|
.seg [.chk [] (.bin .neq) [.app .len [.inp 0], .app .len [.inp 1]]] <|
.cond (.app (.bin .neq) [.app .len [.inp 0], .app .len [.inp 1]])
 (.ret (.bool false))
 (.loop 0 2 [.int .i64 0] <|
.seg [.chk [] .len [.inp 0]] <|
.seg [.chk [] (.bin .lss) [.inp 2, .app .len [.inp 0]]] <|
.cond (qka2_10)
 (.seg [.chk [] (.eidx 3) [.inp 0, .inp 2],
.chk [] (.eload 3 true) [qka2_11],
.chk [] (.eidx 3) [.inp 1, .inp 2],
.chk [] (.eload 3 true) [qka2_94],
.chk [] (.eqa [ some .i64, some .i64, some .i64] true) [qka2_95, qka2_96]] <|
.cond (.app (.eqa [ some .i64, some .i64, some .i64] true) [qka2_95, qka2_96])
 (.ret (.bool false))
 (.seg [.chk [] (.bin .add) [.inp 2, .int .i64 1]] <|
.again 0 [qka2_23]))
 (.ret (.bool true)))
theorem run_lockbarref17_All : runF E 36 [.inp 0, .inp 1] 2 = rt_lockbarref17_All := by kernel_rfl

noncomputable def rt_lockbarref17_Same : RT :=
.seg [.chk [] (.isAgg 23) [qka2_24]] <|
.seg [.chk [] (.isAgg 23) [.agg [.inp 23, .inp 24, .inp 25, .inp 26, .inp 27, .inp 28, .inp 29, .inp 30, .inp 31, .inp 32, .inp 33, .inp 34, .inp 35, .inp 36, .inp 37, .inp 38, .inp 39, .inp 40, .inp 41, .inp 42, .inp 43, .inp 44, .inp 45]]] <|
.seg [.chk [] (.bin .eql) [.inp 0, .inp 23]] <|
.seg [.call 46 [(qka2_97, true)] 34 [qka2_90, .agg [.inp 24, .inp 25, .inp 26]] false] <|
.seg [.chk [] .pick [qka2_97, .inp 46, .bool false]] <|
.seg [.call 47 [(qka2_98, true)] 35 [.inp 4, .inp 27] false] <|
.seg [.chk [] .pick [qka2_98, .inp 47, .bool false]] <|
.seg [.call 48 [(qka2_99, true)] 36 [.inp 5, .inp 28] false] <|
.seg [.chk [] .pick [qka2_99, .inp 48, .bool false]] <|
.seg [.chk [(qka2_100, true)] (.bin .eql) [.inp 6, .inp 29]] <|
.seg [.chk [] .pick [qka2_100, qka2_101, .bool false]] <|
.seg [.chk [(qka2_102, true)] (.bin .eql) [.inp 7, .inp 30]] <|
.seg [.chk [] .pick [qka2_102, qka2_103, .bool false]] <|
.seg [.chk [(qka2_104, true)] (.eqa [ none, none, none, none, none, none, none, none, none, none, none, none] false) [qka2_105, qka2_106]] <|
.seg [.chk [] .pick [qka2_104, qka2_107, .bool false]] <|
.seg [.chk [(qka2_108, true)] (.eqb false) [.inp 20, .inp 43]] <|
.seg [.chk [] .pick [qka2_108, qka2_109, .bool false]] <|
.seg [.chk [(qka2_110, true)] (.bin .eql) [.inp 21, .inp 44]] <|
.seg [.chk [] .pick [qka2_110, qka2_111, .bool false]] <|
.seg [.chk [(qka2_112, true)] (.eqb false) [.inp 22, .inp 45]] <|
.seg [.chk [] .pick [qka2_112, qka2_113, .bool false]] <|
.seg [.bind 49 (.app .pick [qka2_112, qka2_113, .bool false]),
.bind 50 (qka2_100),
.bind 51 (qka2_102),
.bind 52 (qka2_104),
.bind 53 (qka2_107),
.bind 54 (qka2_108),
.bind 55 (qka2_110),
.bind 56 (qka2_112)] <|
.ret (.inp 49)
theorem run_lockbarref17_Same : runF E 13 [.agg [.inp 0, .inp 1, .inp 2, .inp 3, .inp 4, .inp 5, .inp 6, .inp 7, .inp 8, .inp 9, .inp 10, .inp 11, .inp 12, .inp 13, .inp 14, .inp 15, .inp 16, .inp 17, .inp 18, .inp 19, .inp 20, .inp 21, .inp 22], .agg [.inp 23, .inp 24, .inp 25, .inp 26, .inp 27, .inp 28, .inp 29, .inp 30, .inp 31, .inp 32, .inp 33, .inp 34, .inp 35, .inp 36, .inp 37, .inp 38, .inp 39, .inp 40, .inp 41, .inp 42, .inp 43, .inp 44, .inp 45]] 46 = rt_lockbarref17_Same := by kernel_rfl

noncomputable def rt_lockbarref17_Great : RT :=
.seg [.chk [] (.isAgg 23) [qka2_24]] <|
.seg [.chk [] .len [.inp 3]] <|
.seg [.chk [] (.bin .gtr) [.app .len [.inp 3], .int .i64 30]] <|
.seg [.chk [(qka2_114, false)] .len [.inp 4]] <|
.seg [.chk [(qka2_114, false)] (.bin .gtr) [.app .len [.inp 4], .int .i64 20]] <|
.seg [.chk [] .pick [qka2_114, .bool true, qka2_115]] <|
.seg [.chk [(qka2_116, false)] .len [.inp 5]] <|
.seg [.chk [(qka2_116, false)] (.bin .gtr) [.app .len [.inp 5], .int .i64 60]] <|
.seg [.chk [] .pick [qka2_116, .bool true, qka2_117]] <|
.seg [.bind 23 (.app .pick [qka2_116, .bool true, qka2_117]),
.bind 24 (qka2_116)] <|
.ret (.inp 23)
theorem run_lockbarref17_Great : runF E 9 [.agg [.inp 0, .inp 1, .inp 2, .inp 3, .inp 4, .inp 5, .inp 6, .inp 7, .inp 8, .inp 9, .inp 10, .inp 11, .inp 12, .inp 13, .inp 14, .inp 15, .inp 16, .inp 17, .inp 18, .inp 19, .inp 20, .inp 21, .inp 22]] 23 = rt_lockbarref17_Great := by kernel_rfl

noncomputable def rt_lockbarref21_Stands : RT :=
.seg [.chk [] (.isAgg 11) [qka2_0]] <|
.seg [.chk [] (.isAgg 29) [qka2_1]] <|
.seg [.chk [] (.isAgg 23) [qka2_118]] <|
.seg [.call 63 [] 26 [qka2_118] false] <|
.loop 0 64 [.int .i64 0] <|
.seg [.chk [] .len [.inp 63]] <|
.seg [.chk [] (.bin .lss) [.inp 64, .app .len [.inp 63]]] <|
.cond (.app (.bin .lss) [.inp 64, .app .len [.inp 63]])
 (.seg [.chk [] (.eidx 3) [.inp 63, .inp 64],
.chk [] (.eoff 0) [qka2_119],
.chk [] (.eload 1 false) [qka2_120],
.call 65 [] 27 [qka2_0, qka2_1, .app (.eload 1 false) [qka2_120]] false,
.chk [] (.eidx 3) [.inp 63, .inp 64],
.chk [] (.eoff 1) [qka2_119],
.chk [] (.eload 1 false) [qka2_121],
.chk [] (.bin .neq) [.inp 65, qka2_122]] <|
.cond (.app (.bin .neq) [.inp 65, qka2_122])
 (.ret (.bool false))
 (.seg [.chk [] (.bin .add) [.inp 64, .int .i64 1]] <|
.again 0 [.app (.bin .add) [.inp 64, .int .i64 1]]))
 (.ret (.bool true))
theorem run_lockbarref21_Stands : runF E 12 [.agg [.inp 0, .inp 1, .inp 2, .inp 3, .inp 4, .inp 5, .inp 6, .inp 7, .inp 8, .inp 9, .inp 10], .agg [.inp 11, .inp 12, .inp 13, .inp 14, .inp 15, .inp 16, .inp 17, .inp 18, .inp 19, .inp 20, .inp 21, .inp 22, .inp 23, .inp 24, .inp 25, .inp 26, .inp 27, .inp 28, .inp 29, .inp 30, .inp 31, .inp 32, .inp 33, .inp 34, .inp 35, .inp 36, .inp 37, .inp 38, .inp 39], .agg [.inp 40, .inp 41, .inp 42, .inp 43, .inp 44, .inp 45, .inp 46, .inp 47, .inp 48, .inp 49, .inp 50, .inp 51, .inp 52, .inp 53, .inp 54, .inp 55, .inp 56, .inp 57, .inp 58, .inp 59, .inp 60, .inp 61, .inp 62]] 63 = rt_lockbarref21_Stands := by kernel_rfl

noncomputable def rt_lockbarref21_Run : RT :=
.seg [.chk [] (.isAgg 11) [qka2_0]] <|
.seg [.chk [] (.isAgg 29) [qka2_1]] <|
.seg [.chk [] (.isAgg 23) [qka2_118]] <|
.seg [.call 63 [] 45 [qka2_118] false] <|
.seg [.chk [] (.isAgg 23) [.inp 63]] <|
.seg [.call 64 [] 18 [qka2_146] false] <|
.seg [.chk [] (.un .not) [.inp 64]] <|
.seg [.call 65 [(.app (.un .not) [.inp 64], false)] 21 [qka2_0, qka2_1] false] <|
.seg [.chk [] .pick [.app (.un .not) [.inp 64], .bool true, .inp 65]] <|
.cond (qka2_147)
 (.seg [.chk [] (.isAgg 23) [qka2_146]] <|
.ret (qka2_146))
 (.seg [.chk [] .len [qka2_126]] <|
.loop 0 66 [qka2_130, qka2_131, qka2_132, qka2_133, qka2_134, qka2_135, qka2_136, qka2_137, qka2_138, qka2_139, qka2_140, qka2_141, qka2_142] <|
.seg [.chk [] (.bin .lss) [.inp 66, qka2_148]] <|
.cond (.app (.bin .lss) [.inp 66, qka2_148])
 (.seg [.chk [] (.eidx 3) [qka2_126, .inp 66],
.chk [] (.eoff 0) [qka2_149],
.chk [] (.eload 1 false) [qka2_150],
.call 79 [] 19 [qka2_0, qka2_1, .app (.eload 1 false) [qka2_150]] false,
.chk [(.inp 79, true)] (.bin .eql) [.inp 66, .int .i64 0],
.chk [(qka2_151, false), (.inp 79, true)] (.bin .sub) [.inp 66, .int .i64 1],
.chk [(qka2_151, false), (.inp 79, true)] (.inr 12) [qka2_152],
.chk [(qka2_151, false), (.inp 79, true)] (.aidx 12 1 8 1 false) [qka2_153, qka2_152],
.chk [(.inp 79, true)] .pick [qka2_151, .bool true, qka2_154],
.chk [] .pick [.inp 79, qka2_155, .bool false]] <|
.seg [.bind 80 (qka2_154),
.bind 81 (qka2_155),
.bind 82 (.app .pick [.inp 79, qka2_155, .bool false])] <|
.cond (.inp 82)
 (.seg [.chk [] (.inr 12) [.inp 66]] <|
.seg [.chk [] (.inr 12) [.inp 66]] <|
.seg [.chk [] (.bin .add) [.inp 66, .int .i64 1]] <|
.again 0 [qka2_156, .app (.cellset 8 12 1 0 1 8) [.inp 66, .inp 67, .agg [.bool true]], .app (.cellset 8 12 1 0 1 9) [.inp 66, .inp 68, .agg [.bool true]], .app (.cellset 8 12 1 0 1 10) [.inp 66, .inp 69, .agg [.bool true]], .app (.cellset 8 12 1 0 1 11) [.inp 66, .inp 70, .agg [.bool true]], .app (.cellset 8 12 1 0 1 12) [.inp 66, .inp 71, .agg [.bool true]], .app (.cellset 8 12 1 0 1 13) [.inp 66, .inp 72, .agg [.bool true]], .app (.cellset 8 12 1 0 1 14) [.inp 66, .inp 73, .agg [.bool true]], .app (.cellset 8 12 1 0 1 15) [.inp 66, .inp 74, .agg [.bool true]], .app (.cellset 8 12 1 0 1 16) [.inp 66, .inp 75, .agg [.bool true]], .app (.cellset 8 12 1 0 1 17) [.inp 66, .inp 76, .agg [.bool true]], .app (.cellset 8 12 1 0 1 18) [.inp 66, .inp 77, .agg [.bool true]], .app (.cellset 8 12 1 0 1 19) [.inp 66, .inp 78, .agg [.bool true]]])
 (.seg [.chk [] (.bin .add) [.inp 66, .int .i64 1]] <|
.again 0 [qka2_156, .inp 67, .inp 68, .inp 69, .inp 70, .inp 71, .inp 72, .inp 73, .inp 74, .inp 75, .inp 76, .inp 77, .inp 78]))
 (.loop 0 79 [qka2_130] <|
.seg [.chk [] (.bin .lss) [.inp 79, qka2_148],
.chk [(qka2_157, true)] (.inr 12) [.inp 79],
.chk [(qka2_157, true)] (.aidx 12 1 8 1 false) [qka2_158, .inp 79],
.chk [] .pick [qka2_157, qka2_159, .bool false],
.chk [(qka2_160, true)] (.eidx 3) [qka2_126, .inp 79],
.chk [(qka2_160, true)] (.eoff 0) [qka2_161],
.chk [(qka2_160, true)] (.eload 1 false) [qka2_162],
.call 80 [(qka2_160, true)] 20 [qka2_0, qka2_1, .app (.eload 1 false) [qka2_162]] false,
.chk [(qka2_160, true)] (.un .not) [.inp 80],
.chk [] .pick [qka2_160, .app (.un .not) [.inp 80], .bool false],
.chk [(qka2_163, true)] (.bin .sub) [qka2_148, .int .i64 1],
.chk [(qka2_163, true)] (.bin .eql) [.inp 79, qka2_164],
.chk [(qka2_165, false), (qka2_163, true)] (.bin .add) [.inp 79, .int .i64 1],
.chk [(qka2_165, false), (qka2_163, true)] (.inr 12) [qka2_166],
.chk [(qka2_165, false), (qka2_163, true)] (.aidx 12 1 8 1 false) [qka2_158, qka2_166],
.chk [(qka2_163, true)] .pick [qka2_165, .bool true, qka2_167],
.chk [] .pick [qka2_163, qka2_168, .bool false]] <|
.seg [.bind 81 (qka2_159),
.bind 82 (qka2_160),
.bind 83 (qka2_163),
.bind 84 (qka2_167),
.bind 85 (qka2_168),
.bind 86 (.app .pick [qka2_163, qka2_168, .bool false])] <|
.cond (.inp 86)
 (.seg [.chk [] (.bin .add) [.inp 79, .int .i64 1]] <|
.seg [.chk [] .isOne [qka2_166]] <|
.again 0 [qka2_166])
 (.seg [.chk [] (.bin .sub) [qka2_148, .int .i64 1]] <|
.seg [.chk [] (.inr 12) [qka2_164]] <|
.seg [.chk [] (.aidx 12 1 8 1 false) [qka2_158, qka2_164]] <|
.seg [.bind 87 (qka2_169)] <|
.cond (.inp 87)
 (.seg [.call 88 [] 46 [qka2_144] false] <|
.seg [.chk [] .isOne [.inp 88]] <|
.seg [.chk [(qka2_143, false)] (.bin .eql) [.inp 79, qka2_148]] <|
.seg [.chk [] .pick [qka2_143, .bool true, qka2_170]] <|
.seg [.chk [(qka2_171, false)] (.bin .sub) [qka2_148, .int .i64 1]] <|
.seg [.chk [(qka2_171, false)] (.inr 12) [qka2_164]] <|
.seg [.chk [(qka2_171, false)] (.aidx 12 1 8 1 false) [qka2_172, qka2_164]] <|
.seg [.chk [(qka2_173, true), (qka2_171, false)] (.bin .geq) [.inp 88, .inp 8]] <|
.seg [.chk [(qka2_171, false)] .pick [qka2_173, qka2_174, .bool false]] <|
.seg [.chk [] .pick [qka2_171, .bool true, qka2_175]] <|
.seg [.chk [] .isOne [qka2_176]] <|
.seg [.bind 89 (qka2_173),
.bind 90 (qka2_175),
.bind 91 (qka2_176)] <|
.seg [.chk [] (.isAgg 23) [qka2_177]] <|
.ret (qka2_177))
 (.seg [.chk [(qka2_143, false)] (.bin .eql) [.inp 79, qka2_148]] <|
.seg [.chk [] .pick [qka2_143, .bool true, qka2_170]] <|
.seg [.chk [(qka2_171, false)] (.bin .sub) [qka2_148, .int .i64 1]] <|
.seg [.chk [(qka2_171, false)] (.inr 12) [qka2_164]] <|
.seg [.chk [(qka2_171, false)] (.aidx 12 1 8 1 false) [qka2_158, qka2_164]] <|
.seg [.chk [(qka2_169, true), (qka2_171, false)] (.bin .geq) [qka2_144, .inp 8]] <|
.seg [.chk [(qka2_171, false)] .pick [qka2_169, qka2_178, .bool false]] <|
.seg [.chk [] .pick [qka2_171, .bool true, qka2_179]] <|
.seg [.chk [] .isOne [qka2_180]] <|
.seg [.bind 88 (qka2_169),
.bind 89 (qka2_179),
.bind 90 (qka2_180)] <|
.seg [.chk [] (.isAgg 23) [qka2_181]] <|
.ret (qka2_181)))))
theorem run_lockbarref21_Run : runF E 15 [.agg [.inp 0, .inp 1, .inp 2, .inp 3, .inp 4, .inp 5, .inp 6, .inp 7, .inp 8, .inp 9, .inp 10], .agg [.inp 11, .inp 12, .inp 13, .inp 14, .inp 15, .inp 16, .inp 17, .inp 18, .inp 19, .inp 20, .inp 21, .inp 22, .inp 23, .inp 24, .inp 25, .inp 26, .inp 27, .inp 28, .inp 29, .inp 30, .inp 31, .inp 32, .inp 33, .inp 34, .inp 35, .inp 36, .inp 37, .inp 38, .inp 39], .agg [.inp 40, .inp 41, .inp 42, .inp 43, .inp 44, .inp 45, .inp 46, .inp 47, .inp 48, .inp 49, .inp 50, .inp 51, .inp 52, .inp 53, .inp 54, .inp 55, .inp 56, .inp 57, .inp 58, .inp 59, .inp 60, .inp 61, .inp 62]] 63 = rt_lockbarref21_Run := by kernel_rfl

noncomputable def rt_lockbarref21_Tick : RT :=
.seg [.chk [] (.isAgg 11) [qka2_0]] <|
.seg [.chk [] (.isAgg 29) [qka2_1]] <|
.seg [.chk [] (.isAgg 23) [qka2_118]] <|
.seg [.call 63 [] 45 [qka2_118] false] <|
.seg [.chk [] (.isAgg 23) [.inp 63]] <|
.seg [.call 64 [] 18 [qka2_146] false] <|
.seg [.chk [] (.un .not) [.inp 64]] <|
.seg [.call 65 [(.app (.un .not) [.inp 64], false)] 21 [qka2_0, qka2_1] false] <|
.seg [.chk [] .pick [.app (.un .not) [.inp 64], .bool true, .inp 65]] <|
.cond (qka2_147)
 (.seg [.chk [] (.isAgg 23) [qka2_146]] <|
.ret (qka2_146))
 (.seg [.chk [] (.bin .eql) [qka2_129, .int .u8 1]] <|
.cond (.app (.bin .eql) [qka2_129, .int .u8 1])
 (.seg [.call 66 [] 12 [qka2_0, qka2_1, qka2_146] false] <|
.cond (.inp 66)
 (.seg [.chk [] (.isAgg 23) [qka2_182]] <|
.ret (qka2_182))
 (.seg [.chk [] (.isAgg 23) [qka2_146]] <|
.ret (qka2_146)))
 (.seg [.chk [] (.bin .eql) [qka2_129, .int .u8 2]] <|
.cond (.app (.bin .eql) [qka2_129, .int .u8 2])
 (.seg [.chk [] (.eidx 3) [qka2_126, .int .i64 0],
.chk [] (.eoff 0) [qka2_183],
.chk [] (.eload 1 false) [qka2_184],
.call 66 [] 19 [qka2_0, qka2_1, .app (.eload 1 false) [qka2_184]] false] <|
.cond (.inp 66)
 (.seg [.call 67 [] 15 [qka2_0, qka2_1, .agg [qka2_123, qka2_124, qka2_125, qka2_126, qka2_127, qka2_128, .int .u8 3, qka2_130, qka2_131, qka2_132, qka2_133, qka2_134, qka2_135, qka2_136, qka2_137, qka2_138, qka2_139, qka2_140, qka2_141, qka2_142, qka2_143, .int .i64 0, qka2_145]] false] <|
.seg [.chk [] (.isAgg 23) [.inp 67]] <|
.ret (.agg [.app (.part 0 1 false) [.inp 67], .app (.part 1 1 false) [.inp 67], .app (.part 2 1 false) [.inp 67], .app (.part 3 1 false) [.inp 67], .app (.part 4 1 false) [.inp 67], .app (.part 5 1 false) [.inp 67], .app (.part 6 1 false) [.inp 67], .app (.part 7 1 false) [.inp 67], .app (.part 8 1 false) [.inp 67], .app (.part 9 1 false) [.inp 67], .app (.part 10 1 false) [.inp 67], .app (.part 11 1 false) [.inp 67], .app (.part 12 1 false) [.inp 67], .app (.part 13 1 false) [.inp 67], .app (.part 14 1 false) [.inp 67], .app (.part 15 1 false) [.inp 67], .app (.part 16 1 false) [.inp 67], .app (.part 17 1 false) [.inp 67], .app (.part 18 1 false) [.inp 67], .app (.part 19 1 false) [.inp 67], .app (.part 20 1 false) [.inp 67], .app (.part 21 1 false) [.inp 67], .app (.part 22 1 false) [.inp 67]]))
 (.seg [.chk [] (.isAgg 23) [qka2_146]] <|
.ret (qka2_146)))
 (.seg [.chk [] (.bin .eql) [qka2_129, .int .u8 3]] <|
.cond (.app (.bin .eql) [qka2_129, .int .u8 3])
 (.seg [.call 66 [] 15 [qka2_0, qka2_1, qka2_146] false] <|
.seg [.chk [] (.isAgg 23) [.inp 66]] <|
.ret (.agg [.app (.part 0 1 false) [.inp 66], .app (.part 1 1 false) [.inp 66], .app (.part 2 1 false) [.inp 66], .app (.part 3 1 false) [.inp 66], .app (.part 4 1 false) [.inp 66], .app (.part 5 1 false) [.inp 66], .app (.part 6 1 false) [.inp 66], .app (.part 7 1 false) [.inp 66], .app (.part 8 1 false) [.inp 66], .app (.part 9 1 false) [.inp 66], .app (.part 10 1 false) [.inp 66], .app (.part 11 1 false) [.inp 66], .app (.part 12 1 false) [.inp 66], .app (.part 13 1 false) [.inp 66], .app (.part 14 1 false) [.inp 66], .app (.part 15 1 false) [.inp 66], .app (.part 16 1 false) [.inp 66], .app (.part 17 1 false) [.inp 66], .app (.part 18 1 false) [.inp 66], .app (.part 19 1 false) [.inp 66], .app (.part 20 1 false) [.inp 66], .app (.part 21 1 false) [.inp 66], .app (.part 22 1 false) [.inp 66]]))
 (.seg [.chk [] (.isAgg 23) [qka2_146]] <|
.ret (qka2_146)))))
theorem run_lockbarref21_Tick : runF E 17 [.agg [.inp 0, .inp 1, .inp 2, .inp 3, .inp 4, .inp 5, .inp 6, .inp 7, .inp 8, .inp 9, .inp 10], .agg [.inp 11, .inp 12, .inp 13, .inp 14, .inp 15, .inp 16, .inp 17, .inp 18, .inp 19, .inp 20, .inp 21, .inp 22, .inp 23, .inp 24, .inp 25, .inp 26, .inp 27, .inp 28, .inp 29, .inp 30, .inp 31, .inp 32, .inp 33, .inp 34, .inp 35, .inp 36, .inp 37, .inp 38, .inp 39], .agg [.inp 40, .inp 41, .inp 42, .inp 43, .inp 44, .inp 45, .inp 46, .inp 47, .inp 48, .inp 49, .inp 50, .inp 51, .inp 52, .inp 53, .inp 54, .inp 55, .inp 56, .inp 57, .inp 58, .inp 59, .inp 60, .inp 61, .inp 62]] 63 = rt_lockbarref21_Tick := by kernel_rfl

noncomputable def rt_lockbarlaw21_tell : RT :=
.seg [.chk [] (.isAgg 11) [qka2_0]] <|
.seg [.chk [] (.isAgg 29) [qka2_1]] <|
.seg [.chk [] .isOne [.inp 40]] <|
.seg [.call 41 [] 50 [qka2_0, qka2_1, .agg [.inp 40, .int .u32 0, .int .u32 0, .int .u32 0]] false] <|
.seg [.chk [] (.isAgg 29) [.inp 41]] <|
.ret (.agg [.app (.part 0 1 false) [.inp 41], .app (.part 1 1 false) [.inp 41], .app (.part 2 1 false) [.inp 41], .app (.part 3 1 false) [.inp 41], .app (.part 4 1 false) [.inp 41], .app (.part 5 1 false) [.inp 41], .app (.part 6 1 false) [.inp 41], .app (.part 7 1 false) [.inp 41], .app (.part 8 1 false) [.inp 41], .app (.part 9 1 false) [.inp 41], .app (.part 10 1 false) [.inp 41], .app (.part 11 1 false) [.inp 41], .app (.part 12 1 false) [.inp 41], .app (.part 13 1 false) [.inp 41], .app (.part 14 1 false) [.inp 41], .app (.part 15 1 false) [.inp 41], .app (.part 16 1 false) [.inp 41], .app (.part 17 1 false) [.inp 41], .app (.part 18 1 false) [.inp 41], .app (.part 19 1 false) [.inp 41], .app (.part 20 1 false) [.inp 41], .app (.part 21 1 false) [.inp 41], .app (.part 22 1 false) [.inp 41], .app (.part 23 1 false) [.inp 41], .app (.part 24 1 false) [.inp 41], .app (.part 25 1 false) [.inp 41], .app (.part 26 1 false) [.inp 41], .app (.part 27 1 false) [.inp 41], .app (.part 28 1 false) [.inp 41]])
theorem run_lockbarlaw21_tell : runF E 23 [.agg [.inp 0, .inp 1, .inp 2, .inp 3, .inp 4, .inp 5, .inp 6, .inp 7, .inp 8, .inp 9, .inp 10], .agg [.inp 11, .inp 12, .inp 13, .inp 14, .inp 15, .inp 16, .inp 17, .inp 18, .inp 19, .inp 20, .inp 21, .inp 22, .inp 23, .inp 24, .inp 25, .inp 26, .inp 27, .inp 28, .inp 29, .inp 30, .inp 31, .inp 32, .inp 33, .inp 34, .inp 35, .inp 36, .inp 37, .inp 38, .inp 39], .inp 40] 41 = rt_lockbarlaw21_tell := by kernel_rfl

noncomputable def rt_lockbarlaw21_two : RT :=
.seg [.bind 0 (.app .lst [qka2_185, qka2_185])] <|
.ret (.tup [.agg [.inp 0, .nils, .nils, .nils, .int .i64 1, .int .i64 0, .int .i64 2, .int .i64 0, .int .i64 5, .int .i64 0, .int .i64 0], .agg [.int .i64 1, .int .i64 0, .int .i64 0, .app .lst [.agg [.int .i64 0, .int .i64 0, .int .i64 1], .agg [.int .i64 1, .int .i64 0, .int .i64 1]], .nils, .nils, .int .u8 2, .int .i64 0, .bool false, .bool false, .bool false, .bool false, .bool false, .bool false, .bool false, .bool false, .bool false, .bool false, .bool false, .bool false, .bool false, .int .i64 0, .bool false]])
theorem run_lockbarlaw21_two : runF E 29 [] 0 = rt_lockbarlaw21_two := by kernel_rfl

end Go.Lb.LK

namespace Go.Lb.LK
open Go Go.Lb Go.Proofs
@[simp] noncomputable def qka3_0 : SE := .agg [.app (.part 0 1 false) [.app (.tproj 0) [.inp 0]], .app (.part 1 1 false) [.app (.tproj 0) [.inp 0]], .app (.part 2 1 false) [.app (.tproj 0) [.inp 0]], .app (.part 3 1 false) [.app (.tproj 0) [.inp 0]], .app (.part 4 1 false) [.app (.tproj 0) [.inp 0]], .app (.part 5 1 false) [.app (.tproj 0) [.inp 0]], .app (.part 6 1 false) [.app (.tproj 0) [.inp 0]], .app (.part 7 1 false) [.app (.tproj 0) [.inp 0]], .app (.part 8 1 false) [.app (.tproj 0) [.inp 0]], .app (.part 9 1 false) [.app (.tproj 0) [.inp 0]], .app (.part 10 1 false) [.app (.tproj 0) [.inp 0]]]
@[simp] noncomputable def qka3_1 : SE := .agg [.app (.part 0 1 false) [.inp 2], .app (.part 1 1 false) [.inp 2], .app (.part 2 1 false) [.inp 2], .app (.part 3 1 false) [.inp 2], .app (.part 4 1 false) [.inp 2], .app (.part 5 1 false) [.inp 2], .app (.part 6 1 false) [.inp 2], .app (.part 7 1 false) [.inp 2], .app (.part 8 1 false) [.inp 2], .app (.part 9 1 false) [.inp 2], .app (.part 10 1 false) [.inp 2], .app (.part 11 1 false) [.inp 2], .app (.part 12 1 false) [.inp 2], .app (.part 13 1 false) [.inp 2], .app (.part 14 1 false) [.inp 2], .app (.part 15 1 false) [.inp 2], .app (.part 16 1 false) [.inp 2], .app (.part 17 1 false) [.inp 2], .app (.part 18 1 false) [.inp 2], .app (.part 19 1 false) [.inp 2], .app (.part 20 1 false) [.inp 2], .app (.part 21 1 false) [.inp 2], .app (.part 22 1 false) [.inp 2], .app (.part 23 1 false) [.inp 2], .app (.part 24 1 false) [.inp 2], .app (.part 25 1 false) [.inp 2], .app (.part 26 1 false) [.inp 2], .app (.part 27 1 false) [.inp 2], .app (.part 28 1 false) [.inp 2]]
@[simp] noncomputable def qka3_2 : SE := .app (.part 0 1 false) [.app (.tproj 1) [.inp 0]]
@[simp] noncomputable def qka3_3 : SE := .app (.part 1 1 false) [.app (.tproj 1) [.inp 0]]
@[simp] noncomputable def qka3_4 : SE := .app (.part 2 1 false) [.app (.tproj 1) [.inp 0]]
@[simp] noncomputable def qka3_5 : SE := .app (.part 3 1 false) [.app (.tproj 1) [.inp 0]]
@[simp] noncomputable def qka3_6 : SE := .app (.part 4 1 false) [.app (.tproj 1) [.inp 0]]
@[simp] noncomputable def qka3_7 : SE := .app (.part 5 1 false) [.app (.tproj 1) [.inp 0]]
@[simp] noncomputable def qka3_8 : SE := .app (.part 7 1 false) [.app (.tproj 1) [.inp 0]]
@[simp] noncomputable def qka3_9 : SE := .app (.part 8 1 false) [.app (.tproj 1) [.inp 0]]
@[simp] noncomputable def qka3_10 : SE := .app (.part 9 1 false) [.app (.tproj 1) [.inp 0]]
@[simp] noncomputable def qka3_11 : SE := .app (.part 10 1 false) [.app (.tproj 1) [.inp 0]]
@[simp] noncomputable def qka3_12 : SE := .app (.part 11 1 false) [.app (.tproj 1) [.inp 0]]
@[simp] noncomputable def qka3_13 : SE := .app (.part 12 1 false) [.app (.tproj 1) [.inp 0]]
@[simp] noncomputable def qka3_14 : SE := .app (.part 13 1 false) [.app (.tproj 1) [.inp 0]]
@[simp] noncomputable def qka3_15 : SE := .app (.part 14 1 false) [.app (.tproj 1) [.inp 0]]
@[simp] noncomputable def qka3_16 : SE := .app (.part 15 1 false) [.app (.tproj 1) [.inp 0]]
@[simp] noncomputable def qka3_17 : SE := .app (.part 16 1 false) [.app (.tproj 1) [.inp 0]]
@[simp] noncomputable def qka3_18 : SE := .app (.part 17 1 false) [.app (.tproj 1) [.inp 0]]
@[simp] noncomputable def qka3_19 : SE := .app (.part 18 1 false) [.app (.tproj 1) [.inp 0]]
@[simp] noncomputable def qka3_20 : SE := .app (.part 19 1 false) [.app (.tproj 1) [.inp 0]]
@[simp] noncomputable def qka3_21 : SE := .app (.part 20 1 false) [.app (.tproj 1) [.inp 0]]
@[simp] noncomputable def qka3_22 : SE := .app (.part 21 1 false) [.app (.tproj 1) [.inp 0]]
@[simp] noncomputable def qka3_23 : SE := .app (.part 22 1 false) [.app (.tproj 1) [.inp 0]]
@[simp] noncomputable def qka3_24 : SE := .agg [qka3_2, qka3_3, qka3_4, qka3_5, qka3_6, qka3_7, .app (.part 6 1 false) [.app (.tproj 1) [.inp 0]], qka3_8, qka3_9, qka3_10, qka3_11, qka3_12, qka3_13, qka3_14, qka3_15, qka3_16, qka3_17, qka3_18, qka3_19, qka3_20, qka3_21, qka3_22, qka3_23]
@[simp] noncomputable def qka3_25 : SE := .agg [.app (.part 0 1 false) [.inp 4], .app (.part 1 1 false) [.inp 4], .app (.part 2 1 false) [.inp 4], .app (.part 3 1 false) [.inp 4], .app (.part 4 1 false) [.inp 4], .app (.part 5 1 false) [.inp 4], .app (.part 6 1 false) [.inp 4], .app (.part 7 1 false) [.inp 4], .app (.part 8 1 false) [.inp 4], .app (.part 9 1 false) [.inp 4], .app (.part 10 1 false) [.inp 4], .app (.part 11 1 false) [.inp 4], .app (.part 12 1 false) [.inp 4], .app (.part 13 1 false) [.inp 4], .app (.part 14 1 false) [.inp 4], .app (.part 15 1 false) [.inp 4], .app (.part 16 1 false) [.inp 4], .app (.part 17 1 false) [.inp 4], .app (.part 18 1 false) [.inp 4], .app (.part 19 1 false) [.inp 4], .app (.part 20 1 false) [.inp 4], .app (.part 21 1 false) [.inp 4], .app (.part 22 1 false) [.inp 4], .app (.part 23 1 false) [.inp 4], .app (.part 24 1 false) [.inp 4], .app (.part 25 1 false) [.inp 4], .app (.part 26 1 false) [.inp 4], .app (.part 27 1 false) [.inp 4], .app (.part 28 1 false) [.inp 4]]
@[simp] noncomputable def qka3_26 : SE := .app (.part 6 1 false) [.inp 3]
@[simp] noncomputable def qka3_27 : SE := .app (.part 7 1 false) [.inp 3]
@[simp] noncomputable def qka3_28 : SE := .app (.part 8 1 false) [.inp 3]
@[simp] noncomputable def qka3_29 : SE := .app (.part 9 1 false) [.inp 3]
@[simp] noncomputable def qka3_30 : SE := .agg [.app (.part 0 1 false) [.inp 3], .app (.part 1 1 false) [.inp 3], .app (.part 2 1 false) [.inp 3], .app (.part 3 1 false) [.inp 3], .app (.part 4 1 false) [.inp 3], .app (.part 5 1 false) [.inp 3], qka3_26, qka3_27, qka3_28, qka3_29, .app (.part 10 1 false) [.inp 3], .app (.part 11 1 false) [.inp 3], .app (.part 12 1 false) [.inp 3], .app (.part 13 1 false) [.inp 3], .app (.part 14 1 false) [.inp 3], .app (.part 15 1 false) [.inp 3], .app (.part 16 1 false) [.inp 3], .app (.part 17 1 false) [.inp 3], .app (.part 18 1 false) [.inp 3], .app (.part 19 1 false) [.inp 3], .app (.part 20 1 false) [.inp 3], .app (.part 21 1 false) [.inp 3], .app (.part 22 1 false) [.inp 3]]
@[simp] noncomputable def qka3_31 : SE := .agg [.app (.part 0 1 false) [.inp 6], .app (.part 1 1 false) [.inp 6], .app (.part 2 1 false) [.inp 6], .app (.part 3 1 false) [.inp 6], .app (.part 4 1 false) [.inp 6], .app (.part 5 1 false) [.inp 6], .app (.part 6 1 false) [.inp 6], .app (.part 7 1 false) [.inp 6], .app (.part 8 1 false) [.inp 6], .app (.part 9 1 false) [.inp 6], .app (.part 10 1 false) [.inp 6], .app (.part 11 1 false) [.inp 6], .app (.part 12 1 false) [.inp 6], .app (.part 13 1 false) [.inp 6], .app (.part 14 1 false) [.inp 6], .app (.part 15 1 false) [.inp 6], .app (.part 16 1 false) [.inp 6], .app (.part 17 1 false) [.inp 6], .app (.part 18 1 false) [.inp 6], .app (.part 19 1 false) [.inp 6], .app (.part 20 1 false) [.inp 6], .app (.part 21 1 false) [.inp 6], .app (.part 22 1 false) [.inp 6], .app (.part 23 1 false) [.inp 6], .app (.part 24 1 false) [.inp 6], .app (.part 25 1 false) [.inp 6], .app (.part 26 1 false) [.inp 6], .app (.part 27 1 false) [.inp 6], .app (.part 28 1 false) [.inp 6]]
@[simp] noncomputable def qka3_32 : SE := .app (.part 7 1 false) [.inp 5]
@[simp] noncomputable def qka3_33 : SE := .app (.part 9 1 false) [.inp 5]
@[simp] noncomputable def qka3_34 : SE := .app (.part 21 1 false) [.inp 5]
@[simp] noncomputable def qka3_35 : SE := .app (.part 7 1 false) [.inp 7]
@[simp] noncomputable def qka3_36 : SE := .app (.part 20 1 false) [.inp 7]
@[simp] noncomputable def qka3_37 : SE := .app (.slice false true) [qka3_5, .int .i64 1]
@[simp] noncomputable def qka3_38 : SE := .agg [qka3_2, qka3_3, qka3_4, qka3_5, qka3_6, qka3_7, .int .u8 1, qka3_8, qka3_9, qka3_10, qka3_11, qka3_12, qka3_13, qka3_14, qka3_15, qka3_16, qka3_17, qka3_18, qka3_19, qka3_20, qka3_21, qka3_22, qka3_23]
@[simp] noncomputable def qka3_39 : SE := .app (.bin .eql) [qka3_26, .int .u8 3]
@[simp] noncomputable def qka3_40 : SE := .app .pick [qka3_39, qka3_28, .bool false]
@[simp] noncomputable def qka3_41 : SE := .app (.un .not) [qka3_29]
@[simp] noncomputable def qka3_42 : SE := .app .pick [qka3_40, qka3_41, .bool false]
@[simp] noncomputable def qka3_43 : SE := .app (.bin .eql) [qka3_27, .int .i64 0]
@[simp] noncomputable def qka3_44 : SE := .app .pick [qka3_42, qka3_43, .bool false]
@[simp] noncomputable def qka3_45 : SE := .app .pick [qka3_44, qka3_33, .bool false]
@[simp] noncomputable def qka3_46 : SE := .app (.bin .eql) [qka3_32, .int .i64 0]
@[simp] noncomputable def qka3_47 : SE := .app .pick [qka3_45, qka3_46, .bool false]
@[simp] noncomputable def qka3_48 : SE := .app (.bin .eql) [qka3_34, .int .i64 1]
@[simp] noncomputable def qka3_49 : SE := .app .pick [qka3_47, qka3_48, .bool false]
@[simp] noncomputable def qka3_50 : SE := .app (.bin .eql) [qka3_35, .int .i64 1]
@[simp] noncomputable def qka3_51 : SE := .app .pick [qka3_49, qka3_50, .bool false]
@[simp] noncomputable def qka3_52 : SE := .app (.un .not) [qka3_36]
@[simp] noncomputable def qka3_53 : SE := .app .pick [qka3_51, qka3_52, .bool false]
@[simp] noncomputable def qka3_54 : SE := .app (.part 7 1 false) [.inp 9]
@[simp] noncomputable def qka3_55 : SE := .app (.bin .eql) [qka3_54, .int .i64 2]
@[simp] noncomputable def qka3_56 : SE := .app .pick [qka3_53, qka3_55, .bool false]
@[simp] noncomputable def qka3_57 : SE := .app (.part 20 1 false) [.inp 9]
@[simp] noncomputable def qka3_58 : SE := .app .pick [qka3_56, qka3_57, .bool false]
@[simp] noncomputable def qka3_59 : SE := .app (.part 7 1 false) [.inp 11]
@[simp] noncomputable def qka3_60 : SE := .app (.bin .eql) [qka3_59, .int .i64 1]
@[simp] noncomputable def qka3_61 : SE := .app .pick [qka3_58, qka3_60, .bool false]
@[simp] noncomputable def qka3_62 : SE := .app (.part 20 1 false) [.inp 11]
@[simp] noncomputable def qka3_63 : SE := .app .pick [qka3_61, qka3_62, .bool false]
@[simp] noncomputable def qka3_64 : SE := .app (.part 6 1 false) [.inp 12]
@[simp] noncomputable def qka3_65 : SE := .app (.bin .eql) [qka3_64, .int .u8 2]
@[simp] noncomputable def qka3_66 : SE := .app .pick [qka3_63, qka3_65, .bool false]
@[simp] noncomputable def qka3_67 : SE := .agg [qka3_2, qka3_3, qka3_4, qka3_5, qka3_6, .app .lst [.agg [.int .i64 1, .int .i64 1, .int .i64 0]], .int .u8 1, qka3_8, qka3_9, qka3_10, qka3_11, qka3_12, qka3_13, qka3_14, qka3_15, qka3_16, qka3_17, qka3_18, qka3_19, qka3_20, qka3_21, qka3_22, qka3_23]
@[simp] noncomputable def qka3_68 : SE := .app .pick [qka3_66, .app (.un .not) [.inp 13], .bool false]
@[simp] noncomputable def qka3_69 : SE := .app (.part 6 1 false) [.inp 14]
@[simp] noncomputable def qka3_70 : SE := .app (.bin .eql) [qka3_69, .int .u8 1]
@[simp] noncomputable def qka3_71 : SE := .app .pick [qka3_68, qka3_70, .bool false]
@[simp] noncomputable def qka3_72 : SE := .app .pick [qka3_71, .inp 15, .bool false]
noncomputable def rt_lockbarlaw21_wakes : RT :=
.seg [.call 0 [] 29 [] false] <|
.seg [.chk [] (.tproj 0) [.inp 0]] <|
.seg [.chk [] (.tproj 1) [.inp 0]] <|
.seg [.chk [] (.isAgg 11) [.app (.tproj 0) [.inp 0]]] <|
.seg [.chk [] (.isAgg 23) [.app (.tproj 1) [.inp 0]]] <|
.seg [.call 1 [] 22 [] false,
.call 2 [] 23 [qka3_0, .inp 1, .int .u32 1] false,
.chk [] (.isAgg 29) [.inp 2]] <|
.seg [.call 3 [] 16 [qka3_0, qka3_1, qka3_24] false] <|
.seg [.chk [] (.isAgg 23) [.inp 3]] <|
.seg [.call 4 [] 23 [qka3_0, qka3_1, .int .u32 3] false] <|
.seg [.chk [] (.isAgg 29) [.inp 4]] <|
.seg [.call 5 [] 16 [qka3_0, qka3_25, qka3_30] false] <|
.seg [.chk [] (.isAgg 23) [.inp 5]] <|
.seg [.call 6 [] 23 [qka3_0, qka3_25, .int .u32 2] false] <|
.seg [.chk [] (.isAgg 29) [.inp 6]] <|
.seg [.call 7 [] 16 [qka3_0, qka3_31, .agg [.app (.part 0 1 false) [.inp 5], .app (.part 1 1 false) [.inp 5], .app (.part 2 1 false) [.inp 5], .app (.part 3 1 false) [.inp 5], .app (.part 4 1 false) [.inp 5], .app (.part 5 1 false) [.inp 5], .app (.part 6 1 false) [.inp 5], qka3_32, .app (.part 8 1 false) [.inp 5], qka3_33, .app (.part 10 1 false) [.inp 5], .app (.part 11 1 false) [.inp 5], .app (.part 12 1 false) [.inp 5], .app (.part 13 1 false) [.inp 5], .app (.part 14 1 false) [.inp 5], .app (.part 15 1 false) [.inp 5], .app (.part 16 1 false) [.inp 5], .app (.part 17 1 false) [.inp 5], .app (.part 18 1 false) [.inp 5], .app (.part 19 1 false) [.inp 5], .app (.part 20 1 false) [.inp 5], qka3_34, .app (.part 22 1 false) [.inp 5]]] false] <|
.seg [.chk [] (.isAgg 23) [.inp 7]] <|
.seg [.call 8 [] 23 [qka3_0, qka3_31, .int .u32 0] false,
.call 9 [] 16 [qka3_0, .inp 8, .agg [.app (.part 0 1 false) [.inp 7], .app (.part 1 1 false) [.inp 7], .app (.part 2 1 false) [.inp 7], .app (.part 3 1 false) [.inp 7], .app (.part 4 1 false) [.inp 7], .app (.part 5 1 false) [.inp 7], .app (.part 6 1 false) [.inp 7], qka3_35, .app (.part 8 1 false) [.inp 7], .app (.part 9 1 false) [.inp 7], .app (.part 10 1 false) [.inp 7], .app (.part 11 1 false) [.inp 7], .app (.part 12 1 false) [.inp 7], .app (.part 13 1 false) [.inp 7], .app (.part 14 1 false) [.inp 7], .app (.part 15 1 false) [.inp 7], .app (.part 16 1 false) [.inp 7], .app (.part 17 1 false) [.inp 7], .app (.part 18 1 false) [.inp 7], .app (.part 19 1 false) [.inp 7], qka3_36, .app (.part 21 1 false) [.inp 7], .app (.part 22 1 false) [.inp 7]]] false,
.chk [] (.isAgg 23) [.inp 9]] <|
.seg [.chk [] (.isAgg 23) [qka3_24]] <|
.seg [.chk [] (.szs 3) [qka3_5],
.chk [] (.slice false true) [qka3_5, .int .i64 1]] <|
.seg [.chk [] .isOne [qka3_37]] <|
.seg [.call 10 [] 23 [qka3_0, qka3_31, .int .u32 0] false,
.call 11 [] 14 [qka3_0, .inp 10, .agg [qka3_2, qka3_3, qka3_4, qka3_37, qka3_6, qka3_7, .int .u8 3, qka3_8, .bool true, qka3_10, qka3_11, qka3_12, qka3_13, qka3_14, qka3_15, qka3_16, qka3_17, qka3_18, qka3_19, qka3_20, qka3_21, qka3_22, qka3_23]] false,
.chk [] (.isAgg 23) [.inp 11]] <|
.seg [.chk [] (.isAgg 23) [qka3_24]] <|
.seg [.chk [] (.isAgg 23) [qka3_38]] <|
.seg [.chk [] (.bin .eql) [qka3_26, .int .u8 3],
.chk [] .pick [qka3_39, qka3_28, .bool false],
.chk [(qka3_40, true)] (.un .not) [qka3_29],
.chk [] .pick [qka3_40, qka3_41, .bool false],
.chk [(qka3_42, true)] (.bin .eql) [qka3_27, .int .i64 0],
.chk [] .pick [qka3_42, qka3_43, .bool false],
.chk [] .pick [qka3_44, qka3_33, .bool false],
.chk [(qka3_45, true)] (.bin .eql) [qka3_32, .int .i64 0],
.chk [] .pick [qka3_45, qka3_46, .bool false],
.chk [(qka3_47, true)] (.bin .eql) [qka3_34, .int .i64 1],
.chk [] .pick [qka3_47, qka3_48, .bool false],
.chk [(qka3_49, true)] (.bin .eql) [qka3_35, .int .i64 1],
.chk [] .pick [qka3_49, qka3_50, .bool false],
.chk [(qka3_51, true)] (.un .not) [qka3_36],
.chk [] .pick [qka3_51, qka3_52, .bool false],
.chk [(qka3_53, true)] (.bin .eql) [qka3_54, .int .i64 2],
.chk [] .pick [qka3_53, qka3_55, .bool false],
.chk [] .pick [qka3_56, qka3_57, .bool false],
.chk [(qka3_58, true)] (.bin .eql) [qka3_59, .int .i64 1],
.chk [] .pick [qka3_58, qka3_60, .bool false],
.chk [] .pick [qka3_61, qka3_62, .bool false],
.call 12 [(qka3_63, true)] 16 [qka3_0, qka3_31, qka3_38] false,
.chk [(qka3_63, true)] (.part 6 1 false) [.inp 12],
.chk [(qka3_63, true)] (.bin .eql) [qka3_64, .int .u8 2],
.chk [] .pick [qka3_63, qka3_65, .bool false],
.call 13 [(qka3_66, true)] 11 [qka3_0, qka3_31, qka3_67] true,
.chk [(qka3_66, true)] (.un .not) [.inp 13],
.chk [] .pick [qka3_66, .app (.un .not) [.inp 13], .bool false],
.call 14 [(qka3_68, true)] 16 [qka3_0, qka3_31, qka3_67] false,
.chk [(qka3_68, true)] (.part 6 1 false) [.inp 14],
.chk [(qka3_68, true)] (.bin .eql) [qka3_69, .int .u8 1],
.chk [] .pick [qka3_68, qka3_70, .bool false],
.call 15 [(qka3_71, true)] 11 [qka3_0, qka3_31, qka3_24] false,
.chk [] .pick [qka3_71, .inp 15, .bool false],
.call 16 [(qka3_72, true)] 22 [] false,
.call 17 [(qka3_72, true)] 16 [qka3_0, .inp 16, qka3_30] false,
.call 18 [(qka3_72, true)] 13 [.inp 17, qka3_30] false,
.chk [] .pick [qka3_72, .inp 18, .bool false]] <|
.seg [.bind 19 (.app .pick [qka3_72, .inp 18, .bool false]),
.bind 20 (qka3_42),
.bind 21 (qka3_44),
.bind 22 (qka3_45),
.bind 23 (qka3_47),
.bind 24 (qka3_49),
.bind 25 (qka3_51),
.bind 26 (qka3_53),
.bind 27 (qka3_56),
.bind 28 (qka3_58),
.bind 29 (qka3_61),
.bind 30 (qka3_63),
.bind 31 (qka3_66),
.bind 32 (qka3_68),
.bind 33 (qka3_71),
.bind 34 (qka3_72)] <|
.ret (.inp 19)
theorem run_lockbarlaw21_wakes : runF E 10 [] 0 = rt_lockbarlaw21_wakes := by kernel_rfl

end Go.Lb.LK


namespace Go.Proofs
open Go.Shelf
def Tryd.lays125_ren : Go.Shelf.Ren := ⟨fun | 125 => 82 | 128 => 94 | 129 => 95 | n => n, fun | 46 => 61 | 3 => 3 | 51 => 31 | 53 => 120 | 4 => 4 | 5 => 5 | 9 => 9 | n => n, fun | n => n⟩
theorem Tryd.lays125 : Go.Proofs.Lays.n125 Tryd.prog Tryd.lays125_ren := {
  mixed := by kernel_rfl
  f125 := Tryd.func82.trans (congrArg some (by kernel_rfl))
  f128 := Tryd.func94.trans (congrArg some (by kernel_rfl))
  f129 := Tryd.func95.trans (congrArg some (by kernel_rfl))
  t3 := Tryd.underlying3
  a3 := Tryd.isAgg3
  z3 := Tryd.sizeOf3
  v3 := Tryd.zeroValue3
  t4 := Tryd.underlying4
  a4 := Tryd.isAgg4
  z4 := Tryd.sizeOf4
  v4 := Tryd.zeroValue4
  t5 := Tryd.underlying5
  a5 := Tryd.isAgg5
  z5 := Tryd.sizeOf5
  v5 := Tryd.zeroValue5
  t9 := Tryd.underlying9
  a9 := Tryd.isAgg9
  z9 := Tryd.sizeOf9
  v9 := Tryd.zeroValue9
  t46 := Tryd.underlying61
  a46 := Tryd.isAgg61
  z46 := Tryd.sizeOf61
  v46 := Tryd.zeroValue61
  t51 := Tryd.underlying31
  a51 := Tryd.isAgg31
  z51 := Tryd.sizeOf31
  v51 := Tryd.zeroValue31
  t53 := Tryd.underlying120
  a53 := Tryd.isAgg120
  z53 := Tryd.sizeOf120
  v53 := Tryd.zeroValue120 }
/-- bits.Len: "Len returns the minimum number of bits required to represent x; the result is 0 for x == 0.": IT RETURNS 'Lib.bitLen x'; the world is as it was. (A uint has 64 bits in the model.) ITS CALLEE bits.Len64 IS MET BY ITS OWN CONTRACT OFF THE SHELF (lay that first). (LAID: no walk: one application.) -/
theorem Tryd.bits_Len (x : Int) (w : World) (h0 : 0 ≤ x) (h1 : x ≤ 18446744073709551615) :
    Calls Tryd.prog 82 #[.int .u64 x] w fun e w' => e = .returned (.int .i64 (Lib.bitLen x.toNat)) ∧ w' = w := Any.bits_Len Tryd.lays125 x w h0 h1
def Tryd.lays189_ren : Go.Shelf.Ren := ⟨fun | 189 => 71 | 125 => 82 | 257 => 81 | 128 => 94 | 129 => 95 | 294 => 85 | 295 => 86 | 296 => 87 | 297 => 88 | 298 => 89 | 299 => 90 | 216 => 91 | 300 => 92 | 301 => 93 | 328 => 97 | 329 => 98 | 330 => 99 | 331 => 100 | 332 => 101 | 215 => 102 | 343 => 103 | n => n, fun | 28 => 62 | 3 => 3 | 46 => 61 | 0 => 0 | 51 => 31 | 53 => 120 | 4 => 4 | 183 => 112 | 182 => 111 | 131 => 116 | 5 => 5 | 9 => 9 | 218 => 121 | 222 => 125 | 228 => 127 | 229 => 128 | n => n, fun | n => n⟩
theorem Tryd.lays189 : Go.Proofs.Lays.n189 Tryd.prog Tryd.lays189_ren := {
  mixed := by kernel_rfl
  f125 := Tryd.func82.trans (congrArg some (by kernel_rfl))
  f128 := Tryd.func94.trans (congrArg some (by kernel_rfl))
  f129 := Tryd.func95.trans (congrArg some (by kernel_rfl))
  f189 := Tryd.func71.trans (congrArg some (by kernel_rfl))
  f215 := Tryd.func102.trans (congrArg some (by kernel_rfl))
  f216 := Tryd.func91.trans (congrArg some (by kernel_rfl))
  f257 := Tryd.func81.trans (congrArg some (by kernel_rfl))
  f294 := Tryd.func85.trans (congrArg some (by kernel_rfl))
  f295 := Tryd.func86.trans (congrArg some (by kernel_rfl))
  f296 := Tryd.func87.trans (congrArg some (by kernel_rfl))
  f297 := Tryd.func88.trans (congrArg some (by kernel_rfl))
  f298 := Tryd.func89.trans (congrArg some (by kernel_rfl))
  f299 := Tryd.func90.trans (congrArg some (by kernel_rfl))
  f300 := Tryd.func92.trans (congrArg some (by kernel_rfl))
  f301 := Tryd.func93.trans (congrArg some (by kernel_rfl))
  f328 := Tryd.func97.trans (congrArg some (by kernel_rfl))
  f329 := Tryd.func98.trans (congrArg some (by kernel_rfl))
  f330 := Tryd.func99.trans (congrArg some (by kernel_rfl))
  f331 := Tryd.func100.trans (congrArg some (by kernel_rfl))
  f332 := Tryd.func101.trans (congrArg some (by kernel_rfl))
  f343 := Tryd.func103.trans (congrArg some (by kernel_rfl))
  t0 := Tryd.underlying0
  a0 := Tryd.isAgg0
  z0 := Tryd.sizeOf0
  v0 := Tryd.zeroValue0
  t3 := Tryd.underlying3
  a3 := Tryd.isAgg3
  z3 := Tryd.sizeOf3
  v3 := Tryd.zeroValue3
  t4 := Tryd.underlying4
  a4 := Tryd.isAgg4
  z4 := Tryd.sizeOf4
  v4 := Tryd.zeroValue4
  t5 := Tryd.underlying5
  a5 := Tryd.isAgg5
  z5 := Tryd.sizeOf5
  v5 := Tryd.zeroValue5
  t9 := Tryd.underlying9
  a9 := Tryd.isAgg9
  z9 := Tryd.sizeOf9
  v9 := Tryd.zeroValue9
  t28 := Tryd.underlying62
  a28 := Tryd.isAgg62
  z28 := Tryd.sizeOf62
  v28 := Tryd.zeroValue62
  t46 := Tryd.underlying61
  a46 := Tryd.isAgg61
  z46 := Tryd.sizeOf61
  v46 := Tryd.zeroValue61
  t51 := Tryd.underlying31
  a51 := Tryd.isAgg31
  z51 := Tryd.sizeOf31
  v51 := Tryd.zeroValue31
  t53 := Tryd.underlying120
  a53 := Tryd.isAgg120
  z53 := Tryd.sizeOf120
  v53 := Tryd.zeroValue120
  t131 := Tryd.underlying116
  a131 := Tryd.isAgg116
  z131 := Tryd.sizeOf116
  v131 := Tryd.zeroValue116
  t182 := Tryd.underlying111
  a182 := Tryd.isAgg111
  z182 := Tryd.sizeOf111
  v182 := Tryd.zeroValue111
  t183 := Tryd.underlying112
  a183 := Tryd.isAgg112
  z183 := Tryd.sizeOf112
  v183 := Tryd.zeroValue112
  t218 := Tryd.underlying121
  a218 := Tryd.isAgg121
  z218 := Tryd.sizeOf121
  v218 := Tryd.zeroValue121
  t222 := Tryd.underlying125
  a222 := Tryd.isAgg125
  z222 := Tryd.sizeOf125
  v222 := Tryd.zeroValue125
  t228 := Tryd.underlying127
  a228 := Tryd.isAgg127
  z228 := Tryd.sizeOf127
  v228 := Tryd.zeroValue127
  t229 := Tryd.underlying128
  a229 := Tryd.isAgg128
  z229 := Tryd.sizeOf128
  v229 := Tryd.zeroValue128 }
open Go.Sort Go.RowKit in
theorem Tryd.slices_Sort_int (blk off cap : Nat) (zs : List Int) (w : World) (hH : Holds (Value.int .i64) w blk off zs.toArray) (hblk : blk < w.heap.size) (hsz : zs.length < 4611686018427387904) :
    Calls Tryd.prog 71 #[.slice (some ⟨blk, off, none⟩) zs.length cap] w fun e w' =>
      e = .returned (.tuple #[]) ∧ ∃ n os, w' = grow (putRow (Value.int .i64) (Sort.ahead w n) blk off (zs.mergeSort fun x y => decide (x ≤ y)).toArray) os := Any.slices_Sort_int Tryd.lays189 blk off cap zs w hH hblk hsz
def Tryd.laysNm220_ren : Go.Shelf.Ren := ⟨fun | 20 => 72 | n => n, fun | 22 => 62 | 3 => 3 | 4 => 4 | 0 => 0 | n => n, fun | n => n⟩
theorem Tryd.laysNm220 : Go.Proofs.Lays2.n20 Tryd.prog Tryd.laysNm220_ren := {
  mixed := by kernel_rfl
  f20 := Tryd.func72.trans (congrArg some (by kernel_rfl))
  t0 := Tryd.underlying0
  a0 := Tryd.isAgg0
  z0 := Tryd.sizeOf0
  v0 := Tryd.zeroValue0
  t3 := Tryd.underlying3
  a3 := Tryd.isAgg3
  z3 := Tryd.sizeOf3
  v3 := Tryd.zeroValue3
  t4 := Tryd.underlying4
  a4 := Tryd.isAgg4
  z4 := Tryd.sizeOf4
  v4 := Tryd.zeroValue4
  t22 := Tryd.underlying62
  a22 := Tryd.isAgg62
  z22 := Tryd.sizeOf62
  v22 := Tryd.zeroValue62
  i3 := by kernel_rfl }
open Go.RowKit Go.Lib Go.Sort in
/-- slices.Compact at []int: "Compact replaces consecutive runs of equal elements with a single copy. This is like the uniq command found on Unix. Compact modifies the contents of the slice s and returns the modified slice, which may have a smaller length. Compact zeroes the elements between the new length and the original length. The result preserves the nilness of s.": IT RETURNS THE SLICE CUT TO 'Lib.compact zs'; ITS CELLS HOLD 'Lib.compact zs', THEN ZERO VALUES up to the old length; all else is as it was, but for the count of draws. IN THE WORDS OF slices.Sort's CONTRACT ('Holds', 'putRow'): so the everyday 'slices.Sort(xs); xs = slices.Compact(xs)' goes from the one contract to the other. It asks 'zs.length ≤ cap' (every slice's: the reslicing 's[:k]' looks at it). Length 0, nil: '.._empty'. (LAID: no walk: one application.) -/
theorem Tryd.slices_Compact_int (blk off cap : Nat) (zs : List Int) (w : World) (hH : Holds (Value.int .i64) w blk off zs.toArray) (hsz : zs.length ≤ 9223372036854775807) (hcap : zs.length ≤ cap) :
    Calls Tryd.prog 72 #[.slice (some ⟨blk, off, none⟩) zs.length cap] w fun e w' => e = .returned (.slice (some ⟨blk, off, none⟩) (Lib.compact zs).length cap) ∧ ∃ q, w' = putRow (Value.int .i64) (Sort.ahead w q) blk off (Lib.compact zs ++ List.replicate (zs.length - (Lib.compact zs).length) 0).toArray := Any.slices_Compact_int Tryd.laysNm220 blk off cap zs w hH hsz hcap
open Go.RowKit Go.Lib Go.Sort in
/-- The same at a slice of length 0, a nil one too: it comes back as it is. (LAID: no walk: one application.) -/
theorem Tryd.slices_Compact_int_empty (a : Option Addr) (cap : Nat) (w : World) :
    Calls Tryd.prog 72 #[.slice a 0 cap] w fun e w' => e = .returned (.slice a 0 cap) ∧ w' = w := Any.slices_Compact_int_empty Tryd.laysNm220 a cap w
end Go.Proofs

namespace Go.Lb.LK
open Go Go.Lb

structure Port where
  s : Int
  p : Int
  deriving DecidableEq
def Port.cells (x : Port) : List AV := [I x.s, I x.p]
abbrev Port.av (x : Port) : AV := .agg x.cells

structure Sec where
  kind : Int
  j0 : Port
  j1 : Port
  j2 : Port
  j3 : Port
  c0 : Int
  c1 : Int
  deriving DecidableEq
def Sec.cells (x : Sec) : List AV := [U x.kind, I x.j0.s, I x.j0.p, I x.j1.s, I x.j1.p, I x.j2.s, I x.j2.p, I x.j3.s, I x.j3.p, I x.c0, I x.c1]
abbrev Sec.av (x : Sec) : AV := .agg x.cells

structure Step where
  s : Int
  i : Int
  o : Int
  deriving DecidableEq
def Step.cells (x : Step) : List AV := [I x.s, I x.i, I x.o]
abbrev Step.av (x : Step) : AV := .agg x.cells

structure Exi where
  a : Port
  over : List Step
  deriving DecidableEq
def Exi.cells (x : Exi) : List AV := [I x.a.s, I x.a.p, .sl (x.over.map Step.av)]
abbrev Exi.av (x : Exi) : AV := .agg x.cells

structure Flank where
  s : Int
  way : Int
  point : Int
  pos : Int
  deriving DecidableEq
def Flank.cells (x : Flank) : List AV := [I x.s, I x.way, I x.point, I x.pos]
abbrev Flank.av (x : Flank) : AV := .agg x.cells

structure Lay where
  secs : List Sec
  sigs : List Port
  exits : List Exi
  flanks : List Flank
  clear : Int
  drive : Int
  stale : Int
  approach : Int
  over : Int
  press : Int
  link : Int
  deriving DecidableEq
def Lay.cells (l : Lay) : List AV := [.sl (l.secs.map Sec.av), .sl (l.sigs.map Port.av), .sl (l.exits.map Exi.av), .sl (l.flanks.map Flank.av), I l.clear, I l.drive, I l.stale, I l.approach, I l.over, I l.press, I l.link]
abbrev Lay.av (l : Lay) : AV := .agg l.cells

structure Path where
  sig : Int
  exit : Int
  steps : List Step
  deriving DecidableEq
def Path.cells (x : Path) : List AV := [I x.sig, I x.exit, .sl (x.steps.map Step.av)]
abbrev Path.av (x : Path) : AV := .agg x.cells

structure Need where
  p : Int
  pos : Int
  k : Int
  deriving DecidableEq
def Need.cells (x : Need) : List AV := [I x.p, I x.pos, I x.k]
abbrev Need.av (x : Need) : AV := .agg x.cells
abbrev needs (l : List Need) : AV := .sl (l.map Need.av)
abbrev steps (l : List Step) : AV := .sl (l.map Step.av)

@[simp] theorem Port.pure (x : Port) : AV.pureAll x.cells = true := by simp [Port.cells, AV.pureAll, AV.pure]
@[simp] theorem Sec.pure (x : Sec) : AV.pureAll x.cells = true := by simp [Sec.cells, AV.pureAll, AV.pure]
@[simp] theorem Step.pure (x : Step) : AV.pureAll x.cells = true := by simp [Step.cells, AV.pureAll, AV.pure]
@[simp] theorem steps_pure (l : List Step) : AV.pureAll (l.map Step.av) = true := pureAll_map _ (fun x => by simp [AV.pure]) l
@[simp] theorem Exi.pure (x : Exi) : AV.pureAll x.cells = true := by simp [Exi.cells, AV.pureAll, AV.pure]
@[simp] theorem Flank.pure (x : Flank) : AV.pureAll x.cells = true := by simp [Flank.cells, AV.pureAll, AV.pure]
@[simp] theorem Path.pure (x : Path) : AV.pureAll x.cells = true := by simp [Path.cells, AV.pureAll, AV.pure]
@[simp] theorem Need.pure (x : Need) : AV.pureAll x.cells = true := by simp [Need.cells, AV.pureAll, AV.pure]
@[simp] theorem needs_pure (l : List Need) : AV.pureAll (l.map Need.av) = true := pureAll_map _ (fun x => by simp [AV.pure]) l
@[simp] theorem Lay.pure (l : Lay) : AV.pureAll l.cells = true := by
  simp [Lay.cells, AV.pureAll, AV.pure, pureAll_map Sec.av (fun x => by simp [AV.pure]), pureAll_map Port.av (fun x => by simp [AV.pure]), pureAll_map Exi.av (fun x => by simp [AV.pure]), pureAll_map Flank.av (fun x => by simp [AV.pure])]

/-! ### The form of the data -/
def iT : TS := .int .i64
def portT : TS := .agg [iT, iT]
def secT : TS := .agg [.int .u8, .agg [portT, portT, portT, portT], .agg [iT, iT]]
def sigT : TS := .agg [portT]
def stepT : TS := .agg [iT, iT, iT]
def exitT : TS := .agg [portT, .sl true stepT]
def flankT : TS := .agg [iT, iT, iT, iT]
def timesT : TS := .agg [iT, iT, iT, iT, iT, iT, iT]
def layT : TS := .agg [.sl true secT, .sl true sigT, .sl true exitT, .sl true flankT, timesT]
def pathT : TS := .agg [iT, iT, .sl true stepT]
def needT : TS := .agg [iT, iT, iT]

theorem sec_of {cs : List AV} (h : secT.fits cs) : ∃ s : Sec, AV.agg cs = s.av ∧ 0 ≤ s.kind ∧ s.kind ≤ 255 := by
  simp only [secT, portT, iT, fits_agg, fitsAll_int, fitsAll_agg, fitsAll_nil, List.append_nil, List.cons_append, List.nil_append] at h
  obtain ⟨m, q, rfl, hm, a0, q, rfl, _, a1, q, rfl, _, a2, q, rfl, _, a3, q, rfl, _, a4, q, rfl, _, a5, q, rfl, _, a6, q, rfl, _, a7, q, rfl, _, a8, q, rfl, _, a9, q, rfl, _, rfl⟩ := h
  exact ⟨⟨m, ⟨a0, a1⟩, ⟨a2, a3⟩, ⟨a4, a5⟩, ⟨a6, a7⟩, a8, a9⟩, rfl, by simpa using hm⟩
theorem sig_of {cs : List AV} (h : sigT.fits cs) : ∃ s : Port, AV.agg cs = s.av := by
  simp only [sigT, portT, iT, fits_agg, fitsAll_int, fitsAll_agg, fitsAll_sl, fitsAll_nil, List.append_nil, List.cons_append, List.nil_append] at h
  obtain ⟨a0, q, rfl, _, a1, q, rfl, _, rfl⟩ := h
  exact ⟨⟨a0, a1⟩, rfl⟩
theorem step_of {cs : List AV} (h : stepT.fits cs) : ∃ s : Step, AV.agg cs = s.av := by
  simp only [stepT, iT, fits_agg, fitsAll_int, fitsAll_agg, fitsAll_sl, fitsAll_nil, List.append_nil, List.cons_append, List.nil_append] at h
  obtain ⟨a0, q, rfl, _, a1, q, rfl, _, a2, q, rfl, _, rfl⟩ := h
  exact ⟨⟨a0, a1, a2⟩, rfl⟩
theorem flank_of {cs : List AV} (h : flankT.fits cs) : ∃ s : Flank, AV.agg cs = s.av := by
  simp only [flankT, iT, fits_agg, fitsAll_int, fitsAll_agg, fitsAll_sl, fitsAll_nil, List.append_nil, List.cons_append, List.nil_append] at h
  obtain ⟨a0, q, rfl, _, a1, q, rfl, _, a2, q, rfl, _, a3, q, rfl, _, rfl⟩ := h
  exact ⟨⟨a0, a1, a2, a3⟩, rfl⟩
theorem need_of {cs : List AV} (h : needT.fits cs) : ∃ s : Need, AV.agg cs = s.av := by
  simp only [needT, iT, fits_agg, fitsAll_int, fitsAll_agg, fitsAll_sl, fitsAll_nil, List.append_nil, List.cons_append, List.nil_append] at h
  obtain ⟨a0, q, rfl, _, a1, q, rfl, _, a2, q, rfl, _, rfl⟩ := h
  exact ⟨⟨a0, a1, a2⟩, rfl⟩
theorem exit_of {cs : List AV} (h : exitT.fits cs) : ∃ s : Exi, AV.agg cs = s.av := by
  simp only [exitT, portT, iT, fits_agg, fitsAll_int, fitsAll_agg, fitsAll_sl, fitsAll_nil, List.append_nil, List.cons_append, List.nil_append] at h
  obtain ⟨a0, q, rfl, _, a1, q, rfl, _, es, q, rfl, hs, rfl⟩ := h
  obtain ⟨ov, rfl⟩ := sl_map (g := Step.av) (fun cs h => step_of h) es hs.2
  exact ⟨⟨⟨a0, a1⟩, ov⟩, rfl⟩
/-- Kinds are bytes. -/
def Lay.ok (l : Lay) : Prop := ∀ s ∈ l.secs, 0 ≤ s.kind ∧ s.kind ≤ 255
theorem lay_of {cs : List AV} (h : layT.fits cs) : ∃ l : Lay, AV.agg cs = l.av ∧ l.ok := by
  simp only [layT, timesT, iT, fits_agg, fitsAll_int, fitsAll_agg, fitsAll_sl, fitsAll_nil, List.append_nil, List.cons_append, List.nil_append] at h
  obtain ⟨s1, q, rfl, h1, s2, q, rfl, h2, s3, q, rfl, h3, s4, q, rfl, h4, a0, q, rfl, _, a1, q, rfl, _, a2, q, rfl, _, a3, q, rfl, _, a4, q, rfl, _, a5, q, rfl, _, a6, q, rfl, _, rfl⟩ := h
  obtain ⟨secs, rfl, hs⟩ := sl_mapP (g := Sec.av) (Q := fun s => 0 ≤ s.kind ∧ s.kind ≤ 255) (fun cs h => sec_of h) s1 h1.2
  obtain ⟨sigs, rfl⟩ := sl_map (g := Port.av) (fun cs h => sig_of h) s2 h2.2
  obtain ⟨exits, rfl⟩ := sl_map (g := Exi.av) (fun cs h => exit_of h) s3 h3.2
  obtain ⟨fls, rfl⟩ := sl_map (g := Flank.av) (fun cs h => flank_of h) s4 h4.2
  exact ⟨⟨secs, sigs, exits, fls, a0, a1, a2, a3, a4, a5, a6⟩, rfl, hs⟩
theorem path_of {cs : List AV} (h : pathT.fits cs) : ∃ l : Path, AV.agg cs = l.av := by
  simp only [pathT, iT, fits_agg, fitsAll_int, fitsAll_agg, fitsAll_sl, fitsAll_nil, List.append_nil, List.cons_append, List.nil_append] at h
  obtain ⟨a0, q, rfl, _, a1, q, rfl, _, es, q, rfl, hs, rfl⟩ := h
  obtain ⟨ov, rfl⟩ := sl_map (g := Step.av) (fun cs h => step_of h) es hs.2
  exact ⟨⟨a0, a1, ov⟩, rfl⟩
theorem lay_arg {x : AV} (h : layT.fits x.cells) (h2 : aggIf true x) : ∃ l : Lay, x = l.av ∧ l.ok := by
  obtain ⟨cs, rfl⟩ := h2.1 rfl
  exact lay_of h
theorem path_arg {x : AV} (h : pathT.fits x.cells) (h2 : aggIf true x) : ∃ l : Path, x = l.av := by
  obtain ⟨cs, rfl⟩ := h2.1 rfl
  exact path_of h
theorem need_arg {x : AV} (h : needT.fits x.cells) (h2 : aggIf true x) : ∃ l : Need, x = l.av := by
  obtain ⟨cs, rfl⟩ := h2.1 rfl
  exact need_of h
theorem sl_arg {x : AV} {T : TS} {g : Bool} (h : (TS.sl g T).fits x.cells) (h2 : aggIf false x) : ∃ es, x = .sl es ∧ es.length ≤ maxLen ∧ ∀ x ∈ es, T.fits x.cells ∧ aggIf g x := by
  obtain ⟨es, h1, h0, h3⟩ := fits_sl.1 h
  have : x = .sl es := by
    cases x <;> simp_all [AV.cells, aggIf]
  exact ⟨es, this, h0, h3⟩
theorem needs_arg {x : AV} (h : (TS.sl true needT).fits x.cells) (h2 : aggIf false x) : ∃ l : List Need, x = needs l := by
  obtain ⟨es, rfl, _, h3⟩ := sl_arg h h2
  obtain ⟨l, rfl⟩ := sl_map (g := Need.av) (fun cs h => need_of h) es h3
  exact ⟨l, rfl⟩
theorem int_arg {x : AV} (h : iT.fits x.cells) (h2 : aggIf false x) : ∃ n, x = I n := by
  obtain ⟨n, h1, _⟩ := fits_int.1 h
  have : x = I n := by
    cases x <;> simp_all [AV.cells, aggIf]
  exact ⟨n, this⟩
theorem bool_arg {x : AV} (h : TS.bool.fits x.cells) (h2 : aggIf false x) : ∃ b, x = .bool b := by
  obtain ⟨n, h1⟩ := fits_bool.1 h
  have : x = .bool n := by
    cases x <;> simp_all [AV.cells, aggIf]
  exact ⟨n, this⟩
end Go.Lb.LK

namespace Go.Lb.LK
open Go Go.Lb

abbrev W (n : Int) : AV := .int .u32 n
abbrev B (b : Bool) : AV := .bool b

structure Img where
  age : Int
  free : Nat → Int
  occ : Int
  nor : Int
  rev : Int
  lamp : Int
def Img.cells (x : Img) : List AV := [I x.age, I (x.free 0), I (x.free 1), I (x.free 2), I (x.free 3), I (x.free 4), I (x.free 5), I (x.free 6), I (x.free 7), I (x.free 8), I (x.free 9), I (x.free 10), I (x.free 11), I (x.free 12), I (x.free 13), I (x.free 14), I (x.free 15), I (x.free 16), I (x.free 17), I (x.free 18), I (x.free 19), I (x.free 20), I (x.free 21), I (x.free 22), I (x.free 23), W x.occ, W x.nor, W x.rev, W x.lamp]
abbrev Img.av (x : Img) : AV := .agg x.cells
def Img.ok (x : Img) : Prop := (0 ≤ x.occ ∧ x.occ ≤ 4294967295) ∧ (0 ≤ x.nor ∧ x.nor ≤ 4294967295) ∧ (0 ≤ x.rev ∧ x.rev ≤ 4294967295) ∧ (0 ≤ x.lamp ∧ x.lamp ≤ 4294967295)

structure Hd where
  id : Int
  path : Path
  over : List Step
  needs : List Need
  stage : Int
  gone : Int
  was : Nat → Bool
  opn : Bool
  timer : Int
  shown : Bool
def Hd.cells (x : Hd) : List AV := [I x.id, I x.path.sig, I x.path.exit, steps x.path.steps, steps x.over, Go.Lb.LK.needs x.needs, U x.stage, I x.gone, .bool (x.was 0), .bool (x.was 1), .bool (x.was 2), .bool (x.was 3), .bool (x.was 4), .bool (x.was 5), .bool (x.was 6), .bool (x.was 7), .bool (x.was 8), .bool (x.was 9), .bool (x.was 10), .bool (x.was 11), .bool x.opn, I x.timer, .bool x.shown]
abbrev Hd.av (x : Hd) : AV := .agg x.cells

@[simp] theorem Img.pure (x : Img) : AV.pureAll x.cells = true := by simp [Img.cells, AV.pureAll, AV.pure]
@[simp] theorem Hd.pure (x : Hd) : AV.pureAll x.cells = true := by simp [Hd.cells, AV.pureAll, AV.pure]

@[simp] theorem pv_cellset (b len n j : Nat) (k : IntKind) (u v : AV) : pv (.cellset b len 1 0 1 j) [.int k (n : Nat), u, .agg [v]] = if j = b + n then v else u := by
  simp only [pv, AV.cells, Int.toNat_natCast, Nat.mul_one, Nat.add_zero]
  by_cases h : j = b + n
  · subst h; simp
  · have : ¬ (b + n ≤ j ∧ j < b + n + 1) := by omega
    simp [this, h]
@[simp] theorem pok_cellset (b len n j : Nat) (k : IntKind) (i : Int) (u v : AV) : pok (.cellset b len 1 0 n j) [.int k i, u, v] = (0 ≤ i ∧ i < len ∧ v.cells.length = n ∧ AV.ones v.cells = true ∧ j < b + len * 1 ∧ 0 + n ≤ 1) := rfl

/-- What an array's cell holds. -/
theorem free_get (x : Img) {i : Nat} (h : i < 24) (d : AV) : x.cells.getD (i + 1) d = I (x.free i) := by
  match i, h with
  | 0, _ => rfl
  | 1, _ => rfl
  | 2, _ => rfl
  | 3, _ => rfl
  | 4, _ => rfl
  | 5, _ => rfl
  | 6, _ => rfl
  | 7, _ => rfl
  | 8, _ => rfl
  | 9, _ => rfl
  | 10, _ => rfl
  | 11, _ => rfl
  | 12, _ => rfl
  | 13, _ => rfl
  | 14, _ => rfl
  | 15, _ => rfl
  | 16, _ => rfl
  | 17, _ => rfl
  | 18, _ => rfl
  | 19, _ => rfl
  | 20, _ => rfl
  | 21, _ => rfl
  | 22, _ => rfl
  | 23, _ => rfl
  | n + 24, h => exact absurd h (by omega)
theorem was_get (x : Hd) {i : Nat} (h : i < 12) (d : AV) : x.cells.getD (i + 8) d = .bool (x.was i) := by
  match i, h with
  | 0, _ => rfl
  | 1, _ => rfl
  | 2, _ => rfl
  | 3, _ => rfl
  | 4, _ => rfl
  | 5, _ => rfl
  | 6, _ => rfl
  | 7, _ => rfl
  | 8, _ => rfl
  | 9, _ => rfl
  | 10, _ => rfl
  | 11, _ => rfl
def wcells (w : Nat → Bool) : List AV := [.bool (w 0), .bool (w 1), .bool (w 2), .bool (w 3), .bool (w 4), .bool (w 5), .bool (w 6), .bool (w 7), .bool (w 8), .bool (w 9), .bool (w 10), .bool (w 11)]
theorem wget (w : Nat → Bool) {i : Nat} (h : i < 12) (d : AV) : (wcells w).getD i d = .bool (w i) := by
  match i, h with
  | 0, _ => rfl
  | 1, _ => rfl
  | 2, _ => rfl
  | 3, _ => rfl
  | 4, _ => rfl
  | 5, _ => rfl
  | 6, _ => rfl
  | 7, _ => rfl
  | 8, _ => rfl
  | 9, _ => rfl
  | 10, _ => rfl
  | 11, _ => rfl
/-- Turned at one place. -/
def upd {α : Type} (w : Nat → α) (k : Nat) (v : α) : Nat → α := fun j => if j = k then v else w j

/-! ### Forms -/
def uT : TS := .int .u32
def inT : TS := .agg [uT, uT, uT, uT]
def imgT : TS := .agg [iT, .agg [iT, iT, iT, iT, iT, iT, iT, iT, iT, iT, iT, iT, iT, iT, iT, iT, iT, iT, iT, iT, iT, iT, iT, iT], inT]
def heldT : TS := .agg [iT, pathT, .sl true stepT, .sl true needT, .int .u8, iT, .agg [.bool, .bool, .bool, .bool, .bool, .bool, .bool, .bool, .bool, .bool, .bool, .bool], .bool, iT, .bool]
end Go.Lb.LK
