/- What functions come to, printed by a program, checked by the kernel. -/
/- What functions come to, printed by a program, checked by the kernel. -/
/- The trees of the functions. -/
/-
  DERIVED: THE SHELF's CONTRACTS AT THIS DUMP, IN PLAIN WORDS (tools/lay-plain.mjs out of 'TryzShelf.lean', which tools/lay-shelf.mjs wrote): THE SAME DECLARATIONS UNDER THE SAME NAMES: 'import', 'namespace', 'open', 'def', 'theorem' AND NOTHING ELSE: no command of the shelf's: FOR A HAND-IN. Each laying: the table of numbers ('.._ren') and one theorem, a field a fact of the dump's own or the kernel's comparison; each contract: ONE APPLICATION.
-/
import Derived.Test.YtkcpgfjlmicnnaaGreatDoorCh1
import Derived.Test.YtkcpgfjlmicnnaaGreatDoorCh2
import Derived.Test.YtkcpgfjlmicnnaaGreatDoorCh3
import Derived.Shelf.Small.Bits
import Derived.Shelf.Strconv.Itoa0
import Derived.Shelf.Sort.Plain
import Derived.Ground.Names2Prog
import Derived.Shelf.Slices.CompactI
import Derived.Test.YtkcpgfjlmicnnaaGreatDoorProg
set_option linter.unusedSimpArgs false
set_option linter.unusedVariables false
namespace Go.Lb.LK
open Go Go.Lb Go.Proofs
@[simp] noncomputable def qka3_0 : SE := .agg [.inp 0, .inp 1, .inp 2, .inp 3, .inp 4, .inp 5, .inp 6, .inp 7, .inp 8, .inp 9, .inp 10]
@[simp] noncomputable def qka3_1 : SE := .agg [.inp 11, .inp 12, .inp 13, .inp 14, .inp 15, .inp 16, .inp 17, .inp 18, .inp 19, .inp 20, .inp 21, .inp 22, .inp 23, .inp 24, .inp 25, .inp 26, .inp 27, .inp 28, .inp 29, .inp 30, .inp 31, .inp 32, .inp 33, .inp 34, .inp 35, .inp 36, .inp 37, .inp 38, .inp 39]
@[simp] noncomputable def qka3_2 : SE := .agg [.inp 40, .inp 41, .inp 42, .inp 43, .inp 44, .inp 45, .inp 46, .inp 47, .inp 48, .inp 49, .inp 50, .inp 51, .inp 52, .inp 53, .inp 54, .inp 55, .inp 56, .inp 57, .inp 58, .inp 59, .inp 60, .inp 61, .inp 62, .inp 63, .inp 64, .inp 65, .inp 66, .inp 67, .inp 68, .inp 69, .inp 70, .inp 71, .inp 72, .inp 73, .inp 74, .inp 75, .inp 76, .inp 77, .inp 78, .inp 79, .inp 80, .inp 81, .inp 82, .inp 83, .inp 84, .inp 85, .inp 86, .inp 87, .inp 88, .inp 89, .inp 90, .inp 91, .inp 92, .inp 93, .inp 94, .inp 95, .inp 96, .inp 97, .inp 98, .inp 99, .inp 100, .inp 101, .inp 102, .inp 103, .inp 104, .inp 105, .inp 106, .inp 107, .inp 108, .inp 109, .inp 110, .inp 111, .inp 112, .inp 113]
@[simp] noncomputable def qka3_3 : SE := .agg [.inp 40, .enil, .inp 42, .inp 43, .inp 44, .inp 45, .inp 46, .inp 47, .inp 48, .inp 49, .inp 50, .inp 51, .inp 52, .inp 53, .inp 54, .inp 55, .inp 56, .inp 57, .inp 58, .inp 59, .inp 60, .inp 61, .inp 62, .inp 63, .inp 64, .inp 65, .inp 66, .inp 67, .inp 68, .inp 69, .inp 70, .inp 71, .inp 72, .inp 73, .inp 74, .inp 75, .inp 76, .inp 77, .inp 78, .inp 79, .inp 80, .inp 81, .inp 82, .inp 83, .inp 84, .inp 85, .inp 86, .inp 87, .inp 88, .inp 89, .inp 90, .inp 91, .inp 92, .inp 93, .inp 94, .inp 95, .inp 96, .inp 97, .inp 98, .inp 99, .inp 100, .inp 101, .inp 102, .inp 103, .inp 104, .inp 105, .inp 106, .inp 107, .inp 108, .inp 109, .inp 110, .inp 111, .inp 112, .inp 113]
@[simp] noncomputable def qka3_4 : SE := .app .app [.app .lst [], .inp 41]
@[simp] noncomputable def qka3_5 : SE := .app .len [qka3_4]
@[simp] noncomputable def qka3_6 : SE := .app (.rowget 23 0 23 true) [.inp 117, .inp 116]
@[simp] noncomputable def qka3_7 : SE := .agg [.app (.part 0 1 false) [.inp 118], .app (.part 1 1 false) [.inp 118], .app (.part 2 1 false) [.inp 118], .app (.part 3 1 false) [.inp 118], .app (.part 4 1 false) [.inp 118], .app (.part 5 1 false) [.inp 118], .app (.part 6 1 false) [.inp 118], .app (.part 7 1 false) [.inp 118], .app (.part 8 1 false) [.inp 118], .app (.part 9 1 false) [.inp 118], .app (.part 10 1 false) [.inp 118], .app (.part 11 1 false) [.inp 118], .app (.part 12 1 false) [.inp 118], .app (.part 13 1 false) [.inp 118], .app (.part 14 1 false) [.inp 118], .app (.part 15 1 false) [.inp 118], .app (.part 16 1 false) [.inp 118], .app (.part 17 1 false) [.inp 118], .app (.part 18 1 false) [.inp 118], .app (.part 19 1 false) [.inp 118], .app (.part 20 1 false) [.inp 118], .app (.part 21 1 false) [.inp 118], .app (.part 22 1 false) [.inp 118]]
@[simp] noncomputable def qka3_8 : SE := .agg [.inp 40, .row 60, .inp 42, .inp 43, .inp 44, .inp 45, .inp 46, .inp 47, .inp 48, .inp 49, .inp 50, .inp 51, .inp 52, .inp 53, .inp 54, .inp 55, .inp 56, .inp 57, .inp 58, .inp 59, .inp 60, .inp 61, .inp 62, .inp 63, .inp 64, .inp 65, .inp 66, .inp 67, .inp 68, .inp 69, .inp 70, .inp 71, .inp 72, .inp 73, .inp 74, .inp 75, .inp 76, .inp 77, .inp 78, .inp 79, .inp 80, .inp 81, .inp 82, .inp 83, .inp 84, .inp 85, .inp 86, .inp 87, .inp 88, .inp 89, .inp 90, .inp 91, .inp 92, .inp 93, .inp 94, .inp 95, .inp 96, .inp 97, .inp 98, .inp 99, .inp 100, .inp 101, .inp 102, .inp 103, .inp 104, .inp 105, .inp 106, .inp 107, .inp 108, .inp 109, .inp 110, .inp 111, .inp 112, .inp 113]
@[simp] noncomputable def qka3_9 : SE := .app (.rowget 23 0 23 true) [.inp 117, .inp 119]
@[simp] noncomputable def qka3_10 : SE := .app (.part 1 1 false) [qka3_9]
@[simp] noncomputable def qka3_11 : SE := .app (.bin .eql) [qka3_10, .inp 114]
@[simp] noncomputable def qka3_12 : SE := .app (.bin .lss) [.inp 118, .int .i64 0]
@[simp] noncomputable def qka3_13 : SE := .app (.part 0 1 false) [qka3_9]
@[simp] noncomputable def qka3_14 : SE := .app (.rowget 23 0 1 false) [.inp 117, .inp 118]
@[simp] noncomputable def qka3_15 : SE := .app (.bin .gtr) [qka3_13, qka3_14]
@[simp] noncomputable def qka3_16 : SE := .app .pick [qka3_12, .bool true, qka3_15]
@[simp] noncomputable def qka3_17 : SE := .app (.bin .add) [.inp 119, .int .i64 1]
@[simp] noncomputable def qka3_18 : SE := .app (.rowget 23 6 1 false) [.inp 117, .inp 118]
@[simp] noncomputable def qka3_19 : SE := .app (.bin .eql) [qka3_18, .int .u8 1]
@[simp] noncomputable def qka3_20 : SE := .app (.bin .eql) [qka3_18, .int .u8 2]
@[simp] noncomputable def qka3_21 : SE := .app (.bin .eql) [qka3_18, .int .u8 3]
@[simp] noncomputable def qka3_22 : SE := .app .pick [qka3_19, .clo 55 [] [], .app .pick [qka3_20, .clo 56 [] [.ptr 14 0, .ptr 16 0], .app .pick [qka3_21, .clo 57 [] [.ptr 14 0, .ptr 16 0], .nilf]]]
@[simp] noncomputable def qka3_23 : SE := .app (.eqf false) [qka3_22, .nilf]
@[simp] noncomputable def qka3_24 : SE := .tup [.agg [.inp 40, .inp 117, .inp 42, .inp 43, .inp 44, .inp 45, .inp 46, .inp 47, .inp 48, .inp 49, .inp 50, .inp 51, .inp 52, .inp 53, .inp 54, .inp 55, .inp 56, .inp 57, .inp 58, .inp 59, .inp 60, .inp 61, .inp 62, .inp 63, .inp 64, .inp 65, .inp 66, .inp 67, .inp 68, .inp 69, .inp 70, .inp 71, .inp 72, .inp 73, .inp 74, .inp 75, .inp 76, .inp 77, .inp 78, .inp 79, .inp 80, .inp 81, .inp 82, .inp 83, .inp 84, .inp 85, .inp 86, .inp 87, .inp 88, .inp 89, .inp 90, .inp 91, .inp 92, .inp 93, .inp 94, .inp 95, .inp 96, .inp 97, .inp 98, .inp 99, .inp 100, .inp 101, .inp 102, .inp 103, .inp 104, .inp 105, .inp 106, .inp 107, .inp 108, .inp 109, .inp 110, .inp 111, .inp 112, .inp 113], .bool false]
@[simp] noncomputable def qka3_25 : SE := .app (.rowget 23 0 23 true) [.inp 117, .inp 118]
@[simp] noncomputable def qka3_26 : SE := .app (.bin .eql) [.inp 120, .int .i64 1]
@[simp] noncomputable def qka3_27 : SE := .app (.bin .add) [.inp 118, .int .i64 1]
@[simp] noncomputable def qka3_28 : SE := .agg [.inp 40, .row 164, .inp 42, .inp 43, .inp 44, .inp 45, .inp 46, .inp 47, .inp 48, .inp 49, .inp 50, .inp 51, .inp 52, .inp 53, .inp 54, .inp 55, .inp 56, .inp 57, .inp 58, .inp 59, .inp 60, .inp 61, .inp 62, .inp 63, .inp 64, .inp 65, .inp 66, .inp 67, .inp 68, .inp 69, .inp 70, .inp 71, .inp 72, .inp 73, .inp 74, .inp 75, .inp 76, .inp 77, .inp 78, .inp 79, .inp 80, .inp 81, .inp 82, .inp 83, .inp 84, .inp 85, .inp 86, .inp 87, .inp 88, .inp 89, .inp 90, .inp 91, .inp 92, .inp 93, .inp 94, .inp 95, .inp 96, .inp 97, .inp 98, .inp 99, .inp 100, .inp 101, .inp 102, .inp 103, .inp 104, .inp 105, .inp 106, .inp 107, .inp 108, .inp 109, .inp 110, .inp 111, .inp 112, .inp 113]
@[simp] noncomputable def qka3_29 : SE := .tup [.agg [.inp 40, .app .app [.app (.slice false true) [.inp 117, .inp 118], .app (.slice true false) [.inp 117, qka3_27]], .inp 42, .inp 43, .inp 44, .inp 45, .inp 46, .inp 47, .inp 48, .inp 49, .inp 50, .inp 51, .inp 52, .inp 53, .inp 54, .inp 55, .inp 56, .inp 57, .inp 58, .inp 59, .inp 60, .inp 61, .inp 62, .inp 63, .inp 64, .inp 65, .inp 66, .inp 67, .inp 68, .inp 69, .inp 70, .inp 71, .inp 72, .inp 73, .inp 74, .inp 75, .inp 76, .inp 77, .inp 78, .inp 79, .inp 80, .inp 81, .inp 82, .inp 83, .inp 84, .inp 85, .inp 86, .inp 87, .inp 88, .inp 89, .inp 90, .inp 91, .inp 92, .inp 93, .inp 94, .inp 95, .inp 96, .inp 97, .inp 98, .inp 99, .inp 100, .inp 101, .inp 102, .inp 103, .inp 104, .inp 105, .inp 106, .inp 107, .inp 108, .inp 109, .inp 110, .inp 111, .inp 112, .inp 113], .bool true]
@[simp] noncomputable def qka3_30 : SE := .app (.bin .eql) [.inp 120, .int .i64 2]
@[simp] noncomputable def qka3_31 : SE := .app (.rowset 23 6 1) [.inp 117, .inp 118, .agg [.int .u8 4]]
@[simp] noncomputable def qka3_32 : SE := .tup [.agg [.inp 40, .app (.rowset 23 21 1) [qka3_31, .inp 118, .agg [.inp 7]], .inp 42, .inp 43, .inp 44, .inp 45, .inp 46, .inp 47, .inp 48, .inp 49, .inp 50, .inp 51, .inp 52, .inp 53, .inp 54, .inp 55, .inp 56, .inp 57, .inp 58, .inp 59, .inp 60, .inp 61, .inp 62, .inp 63, .inp 64, .inp 65, .inp 66, .inp 67, .inp 68, .inp 69, .inp 70, .inp 71, .inp 72, .inp 73, .inp 74, .inp 75, .inp 76, .inp 77, .inp 78, .inp 79, .inp 80, .inp 81, .inp 82, .inp 83, .inp 84, .inp 85, .inp 86, .inp 87, .inp 88, .inp 89, .inp 90, .inp 91, .inp 92, .inp 93, .inp 94, .inp 95, .inp 96, .inp 97, .inp 98, .inp 99, .inp 100, .inp 101, .inp 102, .inp 103, .inp 104, .inp 105, .inp 106, .inp 107, .inp 108, .inp 109, .inp 110, .inp 111, .inp 112, .inp 113], .bool true]
@[simp] noncomputable def qka3_33 : SE := .ref [.inp 0, .inp 1, .inp 2, .inp 3, .inp 4, .inp 5, .inp 6, .inp 7, .inp 8, .inp 9, .inp 10] 0
@[simp] noncomputable def qka3_34 : SE := .ref [.inp 11, .inp 12, .inp 13, .inp 14, .inp 15, .inp 16, .inp 17, .inp 18, .inp 19, .inp 20, .inp 21, .inp 22, .inp 23, .inp 24, .inp 25, .inp 26, .inp 27, .inp 28, .inp 29, .inp 30, .inp 31, .inp 32, .inp 33, .inp 34, .inp 35, .inp 36, .inp 37, .inp 38, .inp 39] 0
@[simp] noncomputable def qka3_35 : SE := .agg [.inp 40, .inp 41, .inp 42, .inp 43, .inp 44, .inp 45, .inp 46, .inp 47, .inp 48, .inp 49, .inp 50, .inp 51, .inp 52, .inp 53, .inp 54, .inp 55, .inp 56, .inp 57, .inp 58, .inp 59, .inp 60, .inp 61, .inp 62]
@[simp] noncomputable def qka3_36 : SE := .app (.part 6 1 false) [.inp 63]
@[simp] noncomputable def qka3_37 : SE := .app (.bin .neq) [qka3_36, .int .u8 4]
@[simp] noncomputable def qka3_38 : SE := .app (.part 0 1 false) [.inp 63]
@[simp] noncomputable def qka3_39 : SE := .app (.part 1 1 false) [.inp 63]
@[simp] noncomputable def qka3_40 : SE := .app (.part 2 1 false) [.inp 63]
@[simp] noncomputable def qka3_41 : SE := .app (.part 3 1 false) [.inp 63]
@[simp] noncomputable def qka3_42 : SE := .app (.part 4 1 false) [.inp 63]
@[simp] noncomputable def qka3_43 : SE := .app (.part 5 1 false) [.inp 63]
@[simp] noncomputable def qka3_44 : SE := .app (.part 7 1 false) [.inp 63]
@[simp] noncomputable def qka3_45 : SE := .app (.part 8 1 false) [.inp 63]
@[simp] noncomputable def qka3_46 : SE := .app (.part 9 1 false) [.inp 63]
@[simp] noncomputable def qka3_47 : SE := .app (.part 10 1 false) [.inp 63]
@[simp] noncomputable def qka3_48 : SE := .app (.part 11 1 false) [.inp 63]
@[simp] noncomputable def qka3_49 : SE := .app (.part 12 1 false) [.inp 63]
@[simp] noncomputable def qka3_50 : SE := .app (.part 13 1 false) [.inp 63]
@[simp] noncomputable def qka3_51 : SE := .app (.part 14 1 false) [.inp 63]
@[simp] noncomputable def qka3_52 : SE := .app (.part 15 1 false) [.inp 63]
@[simp] noncomputable def qka3_53 : SE := .app (.part 16 1 false) [.inp 63]
@[simp] noncomputable def qka3_54 : SE := .app (.part 17 1 false) [.inp 63]
@[simp] noncomputable def qka3_55 : SE := .app (.part 18 1 false) [.inp 63]
@[simp] noncomputable def qka3_56 : SE := .app (.part 19 1 false) [.inp 63]
@[simp] noncomputable def qka3_57 : SE := .app (.part 20 1 false) [.inp 63]
@[simp] noncomputable def qka3_58 : SE := .app (.part 21 1 false) [.inp 63]
@[simp] noncomputable def qka3_59 : SE := .app (.part 22 1 false) [.inp 63]
@[simp] noncomputable def qka3_60 : SE := .agg [qka3_38, qka3_39, qka3_40, qka3_41, qka3_42, qka3_43, qka3_36, qka3_44, qka3_45, qka3_46, qka3_47, qka3_48, qka3_49, qka3_50, qka3_51, qka3_52, qka3_53, qka3_54, qka3_55, qka3_56, qka3_57, qka3_58, qka3_59]
@[simp] noncomputable def qka3_61 : SE := .tup [qka3_60, .bool false]
@[simp] noncomputable def qka3_62 : SE := .agg [.app (.part 0 1 false) [.inp 66], .app (.part 1 1 false) [.inp 66], .app (.part 2 1 false) [.inp 66], .app (.part 3 1 false) [.inp 66], .app (.part 4 1 false) [.inp 66], .app (.part 5 1 false) [.inp 66], .app (.part 6 1 false) [.inp 66], .app (.part 7 1 false) [.inp 66], .app (.part 8 1 false) [.inp 66], .app (.part 9 1 false) [.inp 66], .app (.part 10 1 false) [.inp 66], .app (.part 11 1 false) [.inp 66], .app (.part 12 1 false) [.inp 66], .app (.part 13 1 false) [.inp 66], .app (.part 14 1 false) [.inp 66], .app (.part 15 1 false) [.inp 66], .app (.part 16 1 false) [.inp 66], .app (.part 17 1 false) [.inp 66], .app (.part 18 1 false) [.inp 66], .app (.part 19 1 false) [.inp 66], .app (.part 20 1 false) [.inp 66], .app (.part 21 1 false) [.inp 66], .app (.part 22 1 false) [.inp 66]]
@[simp] noncomputable def qka3_63 : SE := .agg [qka3_38, qka3_39, qka3_40, qka3_41, qka3_42, qka3_43, qka3_36, qka3_44, qka3_45, qka3_46, qka3_47, qka3_48, qka3_49, qka3_50, qka3_51, qka3_52, qka3_53, qka3_54, qka3_55, qka3_56, qka3_57, .inp 67, qka3_59]
@[simp] noncomputable def qka3_64 : SE := .app (.bin .lss) [.inp 11, .int .i64 0]
@[simp] noncomputable def qka3_65 : SE := .app (.bin .geq) [.inp 11, .app .len [.inp 1]]
@[simp] noncomputable def qka3_66 : SE := .app .pick [qka3_64, .bool true, qka3_65]
@[simp] noncomputable def qka3_67 : SE := .ref [.int .i64 (-1), .int .i64 0] 0
@[simp] noncomputable def qka3_68 : SE := .app (.eload 2 true) [qka3_67]
@[simp] noncomputable def qka3_69 : SE := .agg [.app (.part 0 1 false) [qka3_68], .app (.part 1 1 false) [qka3_68]]
@[simp] noncomputable def qka3_70 : SE := .app (.eidx 2) [.inp 1, .inp 11]
@[simp] noncomputable def qka3_71 : SE := .app (.eoff 0) [qka3_70]
@[simp] noncomputable def qka3_72 : SE := .app (.eload 2 true) [qka3_71]
@[simp] noncomputable def qka3_73 : SE := .agg [.app (.part 0 1 false) [.inp 12], .app (.part 1 1 false) [.inp 12]]
@[simp] noncomputable def qka3_74 : SE := .app (.eidx 11) [.inp 0, .inp 11]
@[simp] noncomputable def qka3_75 : SE := .app (.eoff 1) [qka3_74]
@[simp] noncomputable def qka3_76 : SE := .app (.eaidx 4 2) [qka3_75, .inp 12]
@[simp] noncomputable def qka3_77 : SE := .app (.eload 2 true) [qka3_76]
@[simp] noncomputable def qka3_78 : SE := .agg [.app (.part 0 1 false) [qka3_77], .app (.part 1 1 false) [qka3_77]]
@[simp] noncomputable def qka3_79 : SE := .app (.bin .geq) [.inp 11, .int .i64 0]
@[simp] noncomputable def qka3_80 : SE := .app (.bin .lss) [.inp 11, .app .len [.inp 0]]
@[simp] noncomputable def qka3_81 : SE := .app .pick [qka3_79, qka3_80, .bool false]
@[simp] noncomputable def qka3_82 : SE := .app (.bin .geq) [.inp 12, .int .i64 0]
@[simp] noncomputable def qka3_83 : SE := .app .pick [qka3_81, qka3_82, .bool false]
@[simp] noncomputable def qka3_84 : SE := .app (.eoff 0) [qka3_74]
@[simp] noncomputable def qka3_85 : SE := .app (.eload 1 false) [qka3_84]
@[simp] noncomputable def qka3_86 : SE := .app (.bin .lss) [.inp 12, .inp 13]
@[simp] noncomputable def qka3_87 : SE := .app .pick [qka3_83, qka3_86, .bool false]
@[simp] noncomputable def qka3_88 : SE := .agg [.inp 0, .inp 1, .inp 2, .inp 3, .inp 4, .inp 5, .inp 6, .inp 7, .inp 8, .inp 9, .inp 10, .inp 11, .inp 12, .inp 13, .inp 14, .inp 15, .inp 16, .inp 17, .inp 18, .inp 19, .inp 20, .inp 21, .inp 22, .inp 23, .inp 24, .inp 25, .inp 26, .inp 27, .inp 28, .inp 29, .inp 30, .inp 31, .inp 32, .inp 33, .inp 34, .inp 35, .inp 36, .inp 37, .inp 38, .inp 39, .inp 40, .inp 41, .inp 42, .inp 43, .inp 44, .inp 45, .inp 46, .inp 47, .inp 48, .inp 49, .inp 50, .inp 51, .inp 52, .inp 53, .inp 54, .inp 55, .inp 56, .inp 57, .inp 58, .inp 59, .inp 60, .inp 61, .inp 62, .inp 63, .inp 64, .inp 65, .inp 66, .inp 67, .inp 68, .inp 69, .inp 70, .inp 71, .inp 72, .inp 73]
@[simp] noncomputable def qka3_93 : SE := .app (.bin .add) [.inp 75, .int .i64 1]
@[simp] noncomputable def qka3_94 : SE := .app (.bin .lss) [.inp 11, .app .len [.inp 2]]
@[simp] noncomputable def qka3_95 : SE := .app (.bin .leq) [.inp 11, .int .i64 30]
@[simp] noncomputable def qka3_96 : SE := .app (.eidx 3) [.inp 2, .inp 11]
@[simp] noncomputable def qka3_97 : SE := .app (.eoff 2) [qka3_96]
@[simp] noncomputable def qka3_98 : SE := .app (.eload 1 false) [qka3_97]
@[simp] noncomputable def qka3_99 : SE := .app .len [qka3_98]
@[simp] noncomputable def qka3_100 : SE := .app (.bin .gtr) [.app .len [.inp 0], .int .i64 40]
@[simp] noncomputable def qka3_101 : SE := .app (.bin .gtr) [.app .len [.inp 1], .int .i64 30]
@[simp] noncomputable def qka3_102 : SE := .app .pick [qka3_100, .bool true, qka3_101]
@[simp] noncomputable def qka3_103 : SE := .app (.bin .gtr) [.app .len [.inp 2], .int .i64 30]
@[simp] noncomputable def qka3_104 : SE := .app .pick [qka3_102, .bool true, qka3_103]
@[simp] noncomputable def qka3_105 : SE := .app (.bin .gtr) [.app .len [.inp 3], .int .i64 40]
@[simp] noncomputable def qka3_107 : SE := .agg [.inp 0, .inp 1, .inp 2]
@[simp] noncomputable def qka3_108 : SE := .app (.bin .lss) [.inp 0, .int .i64 (-1)]
@[simp] noncomputable def qka3_109 : SE := .app (.bin .gtr) [.inp 0, .int .i64 1]
@[simp] noncomputable def qka3_110 : SE := .app .pick [qka3_108, .bool true, qka3_109]
@[simp] noncomputable def qka3_111 : SE := .app (.bin .lss) [.inp 1, .int .i64 0]
@[simp] noncomputable def qka3_112 : SE := .app .pick [qka3_110, .bool true, qka3_111]
@[simp] noncomputable def qka3_113 : SE := .app (.bin .gtr) [.inp 1, .int .i64 1000]
@[simp] noncomputable def qka3_114 : SE := .app (.bin .geq) [.inp 0, .int .i64 0]
@[simp] noncomputable def qka3_115 : SE := .app (.eqa [ some .i64, some .i64, none] false) [qka3_107, .inp 5]
@[simp] noncomputable def qka3_116 : SE := .ref [.int .i64 0, .int .i64 0, .int .i64 0, .int .i64 0, .int .i64 0, .int .i64 0, .bool false, .int .i64 2, .int .i64 0, .int .i64 1, .int .i64 0, .int .i64 0, .int .i64 1, .bool false, .int .i64 3, .int .i64 0, .int .i64 1, .int .i64 0, .int .i64 2, .int .i64 2, .bool true, .int .i64 4, .int .i64 0, .int .i64 1, .int .i64 2, .int .i64 3, .int .i64 2, .bool false] 0
@[simp] noncomputable def qka3_117 : SE := .app (.eaidx 4 7) [qka3_116, .inp 0]
@[simp] noncomputable def qka3_118 : SE := .app (.eload 7 true) [qka3_117]
@[simp] noncomputable def qka3_119 : SE := .agg [.inp 0, .inp 1, .inp 2, .inp 3, .inp 4, .inp 5, .inp 6, .inp 7, .inp 8, .inp 9, .inp 10, .inp 11, .inp 12, .inp 13, .inp 14, .inp 15, .inp 16, .inp 17, .inp 18, .inp 19, .inp 20, .inp 21, .inp 22]
@[simp] noncomputable def qka3_120 : SE := .agg [.inp 23, .inp 24, .inp 25, .inp 26, .inp 27, .inp 28, .inp 29, .inp 30, .inp 31, .inp 32, .inp 33, .inp 34, .inp 35, .inp 36, .inp 37, .inp 38, .inp 39, .inp 40, .inp 41, .inp 42, .inp 43, .inp 44, .inp 45]
@[simp] noncomputable def qka3_121 : SE := .app (.eidx 1) [.inp 46, .inp 47]
@[simp] noncomputable def qka3_127 : SE := .app (.eidx 23) [.inp 1, .inp 148]
@[simp] noncomputable def qka3_128 : SE := .app (.eidx 23) [.inp 75, .inp 148]
@[simp] noncomputable def qka3_129 : SE := .app (.bin .eql) [.inp 0, .inp 74]
@[simp] noncomputable def qka3_130 : SE := .agg [.inp 2, .inp 3, .inp 4, .inp 5, .inp 6, .inp 7, .inp 8, .inp 9, .inp 10, .inp 11, .inp 12, .inp 13, .inp 14, .inp 15, .inp 16, .inp 17, .inp 18, .inp 19, .inp 20, .inp 21, .inp 22, .inp 23, .inp 24, .inp 25, .inp 26, .inp 27, .inp 28, .inp 29, .inp 30, .inp 31, .inp 32, .inp 33, .inp 34, .inp 35, .inp 36, .inp 37, .inp 38, .inp 39, .inp 40, .inp 41, .inp 42, .inp 43, .inp 44, .inp 45, .inp 46, .inp 47, .inp 48, .inp 49, .inp 50, .inp 51, .inp 52, .inp 53, .inp 54, .inp 55, .inp 56, .inp 57, .inp 58, .inp 59, .inp 60, .inp 61, .inp 62, .inp 63, .inp 64, .inp 65, .inp 66, .inp 67, .inp 68, .inp 69, .inp 70, .inp 71, .inp 72, .inp 73]
@[simp] noncomputable def qka3_131 : SE := .agg [.inp 76, .inp 77, .inp 78, .inp 79, .inp 80, .inp 81, .inp 82, .inp 83, .inp 84, .inp 85, .inp 86, .inp 87, .inp 88, .inp 89, .inp 90, .inp 91, .inp 92, .inp 93, .inp 94, .inp 95, .inp 96, .inp 97, .inp 98, .inp 99, .inp 100, .inp 101, .inp 102, .inp 103, .inp 104, .inp 105, .inp 106, .inp 107, .inp 108, .inp 109, .inp 110, .inp 111, .inp 112, .inp 113, .inp 114, .inp 115, .inp 116, .inp 117, .inp 118, .inp 119, .inp 120, .inp 121, .inp 122, .inp 123, .inp 124, .inp 125, .inp 126, .inp 127, .inp 128, .inp 129, .inp 130, .inp 131, .inp 132, .inp 133, .inp 134, .inp 135, .inp 136, .inp 137, .inp 138, .inp 139, .inp 140, .inp 141, .inp 142, .inp 143, .inp 144, .inp 145, .inp 146, .inp 147]
@[simp] noncomputable def qka3_132 : SE := .app (.eqa [ some .i64, some .i64, none, some .i64, some .i64, none, some .i64, some .i64, none, some .i64, some .i64, none, some .i64, some .i64, none, some .i64, some .i64, none, some .i64, some .i64, none, some .i64, some .i64, none, some .i64, some .i64, none, some .i64, some .i64, none, some .i64, some .i64, none, some .i64, some .i64, none, some .i64, some .i64, none, some .i64, some .i64, none, some .i64, some .i64, none, some .i64, some .i64, none, some .i64, some .i64, none, some .i64, some .i64, none, some .i64, some .i64, none, some .i64, some .i64, none, some .i64, some .i64, none, some .i64, some .i64, none, some .i64, some .i64, none, some .i64, some .i64, none] false) [qka3_130, qka3_131]
@[simp] noncomputable def qka3_133 : SE := .app (.bin .gtr) [.app .len [.inp 1], .int .i64 6]
@[simp] noncomputable def qka3_134 : SE := .app (.bin .lss) [.inp 0, .int .i64 1]
@[simp] noncomputable def qka3_135 : SE := .app .pick [qka3_133, .bool true, qka3_134]
@[simp] noncomputable def qka3_136 : SE := .app (.bin .gtr) [.inp 0, .int .i64 1073741824]
@[simp] noncomputable def qka3_137 : SE := .app (.eidx 23) [.inp 1, .inp 75]
@[simp] noncomputable def qka3_138 : SE := .app (.eload 23 true) [qka3_137]
@[simp] noncomputable def qka3_139 : SE := .app (.part 0 1 false) [qka3_138]
@[simp] noncomputable def qka3_140 : SE := .agg [qka3_139, .app (.part 1 1 false) [qka3_138], .app (.part 2 1 false) [qka3_138], .app (.part 3 1 false) [qka3_138], .app (.part 4 1 false) [qka3_138], .app (.part 5 1 false) [qka3_138], .app (.part 6 1 false) [qka3_138], .app (.part 7 1 false) [qka3_138], .app (.part 8 1 false) [qka3_138], .app (.part 9 1 false) [qka3_138], .app (.part 10 1 false) [qka3_138], .app (.part 11 1 false) [qka3_138], .app (.part 12 1 false) [qka3_138], .app (.part 13 1 false) [qka3_138], .app (.part 14 1 false) [qka3_138], .app (.part 15 1 false) [qka3_138], .app (.part 16 1 false) [qka3_138], .app (.part 17 1 false) [qka3_138], .app (.part 18 1 false) [qka3_138], .app (.part 19 1 false) [qka3_138], .app (.part 20 1 false) [qka3_138], .app (.part 21 1 false) [qka3_138], .app (.part 22 1 false) [qka3_138]]
@[simp] noncomputable def qka3_141 : SE := .app (.bin .geq) [qka3_139, .inp 0]
@[simp] noncomputable def qka3_142 : SE := .app .pick [.app (.un .not) [.inp 76], .bool true, qka3_141]
@[simp] noncomputable def qka3_143 : SE := .app (.bin .gtr) [.inp 75, .int .i64 0]
@[simp] noncomputable def qka3_144 : SE := .app (.bin .sub) [.inp 75, .int .i64 1]
@[simp] noncomputable def qka3_145 : SE := .app (.eidx 23) [.inp 1, qka3_144]
@[simp] noncomputable def qka3_146 : SE := .app (.eoff 0) [qka3_145]
@[simp] noncomputable def qka3_147 : SE := .app (.eload 1 false) [qka3_146]
@[simp] noncomputable def qka3_148 : SE := .app (.bin .leq) [qka3_139, qka3_147]
@[simp] noncomputable def qka3_149 : SE := .app .pick [qka3_143, qka3_148, .bool false]
@[simp] noncomputable def qka3_150 : SE := .app (.eidx 23) [.inp 1, .inp 81]
@[simp] noncomputable def qka3_151 : SE := .app (.aidx 24 3 2 3 true) [qka3_88, .inp 76]
@[simp] noncomputable def qka3_152 : SE := .app (.bin .add) [.inp 76, .int .i64 1]
noncomputable def rt_back_Cancel : RT :=
.seg [.chk [] (.isAgg 11) [qka3_0]] <|
.seg [.chk [] (.isAgg 29) [qka3_1]] <|
.seg [.chk [] (.isAgg 74) [qka3_2]] <|
.seg [.chk [] (.isAgg 11) [qka3_0]] <|
.seg [.chk [] (.isAgg 29) [qka3_1]] <|
.seg [.chk [] (.isAgg 74) [qka3_2]] <|
.seg [.chk [] .len [.inp 41],
.isNil 115 [] (.inp 41)] <|
.cond (.inp 115)
 (.seg [.chk [] .len [.nils]] <|
.loop 0 116 [] <|
.seg [.chk [] (.bin .lss) [.int .i64 0, .int .i64 0]] <|
.seg [.chk [] (.isAgg 74) [qka3_3]] <|
.seg [.chk [] (.isAgg 74) [qka3_3]] <|
.seg [.chk [] .len [.nils]] <|
.loop 0 116 [] <|
.seg [.chk [] (.bin .lss) [.int .i64 0, .int .i64 0]] <|
.seg [.chk [] (.bin .lss) [.int .i64 (-1), .int .i64 0]] <|
.seg [.chk [] (.isAgg 74) [qka3_3]] <|
.ret (.tup [.agg [.inp 40, .nils, .inp 42, .inp 43, .inp 44, .inp 45, .inp 46, .inp 47, .inp 48, .inp 49, .inp 50, .inp 51, .inp 52, .inp 53, .inp 54, .inp 55, .inp 56, .inp 57, .inp 58, .inp 59, .inp 60, .inp 61, .inp 62, .inp 63, .inp 64, .inp 65, .inp 66, .inp 67, .inp 68, .inp 69, .inp 70, .inp 71, .inp 72, .inp 73, .inp 74, .inp 75, .inp 76, .inp 77, .inp 78, .inp 79, .inp 80, .inp 81, .inp 82, .inp 83, .inp 84, .inp 85, .inp 86, .inp 87, .inp 88, .inp 89, .inp 90, .inp 91, .inp 92, .inp 93, .inp 94, .inp 95, .inp 96, .inp 97, .inp 98, .inp 99, .inp 100, .inp 101, .inp 102, .inp 103, .inp 104, .inp 105, .inp 106, .inp 107, .inp 108, .inp 109, .inp 110, .inp 111, .inp 112, .inp 113], .bool false]))
 (.seg [.chk [] (.szs 23) [.inp 41],
.chk [] .app [.app .lst [], .inp 41]] <|
.seg [.chk [] .len [qka3_4]] <|
.loop 0 116 [.int .i64 0, qka3_4] <|
.seg [.chk [] (.bin .lss) [.inp 116, qka3_5]] <|
.cond (.app (.bin .lss) [.inp 116, qka3_5])
 (.seg [.chk [] (.eidx 23) [.inp 117, .inp 116]] <|
.seg [.chk [] (.rowget 23 0 23 true) [.inp 117, .inp 116]] <|
.seg [.chk [] (.isAgg 23) [qka3_6]] <|
.seg [.call 118 [] 34 [.agg [.app (.part 0 1 false) [qka3_6], .app (.part 1 1 false) [qka3_6], .app (.part 2 1 false) [qka3_6], .app (.part 3 1 false) [qka3_6], .app (.part 4 1 false) [qka3_6], .app (.part 5 1 false) [qka3_6], .app (.part 6 1 false) [qka3_6], .app (.part 7 1 false) [qka3_6], .app (.part 8 1 false) [qka3_6], .app (.part 9 1 false) [qka3_6], .app (.part 10 1 false) [qka3_6], .app (.part 11 1 false) [qka3_6], .app (.part 12 1 false) [qka3_6], .app (.part 13 1 false) [qka3_6], .app (.part 14 1 false) [qka3_6], .app (.part 15 1 false) [qka3_6], .app (.part 16 1 false) [qka3_6], .app (.part 17 1 false) [qka3_6], .app (.part 18 1 false) [qka3_6], .app (.part 19 1 false) [qka3_6], .app (.part 20 1 false) [qka3_6], .app (.part 21 1 false) [qka3_6], .app (.part 22 1 false) [qka3_6]]] false,
.chk [] (.eidx 23) [.inp 117, .inp 116],
.chk [] (.rowset 23 0 23) [.inp 117, .inp 116, qka3_7],
.chk [] (.isAgg 23) [.inp 118]] <|
.seg [.bind 119 (.app (.rowset 23 0 23) [.inp 117, .inp 116, qka3_7])] <|
.seg [.chk [] (.bin .add) [.inp 116, .int .i64 1]] <|
.again 0 [.app (.bin .add) [.inp 116, .int .i64 1], .inp 119])
 (.seg [.chk [] (.isAgg 74) [qka3_8]] <|
.seg [.chk [] (.isAgg 74) [qka3_8]] <|
.seg [.chk [] .len [.inp 117]] <|
.loop 0 118 [.int .i64 (-1), .int .i64 0] <|
.seg [.chk [] (.bin .lss) [.inp 119, .app .len [.inp 117]]] <|
.cond (.app (.bin .lss) [.inp 119, .app .len [.inp 117]])
 (.seg [.chk [] (.eidx 23) [.inp 117, .inp 119]] <|
.seg [.chk [] (.rowget 23 0 23 true) [.inp 117, .inp 119]] <|
.seg [.chk [] (.isAgg 23) [qka3_9]] <|
.seg [.chk [] (.bin .eql) [qka3_10, .inp 114],
.chk [(qka3_11, true)] (.bin .lss) [.inp 118, .int .i64 0],
.chk [(qka3_12, false), (qka3_11, true)] (.eidx 23) [.inp 117, .inp 118],
.chk [(qka3_12, false), (qka3_11, true)] (.inr 4294967296) [.inp 118],
.chk [(qka3_12, false), (qka3_11, true)] (.rowget 23 0 1 false) [.inp 117, .inp 118],
.chk [(qka3_12, false), (qka3_11, true)] (.bin .gtr) [qka3_13, qka3_14],
.chk [(qka3_11, true)] .pick [qka3_12, .bool true, qka3_15],
.chk [] .pick [qka3_11, qka3_16, .bool false]] <|
.seg [.bind 120 (qka3_16),
.bind 121 (.app .pick [qka3_11, qka3_16, .bool false])] <|
.cond (.inp 121)
 (.seg [.chk [] (.bin .add) [.inp 119, .int .i64 1]] <|
.again 0 [.inp 119, qka3_17])
 (.seg [.chk [] (.bin .add) [.inp 119, .int .i64 1]] <|
.again 0 [.inp 118, qka3_17]))
 (.seg [.chk [] (.bin .lss) [.inp 118, .int .i64 0]] <|
.seg [.chk [(qka3_12, false)] (.eidx 23) [.inp 117, .inp 118]] <|
.seg [.chk [(qka3_12, false)] (.inr 4294967296) [.inp 118]] <|
.seg [.chk [(qka3_12, false)] (.rowget 23 6 1 false) [.inp 117, .inp 118]] <|
.seg [.chk [(qka3_12, false)] (.bin .eql) [qka3_18, .int .u8 0]] <|
.seg [.chk [(qka3_12, false)] (.eqf false) [qka3_22, .nilf]] <|
.seg [.chk [] .pick [qka3_12, .bool true, qka3_23]] <|
.cond (.app .pick [qka3_12, .bool true, qka3_23])
 (.seg [.chk [] (.isAgg 74) [qka3_8]] <|
.ret (qka3_24))
 (.cond (qka3_19)
 (.seg [.chk [] (.eidx 23) [.inp 117, .inp 118],
.chk [] (.inr 4294967296) [.inp 118],
.chk [] (.rowget 23 6 1 false) [.inp 117, .inp 118],
.chk [] (.bin .eql) [qka3_18, .int .u8 0],
.chk [] (.eidx 23) [.inp 117, .inp 118],
.chk [] (.rowget 23 0 23 true) [.inp 117, .inp 118],
.call 120 [] 55 [qka3_25] false] <|
.seg [.chk [] (.bin .eql) [.inp 120, .int .i64 1]] <|
.cond (qka3_26)
 (.seg [.chk [] (.bin .add) [.inp 118, .int .i64 1]] <|
.seg [.chk [] (.szs 23) [.inp 117],
.chk [] .app [.inp 117, .nils],
.chk [] (.bin .add) [.inp 118, .int .i64 1],
.chk [] (.bin .lss) [qka3_27, .int .i64 0],
.chk [] (.slice true true) [.inp 117, .inp 118, qka3_27],
.chk [] (.slice true true) [.inp 117, qka3_27, qka3_27]] <|
.seg [.chk [] (.isAgg 74) [qka3_28]] <|
.ret (qka3_29))
 (.seg [.chk [] (.bin .eql) [.inp 120, .int .i64 2]] <|
.cond (qka3_30)
 (.seg [.chk [] (.eidx 23) [.inp 117, .inp 118],
.chk [] (.inr 4294967296) [.inp 118],
.chk [] (.rowset 23 6 1) [.inp 117, .inp 118, .agg [.int .u8 4]],
.chk [] (.eidx 23) [qka3_31, .inp 118],
.chk [] (.inr 4294967296) [.inp 118],
.chk [] (.rowset 23 21 1) [qka3_31, .inp 118, .agg [.inp 7]],
.chk [] .isOne [.inp 7]] <|
.seg [.chk [] (.isAgg 74) [qka3_8]] <|
.ret (qka3_32))
 (.seg [.chk [] (.isAgg 74) [qka3_8]] <|
.ret (qka3_24))))
 (.cond (qka3_20)
 (.seg [.chk [] (.eidx 23) [.inp 117, .inp 118],
.chk [] (.inr 4294967296) [.inp 118],
.chk [] (.rowget 23 6 1 false) [.inp 117, .inp 118],
.chk [] (.bin .eql) [qka3_18, .int .u8 0],
.chk [] (.eidx 23) [.inp 117, .inp 118],
.chk [] (.rowget 23 0 23 true) [.inp 117, .inp 118],
.call 120 [] 56 [qka3_25, qka3_33, qka3_34] true] <|
.seg [.chk [] (.bin .eql) [.inp 120, .int .i64 1]] <|
.cond (qka3_26)
 (.seg [.chk [] (.bin .add) [.inp 118, .int .i64 1]] <|
.seg [.chk [] (.szs 23) [.inp 117],
.chk [] .app [.inp 117, .nils],
.chk [] (.bin .add) [.inp 118, .int .i64 1],
.chk [] (.bin .lss) [qka3_27, .int .i64 0],
.chk [] (.slice true true) [.inp 117, .inp 118, qka3_27],
.chk [] (.slice true true) [.inp 117, qka3_27, qka3_27]] <|
.seg [.chk [] (.isAgg 74) [qka3_28]] <|
.ret (qka3_29))
 (.seg [.chk [] (.bin .eql) [.inp 120, .int .i64 2]] <|
.cond (qka3_30)
 (.seg [.chk [] (.eidx 23) [.inp 117, .inp 118],
.chk [] (.inr 4294967296) [.inp 118],
.chk [] (.rowset 23 6 1) [.inp 117, .inp 118, .agg [.int .u8 4]],
.chk [] (.eidx 23) [qka3_31, .inp 118],
.chk [] (.inr 4294967296) [.inp 118],
.chk [] (.rowset 23 21 1) [qka3_31, .inp 118, .agg [.inp 7]],
.chk [] .isOne [.inp 7]] <|
.seg [.chk [] (.isAgg 74) [qka3_8]] <|
.ret (qka3_32))
 (.seg [.chk [] (.isAgg 74) [qka3_8]] <|
.ret (qka3_24))))
 (.cond (qka3_21)
 (.seg [.chk [] (.eidx 23) [.inp 117, .inp 118],
.chk [] (.inr 4294967296) [.inp 118],
.chk [] (.rowget 23 6 1 false) [.inp 117, .inp 118],
.chk [] (.bin .eql) [qka3_18, .int .u8 0],
.chk [] (.eidx 23) [.inp 117, .inp 118],
.chk [] (.rowget 23 0 23 true) [.inp 117, .inp 118],
.call 120 [] 57 [qka3_25, qka3_33, qka3_34] true] <|
.seg [.chk [] (.bin .eql) [.inp 120, .int .i64 1]] <|
.cond (qka3_26)
 (.seg [.chk [] (.bin .add) [.inp 118, .int .i64 1]] <|
.seg [.chk [] (.szs 23) [.inp 117],
.chk [] .app [.inp 117, .nils],
.chk [] (.bin .add) [.inp 118, .int .i64 1],
.chk [] (.bin .lss) [qka3_27, .int .i64 0],
.chk [] (.slice true true) [.inp 117, .inp 118, qka3_27],
.chk [] (.slice true true) [.inp 117, qka3_27, qka3_27]] <|
.seg [.chk [] (.isAgg 74) [qka3_28]] <|
.ret (qka3_29))
 (.seg [.chk [] (.bin .eql) [.inp 120, .int .i64 2]] <|
.cond (qka3_30)
 (.seg [.chk [] (.eidx 23) [.inp 117, .inp 118],
.chk [] (.inr 4294967296) [.inp 118],
.chk [] (.rowset 23 6 1) [.inp 117, .inp 118, .agg [.int .u8 4]],
.chk [] (.eidx 23) [qka3_31, .inp 118],
.chk [] (.inr 4294967296) [.inp 118],
.chk [] (.rowset 23 21 1) [qka3_31, .inp 118, .agg [.inp 7]],
.chk [] .isOne [.inp 7]] <|
.seg [.chk [] (.isAgg 74) [qka3_8]] <|
.ret (qka3_32))
 (.seg [.chk [] (.isAgg 74) [qka3_8]] <|
.ret (qka3_24))))
 (.dead 17 [.int .i64 13, .int .i64 1, .nilf, qka3_25])))))))
theorem run_back_Cancel : runF E 10 [.agg [.inp 0, .inp 1, .inp 2, .inp 3, .inp 4, .inp 5, .inp 6, .inp 7, .inp 8, .inp 9, .inp 10], .agg [.inp 11, .inp 12, .inp 13, .inp 14, .inp 15, .inp 16, .inp 17, .inp 18, .inp 19, .inp 20, .inp 21, .inp 22, .inp 23, .inp 24, .inp 25, .inp 26, .inp 27, .inp 28, .inp 29, .inp 30, .inp 31, .inp 32, .inp 33, .inp 34, .inp 35, .inp 36, .inp 37, .inp 38, .inp 39], .agg [.inp 40, .inp 41, .inp 42, .inp 43, .inp 44, .inp 45, .inp 46, .inp 47, .inp 48, .inp 49, .inp 50, .inp 51, .inp 52, .inp 53, .inp 54, .inp 55, .inp 56, .inp 57, .inp 58, .inp 59, .inp 60, .inp 61, .inp 62, .inp 63, .inp 64, .inp 65, .inp 66, .inp 67, .inp 68, .inp 69, .inp 70, .inp 71, .inp 72, .inp 73, .inp 74, .inp 75, .inp 76, .inp 77, .inp 78, .inp 79, .inp 80, .inp 81, .inp 82, .inp 83, .inp 84, .inp 85, .inp 86, .inp 87, .inp 88, .inp 89, .inp 90, .inp 91, .inp 92, .inp 93, .inp 94, .inp 95, .inp 96, .inp 97, .inp 98, .inp 99, .inp 100, .inp 101, .inp 102, .inp 103, .inp 104, .inp 105, .inp 106, .inp 107, .inp 108, .inp 109, .inp 110, .inp 111, .inp 112, .inp 113], .inp 114] 115 = rt_back_Cancel := by kernel_rfl

noncomputable def rt_back_Tick : RT :=
.seg [.chk [] (.isAgg 11) [qka3_0]] <|
.seg [.chk [] (.isAgg 29) [qka3_1]] <|
.seg [.chk [] (.isAgg 23) [qka3_35]] <|
.seg [.call 63 [] 34 [qka3_35] false] <|
.seg [.chk [] (.isAgg 23) [.inp 63]] <|
.seg [.chk [] (.bin .neq) [qka3_36, .int .u8 4]] <|
.seg [.call 64 [(qka3_37, false)] 35 [qka3_0, qka3_1] false] <|
.seg [.chk [] .pick [qka3_37, .bool true, .inp 64]] <|
.cond (.app .pick [qka3_37, .bool true, .inp 64])
 (.seg [.chk [] (.isAgg 23) [qka3_60]] <|
.ret (qka3_61))
 (.seg [.call 65 [] 36 [qka3_0, qka3_1, qka3_60] false] <|
.cond (.inp 65)
 (.seg [.call 66 [] 37 [qka3_0, qka3_1, .agg [qka3_38, qka3_39, qka3_40, qka3_41, qka3_42, qka3_43, .int .u8 3, qka3_44, qka3_45, qka3_46, qka3_47, qka3_48, qka3_49, qka3_50, qka3_51, qka3_52, qka3_53, qka3_54, qka3_55, qka3_56, qka3_57, .int .i64 0, qka3_59]] false] <|
.seg [.chk [] (.isAgg 23) [.inp 66]] <|
.seg [.chk [] (.isAgg 23) [qka3_62]] <|
.ret (.tup [qka3_62, .bool false]))
 (.seg [.call 66 [] 16 [qka3_0, qka3_1, qka3_60] false] <|
.cond (.inp 66)
 (.seg [.chk [] (.isAgg 23) [qka3_60]] <|
.ret (qka3_61))
 (.seg [.call 67 [] 38 [qka3_58] false] <|
.seg [.chk [] .isOne [.inp 67]] <|
.seg [.chk [] (.bin .eql) [.inp 67, .int .i64 0]] <|
.seg [.chk [] (.isAgg 23) [qka3_63]] <|
.ret (.tup [qka3_63, .app (.bin .eql) [.inp 67, .int .i64 0]]))))
theorem run_back_Tick : runF E 12 [.agg [.inp 0, .inp 1, .inp 2, .inp 3, .inp 4, .inp 5, .inp 6, .inp 7, .inp 8, .inp 9, .inp 10], .agg [.inp 11, .inp 12, .inp 13, .inp 14, .inp 15, .inp 16, .inp 17, .inp 18, .inp 19, .inp 20, .inp 21, .inp 22, .inp 23, .inp 24, .inp 25, .inp 26, .inp 27, .inp 28, .inp 29, .inp 30, .inp 31, .inp 32, .inp 33, .inp 34, .inp 35, .inp 36, .inp 37, .inp 38, .inp 39], .agg [.inp 40, .inp 41, .inp 42, .inp 43, .inp 44, .inp 45, .inp 46, .inp 47, .inp 48, .inp 49, .inp 50, .inp 51, .inp 52, .inp 53, .inp 54, .inp 55, .inp 56, .inp 57, .inp 58, .inp 59, .inp 60, .inp 61, .inp 62]] 63 = rt_back_Tick := by kernel_rfl

noncomputable def rt_beyond_Rear : RT :=
.seg [.chk [] (.isAgg 11) [qka3_0]] <|
.seg [.chk [] (.bin .lss) [.inp 11, .int .i64 0]] <|
.seg [.chk [(qka3_64, false)] .len [.inp 1]] <|
.seg [.chk [(qka3_64, false)] (.bin .geq) [.inp 11, .app .len [.inp 1]]] <|
.seg [.chk [] .pick [qka3_64, .bool true, qka3_65]] <|
.cond (qka3_66)
 (.seg [.chk [] (.eload 2 true) [qka3_67]] <|
.seg [.chk [] (.isAgg 2) [qka3_68]] <|
.ret (qka3_69))
 (.seg [.chk [] (.eidx 2) [.inp 1, .inp 11],
.chk [] (.eoff 0) [qka3_70],
.chk [] (.eload 2 true) [qka3_71],
.call 12 [] 72 [qka3_0, qka3_72] false,
.chk [] (.isAgg 2) [.inp 12]] <|
.ret (qka3_73))
theorem run_beyond_Rear : runF E 46 [.agg [.inp 0, .inp 1, .inp 2, .inp 3, .inp 4, .inp 5, .inp 6, .inp 7, .inp 8, .inp 9, .inp 10], .inp 11] 12 = rt_beyond_Rear := by kernel_rfl

noncomputable def rt_join_Beyond : RT :=
.seg [.chk [] (.isAgg 11) [qka3_0]] <|
.seg [.chk [] (.isAgg 2) [.agg [.inp 11, .inp 12]]] <|
.seg [.call 13 [] 88 [qka3_0, .agg [.inp 11, .inp 12]] false] <|
.cond (.inp 13)
 (.seg [.chk [] (.eidx 11) [.inp 0, .inp 11],
.chk [] (.eoff 1) [qka3_74],
.chk [] (.eaidx 4 2) [qka3_75, .inp 12],
.chk [] (.eload 2 true) [qka3_76],
.chk [] (.isAgg 2) [qka3_77]] <|
.ret (qka3_78))
 (.seg [.chk [] (.eload 2 true) [qka3_67]] <|
.seg [.chk [] (.isAgg 2) [qka3_68]] <|
.ret (qka3_69))
theorem run_join_Beyond : runF E 72 [.agg [.inp 0, .inp 1, .inp 2, .inp 3, .inp 4, .inp 5, .inp 6, .inp 7, .inp 8, .inp 9, .inp 10], .agg [.inp 11, .inp 12]] 13 = rt_join_Beyond := by kernel_rfl

noncomputable def rt_join_Has : RT :=
.seg [.chk [] (.isAgg 11) [qka3_0]] <|
.seg [.chk [] (.isAgg 2) [.agg [.inp 11, .inp 12]]] <|
.seg [.chk [] (.bin .geq) [.inp 11, .int .i64 0],
.chk [(qka3_79, true)] .len [.inp 0],
.chk [(qka3_79, true)] (.bin .lss) [.inp 11, .app .len [.inp 0]],
.chk [] .pick [qka3_79, qka3_80, .bool false],
.chk [(qka3_81, true)] (.bin .geq) [.inp 12, .int .i64 0],
.chk [] .pick [qka3_81, qka3_82, .bool false],
.chk [(qka3_83, true)] (.eidx 11) [.inp 0, .inp 11],
.chk [(qka3_83, true)] (.eoff 0) [qka3_74],
.chk [(qka3_83, true)] (.eload 1 false) [qka3_84],
.call 13 [(qka3_83, true)] 100 [qka3_85] false,
.chk [(qka3_83, true)] (.bin .lss) [.inp 12, .inp 13],
.chk [] .pick [qka3_83, qka3_86, .bool false]] <|
.seg [.bind 14 (qka3_87),
.bind 15 (qka3_83)] <|
.ret (.inp 14)
theorem run_join_Has : runF E 88 [.agg [.inp 0, .inp 1, .inp 2, .inp 3, .inp 4, .inp 5, .inp 6, .inp 7, .inp 8, .inp 9, .inp 10], .agg [.inp 11, .inp 12]] 13 = rt_join_Has := by kernel_rfl

noncomputable def rt_port_Ports : RT :=
.seg [.call 1 [] 111 [.inp 0] false] <|
.seg [.chk [] (.part 0 1 false) [.inp 1]] <|
.ret (.app (.part 0 1 false) [.inp 1])
theorem run_port_Ports : runF E 100 [.inp 0] 1 = rt_port_Ports := by kernel_rfl

noncomputable def rt_lockbarref06_Great : RT :=
.seg [.chk [] (.isAgg 11) [qka3_0]] <|
.loop 0 11 [.int .i64 0] <|
.seg [.chk [] .len [.inp 2]] <|
.seg [.chk [] (.bin .lss) [.inp 11, .app .len [.inp 2]]] <|
.seg [.chk [(qka3_94, true)] (.bin .leq) [.inp 11, .int .i64 30]] <|
.seg [.chk [] .pick [qka3_94, qka3_95, .bool false]] <|
.cond (.app .pick [qka3_94, qka3_95, .bool false])
 (.seg [.chk [] (.eidx 3) [.inp 2, .inp 11]] <|
.seg [.chk [] (.eoff 2) [qka3_96]] <|
.seg [.chk [] (.eload 1 false) [qka3_97]] <|
.seg [.chk [] .len [qka3_98]] <|
.seg [.chk [] (.bin .gtr) [qka3_99, .int .i64 20]] <|
.cond (.app (.bin .gtr) [qka3_99, .int .i64 20])
 (.ret (.bool true))
 (.seg [.chk [] (.bin .add) [.inp 11, .int .i64 1]] <|
.again 0 [.app (.bin .add) [.inp 11, .int .i64 1]]))
 (.seg [.chk [] .len [.inp 0]] <|
.seg [.chk [] (.bin .gtr) [.app .len [.inp 0], .int .i64 40]] <|
.seg [.chk [(qka3_100, false)] .len [.inp 1]] <|
.seg [.chk [(qka3_100, false)] (.bin .gtr) [.app .len [.inp 1], .int .i64 30]] <|
.seg [.chk [] .pick [qka3_100, .bool true, qka3_101]] <|
.seg [.chk [(qka3_102, false)] .len [.inp 2]] <|
.seg [.chk [(qka3_102, false)] (.bin .gtr) [.app .len [.inp 2], .int .i64 30]] <|
.seg [.chk [] .pick [qka3_102, .bool true, qka3_103]] <|
.seg [.chk [(qka3_104, false)] .len [.inp 3]] <|
.seg [.chk [(qka3_104, false)] (.bin .gtr) [.app .len [.inp 3], .int .i64 40]] <|
.seg [.chk [] .pick [qka3_104, .bool true, qka3_105]] <|
.seg [.bind 12 (.app .pick [qka3_104, .bool true, qka3_105]),
.bind 13 (qka3_102),
.bind 14 (qka3_104)] <|
.ret (.inp 12))
theorem run_lockbarref06_Great : runF E 7 [.agg [.inp 0, .inp 1, .inp 2, .inp 3, .inp 4, .inp 5, .inp 6, .inp 7, .inp 8, .inp 9, .inp 10]] 11 = rt_lockbarref06_Great := by kernel_rfl

noncomputable def rt_lockbarref16_Rest : RT :=
.ret (.agg [.int .i64 (-1), .int .i64 0, .bool false])
theorem run_lockbarref16_Rest : runF E 79 [] 0 = rt_lockbarref16_Rest := by kernel_rfl

noncomputable def rt_lockbarref16_Right : RT :=
.seg [.chk [] (.isAgg 3) [qka3_107]] <|
.seg [.chk [] (.bin .lss) [.inp 0, .int .i64 (-1)]] <|
.seg [.chk [(qka3_108, false)] (.bin .gtr) [.inp 0, .int .i64 1]] <|
.seg [.chk [] .pick [qka3_108, .bool true, qka3_109]] <|
.seg [.chk [(qka3_110, false)] (.bin .lss) [.inp 1, .int .i64 0]] <|
.seg [.chk [] .pick [qka3_110, .bool true, qka3_111]] <|
.seg [.chk [(qka3_112, false)] (.bin .gtr) [.inp 1, .int .i64 1000]] <|
.seg [.chk [] .pick [qka3_112, .bool true, qka3_113]] <|
.seg [.bind 3 (qka3_112),
.bind 4 (.app .pick [qka3_112, .bool true, qka3_113])] <|
.cond (.inp 4)
 (.ret (.bool false))
 (.seg [.chk [] (.bin .geq) [.inp 0, .int .i64 0],
.call 5 [(qka3_114, false)] 79 [] false,
.chk [(qka3_114, false)] (.eqa [ some .i64, some .i64, none] false) [qka3_107, .inp 5],
.chk [] .pick [qka3_114, .bool true, qka3_115]] <|
.seg [.bind 6 (.app .pick [qka3_114, .bool true, qka3_115])] <|
.ret (.inp 6))
theorem run_lockbarref16_Right : runF E 50 [.agg [.inp 0, .inp 1, .inp 2]] 3 = rt_lockbarref16_Right := by kernel_rfl

noncomputable def rt_port_of : RT :=
.seg [.chk [] (.conv .i64) [.inp 0]] <|
.seg [.chk [] (.bin .lss) [.app (.conv .i64) [.inp 0], .int .i64 4]] <|
.cond (.app (.bin .lss) [.app (.conv .i64) [.inp 0], .int .i64 4])
 (.seg [.chk [] (.eaidx 4 7) [qka3_116, .inp 0]] <|
.seg [.chk [] (.eload 7 true) [qka3_117]] <|
.seg [.chk [] (.isAgg 7) [qka3_118]] <|
.seg [.bind 1 (qka3_117),
.bind 2 (qka3_118),
.bind 3 (.app (.part 0 1 false) [qka3_118]),
.bind 4 (.app (.part 1 1 false) [qka3_118]),
.bind 5 (.app (.part 2 1 false) [qka3_118]),
.bind 6 (.app (.part 3 1 false) [qka3_118]),
.bind 7 (.app (.part 4 1 false) [qka3_118]),
.bind 8 (.app (.part 5 1 false) [qka3_118]),
.bind 9 (.app (.part 6 1 false) [qka3_118])] <|
.ret (.agg [.inp 3, .inp 4, .inp 5, .inp 6, .inp 7, .inp 8, .inp 9]))
 (.ret (.agg [.int .i64 0, .int .i64 0, .int .i64 0, .int .i64 0, .int .i64 0, .int .i64 0, .bool false]))
theorem run_port_of : runF E 111 [.inp 0] 1 = rt_port_of := by kernel_rfl

noncomputable def rt_lockbarref17_Apart : RT :=
.seg [.chk [] (.isAgg 23) [qka3_119]] <|
.seg [.chk [] (.isAgg 23) [qka3_120]] <|
.seg [.call 46 [] 76 [qka3_119] false] <|
.loop 0 47 [.int .i64 0] <|
.seg [.chk [] .len [.inp 46]] <|
.seg [.chk [] (.bin .lss) [.inp 47, .app .len [.inp 46]]] <|
.cond (.app (.bin .lss) [.inp 47, .app .len [.inp 46]])
 (.seg [.chk [] (.eidx 1) [.inp 46, .inp 47],
.chk [] (.eload 1 false) [qka3_121],
.call 48 [] 77 [qka3_120, .app (.eload 1 false) [qka3_121]] false] <|
.cond (.inp 48)
 (.ret (.bool false))
 (.seg [.chk [] (.bin .add) [.inp 47, .int .i64 1]] <|
.again 0 [.app (.bin .add) [.inp 47, .int .i64 1]]))
 (.seg [.call 48 [] 78 [qka3_119] false,
.call 49 [] 78 [qka3_120] false,
.call 50 [] 75 [.inp 48, .inp 49] false,
.chk [] (.un .not) [.inp 50]] <|
.ret (.app (.un .not) [.inp 50]))
theorem run_lockbarref17_Apart : runF E 49 [.agg [.inp 0, .inp 1, .inp 2, .inp 3, .inp 4, .inp 5, .inp 6, .inp 7, .inp 8, .inp 9, .inp 10, .inp 11, .inp 12, .inp 13, .inp 14, .inp 15, .inp 16, .inp 17, .inp 18, .inp 19, .inp 20, .inp 21, .inp 22], .agg [.inp 23, .inp 24, .inp 25, .inp 26, .inp 27, .inp 28, .inp 29, .inp 30, .inp 31, .inp 32, .inp 33, .inp 34, .inp 35, .inp 36, .inp 37, .inp 38, .inp 39, .inp 40, .inp 41, .inp 42, .inp 43, .inp 44, .inp 45]] 46 = rt_lockbarref17_Apart := by kernel_rfl

noncomputable def rt_lockbarref18_Same : RT :=
.seg [.chk [] (.isAgg 74) [qka3_88]] <|
.seg [.chk [] (.isAgg 74) [.agg [.inp 74, .inp 75, .inp 76, .inp 77, .inp 78, .inp 79, .inp 80, .inp 81, .inp 82, .inp 83, .inp 84, .inp 85, .inp 86, .inp 87, .inp 88, .inp 89, .inp 90, .inp 91, .inp 92, .inp 93, .inp 94, .inp 95, .inp 96, .inp 97, .inp 98, .inp 99, .inp 100, .inp 101, .inp 102, .inp 103, .inp 104, .inp 105, .inp 106, .inp 107, .inp 108, .inp 109, .inp 110, .inp 111, .inp 112, .inp 113, .inp 114, .inp 115, .inp 116, .inp 117, .inp 118, .inp 119, .inp 120, .inp 121, .inp 122, .inp 123, .inp 124, .inp 125, .inp 126, .inp 127, .inp 128, .inp 129, .inp 130, .inp 131, .inp 132, .inp 133, .inp 134, .inp 135, .inp 136, .inp 137, .inp 138, .inp 139, .inp 140, .inp 141, .inp 142, .inp 143, .inp 144, .inp 145, .inp 146, .inp 147]]] <|
.seg [.chk [] .len [.inp 1]] <|
.seg [.chk [] .len [.inp 75]] <|
.seg [.chk [] (.bin .neq) [.app .len [.inp 1], .app .len [.inp 75]]] <|
.cond (.app (.bin .neq) [.app .len [.inp 1], .app .len [.inp 75]])
 (.ret (.bool false))
 (.loop 0 148 [.int .i64 0] <|
.seg [.chk [] .len [.inp 1]] <|
.seg [.chk [] (.bin .lss) [.inp 148, .app .len [.inp 1]]] <|
.cond (.app (.bin .lss) [.inp 148, .app .len [.inp 1]])
 (.seg [.chk [] (.eidx 23) [.inp 1, .inp 148],
.chk [] (.eload 23 true) [qka3_127],
.chk [] (.eidx 23) [.inp 75, .inp 148],
.chk [] (.eload 23 true) [qka3_128],
.call 149 [] 15 [.app (.eload 23 true) [qka3_127], .app (.eload 23 true) [qka3_128]] false,
.chk [] (.un .not) [.inp 149]] <|
.cond (.inp 149)
 (.seg [.chk [] (.bin .add) [.inp 148, .int .i64 1]] <|
.again 0 [.app (.bin .add) [.inp 148, .int .i64 1]])
 (.ret (.bool false)))
 (.seg [.chk [] (.bin .eql) [.inp 0, .inp 74]] <|
.seg [.chk [(qka3_129, true)] (.eqa [ some .i64, some .i64, none, some .i64, some .i64, none, some .i64, some .i64, none, some .i64, some .i64, none, some .i64, some .i64, none, some .i64, some .i64, none, some .i64, some .i64, none, some .i64, some .i64, none, some .i64, some .i64, none, some .i64, some .i64, none, some .i64, some .i64, none, some .i64, some .i64, none, some .i64, some .i64, none, some .i64, some .i64, none, some .i64, some .i64, none, some .i64, some .i64, none, some .i64, some .i64, none, some .i64, some .i64, none, some .i64, some .i64, none, some .i64, some .i64, none, some .i64, some .i64, none, some .i64, some .i64, none, some .i64, some .i64, none, some .i64, some .i64, none] false) [qka3_130, qka3_131]] <|
.seg [.chk [] .pick [qka3_129, qka3_132, .bool false]] <|
.seg [.bind 149 (.app .pick [qka3_129, qka3_132, .bool false]),
.bind 150 (qka3_132)] <|
.ret (.inp 149)))
theorem run_lockbarref18_Same : runF E 14 [.agg [.inp 0, .inp 1, .inp 2, .inp 3, .inp 4, .inp 5, .inp 6, .inp 7, .inp 8, .inp 9, .inp 10, .inp 11, .inp 12, .inp 13, .inp 14, .inp 15, .inp 16, .inp 17, .inp 18, .inp 19, .inp 20, .inp 21, .inp 22, .inp 23, .inp 24, .inp 25, .inp 26, .inp 27, .inp 28, .inp 29, .inp 30, .inp 31, .inp 32, .inp 33, .inp 34, .inp 35, .inp 36, .inp 37, .inp 38, .inp 39, .inp 40, .inp 41, .inp 42, .inp 43, .inp 44, .inp 45, .inp 46, .inp 47, .inp 48, .inp 49, .inp 50, .inp 51, .inp 52, .inp 53, .inp 54, .inp 55, .inp 56, .inp 57, .inp 58, .inp 59, .inp 60, .inp 61, .inp 62, .inp 63, .inp 64, .inp 65, .inp 66, .inp 67, .inp 68, .inp 69, .inp 70, .inp 71, .inp 72, .inp 73], .agg [.inp 74, .inp 75, .inp 76, .inp 77, .inp 78, .inp 79, .inp 80, .inp 81, .inp 82, .inp 83, .inp 84, .inp 85, .inp 86, .inp 87, .inp 88, .inp 89, .inp 90, .inp 91, .inp 92, .inp 93, .inp 94, .inp 95, .inp 96, .inp 97, .inp 98, .inp 99, .inp 100, .inp 101, .inp 102, .inp 103, .inp 104, .inp 105, .inp 106, .inp 107, .inp 108, .inp 109, .inp 110, .inp 111, .inp 112, .inp 113, .inp 114, .inp 115, .inp 116, .inp 117, .inp 118, .inp 119, .inp 120, .inp 121, .inp 122, .inp 123, .inp 124, .inp 125, .inp 126, .inp 127, .inp 128, .inp 129, .inp 130, .inp 131, .inp 132, .inp 133, .inp 134, .inp 135, .inp 136, .inp 137, .inp 138, .inp 139, .inp 140, .inp 141, .inp 142, .inp 143, .inp 144, .inp 145, .inp 146, .inp 147]] 148 = rt_lockbarref18_Same := by kernel_rfl

noncomputable def rt_lockbarref18_Right : RT :=
.seg [.chk [] (.isAgg 74) [qka3_88]] <|
.seg [.chk [] .len [.inp 1]] <|
.seg [.chk [] (.bin .gtr) [.app .len [.inp 1], .int .i64 6]] <|
.seg [.chk [(qka3_133, false)] (.bin .lss) [.inp 0, .int .i64 1]] <|
.seg [.chk [] .pick [qka3_133, .bool true, qka3_134]] <|
.seg [.chk [(qka3_135, false)] (.bin .gtr) [.inp 0, .int .i64 1073741824]] <|
.seg [.chk [] .pick [qka3_135, .bool true, qka3_136]] <|
.seg [.bind 74 (.app .pick [qka3_135, .bool true, qka3_136])] <|
.cond (.inp 74)
 (.ret (.bool false))
 (.loop 0 75 [.int .i64 0] <|
.seg [.chk [] .len [.inp 1]] <|
.seg [.chk [] (.bin .lss) [.inp 75, .app .len [.inp 1]]] <|
.cond (.app (.bin .lss) [.inp 75, .app .len [.inp 1]])
 (.seg [.chk [] (.eidx 23) [.inp 1, .inp 75]] <|
.seg [.chk [] (.eload 23 true) [qka3_137]] <|
.seg [.chk [] (.isAgg 23) [qka3_138]] <|
.seg [.call 76 [] 48 [qka3_140] false,
.chk [] (.un .not) [.inp 76],
.chk [(.app (.un .not) [.inp 76], false)] (.bin .geq) [qka3_139, .inp 0],
.chk [] .pick [.app (.un .not) [.inp 76], .bool true, qka3_141],
.chk [(qka3_142, false)] (.bin .gtr) [.inp 75, .int .i64 0],
.chk [(qka3_143, true), (qka3_142, false)] (.bin .sub) [.inp 75, .int .i64 1],
.chk [(qka3_143, true), (qka3_142, false)] (.eidx 23) [.inp 1, qka3_144],
.chk [(qka3_143, true), (qka3_142, false)] (.eoff 0) [qka3_145],
.chk [(qka3_143, true), (qka3_142, false)] (.eload 1 false) [qka3_146],
.chk [(qka3_143, true), (qka3_142, false)] (.bin .leq) [qka3_139, qka3_147],
.chk [(qka3_142, false)] .pick [qka3_143, qka3_148, .bool false],
.chk [] .pick [qka3_142, .bool true, qka3_149]] <|
.seg [.bind 77 (qka3_142),
.bind 78 (qka3_148),
.bind 79 (qka3_149),
.bind 80 (.app .pick [qka3_142, .bool true, qka3_149])] <|
.cond (.inp 80)
 (.ret (.bool false))
 (.loop 1 81 [.int .i64 0] <|
.seg [.chk [] (.bin .lss) [.inp 81, .inp 75]] <|
.cond (.app (.bin .lss) [.inp 81, .inp 75])
 (.seg [.chk [] (.eidx 23) [.inp 1, .inp 81],
.chk [] (.eload 23 true) [qka3_150],
.call 82 [] 49 [qka3_140, .app (.eload 23 true) [qka3_150]] false,
.chk [] (.un .not) [.inp 82]] <|
.cond (.inp 82)
 (.seg [.chk [] (.bin .add) [.inp 81, .int .i64 1]] <|
.again 1 [.app (.bin .add) [.inp 81, .int .i64 1]])
 (.ret (.bool false)))
 (.seg [.chk [] (.bin .add) [.inp 75, .int .i64 1]] <|
.again 0 [qka3_93])))
 (.loop 0 76 [.int .i64 0] <|
.seg [.chk [] (.bin .lss) [.inp 76, .int .i64 24]] <|
.cond (.app (.bin .lss) [.inp 76, .int .i64 24])
 (.seg [.chk [] (.inr 24) [.inp 76]] <|
.seg [.chk [] (.aidx 24 3 2 3 true) [qka3_88, .inp 76]] <|
.seg [.call 77 [] 50 [qka3_151] false] <|
.seg [.chk [] (.un .not) [.inp 77]] <|
.seg [.bind 78 (qka3_151)] <|
.cond (.inp 77)
 (.seg [.chk [] (.bin .add) [.inp 76, .int .i64 1]] <|
.again 0 [qka3_152])
 (.ret (.bool false)))
 (.ret (.bool true))))
theorem run_lockbarref18_Right : runF E 20 [.agg [.inp 0, .inp 1, .inp 2, .inp 3, .inp 4, .inp 5, .inp 6, .inp 7, .inp 8, .inp 9, .inp 10, .inp 11, .inp 12, .inp 13, .inp 14, .inp 15, .inp 16, .inp 17, .inp 18, .inp 19, .inp 20, .inp 21, .inp 22, .inp 23, .inp 24, .inp 25, .inp 26, .inp 27, .inp 28, .inp 29, .inp 30, .inp 31, .inp 32, .inp 33, .inp 34, .inp 35, .inp 36, .inp 37, .inp 38, .inp 39, .inp 40, .inp 41, .inp 42, .inp 43, .inp 44, .inp 45, .inp 46, .inp 47, .inp 48, .inp 49, .inp 50, .inp 51, .inp 52, .inp 53, .inp 54, .inp 55, .inp 56, .inp 57, .inp 58, .inp 59, .inp 60, .inp 61, .inp 62, .inp 63, .inp 64, .inp 65, .inp 66, .inp 67, .inp 68, .inp 69, .inp 70, .inp 71, .inp 72, .inp 73]] 74 = rt_lockbarref18_Right := by kernel_rfl

end Go.Lb.LK

namespace Go.Lb.LK
open Go Go.Lb Go.Proofs
@[simp] noncomputable def qka4_50 : SE := .agg [.inp 0, .app .lst [.agg [.int .i64 1, .int .i64 0]], .app .lst [.agg [.int .i64 2, .int .i64 1, .nils]], .nils, .int .i64 1, .int .i64 1, .int .i64 9, .int .i64 2, .int .i64 1, .int .i64 1, .int .i64 1]
@[simp] noncomputable def qka4_51 : SE := .agg [.app (.part 0 1 false) [.inp 2], .app (.part 1 1 false) [.inp 2], .app (.part 2 1 false) [.inp 2], .app (.part 3 1 false) [.inp 2], .app (.part 4 1 false) [.inp 2], .app (.part 5 1 false) [.inp 2], .app (.part 6 1 false) [.inp 2], .app (.part 7 1 false) [.inp 2], .app (.part 8 1 false) [.inp 2], .app (.part 9 1 false) [.inp 2], .app (.part 10 1 false) [.inp 2], .app (.part 11 1 false) [.inp 2], .app (.part 12 1 false) [.inp 2], .app (.part 13 1 false) [.inp 2], .app (.part 14 1 false) [.inp 2], .app (.part 15 1 false) [.inp 2], .app (.part 16 1 false) [.inp 2], .app (.part 17 1 false) [.inp 2], .app (.part 18 1 false) [.inp 2], .app (.part 19 1 false) [.inp 2], .app (.part 20 1 false) [.inp 2], .app (.part 21 1 false) [.inp 2], .app (.part 22 1 false) [.inp 2], .app (.part 23 1 false) [.inp 2], .app (.part 24 1 false) [.inp 2], .app (.part 25 1 false) [.inp 2], .app (.part 26 1 false) [.inp 2], .app (.part 27 1 false) [.inp 2], .app (.part 28 1 false) [.inp 2]]
@[simp] noncomputable def qka4_52 : SE := .agg [.app (.part 0 1 false) [.app (.tproj 3) [.inp 0]], .app (.part 1 1 false) [.app (.tproj 3) [.inp 0]], .app (.part 2 1 false) [.app (.tproj 3) [.inp 0]], .app (.part 3 1 false) [.app (.tproj 3) [.inp 0]], .app (.part 4 1 false) [.app (.tproj 3) [.inp 0]], .app (.part 5 1 false) [.app (.tproj 3) [.inp 0]], .app (.part 6 1 false) [.app (.tproj 3) [.inp 0]], .app (.part 7 1 false) [.app (.tproj 3) [.inp 0]], .app (.part 8 1 false) [.app (.tproj 3) [.inp 0]], .app (.part 9 1 false) [.app (.tproj 3) [.inp 0]], .app (.part 10 1 false) [.app (.tproj 3) [.inp 0]], .app (.part 11 1 false) [.app (.tproj 3) [.inp 0]], .app (.part 12 1 false) [.app (.tproj 3) [.inp 0]], .app (.part 13 1 false) [.app (.tproj 3) [.inp 0]], .app (.part 14 1 false) [.app (.tproj 3) [.inp 0]], .app (.part 15 1 false) [.app (.tproj 3) [.inp 0]], .app (.part 16 1 false) [.app (.tproj 3) [.inp 0]], .app (.part 17 1 false) [.app (.tproj 3) [.inp 0]], .app (.part 18 1 false) [.app (.tproj 3) [.inp 0]], .app (.part 19 1 false) [.app (.tproj 3) [.inp 0]], .app (.part 20 1 false) [.app (.tproj 3) [.inp 0]], .app (.part 21 1 false) [.app (.tproj 3) [.inp 0]], .app (.part 22 1 false) [.app (.tproj 3) [.inp 0]]]
@[simp] noncomputable def qka4_53 : SE := .agg [.app (.part 0 1 false) [.app (.tproj 0) [.inp 0]], .app (.part 1 1 false) [.app (.tproj 0) [.inp 0]], .app (.part 2 1 false) [.app (.tproj 0) [.inp 0]], .app (.part 3 1 false) [.app (.tproj 0) [.inp 0]], .app (.part 4 1 false) [.app (.tproj 0) [.inp 0]], .app (.part 5 1 false) [.app (.tproj 0) [.inp 0]], .app (.part 6 1 false) [.app (.tproj 0) [.inp 0]], .app (.part 7 1 false) [.app (.tproj 0) [.inp 0]], .app (.part 8 1 false) [.app (.tproj 0) [.inp 0]], .app (.part 9 1 false) [.app (.tproj 0) [.inp 0]], .app (.part 10 1 false) [.app (.tproj 0) [.inp 0]]]
@[simp] noncomputable def qka4_54 : SE := .agg [.app (.part 0 1 false) [.app (.tproj 1) [.inp 0]], .app (.part 1 1 false) [.app (.tproj 1) [.inp 0]], .app (.part 2 1 false) [.app (.tproj 1) [.inp 0]], .app (.part 3 1 false) [.app (.tproj 1) [.inp 0]], .app (.part 4 1 false) [.app (.tproj 1) [.inp 0]], .app (.part 5 1 false) [.app (.tproj 1) [.inp 0]], .app (.part 6 1 false) [.app (.tproj 1) [.inp 0]], .app (.part 7 1 false) [.app (.tproj 1) [.inp 0]], .app (.part 8 1 false) [.app (.tproj 1) [.inp 0]], .app (.part 9 1 false) [.app (.tproj 1) [.inp 0]], .app (.part 10 1 false) [.app (.tproj 1) [.inp 0]], .app (.part 11 1 false) [.app (.tproj 1) [.inp 0]], .app (.part 12 1 false) [.app (.tproj 1) [.inp 0]], .app (.part 13 1 false) [.app (.tproj 1) [.inp 0]], .app (.part 14 1 false) [.app (.tproj 1) [.inp 0]], .app (.part 15 1 false) [.app (.tproj 1) [.inp 0]], .app (.part 16 1 false) [.app (.tproj 1) [.inp 0]], .app (.part 17 1 false) [.app (.tproj 1) [.inp 0]], .app (.part 18 1 false) [.app (.tproj 1) [.inp 0]], .app (.part 19 1 false) [.app (.tproj 1) [.inp 0]], .app (.part 20 1 false) [.app (.tproj 1) [.inp 0]], .app (.part 21 1 false) [.app (.tproj 1) [.inp 0]], .app (.part 22 1 false) [.app (.tproj 1) [.inp 0]], .app (.part 23 1 false) [.app (.tproj 1) [.inp 0]], .app (.part 24 1 false) [.app (.tproj 1) [.inp 0]], .app (.part 25 1 false) [.app (.tproj 1) [.inp 0]], .app (.part 26 1 false) [.app (.tproj 1) [.inp 0]], .app (.part 27 1 false) [.app (.tproj 1) [.inp 0]], .app (.part 28 1 false) [.app (.tproj 1) [.inp 0]]]
@[simp] noncomputable def qka4_55 : SE := .agg [.int .i64 6, .inp 1, .int .i64 0, .int .i64 0, .bool false, .int .i64 0, .int .i64 0, .bool false, .int .i64 0, .int .i64 0, .bool false, .int .i64 0, .int .i64 0, .bool false, .int .i64 0, .int .i64 0, .bool false, .int .i64 0, .int .i64 0, .bool false, .int .i64 0, .int .i64 0, .bool false, .int .i64 0, .int .i64 0, .bool false, .int .i64 0, .int .i64 0, .bool false, .int .i64 0, .int .i64 0, .bool false, .int .i64 0, .int .i64 0, .bool false, .int .i64 0, .int .i64 0, .bool false, .int .i64 0, .int .i64 0, .bool false, .int .i64 0, .int .i64 0, .bool false, .int .i64 0, .int .i64 0, .bool false, .int .i64 0, .int .i64 0, .bool false, .int .i64 0, .int .i64 0, .bool false, .int .i64 0, .int .i64 0, .bool false, .int .i64 0, .int .i64 0, .bool false, .int .i64 0, .int .i64 0, .bool false, .int .i64 0, .int .i64 0, .bool false, .int .i64 0, .int .i64 0, .bool false, .int .i64 0, .int .i64 0, .bool false, .int .i64 0, .int .i64 0, .bool false]
@[simp] noncomputable def qka4_56 : SE := .agg [.app (.part 0 1 false) [.app (.tproj 2) [.inp 0]], .app (.part 1 1 false) [.app (.tproj 2) [.inp 0]], .app (.part 2 1 false) [.app (.tproj 2) [.inp 0]], .app (.part 3 1 false) [.app (.tproj 2) [.inp 0]], .app (.part 4 1 false) [.app (.tproj 2) [.inp 0]], .app (.part 5 1 false) [.app (.tproj 2) [.inp 0]], .app (.part 6 1 false) [.app (.tproj 2) [.inp 0]], .app (.part 7 1 false) [.app (.tproj 2) [.inp 0]], .app (.part 8 1 false) [.app (.tproj 2) [.inp 0]], .app (.part 9 1 false) [.app (.tproj 2) [.inp 0]], .app (.part 10 1 false) [.app (.tproj 2) [.inp 0]], .app (.part 11 1 false) [.app (.tproj 2) [.inp 0]], .app (.part 12 1 false) [.app (.tproj 2) [.inp 0]], .app (.part 13 1 false) [.app (.tproj 2) [.inp 0]], .app (.part 14 1 false) [.app (.tproj 2) [.inp 0]], .app (.part 15 1 false) [.app (.tproj 2) [.inp 0]], .app (.part 16 1 false) [.app (.tproj 2) [.inp 0]], .app (.part 17 1 false) [.app (.tproj 2) [.inp 0]], .app (.part 18 1 false) [.app (.tproj 2) [.inp 0]], .app (.part 19 1 false) [.app (.tproj 2) [.inp 0]], .app (.part 20 1 false) [.app (.tproj 2) [.inp 0]], .app (.part 21 1 false) [.app (.tproj 2) [.inp 0]], .app (.part 22 1 false) [.app (.tproj 2) [.inp 0]], .app (.part 23 1 false) [.app (.tproj 2) [.inp 0]], .app (.part 24 1 false) [.app (.tproj 2) [.inp 0]], .app (.part 25 1 false) [.app (.tproj 2) [.inp 0]], .app (.part 26 1 false) [.app (.tproj 2) [.inp 0]], .app (.part 27 1 false) [.app (.tproj 2) [.inp 0]], .app (.part 28 1 false) [.app (.tproj 2) [.inp 0]]]
@[simp] noncomputable def qka4_57 : SE := .app (.part 1 1 false) [.app (.tproj 0) [.inp 3]]
@[simp] noncomputable def qka4_58 : SE := .app .len [qka4_57]
@[simp] noncomputable def qka4_59 : SE := .app (.eidx 23) [qka4_57, .int .i64 0]
@[simp] noncomputable def qka4_60 : SE := .app (.part 21 1 false) [.app (.tproj 0) [.inp 5]]
@[simp] noncomputable def qka4_61 : SE := .agg [.app (.part 0 1 false) [.app (.tproj 0) [.inp 5]], .app (.part 1 1 false) [.app (.tproj 0) [.inp 5]], .app (.part 2 1 false) [.app (.tproj 0) [.inp 5]], .app (.part 3 1 false) [.app (.tproj 0) [.inp 5]], .app (.part 4 1 false) [.app (.tproj 0) [.inp 5]], .app (.part 5 1 false) [.app (.tproj 0) [.inp 5]], .app (.part 6 1 false) [.app (.tproj 0) [.inp 5]], .app (.part 7 1 false) [.app (.tproj 0) [.inp 5]], .app (.part 8 1 false) [.app (.tproj 0) [.inp 5]], .app (.part 9 1 false) [.app (.tproj 0) [.inp 5]], .app (.part 10 1 false) [.app (.tproj 0) [.inp 5]], .app (.part 11 1 false) [.app (.tproj 0) [.inp 5]], .app (.part 12 1 false) [.app (.tproj 0) [.inp 5]], .app (.part 13 1 false) [.app (.tproj 0) [.inp 5]], .app (.part 14 1 false) [.app (.tproj 0) [.inp 5]], .app (.part 15 1 false) [.app (.tproj 0) [.inp 5]], .app (.part 16 1 false) [.app (.tproj 0) [.inp 5]], .app (.part 17 1 false) [.app (.tproj 0) [.inp 5]], .app (.part 18 1 false) [.app (.tproj 0) [.inp 5]], .app (.part 19 1 false) [.app (.tproj 0) [.inp 5]], .app (.part 20 1 false) [.app (.tproj 0) [.inp 5]], qka4_60, .app (.part 22 1 false) [.app (.tproj 0) [.inp 5]]]
@[simp] noncomputable def qka4_62 : SE := .app (.part 1 1 false) [.app (.tproj 0) [.inp 2]]
@[simp] noncomputable def qka4_63 : SE := .app .len [qka4_62]
@[simp] noncomputable def qka4_64 : SE := .app (.bin .eql) [qka4_63, .int .i64 0]
@[simp] noncomputable def qka4_65 : SE := .app .pick [qka4_64, .app (.tproj 1) [.inp 2], .bool false]
@[simp] noncomputable def qka4_66 : SE := .app .pick [qka4_65, .app (.tproj 1) [.inp 3], .bool false]
@[simp] noncomputable def qka4_67 : SE := .app (.eoff 6) [qka4_59]
@[simp] noncomputable def qka4_68 : SE := .app (.eload 1 false) [qka4_67]
@[simp] noncomputable def qka4_69 : SE := .app (.bin .eql) [qka4_68, .int .u8 4]
@[simp] noncomputable def qka4_70 : SE := .app .pick [qka4_66, qka4_69, .bool false]
@[simp] noncomputable def qka4_71 : SE := .app (.eoff 21) [qka4_59]
@[simp] noncomputable def qka4_72 : SE := .app (.eload 1 false) [qka4_71]
@[simp] noncomputable def qka4_73 : SE := .app (.bin .eql) [qka4_72, .int .i64 2]
@[simp] noncomputable def qka4_74 : SE := .app .pick [qka4_70, qka4_73, .bool false]
@[simp] noncomputable def qka4_75 : SE := .app (.un .not) [.app (.tproj 1) [.inp 4]]
@[simp] noncomputable def qka4_76 : SE := .app .pick [qka4_74, qka4_75, .bool false]
@[simp] noncomputable def qka4_77 : SE := .app .pick [qka4_76, .inp 9, .bool false]
@[simp] noncomputable def qka4_78 : SE := .app (.un .not) [.app (.tproj 1) [.inp 5]]
@[simp] noncomputable def qka4_79 : SE := .app .pick [qka4_77, qka4_78, .bool false]
@[simp] noncomputable def qka4_80 : SE := .app (.bin .eql) [qka4_60, .int .i64 1]
@[simp] noncomputable def qka4_81 : SE := .app .pick [qka4_79, qka4_80, .bool false]
@[simp] noncomputable def qka4_82 : SE := .app .pick [qka4_81, .app (.tproj 1) [.inp 6], .bool false]
@[simp] noncomputable def qka4_83 : SE := .app (.un .not) [.app (.tproj 1) [.inp 8]]
@[simp] noncomputable def qka4_84 : SE := .app .pick [qka4_82, qka4_83, .bool false]
@[simp] noncomputable def qka4_85 : SE := .app (.part 6 1 false) [.app (.tproj 0) [.inp 8]]
@[simp] noncomputable def qka4_86 : SE := .app (.bin .eql) [qka4_85, .int .u8 3]
@[simp] noncomputable def qka4_87 : SE := .app .pick [qka4_84, qka4_86, .bool false]
@[simp] noncomputable def qka4_88 : SE := .app (.part 21 1 false) [.app (.tproj 0) [.inp 8]]
@[simp] noncomputable def qka4_89 : SE := .app (.bin .eql) [qka4_88, .int .i64 0]
@[simp] noncomputable def qka4_90 : SE := .app .pick [qka4_87, qka4_89, .bool false]
@[simp] noncomputable def qka4_91 : SE := .app .pick [qka4_90, .inp 10, .bool false]
@[simp] noncomputable def qka4_92 : SE := .app .pick [qka4_91, .app (.un .not) [.inp 11], .bool false]
@[simp] noncomputable def qka4_93 : SE := .app .pick [qka4_92, .app (.un .not) [.inp 12], .bool false]
@[simp] noncomputable def qka4_94 : SE := .app .pick [qka4_93, .app (.un .not) [.inp 13], .bool false]
noncomputable def rt_lockbarlaw22_three : RT :=
.seg [.bind 0 (.app .lst [.agg [.int .u8 1, .int .i64 (-1), .int .i64 0, .int .i64 1, .int .i64 0, .int .i64 (-1), .int .i64 0, .int .i64 (-1), .int .i64 0, .int .i64 0, .int .i64 0], .agg [.int .u8 1, .int .i64 0, .int .i64 1, .int .i64 2, .int .i64 0, .int .i64 (-1), .int .i64 0, .int .i64 (-1), .int .i64 0, .int .i64 0, .int .i64 0], .agg [.int .u8 1, .int .i64 1, .int .i64 1, .int .i64 (-1), .int .i64 0, .int .i64 (-1), .int .i64 0, .int .i64 (-1), .int .i64 0, .int .i64 0, .int .i64 0]])] <|
.seg [.call 1 [] 22 [] false,
.call 2 [] 21 [qka4_50, .inp 1, .agg [.int .u32 0, .int .u32 0, .int .u32 0, .int .u32 0]] true,
.chk [] (.isAgg 29) [.inp 2]] <|
.seg [.call 3 [] 21 [qka4_50, qka4_51, .agg [.int .u32 1, .int .u32 0, .int .u32 0, .int .u32 0]] true,
.chk [] (.isAgg 29) [qka4_51],
.chk [] (.isAgg 29) [.inp 3]] <|
.ret (.tup [qka4_50, qka4_51, .agg [.app (.part 0 1 false) [.inp 3], .app (.part 1 1 false) [.inp 3], .app (.part 2 1 false) [.inp 3], .app (.part 3 1 false) [.inp 3], .app (.part 4 1 false) [.inp 3], .app (.part 5 1 false) [.inp 3], .app (.part 6 1 false) [.inp 3], .app (.part 7 1 false) [.inp 3], .app (.part 8 1 false) [.inp 3], .app (.part 9 1 false) [.inp 3], .app (.part 10 1 false) [.inp 3], .app (.part 11 1 false) [.inp 3], .app (.part 12 1 false) [.inp 3], .app (.part 13 1 false) [.inp 3], .app (.part 14 1 false) [.inp 3], .app (.part 15 1 false) [.inp 3], .app (.part 16 1 false) [.inp 3], .app (.part 17 1 false) [.inp 3], .app (.part 18 1 false) [.inp 3], .app (.part 19 1 false) [.inp 3], .app (.part 20 1 false) [.inp 3], .app (.part 21 1 false) [.inp 3], .app (.part 22 1 false) [.inp 3], .app (.part 23 1 false) [.inp 3], .app (.part 24 1 false) [.inp 3], .app (.part 25 1 false) [.inp 3], .app (.part 26 1 false) [.inp 3], .app (.part 27 1 false) [.inp 3], .app (.part 28 1 false) [.inp 3]], .agg [.int .i64 5, .int .i64 0, .int .i64 0, .app .lst [.agg [.int .i64 1, .int .i64 0, .int .i64 1], .agg [.int .i64 2, .int .i64 0, .int .i64 1]], .nils, .nils, .int .u8 2, .int .i64 0, .bool false, .bool false, .bool false, .bool false, .bool false, .bool false, .bool false, .bool false, .bool false, .bool false, .bool false, .bool false, .bool false, .int .i64 0, .bool true]])
theorem run_lockbarlaw22_three : runF E 28 [] 0 = rt_lockbarlaw22_three := by kernel_rfl

noncomputable def rt_lockbarlaw22_wakes : RT :=
.seg [.call 0 [] 28 [] false] <|
.seg [.chk [] (.tproj 0) [.inp 0]] <|
.seg [.chk [] (.tproj 1) [.inp 0]] <|
.seg [.chk [] (.tproj 2) [.inp 0]] <|
.seg [.chk [] (.tproj 3) [.inp 0]] <|
.seg [.chk [] (.isAgg 11) [.app (.tproj 0) [.inp 0]]] <|
.seg [.chk [] (.isAgg 29) [.app (.tproj 1) [.inp 0]]] <|
.seg [.chk [] (.isAgg 29) [.app (.tproj 2) [.inp 0]]] <|
.seg [.chk [] (.isAgg 23) [.app (.tproj 3) [.inp 0]]] <|
.seg [.chk [] (.isAgg 23) [qka4_52]] <|
.seg [.bind 1 (.app .lst [qka4_52])] <|
.seg [.call 2 [] 10 [qka4_53, qka4_54, qka4_55, .int .i64 0] false] <|
.seg [.chk [] (.tproj 0) [.inp 2]] <|
.seg [.chk [] (.tproj 1) [.inp 2]] <|
.seg [.chk [] (.isAgg 74) [.app (.tproj 0) [.inp 2]]] <|
.seg [.call 3 [] 10 [qka4_53, qka4_56, qka4_55, .int .i64 0] false] <|
.seg [.chk [] (.tproj 0) [.inp 3]] <|
.seg [.chk [] (.tproj 1) [.inp 3]] <|
.seg [.chk [] (.isAgg 74) [.app (.tproj 0) [.inp 3]]] <|
.seg [.call 4 [] 10 [qka4_53, qka4_54, qka4_55, .int .i64 1] false] <|
.seg [.chk [] (.tproj 0) [.inp 4]] <|
.seg [.chk [] (.tproj 1) [.inp 4]] <|
.seg [.chk [] (.isAgg 74) [.app (.tproj 0) [.inp 4]]] <|
.seg [.chk [] .len [qka4_57]] <|
.seg [.chk [] (.bin .neq) [qka4_58, .int .i64 1]] <|
.cond (.app (.bin .neq) [qka4_58, .int .i64 1])
 (.ret (.bool false))
 (.seg [.chk [] (.eidx 23) [qka4_57, .int .i64 0],
.chk [] (.eload 23 true) [qka4_59],
.call 5 [] 12 [qka4_53, qka4_56, .app (.eload 23 true) [qka4_59]] false,
.chk [] (.tproj 0) [.inp 5],
.chk [] (.tproj 1) [.inp 5],
.chk [] (.isAgg 23) [.app (.tproj 0) [.inp 5]]] <|
.seg [.call 6 [] 12 [qka4_53, qka4_56, qka4_61] false] <|
.seg [.chk [] (.tproj 0) [.inp 6]] <|
.seg [.chk [] (.tproj 1) [.inp 6]] <|
.seg [.chk [] (.isAgg 23) [.app (.tproj 0) [.inp 6]]] <|
.seg [.call 7 [] 21 [qka4_53, qka4_56, .agg [.int .u32 4, .int .u32 0, .int .u32 0, .int .u32 0]] false,
.call 8 [] 12 [qka4_53, .inp 7, qka4_61] false,
.chk [] (.tproj 0) [.inp 8],
.chk [] (.tproj 1) [.inp 8],
.chk [] (.isAgg 23) [.app (.tproj 0) [.inp 8]]] <|
.seg [.chk [] .len [qka4_62],
.chk [] (.bin .eql) [qka4_63, .int .i64 0],
.chk [] .pick [qka4_64, .app (.tproj 1) [.inp 2], .bool false],
.chk [] .pick [qka4_65, .app (.tproj 1) [.inp 3], .bool false],
.chk [(qka4_66, true)] (.eidx 23) [qka4_57, .int .i64 0],
.chk [(qka4_66, true)] (.eoff 6) [qka4_59],
.chk [(qka4_66, true)] (.eload 1 false) [qka4_67],
.chk [(qka4_66, true)] (.bin .eql) [qka4_68, .int .u8 4],
.chk [] .pick [qka4_66, qka4_69, .bool false],
.chk [(qka4_70, true)] (.eidx 23) [qka4_57, .int .i64 0],
.chk [(qka4_70, true)] (.eoff 21) [qka4_59],
.chk [(qka4_70, true)] (.eload 1 false) [qka4_71],
.chk [(qka4_70, true)] (.bin .eql) [qka4_72, .int .i64 2],
.chk [] .pick [qka4_70, qka4_73, .bool false],
.chk [(qka4_74, true)] (.un .not) [.app (.tproj 1) [.inp 4]],
.chk [] .pick [qka4_74, qka4_75, .bool false],
.call 9 [(qka4_76, true)] 14 [.agg [.app (.part 0 1 false) [.app (.tproj 0) [.inp 4]], .app (.part 1 1 false) [.app (.tproj 0) [.inp 4]], .app (.part 2 1 false) [.app (.tproj 0) [.inp 4]], .app (.part 3 1 false) [.app (.tproj 0) [.inp 4]], .app (.part 4 1 false) [.app (.tproj 0) [.inp 4]], .app (.part 5 1 false) [.app (.tproj 0) [.inp 4]], .app (.part 6 1 false) [.app (.tproj 0) [.inp 4]], .app (.part 7 1 false) [.app (.tproj 0) [.inp 4]], .app (.part 8 1 false) [.app (.tproj 0) [.inp 4]], .app (.part 9 1 false) [.app (.tproj 0) [.inp 4]], .app (.part 10 1 false) [.app (.tproj 0) [.inp 4]], .app (.part 11 1 false) [.app (.tproj 0) [.inp 4]], .app (.part 12 1 false) [.app (.tproj 0) [.inp 4]], .app (.part 13 1 false) [.app (.tproj 0) [.inp 4]], .app (.part 14 1 false) [.app (.tproj 0) [.inp 4]], .app (.part 15 1 false) [.app (.tproj 0) [.inp 4]], .app (.part 16 1 false) [.app (.tproj 0) [.inp 4]], .app (.part 17 1 false) [.app (.tproj 0) [.inp 4]], .app (.part 18 1 false) [.app (.tproj 0) [.inp 4]], .app (.part 19 1 false) [.app (.tproj 0) [.inp 4]], .app (.part 20 1 false) [.app (.tproj 0) [.inp 4]], .app (.part 21 1 false) [.app (.tproj 0) [.inp 4]], .app (.part 22 1 false) [.app (.tproj 0) [.inp 4]], .app (.part 23 1 false) [.app (.tproj 0) [.inp 4]], .app (.part 24 1 false) [.app (.tproj 0) [.inp 4]], .app (.part 25 1 false) [.app (.tproj 0) [.inp 4]], .app (.part 26 1 false) [.app (.tproj 0) [.inp 4]], .app (.part 27 1 false) [.app (.tproj 0) [.inp 4]], .app (.part 28 1 false) [.app (.tproj 0) [.inp 4]], .app (.part 29 1 false) [.app (.tproj 0) [.inp 4]], .app (.part 30 1 false) [.app (.tproj 0) [.inp 4]], .app (.part 31 1 false) [.app (.tproj 0) [.inp 4]], .app (.part 32 1 false) [.app (.tproj 0) [.inp 4]], .app (.part 33 1 false) [.app (.tproj 0) [.inp 4]], .app (.part 34 1 false) [.app (.tproj 0) [.inp 4]], .app (.part 35 1 false) [.app (.tproj 0) [.inp 4]], .app (.part 36 1 false) [.app (.tproj 0) [.inp 4]], .app (.part 37 1 false) [.app (.tproj 0) [.inp 4]], .app (.part 38 1 false) [.app (.tproj 0) [.inp 4]], .app (.part 39 1 false) [.app (.tproj 0) [.inp 4]], .app (.part 40 1 false) [.app (.tproj 0) [.inp 4]], .app (.part 41 1 false) [.app (.tproj 0) [.inp 4]], .app (.part 42 1 false) [.app (.tproj 0) [.inp 4]], .app (.part 43 1 false) [.app (.tproj 0) [.inp 4]], .app (.part 44 1 false) [.app (.tproj 0) [.inp 4]], .app (.part 45 1 false) [.app (.tproj 0) [.inp 4]], .app (.part 46 1 false) [.app (.tproj 0) [.inp 4]], .app (.part 47 1 false) [.app (.tproj 0) [.inp 4]], .app (.part 48 1 false) [.app (.tproj 0) [.inp 4]], .app (.part 49 1 false) [.app (.tproj 0) [.inp 4]], .app (.part 50 1 false) [.app (.tproj 0) [.inp 4]], .app (.part 51 1 false) [.app (.tproj 0) [.inp 4]], .app (.part 52 1 false) [.app (.tproj 0) [.inp 4]], .app (.part 53 1 false) [.app (.tproj 0) [.inp 4]], .app (.part 54 1 false) [.app (.tproj 0) [.inp 4]], .app (.part 55 1 false) [.app (.tproj 0) [.inp 4]], .app (.part 56 1 false) [.app (.tproj 0) [.inp 4]], .app (.part 57 1 false) [.app (.tproj 0) [.inp 4]], .app (.part 58 1 false) [.app (.tproj 0) [.inp 4]], .app (.part 59 1 false) [.app (.tproj 0) [.inp 4]], .app (.part 60 1 false) [.app (.tproj 0) [.inp 4]], .app (.part 61 1 false) [.app (.tproj 0) [.inp 4]], .app (.part 62 1 false) [.app (.tproj 0) [.inp 4]], .app (.part 63 1 false) [.app (.tproj 0) [.inp 4]], .app (.part 64 1 false) [.app (.tproj 0) [.inp 4]], .app (.part 65 1 false) [.app (.tproj 0) [.inp 4]], .app (.part 66 1 false) [.app (.tproj 0) [.inp 4]], .app (.part 67 1 false) [.app (.tproj 0) [.inp 4]], .app (.part 68 1 false) [.app (.tproj 0) [.inp 4]], .app (.part 69 1 false) [.app (.tproj 0) [.inp 4]], .app (.part 70 1 false) [.app (.tproj 0) [.inp 4]], .app (.part 71 1 false) [.app (.tproj 0) [.inp 4]], .app (.part 72 1 false) [.app (.tproj 0) [.inp 4]], .app (.part 73 1 false) [.app (.tproj 0) [.inp 4]]], qka4_55] false,
.chk [] .pick [qka4_76, .inp 9, .bool false],
.chk [(qka4_77, true)] (.un .not) [.app (.tproj 1) [.inp 5]],
.chk [] .pick [qka4_77, qka4_78, .bool false],
.chk [(qka4_79, true)] (.bin .eql) [qka4_60, .int .i64 1],
.chk [] .pick [qka4_79, qka4_80, .bool false],
.chk [] .pick [qka4_81, .app (.tproj 1) [.inp 6], .bool false],
.chk [(qka4_82, true)] (.un .not) [.app (.tproj 1) [.inp 8]],
.chk [] .pick [qka4_82, qka4_83, .bool false],
.chk [(qka4_84, true)] (.bin .eql) [qka4_85, .int .u8 3],
.chk [] .pick [qka4_84, qka4_86, .bool false],
.chk [(qka4_87, true)] (.bin .eql) [qka4_88, .int .i64 0],
.chk [] .pick [qka4_87, qka4_89, .bool false],
.call 10 [(qka4_90, true)] 18 [qka4_53, qka4_56, .int .i64 0] false,
.chk [] .pick [qka4_90, .inp 10, .bool false],
.call 11 [(qka4_91, true)] 18 [qka4_53, qka4_54, .int .i64 0] false,
.chk [(qka4_91, true)] (.un .not) [.inp 11],
.chk [] .pick [qka4_91, .app (.un .not) [.inp 11], .bool false],
.call 12 [(qka4_92, true)] 18 [qka4_53, qka4_54, .int .i64 1] false,
.chk [(qka4_92, true)] (.un .not) [.inp 12],
.chk [] .pick [qka4_92, .app (.un .not) [.inp 12], .bool false],
.call 13 [(qka4_93, true)] 16 [qka4_53, qka4_56, qka4_52] false,
.chk [(qka4_93, true)] (.un .not) [.inp 13],
.chk [] .pick [qka4_93, .app (.un .not) [.inp 13], .bool false],
.call 14 [(qka4_94, true)] 22 [] false,
.call 15 [(qka4_94, true)] 16 [qka4_53, .inp 14, qka4_52] false,
.chk [] .pick [qka4_94, .inp 15, .bool false]] <|
.seg [.bind 16 (.app .pick [qka4_94, .inp 15, .bool false]),
.bind 17 (qka4_65),
.bind 18 (qka4_66),
.bind 19 (qka4_70),
.bind 20 (qka4_74),
.bind 21 (qka4_76),
.bind 22 (qka4_77),
.bind 23 (qka4_79),
.bind 24 (qka4_81),
.bind 25 (qka4_82),
.bind 26 (qka4_84),
.bind 27 (qka4_87),
.bind 28 (qka4_90),
.bind 29 (qka4_91),
.bind 30 (qka4_92),
.bind 31 (qka4_93),
.bind 32 (qka4_94)] <|
.ret (.inp 16))
theorem run_lockbarlaw22_wakes : runF E 9 [] 0 = rt_lockbarlaw22_wakes := by kernel_rfl

end Go.Lb.LK


namespace Go.Proofs
open Go.Shelf
def Tryz.lays125_ren : Go.Shelf.Ren := ⟨fun | 125 => 109 | 128 => 122 | 129 => 123 | n => n, fun | 46 => 122 | 3 => 3 | 51 => 31 | 53 => 157 | 4 => 4 | 5 => 5 | 9 => 9 | n => n, fun | n => n⟩
theorem Tryz.lays125 : Go.Proofs.Lays.n125 Tryz.prog Tryz.lays125_ren := {
  mixed := by kernel_rfl
  f125 := Tryz.func109.trans (congrArg some (by kernel_rfl))
  f128 := Tryz.func122.trans (congrArg some (by kernel_rfl))
  f129 := Tryz.func123.trans (congrArg some (by kernel_rfl))
  t3 := Tryz.underlying3
  a3 := Tryz.isAgg3
  z3 := Tryz.sizeOf3
  v3 := Tryz.zeroValue3
  t4 := Tryz.underlying4
  a4 := Tryz.isAgg4
  z4 := Tryz.sizeOf4
  v4 := Tryz.zeroValue4
  t5 := Tryz.underlying5
  a5 := Tryz.isAgg5
  z5 := Tryz.sizeOf5
  v5 := Tryz.zeroValue5
  t9 := Tryz.underlying9
  a9 := Tryz.isAgg9
  z9 := Tryz.sizeOf9
  v9 := Tryz.zeroValue9
  t46 := Tryz.underlying122
  a46 := Tryz.isAgg122
  z46 := Tryz.sizeOf122
  v46 := Tryz.zeroValue122
  t51 := Tryz.underlying31
  a51 := Tryz.isAgg31
  z51 := Tryz.sizeOf31
  v51 := Tryz.zeroValue31
  t53 := Tryz.underlying157
  a53 := Tryz.isAgg157
  z53 := Tryz.sizeOf157
  v53 := Tryz.zeroValue157 }
/-- bits.Len: "Len returns the minimum number of bits required to represent x; the result is 0 for x == 0.": IT RETURNS 'Lib.bitLen x'; the world is as it was. (A uint has 64 bits in the model.) ITS CALLEE bits.Len64 IS MET BY ITS OWN CONTRACT OFF THE SHELF (lay that first). (LAID: no walk: one application.) -/
theorem Tryz.bits_Len (x : Int) (w : World) (h0 : 0 ≤ x) (h1 : x ≤ 18446744073709551615) :
    Calls Tryz.prog 109 #[.int .u64 x] w fun e w' => e = .returned (.int .i64 (Lib.bitLen x.toNat)) ∧ w' = w := Any.bits_Len Tryz.lays125 x w h0 h1
def Tryz.lays189_ren : Go.Shelf.Ren := ⟨fun | 189 => 96 | 125 => 109 | 257 => 108 | 128 => 122 | 129 => 123 | 294 => 113 | 295 => 114 | 296 => 115 | 297 => 116 | 298 => 117 | 299 => 118 | 216 => 119 | 300 => 120 | 301 => 121 | 328 => 124 | 329 => 125 | 330 => 126 | 331 => 127 | 332 => 128 | 215 => 129 | 343 => 130 | n => n, fun | 28 => 116 | 3 => 3 | 46 => 122 | 0 => 0 | 51 => 31 | 53 => 157 | 4 => 4 | 183 => 149 | 182 => 148 | 131 => 153 | 5 => 5 | 9 => 9 | 218 => 159 | 222 => 163 | 228 => 165 | 229 => 166 | n => n, fun | n => n⟩
theorem Tryz.lays189 : Go.Proofs.Lays.n189 Tryz.prog Tryz.lays189_ren := {
  mixed := by kernel_rfl
  f125 := Tryz.func109.trans (congrArg some (by kernel_rfl))
  f128 := Tryz.func122.trans (congrArg some (by kernel_rfl))
  f129 := Tryz.func123.trans (congrArg some (by kernel_rfl))
  f189 := Tryz.func96.trans (congrArg some (by kernel_rfl))
  f215 := Tryz.func129.trans (congrArg some (by kernel_rfl))
  f216 := Tryz.func119.trans (congrArg some (by kernel_rfl))
  f257 := Tryz.func108.trans (congrArg some (by kernel_rfl))
  f294 := Tryz.func113.trans (congrArg some (by kernel_rfl))
  f295 := Tryz.func114.trans (congrArg some (by kernel_rfl))
  f296 := Tryz.func115.trans (congrArg some (by kernel_rfl))
  f297 := Tryz.func116.trans (congrArg some (by kernel_rfl))
  f298 := Tryz.func117.trans (congrArg some (by kernel_rfl))
  f299 := Tryz.func118.trans (congrArg some (by kernel_rfl))
  f300 := Tryz.func120.trans (congrArg some (by kernel_rfl))
  f301 := Tryz.func121.trans (congrArg some (by kernel_rfl))
  f328 := Tryz.func124.trans (congrArg some (by kernel_rfl))
  f329 := Tryz.func125.trans (congrArg some (by kernel_rfl))
  f330 := Tryz.func126.trans (congrArg some (by kernel_rfl))
  f331 := Tryz.func127.trans (congrArg some (by kernel_rfl))
  f332 := Tryz.func128.trans (congrArg some (by kernel_rfl))
  f343 := Tryz.func130.trans (congrArg some (by kernel_rfl))
  t0 := Tryz.underlying0
  a0 := Tryz.isAgg0
  z0 := Tryz.sizeOf0
  v0 := Tryz.zeroValue0
  t3 := Tryz.underlying3
  a3 := Tryz.isAgg3
  z3 := Tryz.sizeOf3
  v3 := Tryz.zeroValue3
  t4 := Tryz.underlying4
  a4 := Tryz.isAgg4
  z4 := Tryz.sizeOf4
  v4 := Tryz.zeroValue4
  t5 := Tryz.underlying5
  a5 := Tryz.isAgg5
  z5 := Tryz.sizeOf5
  v5 := Tryz.zeroValue5
  t9 := Tryz.underlying9
  a9 := Tryz.isAgg9
  z9 := Tryz.sizeOf9
  v9 := Tryz.zeroValue9
  t28 := Tryz.underlying116
  a28 := Tryz.isAgg116
  z28 := Tryz.sizeOf116
  v28 := Tryz.zeroValue116
  t46 := Tryz.underlying122
  a46 := Tryz.isAgg122
  z46 := Tryz.sizeOf122
  v46 := Tryz.zeroValue122
  t51 := Tryz.underlying31
  a51 := Tryz.isAgg31
  z51 := Tryz.sizeOf31
  v51 := Tryz.zeroValue31
  t53 := Tryz.underlying157
  a53 := Tryz.isAgg157
  z53 := Tryz.sizeOf157
  v53 := Tryz.zeroValue157
  t131 := Tryz.underlying153
  a131 := Tryz.isAgg153
  z131 := Tryz.sizeOf153
  v131 := Tryz.zeroValue153
  t182 := Tryz.underlying148
  a182 := Tryz.isAgg148
  z182 := Tryz.sizeOf148
  v182 := Tryz.zeroValue148
  t183 := Tryz.underlying149
  a183 := Tryz.isAgg149
  z183 := Tryz.sizeOf149
  v183 := Tryz.zeroValue149
  t218 := Tryz.underlying159
  a218 := Tryz.isAgg159
  z218 := Tryz.sizeOf159
  v218 := Tryz.zeroValue159
  t222 := Tryz.underlying163
  a222 := Tryz.isAgg163
  z222 := Tryz.sizeOf163
  v222 := Tryz.zeroValue163
  t228 := Tryz.underlying165
  a228 := Tryz.isAgg165
  z228 := Tryz.sizeOf165
  v228 := Tryz.zeroValue165
  t229 := Tryz.underlying166
  a229 := Tryz.isAgg166
  z229 := Tryz.sizeOf166
  v229 := Tryz.zeroValue166 }
open Go.Sort Go.RowKit in
theorem Tryz.slices_Sort_int (blk off cap : Nat) (zs : List Int) (w : World) (hH : Holds (Value.int .i64) w blk off zs.toArray) (hblk : blk < w.heap.size) (hsz : zs.length < 4611686018427387904) :
    Calls Tryz.prog 96 #[.slice (some ⟨blk, off, none⟩) zs.length cap] w fun e w' =>
      e = .returned (.tuple #[]) ∧ ∃ n os, w' = grow (putRow (Value.int .i64) (Sort.ahead w n) blk off (zs.mergeSort fun x y => decide (x ≤ y)).toArray) os := Any.slices_Sort_int Tryz.lays189 blk off cap zs w hH hblk hsz
def Tryz.laysNm220_ren : Go.Shelf.Ren := ⟨fun | 20 => 97 | n => n, fun | 22 => 116 | 3 => 3 | 4 => 4 | 0 => 0 | n => n, fun | n => n⟩
theorem Tryz.laysNm220 : Go.Proofs.Lays2.n20 Tryz.prog Tryz.laysNm220_ren := {
  mixed := by kernel_rfl
  f20 := Tryz.func97.trans (congrArg some (by kernel_rfl))
  t0 := Tryz.underlying0
  a0 := Tryz.isAgg0
  z0 := Tryz.sizeOf0
  v0 := Tryz.zeroValue0
  t3 := Tryz.underlying3
  a3 := Tryz.isAgg3
  z3 := Tryz.sizeOf3
  v3 := Tryz.zeroValue3
  t4 := Tryz.underlying4
  a4 := Tryz.isAgg4
  z4 := Tryz.sizeOf4
  v4 := Tryz.zeroValue4
  t22 := Tryz.underlying116
  a22 := Tryz.isAgg116
  z22 := Tryz.sizeOf116
  v22 := Tryz.zeroValue116
  i3 := by kernel_rfl }
open Go.RowKit Go.Lib Go.Sort in
/-- slices.Compact at []int: "Compact replaces consecutive runs of equal elements with a single copy. This is like the uniq command found on Unix. Compact modifies the contents of the slice s and returns the modified slice, which may have a smaller length. Compact zeroes the elements between the new length and the original length. The result preserves the nilness of s.": IT RETURNS THE SLICE CUT TO 'Lib.compact zs'; ITS CELLS HOLD 'Lib.compact zs', THEN ZERO VALUES up to the old length; all else is as it was, but for the count of draws. IN THE WORDS OF slices.Sort's CONTRACT ('Holds', 'putRow'): so the everyday 'slices.Sort(xs); xs = slices.Compact(xs)' goes from the one contract to the other. It asks 'zs.length ≤ cap' (every slice's: the reslicing 's[:k]' looks at it). Length 0, nil: '.._empty'. (LAID: no walk: one application.) -/
theorem Tryz.slices_Compact_int (blk off cap : Nat) (zs : List Int) (w : World) (hH : Holds (Value.int .i64) w blk off zs.toArray) (hsz : zs.length ≤ 9223372036854775807) (hcap : zs.length ≤ cap) :
    Calls Tryz.prog 97 #[.slice (some ⟨blk, off, none⟩) zs.length cap] w fun e w' => e = .returned (.slice (some ⟨blk, off, none⟩) (Lib.compact zs).length cap) ∧ ∃ q, w' = putRow (Value.int .i64) (Sort.ahead w q) blk off (Lib.compact zs ++ List.replicate (zs.length - (Lib.compact zs).length) 0).toArray := Any.slices_Compact_int Tryz.laysNm220 blk off cap zs w hH hsz hcap
open Go.RowKit Go.Lib Go.Sort in
/-- The same at a slice of length 0, a nil one too: it comes back as it is. (LAID: no walk: one application.) -/
theorem Tryz.slices_Compact_int_empty (a : Option Addr) (cap : Nat) (w : World) :
    Calls Tryz.prog 97 #[.slice a 0 cap] w fun e w' => e = .returned (.slice a 0 cap) ∧ w' = w := Any.slices_Compact_int_empty Tryz.laysNm220 a cap w
end Go.Proofs
