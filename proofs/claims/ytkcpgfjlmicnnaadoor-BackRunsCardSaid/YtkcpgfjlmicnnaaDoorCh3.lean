/- What functions come to, printed by a program, checked by the kernel. -/
/- What functions come to, printed by a program, checked by the kernel. -/
/- The trees of the functions. -/
/-
  DERIVED: THE SHELF's CONTRACTS AT THIS DUMP, IN PLAIN WORDS (tools/lay-plain.mjs out of 'TrydShelf.lean', which tools/lay-shelf.mjs wrote): THE SAME DECLARATIONS UNDER THE SAME NAMES: 'import', 'namespace', 'open', 'def', 'theorem' AND NOTHING ELSE: no command of the shelf's: FOR A HAND-IN. Each laying: the table of numbers ('.._ren') and one theorem, a field a fact of the dump's own or the kernel's comparison; each contract: ONE APPLICATION.
-/
/- The data of the program, and as pure values. -/
/- An image, a held route, as pure values. -/
import Derived.Test.YtkcpgfjlmicnnaaDoorCh1
import Derived.Test.YtkcpgfjlmicnnaaDoorCh2
import Derived.Shelf.Small.Bits
import Derived.Shelf.Strconv.Itoa0
import Derived.Shelf.Sort.Plain
import Derived.Ground.Names2Prog
import Derived.Shelf.Slices.CompactI
import Derived.Test.YtkcpgfjlmicnnaaDoorProg
import Derived.Test.YtkcpgfjlmicnnaaDoorFw10
set_option linter.unusedSimpArgs false
set_option linter.unusedVariables false
namespace Go.Lb.LK
open Go Go.Lb Go.Proofs
@[simp] noncomputable def qka2_0 : SE := .agg [.inp 0, .inp 1, .inp 2, .inp 3, .inp 4, .inp 5, .inp 6, .inp 7, .inp 8, .inp 9, .inp 10, .inp 11, .inp 12, .inp 13, .inp 14, .inp 15, .inp 16, .inp 17, .inp 18, .inp 19, .inp 20, .inp 21, .inp 22]
@[simp] noncomputable def qka2_1 : SE := .ref [.inp 23, .inp 24, .inp 25, .inp 26, .inp 27, .inp 28, .inp 29, .inp 30, .inp 31, .inp 32, .inp 33] 0
@[simp] noncomputable def qka2_2 : SE := .ref [.inp 34, .inp 35, .inp 36, .inp 37, .inp 38, .inp 39, .inp 40, .inp 41, .inp 42, .inp 43, .inp 44, .inp 45, .inp 46, .inp 47, .inp 48, .inp 49, .inp 50, .inp 51, .inp 52, .inp 53, .inp 54, .inp 55, .inp 56, .inp 57, .inp 58, .inp 59, .inp 60, .inp 61, .inp 62] 0
@[simp] noncomputable def qka2_3 : SE := .app (.eload 11 true) [qka2_1]
@[simp] noncomputable def qka2_4 : SE := .app (.eload 29 true) [qka2_2]
@[simp] noncomputable def qka2_5 : SE := .agg [.inp 0, .inp 1, .inp 2, .inp 3, .inp 4, .inp 5, .inp 6, .inp 7, .inp 8, .inp 9, .inp 10]
@[simp] noncomputable def qka2_6 : SE := .agg [.inp 11, .inp 12, .inp 13, .inp 14, .inp 15, .inp 16, .inp 17, .inp 18, .inp 19, .inp 20, .inp 21, .inp 22, .inp 23, .inp 24, .inp 25, .inp 26, .inp 27, .inp 28, .inp 29, .inp 30, .inp 31, .inp 32, .inp 33, .inp 34, .inp 35, .inp 36, .inp 37, .inp 38, .inp 39]
@[simp] noncomputable def qka2_7 : SE := .agg [.inp 40, .inp 41, .inp 42, .inp 43, .inp 44, .inp 45, .inp 46, .inp 47, .inp 48, .inp 49, .inp 50, .inp 51, .inp 52, .inp 53, .inp 54, .inp 55, .inp 56, .inp 57, .inp 58, .inp 59, .inp 60, .inp 61, .inp 62, .inp 63, .inp 64, .inp 65, .inp 66, .inp 67, .inp 68, .inp 69, .inp 70, .inp 71, .inp 72, .inp 73, .inp 74, .inp 75, .inp 76, .inp 77, .inp 78, .inp 79, .inp 80, .inp 81, .inp 82, .inp 83, .inp 84, .inp 85, .inp 86, .inp 87, .inp 88, .inp 89, .inp 90, .inp 91, .inp 92, .inp 93, .inp 94, .inp 95, .inp 96, .inp 97, .inp 98, .inp 99, .inp 100, .inp 101, .inp 102, .inp 103, .inp 104, .inp 105, .inp 106, .inp 107, .inp 108, .inp 109, .inp 110, .inp 111, .inp 112, .inp 113]
@[simp] noncomputable def qka2_8 : SE := .agg [.inp 40, .enil, .inp 42, .inp 43, .inp 44, .inp 45, .inp 46, .inp 47, .inp 48, .inp 49, .inp 50, .inp 51, .inp 52, .inp 53, .inp 54, .inp 55, .inp 56, .inp 57, .inp 58, .inp 59, .inp 60, .inp 61, .inp 62, .inp 63, .inp 64, .inp 65, .inp 66, .inp 67, .inp 68, .inp 69, .inp 70, .inp 71, .inp 72, .inp 73, .inp 74, .inp 75, .inp 76, .inp 77, .inp 78, .inp 79, .inp 80, .inp 81, .inp 82, .inp 83, .inp 84, .inp 85, .inp 86, .inp 87, .inp 88, .inp 89, .inp 90, .inp 91, .inp 92, .inp 93, .inp 94, .inp 95, .inp 96, .inp 97, .inp 98, .inp 99, .inp 100, .inp 101, .inp 102, .inp 103, .inp 104, .inp 105, .inp 106, .inp 107, .inp 108, .inp 109, .inp 110, .inp 111, .inp 112, .inp 113]
@[simp] noncomputable def qka2_9 : SE := .app .app [.app .lst [], .inp 41]
@[simp] noncomputable def qka2_10 : SE := .app .len [qka2_9]
@[simp] noncomputable def qka2_11 : SE := .app (.rowget 23 0 23 true) [.inp 117, .inp 116]
@[simp] noncomputable def qka2_12 : SE := .agg [.app (.part 0 1 false) [.inp 118], .app (.part 1 1 false) [.inp 118], .app (.part 2 1 false) [.inp 118], .app (.part 3 1 false) [.inp 118], .app (.part 4 1 false) [.inp 118], .app (.part 5 1 false) [.inp 118], .app (.part 6 1 false) [.inp 118], .app (.part 7 1 false) [.inp 118], .app (.part 8 1 false) [.inp 118], .app (.part 9 1 false) [.inp 118], .app (.part 10 1 false) [.inp 118], .app (.part 11 1 false) [.inp 118], .app (.part 12 1 false) [.inp 118], .app (.part 13 1 false) [.inp 118], .app (.part 14 1 false) [.inp 118], .app (.part 15 1 false) [.inp 118], .app (.part 16 1 false) [.inp 118], .app (.part 17 1 false) [.inp 118], .app (.part 18 1 false) [.inp 118], .app (.part 19 1 false) [.inp 118], .app (.part 20 1 false) [.inp 118], .app (.part 21 1 false) [.inp 118], .app (.part 22 1 false) [.inp 118]]
@[simp] noncomputable def qka2_13 : SE := .agg [.inp 40, .row 60, .inp 42, .inp 43, .inp 44, .inp 45, .inp 46, .inp 47, .inp 48, .inp 49, .inp 50, .inp 51, .inp 52, .inp 53, .inp 54, .inp 55, .inp 56, .inp 57, .inp 58, .inp 59, .inp 60, .inp 61, .inp 62, .inp 63, .inp 64, .inp 65, .inp 66, .inp 67, .inp 68, .inp 69, .inp 70, .inp 71, .inp 72, .inp 73, .inp 74, .inp 75, .inp 76, .inp 77, .inp 78, .inp 79, .inp 80, .inp 81, .inp 82, .inp 83, .inp 84, .inp 85, .inp 86, .inp 87, .inp 88, .inp 89, .inp 90, .inp 91, .inp 92, .inp 93, .inp 94, .inp 95, .inp 96, .inp 97, .inp 98, .inp 99, .inp 100, .inp 101, .inp 102, .inp 103, .inp 104, .inp 105, .inp 106, .inp 107, .inp 108, .inp 109, .inp 110, .inp 111, .inp 112, .inp 113]
@[simp] noncomputable def qka2_14 : SE := .app (.rowget 23 0 23 true) [.inp 117, .inp 119]
@[simp] noncomputable def qka2_15 : SE := .app (.part 1 1 false) [qka2_14]
@[simp] noncomputable def qka2_16 : SE := .app (.bin .eql) [qka2_15, .inp 114]
@[simp] noncomputable def qka2_17 : SE := .app (.bin .lss) [.inp 118, .int .i64 0]
@[simp] noncomputable def qka2_18 : SE := .app (.part 0 1 false) [qka2_14]
@[simp] noncomputable def qka2_19 : SE := .app (.rowget 23 0 1 false) [.inp 117, .inp 118]
@[simp] noncomputable def qka2_20 : SE := .app (.bin .gtr) [qka2_18, qka2_19]
@[simp] noncomputable def qka2_21 : SE := .app .pick [qka2_17, .bool true, qka2_20]
@[simp] noncomputable def qka2_22 : SE := .app (.bin .add) [.inp 119, .int .i64 1]
@[simp] noncomputable def qka2_23 : SE := .app (.rowget 23 6 1 false) [.inp 117, .inp 118]
@[simp] noncomputable def qka2_24 : SE := .app (.bin .eql) [qka2_23, .int .u8 1]
@[simp] noncomputable def qka2_25 : SE := .app (.bin .eql) [qka2_23, .int .u8 2]
@[simp] noncomputable def qka2_26 : SE := .app (.bin .eql) [qka2_23, .int .u8 3]
@[simp] noncomputable def qka2_27 : SE := .app .pick [qka2_24, .clo 31 [] [], .app .pick [qka2_25, .clo 32 [] [.ptr 14 0, .ptr 16 0], .app .pick [qka2_26, .clo 33 [] [.ptr 14 0, .ptr 16 0], .nilf]]]
@[simp] noncomputable def qka2_28 : SE := .app (.eqf false) [qka2_27, .nilf]
@[simp] noncomputable def qka2_29 : SE := .tup [.agg [.inp 40, .inp 117, .inp 42, .inp 43, .inp 44, .inp 45, .inp 46, .inp 47, .inp 48, .inp 49, .inp 50, .inp 51, .inp 52, .inp 53, .inp 54, .inp 55, .inp 56, .inp 57, .inp 58, .inp 59, .inp 60, .inp 61, .inp 62, .inp 63, .inp 64, .inp 65, .inp 66, .inp 67, .inp 68, .inp 69, .inp 70, .inp 71, .inp 72, .inp 73, .inp 74, .inp 75, .inp 76, .inp 77, .inp 78, .inp 79, .inp 80, .inp 81, .inp 82, .inp 83, .inp 84, .inp 85, .inp 86, .inp 87, .inp 88, .inp 89, .inp 90, .inp 91, .inp 92, .inp 93, .inp 94, .inp 95, .inp 96, .inp 97, .inp 98, .inp 99, .inp 100, .inp 101, .inp 102, .inp 103, .inp 104, .inp 105, .inp 106, .inp 107, .inp 108, .inp 109, .inp 110, .inp 111, .inp 112, .inp 113], .bool false]
@[simp] noncomputable def qka2_30 : SE := .app (.rowget 23 0 23 true) [.inp 117, .inp 118]
@[simp] noncomputable def qka2_31 : SE := .app (.bin .eql) [.inp 120, .int .i64 1]
@[simp] noncomputable def qka2_32 : SE := .app (.bin .add) [.inp 118, .int .i64 1]
@[simp] noncomputable def qka2_33 : SE := .agg [.inp 40, .row 164, .inp 42, .inp 43, .inp 44, .inp 45, .inp 46, .inp 47, .inp 48, .inp 49, .inp 50, .inp 51, .inp 52, .inp 53, .inp 54, .inp 55, .inp 56, .inp 57, .inp 58, .inp 59, .inp 60, .inp 61, .inp 62, .inp 63, .inp 64, .inp 65, .inp 66, .inp 67, .inp 68, .inp 69, .inp 70, .inp 71, .inp 72, .inp 73, .inp 74, .inp 75, .inp 76, .inp 77, .inp 78, .inp 79, .inp 80, .inp 81, .inp 82, .inp 83, .inp 84, .inp 85, .inp 86, .inp 87, .inp 88, .inp 89, .inp 90, .inp 91, .inp 92, .inp 93, .inp 94, .inp 95, .inp 96, .inp 97, .inp 98, .inp 99, .inp 100, .inp 101, .inp 102, .inp 103, .inp 104, .inp 105, .inp 106, .inp 107, .inp 108, .inp 109, .inp 110, .inp 111, .inp 112, .inp 113]
@[simp] noncomputable def qka2_34 : SE := .tup [.agg [.inp 40, .app .app [.app (.slice false true) [.inp 117, .inp 118], .app (.slice true false) [.inp 117, qka2_32]], .inp 42, .inp 43, .inp 44, .inp 45, .inp 46, .inp 47, .inp 48, .inp 49, .inp 50, .inp 51, .inp 52, .inp 53, .inp 54, .inp 55, .inp 56, .inp 57, .inp 58, .inp 59, .inp 60, .inp 61, .inp 62, .inp 63, .inp 64, .inp 65, .inp 66, .inp 67, .inp 68, .inp 69, .inp 70, .inp 71, .inp 72, .inp 73, .inp 74, .inp 75, .inp 76, .inp 77, .inp 78, .inp 79, .inp 80, .inp 81, .inp 82, .inp 83, .inp 84, .inp 85, .inp 86, .inp 87, .inp 88, .inp 89, .inp 90, .inp 91, .inp 92, .inp 93, .inp 94, .inp 95, .inp 96, .inp 97, .inp 98, .inp 99, .inp 100, .inp 101, .inp 102, .inp 103, .inp 104, .inp 105, .inp 106, .inp 107, .inp 108, .inp 109, .inp 110, .inp 111, .inp 112, .inp 113], .bool true]
@[simp] noncomputable def qka2_35 : SE := .app (.bin .eql) [.inp 120, .int .i64 2]
@[simp] noncomputable def qka2_36 : SE := .app (.rowset 23 6 1) [.inp 117, .inp 118, .agg [.int .u8 4]]
@[simp] noncomputable def qka2_37 : SE := .tup [.agg [.inp 40, .app (.rowset 23 21 1) [qka2_36, .inp 118, .agg [.inp 7]], .inp 42, .inp 43, .inp 44, .inp 45, .inp 46, .inp 47, .inp 48, .inp 49, .inp 50, .inp 51, .inp 52, .inp 53, .inp 54, .inp 55, .inp 56, .inp 57, .inp 58, .inp 59, .inp 60, .inp 61, .inp 62, .inp 63, .inp 64, .inp 65, .inp 66, .inp 67, .inp 68, .inp 69, .inp 70, .inp 71, .inp 72, .inp 73, .inp 74, .inp 75, .inp 76, .inp 77, .inp 78, .inp 79, .inp 80, .inp 81, .inp 82, .inp 83, .inp 84, .inp 85, .inp 86, .inp 87, .inp 88, .inp 89, .inp 90, .inp 91, .inp 92, .inp 93, .inp 94, .inp 95, .inp 96, .inp 97, .inp 98, .inp 99, .inp 100, .inp 101, .inp 102, .inp 103, .inp 104, .inp 105, .inp 106, .inp 107, .inp 108, .inp 109, .inp 110, .inp 111, .inp 112, .inp 113], .bool true]
@[simp] noncomputable def qka2_38 : SE := .ref [.inp 0, .inp 1, .inp 2, .inp 3, .inp 4, .inp 5, .inp 6, .inp 7, .inp 8, .inp 9, .inp 10] 0
@[simp] noncomputable def qka2_39 : SE := .ref [.inp 11, .inp 12, .inp 13, .inp 14, .inp 15, .inp 16, .inp 17, .inp 18, .inp 19, .inp 20, .inp 21, .inp 22, .inp 23, .inp 24, .inp 25, .inp 26, .inp 27, .inp 28, .inp 29, .inp 30, .inp 31, .inp 32, .inp 33, .inp 34, .inp 35, .inp 36, .inp 37, .inp 38, .inp 39] 0
@[simp] noncomputable def qka2_40 : SE := .agg [.inp 40, .inp 41, .inp 42, .inp 43, .inp 44, .inp 45, .inp 46, .inp 47, .inp 48, .inp 49, .inp 50, .inp 51, .inp 52, .inp 53, .inp 54, .inp 55, .inp 56, .inp 57, .inp 58, .inp 59, .inp 60, .inp 61, .inp 62]
@[simp] noncomputable def qka2_41 : SE := .app (.part 6 1 false) [.inp 63]
@[simp] noncomputable def qka2_42 : SE := .app (.bin .neq) [qka2_41, .int .u8 4]
@[simp] noncomputable def qka2_43 : SE := .app (.part 0 1 false) [.inp 63]
@[simp] noncomputable def qka2_44 : SE := .app (.part 1 1 false) [.inp 63]
@[simp] noncomputable def qka2_45 : SE := .app (.part 2 1 false) [.inp 63]
@[simp] noncomputable def qka2_46 : SE := .app (.part 3 1 false) [.inp 63]
@[simp] noncomputable def qka2_47 : SE := .app (.part 4 1 false) [.inp 63]
@[simp] noncomputable def qka2_48 : SE := .app (.part 5 1 false) [.inp 63]
@[simp] noncomputable def qka2_49 : SE := .app (.part 7 1 false) [.inp 63]
@[simp] noncomputable def qka2_50 : SE := .app (.part 8 1 false) [.inp 63]
@[simp] noncomputable def qka2_51 : SE := .app (.part 9 1 false) [.inp 63]
@[simp] noncomputable def qka2_52 : SE := .app (.part 10 1 false) [.inp 63]
@[simp] noncomputable def qka2_53 : SE := .app (.part 11 1 false) [.inp 63]
@[simp] noncomputable def qka2_54 : SE := .app (.part 12 1 false) [.inp 63]
@[simp] noncomputable def qka2_55 : SE := .app (.part 13 1 false) [.inp 63]
@[simp] noncomputable def qka2_56 : SE := .app (.part 14 1 false) [.inp 63]
@[simp] noncomputable def qka2_57 : SE := .app (.part 15 1 false) [.inp 63]
@[simp] noncomputable def qka2_58 : SE := .app (.part 16 1 false) [.inp 63]
@[simp] noncomputable def qka2_59 : SE := .app (.part 17 1 false) [.inp 63]
@[simp] noncomputable def qka2_60 : SE := .app (.part 18 1 false) [.inp 63]
@[simp] noncomputable def qka2_61 : SE := .app (.part 19 1 false) [.inp 63]
@[simp] noncomputable def qka2_62 : SE := .app (.part 20 1 false) [.inp 63]
@[simp] noncomputable def qka2_63 : SE := .app (.part 21 1 false) [.inp 63]
@[simp] noncomputable def qka2_64 : SE := .app (.part 22 1 false) [.inp 63]
@[simp] noncomputable def qka2_65 : SE := .agg [qka2_43, qka2_44, qka2_45, qka2_46, qka2_47, qka2_48, qka2_41, qka2_49, qka2_50, qka2_51, qka2_52, qka2_53, qka2_54, qka2_55, qka2_56, qka2_57, qka2_58, qka2_59, qka2_60, qka2_61, qka2_62, qka2_63, qka2_64]
@[simp] noncomputable def qka2_66 : SE := .tup [qka2_65, .bool false]
@[simp] noncomputable def qka2_67 : SE := .agg [.app (.part 0 1 false) [.inp 66], .app (.part 1 1 false) [.inp 66], .app (.part 2 1 false) [.inp 66], .app (.part 3 1 false) [.inp 66], .app (.part 4 1 false) [.inp 66], .app (.part 5 1 false) [.inp 66], .app (.part 6 1 false) [.inp 66], .app (.part 7 1 false) [.inp 66], .app (.part 8 1 false) [.inp 66], .app (.part 9 1 false) [.inp 66], .app (.part 10 1 false) [.inp 66], .app (.part 11 1 false) [.inp 66], .app (.part 12 1 false) [.inp 66], .app (.part 13 1 false) [.inp 66], .app (.part 14 1 false) [.inp 66], .app (.part 15 1 false) [.inp 66], .app (.part 16 1 false) [.inp 66], .app (.part 17 1 false) [.inp 66], .app (.part 18 1 false) [.inp 66], .app (.part 19 1 false) [.inp 66], .app (.part 20 1 false) [.inp 66], .app (.part 21 1 false) [.inp 66], .app (.part 22 1 false) [.inp 66]]
@[simp] noncomputable def qka2_68 : SE := .agg [qka2_43, qka2_44, qka2_45, qka2_46, qka2_47, qka2_48, qka2_41, qka2_49, qka2_50, qka2_51, qka2_52, qka2_53, qka2_54, qka2_55, qka2_56, qka2_57, qka2_58, qka2_59, qka2_60, qka2_61, qka2_62, .inp 67, qka2_64]
@[simp] noncomputable def qka2_69 : SE := .app (.bin .lss) [.inp 11, .int .i64 0]
@[simp] noncomputable def qka2_70 : SE := .app (.bin .geq) [.inp 11, .app .len [.inp 1]]
@[simp] noncomputable def qka2_71 : SE := .ref [.int .i64 (-1), .int .i64 0] 0
@[simp] noncomputable def qka2_72 : SE := .app (.eload 2 true) [qka2_71]
@[simp] noncomputable def qka2_73 : SE := .agg [.app (.part 0 1 false) [qka2_72], .app (.part 1 1 false) [qka2_72]]
@[simp] noncomputable def qka2_74 : SE := .app (.eidx 2) [.inp 1, .inp 11]
@[simp] noncomputable def qka2_75 : SE := .app (.eoff 0) [qka2_74]
@[simp] noncomputable def qka2_76 : SE := .app (.eidx 11) [.inp 0, .inp 11]
@[simp] noncomputable def qka2_77 : SE := .app (.eoff 1) [qka2_76]
@[simp] noncomputable def qka2_78 : SE := .app (.eaidx 4 2) [qka2_77, .inp 12]
@[simp] noncomputable def qka2_79 : SE := .app (.eload 2 true) [qka2_78]
@[simp] noncomputable def qka2_80 : SE := .app (.bin .geq) [.inp 11, .int .i64 0]
@[simp] noncomputable def qka2_81 : SE := .app (.bin .lss) [.inp 11, .app .len [.inp 0]]
@[simp] noncomputable def qka2_82 : SE := .app .pick [qka2_80, qka2_81, .bool false]
@[simp] noncomputable def qka2_83 : SE := .app (.bin .geq) [.inp 12, .int .i64 0]
@[simp] noncomputable def qka2_84 : SE := .app .pick [qka2_82, qka2_83, .bool false]
@[simp] noncomputable def qka2_85 : SE := .app (.eoff 0) [qka2_76]
@[simp] noncomputable def qka2_86 : SE := .app (.bin .lss) [.inp 12, .inp 13]
@[simp] noncomputable def qka2_87 : SE := .agg [.inp 0, .inp 1, .inp 2, .inp 3, .inp 4, .inp 5, .inp 6, .inp 7, .inp 8, .inp 9, .inp 10, .inp 11, .inp 12, .inp 13, .inp 14, .inp 15, .inp 16, .inp 17, .inp 18, .inp 19, .inp 20, .inp 21, .inp 22, .inp 23, .inp 24, .inp 25, .inp 26, .inp 27, .inp 28, .inp 29, .inp 30, .inp 31, .inp 32, .inp 33, .inp 34, .inp 35, .inp 36, .inp 37, .inp 38, .inp 39, .inp 40, .inp 41, .inp 42, .inp 43, .inp 44, .inp 45, .inp 46, .inp 47, .inp 48, .inp 49, .inp 50, .inp 51, .inp 52, .inp 53, .inp 54, .inp 55, .inp 56, .inp 57, .inp 58, .inp 59, .inp 60, .inp 61, .inp 62, .inp 63, .inp 64, .inp 65, .inp 66, .inp 67, .inp 68, .inp 69, .inp 70, .inp 71, .inp 72, .inp 73]
@[simp] noncomputable def qka2_92 : SE := .app (.bin .lss) [.inp 11, .app .len [.inp 2]]
@[simp] noncomputable def qka2_93 : SE := .app (.bin .leq) [.inp 11, .int .i64 30]
@[simp] noncomputable def qka2_94 : SE := .app (.eidx 3) [.inp 2, .inp 11]
@[simp] noncomputable def qka2_95 : SE := .app (.eoff 2) [qka2_94]
@[simp] noncomputable def qka2_96 : SE := .app (.eload 1 false) [qka2_95]
@[simp] noncomputable def qka2_97 : SE := .app .len [qka2_96]
@[simp] noncomputable def qka2_98 : SE := .app (.bin .gtr) [.app .len [.inp 0], .int .i64 40]
@[simp] noncomputable def qka2_99 : SE := .app (.bin .gtr) [.app .len [.inp 1], .int .i64 30]
@[simp] noncomputable def qka2_100 : SE := .app .pick [qka2_98, .bool true, qka2_99]
@[simp] noncomputable def qka2_101 : SE := .app (.bin .gtr) [.app .len [.inp 2], .int .i64 30]
@[simp] noncomputable def qka2_102 : SE := .app .pick [qka2_100, .bool true, qka2_101]
@[simp] noncomputable def qka2_103 : SE := .app (.bin .gtr) [.app .len [.inp 3], .int .i64 40]
@[simp] noncomputable def qka2_104 : SE := .ref [.int .i64 0, .int .i64 0, .int .i64 0, .int .i64 0, .int .i64 0, .int .i64 0, .bool false, .int .i64 2, .int .i64 0, .int .i64 1, .int .i64 0, .int .i64 0, .int .i64 1, .bool false, .int .i64 3, .int .i64 0, .int .i64 1, .int .i64 0, .int .i64 2, .int .i64 2, .bool true, .int .i64 4, .int .i64 0, .int .i64 1, .int .i64 2, .int .i64 3, .int .i64 2, .bool false] 0
@[simp] noncomputable def qka2_105 : SE := .app (.eaidx 4 7) [qka2_104, .inp 0]
@[simp] noncomputable def qka2_106 : SE := .app (.eload 7 true) [qka2_105]
@[simp] noncomputable def qka2_107 : SE := .app (.eidx 23) [.inp 1, .inp 148]
@[simp] noncomputable def qka2_108 : SE := .app (.eidx 23) [.inp 75, .inp 148]
@[simp] noncomputable def qka2_109 : SE := .app (.bin .eql) [.inp 0, .inp 74]
@[simp] noncomputable def qka2_110 : SE := .agg [.inp 2, .inp 3, .inp 4, .inp 5, .inp 6, .inp 7, .inp 8, .inp 9, .inp 10, .inp 11, .inp 12, .inp 13, .inp 14, .inp 15, .inp 16, .inp 17, .inp 18, .inp 19, .inp 20, .inp 21, .inp 22, .inp 23, .inp 24, .inp 25, .inp 26, .inp 27, .inp 28, .inp 29, .inp 30, .inp 31, .inp 32, .inp 33, .inp 34, .inp 35, .inp 36, .inp 37, .inp 38, .inp 39, .inp 40, .inp 41, .inp 42, .inp 43, .inp 44, .inp 45, .inp 46, .inp 47, .inp 48, .inp 49, .inp 50, .inp 51, .inp 52, .inp 53, .inp 54, .inp 55, .inp 56, .inp 57, .inp 58, .inp 59, .inp 60, .inp 61, .inp 62, .inp 63, .inp 64, .inp 65, .inp 66, .inp 67, .inp 68, .inp 69, .inp 70, .inp 71, .inp 72, .inp 73]
@[simp] noncomputable def qka2_111 : SE := .agg [.inp 76, .inp 77, .inp 78, .inp 79, .inp 80, .inp 81, .inp 82, .inp 83, .inp 84, .inp 85, .inp 86, .inp 87, .inp 88, .inp 89, .inp 90, .inp 91, .inp 92, .inp 93, .inp 94, .inp 95, .inp 96, .inp 97, .inp 98, .inp 99, .inp 100, .inp 101, .inp 102, .inp 103, .inp 104, .inp 105, .inp 106, .inp 107, .inp 108, .inp 109, .inp 110, .inp 111, .inp 112, .inp 113, .inp 114, .inp 115, .inp 116, .inp 117, .inp 118, .inp 119, .inp 120, .inp 121, .inp 122, .inp 123, .inp 124, .inp 125, .inp 126, .inp 127, .inp 128, .inp 129, .inp 130, .inp 131, .inp 132, .inp 133, .inp 134, .inp 135, .inp 136, .inp 137, .inp 138, .inp 139, .inp 140, .inp 141, .inp 142, .inp 143, .inp 144, .inp 145, .inp 146, .inp 147]
@[simp] noncomputable def qka2_112 : SE := .app (.eqa [ some .i64, some .i64, none, some .i64, some .i64, none, some .i64, some .i64, none, some .i64, some .i64, none, some .i64, some .i64, none, some .i64, some .i64, none, some .i64, some .i64, none, some .i64, some .i64, none, some .i64, some .i64, none, some .i64, some .i64, none, some .i64, some .i64, none, some .i64, some .i64, none, some .i64, some .i64, none, some .i64, some .i64, none, some .i64, some .i64, none, some .i64, some .i64, none, some .i64, some .i64, none, some .i64, some .i64, none, some .i64, some .i64, none, some .i64, some .i64, none, some .i64, some .i64, none, some .i64, some .i64, none, some .i64, some .i64, none, some .i64, some .i64, none] false) [qka2_110, qka2_111]
@[simp] noncomputable def qka2_113 : SE := .app (.bin .lss) [.inp 74, .app .len [.inp 1]]
@[simp] noncomputable def qka2_114 : SE := .app (.bin .leq) [.inp 74, .int .i64 10]
@[simp] noncomputable def qka2_115 : SE := .app (.eidx 23) [.inp 1, .inp 74]
@[simp] noncomputable def qka2_116 : SE := .app (.eload 23 true) [qka2_115]
@[simp] noncomputable def qka2_117 : SE := .app (.part 3 1 false) [qka2_116]
@[simp] noncomputable def qka2_118 : SE := .app .len [qka2_117]
@[simp] noncomputable def qka2_119 : SE := .app (.bin .gtr) [qka2_118, .int .i64 30]
@[simp] noncomputable def qka2_120 : SE := .app (.part 4 1 false) [qka2_116]
@[simp] noncomputable def qka2_121 : SE := .app .len [qka2_120]
@[simp] noncomputable def qka2_122 : SE := .app (.bin .gtr) [qka2_121, .int .i64 10]
@[simp] noncomputable def qka2_123 : SE := .app .pick [qka2_119, .bool true, qka2_122]
@[simp] noncomputable def qka2_124 : SE := .app (.part 5 1 false) [qka2_116]
@[simp] noncomputable def qka2_125 : SE := .app .len [qka2_124]
@[simp] noncomputable def qka2_126 : SE := .app (.bin .gtr) [qka2_125, .int .i64 100]
@[simp] noncomputable def qka2_127 : SE := .agg [.inp 0, .app .lst [.agg [.int .i64 1, .int .i64 0]], .app .lst [.agg [.int .i64 2, .int .i64 1, .nils]], .nils, .int .i64 1, .int .i64 1, .int .i64 9, .int .i64 2, .int .i64 1, .int .i64 1, .int .i64 1]
@[simp] noncomputable def qka2_128 : SE := .agg [.app (.part 0 1 false) [.inp 2], .app (.part 1 1 false) [.inp 2], .app (.part 2 1 false) [.inp 2], .app (.part 3 1 false) [.inp 2], .app (.part 4 1 false) [.inp 2], .app (.part 5 1 false) [.inp 2], .app (.part 6 1 false) [.inp 2], .app (.part 7 1 false) [.inp 2], .app (.part 8 1 false) [.inp 2], .app (.part 9 1 false) [.inp 2], .app (.part 10 1 false) [.inp 2], .app (.part 11 1 false) [.inp 2], .app (.part 12 1 false) [.inp 2], .app (.part 13 1 false) [.inp 2], .app (.part 14 1 false) [.inp 2], .app (.part 15 1 false) [.inp 2], .app (.part 16 1 false) [.inp 2], .app (.part 17 1 false) [.inp 2], .app (.part 18 1 false) [.inp 2], .app (.part 19 1 false) [.inp 2], .app (.part 20 1 false) [.inp 2], .app (.part 21 1 false) [.inp 2], .app (.part 22 1 false) [.inp 2], .app (.part 23 1 false) [.inp 2], .app (.part 24 1 false) [.inp 2], .app (.part 25 1 false) [.inp 2], .app (.part 26 1 false) [.inp 2], .app (.part 27 1 false) [.inp 2], .app (.part 28 1 false) [.inp 2]]
noncomputable def rt_back_comes_3 : RT :=
.seg [.chk [] (.isAgg 23) [qka2_0]] <|
.seg [.chk [] (.eload 11 true) [qka2_1]] <|
.seg [.chk [] (.eload 29 true) [qka2_2]] <|
.seg [.call 63 [] 8 [qka2_3, qka2_4, qka2_0] false] <|
.seg [.bind 64 (qka2_3),
.bind 65 (qka2_4)] <|
.cond (.inp 63)
 (.ret (.int .i64 0))
 (.ret (.int .i64 2))
theorem run_back_comes_3 : runF E 33 [.agg [.inp 0, .inp 1, .inp 2, .inp 3, .inp 4, .inp 5, .inp 6, .inp 7, .inp 8, .inp 9, .inp 10, .inp 11, .inp 12, .inp 13, .inp 14, .inp 15, .inp 16, .inp 17, .inp 18, .inp 19, .inp 20, .inp 21, .inp 22], .ref [.inp 23, .inp 24, .inp 25, .inp 26, .inp 27, .inp 28, .inp 29, .inp 30, .inp 31, .inp 32, .inp 33] 0, .ref [.inp 34, .inp 35, .inp 36, .inp 37, .inp 38, .inp 39, .inp 40, .inp 41, .inp 42, .inp 43, .inp 44, .inp 45, .inp 46, .inp 47, .inp 48, .inp 49, .inp 50, .inp 51, .inp 52, .inp 53, .inp 54, .inp 55, .inp 56, .inp 57, .inp 58, .inp 59, .inp 60, .inp 61, .inp 62] 0] 63 = rt_back_comes_3 := by kernel_rfl

noncomputable def rt_back_Cancel : RT :=
.seg [.chk [] (.isAgg 11) [qka2_5]] <|
.seg [.chk [] (.isAgg 29) [qka2_6]] <|
.seg [.chk [] (.isAgg 74) [qka2_7]] <|
.seg [.chk [] (.isAgg 11) [qka2_5]] <|
.seg [.chk [] (.isAgg 29) [qka2_6]] <|
.seg [.chk [] (.isAgg 74) [qka2_7]] <|
.seg [.chk [] .len [.inp 41],
.isNil 115 [] (.inp 41)] <|
.cond (.inp 115)
 (.seg [.chk [] .len [.nils]] <|
.loop 0 116 [] <|
.seg [.chk [] (.bin .lss) [.int .i64 0, .int .i64 0]] <|
.seg [.chk [] (.isAgg 74) [qka2_8]] <|
.seg [.chk [] (.isAgg 74) [qka2_8]] <|
.seg [.chk [] .len [.nils]] <|
.loop 0 116 [] <|
.seg [.chk [] (.bin .lss) [.int .i64 0, .int .i64 0]] <|
.seg [.chk [] (.bin .lss) [.int .i64 (-1), .int .i64 0]] <|
.seg [.chk [] (.isAgg 74) [qka2_8]] <|
.ret (.tup [.agg [.inp 40, .nils, .inp 42, .inp 43, .inp 44, .inp 45, .inp 46, .inp 47, .inp 48, .inp 49, .inp 50, .inp 51, .inp 52, .inp 53, .inp 54, .inp 55, .inp 56, .inp 57, .inp 58, .inp 59, .inp 60, .inp 61, .inp 62, .inp 63, .inp 64, .inp 65, .inp 66, .inp 67, .inp 68, .inp 69, .inp 70, .inp 71, .inp 72, .inp 73, .inp 74, .inp 75, .inp 76, .inp 77, .inp 78, .inp 79, .inp 80, .inp 81, .inp 82, .inp 83, .inp 84, .inp 85, .inp 86, .inp 87, .inp 88, .inp 89, .inp 90, .inp 91, .inp 92, .inp 93, .inp 94, .inp 95, .inp 96, .inp 97, .inp 98, .inp 99, .inp 100, .inp 101, .inp 102, .inp 103, .inp 104, .inp 105, .inp 106, .inp 107, .inp 108, .inp 109, .inp 110, .inp 111, .inp 112, .inp 113], .bool false]))
 (.seg [.chk [] (.szs 23) [.inp 41],
.chk [] .app [.app .lst [], .inp 41]] <|
.seg [.chk [] .len [qka2_9]] <|
.loop 0 116 [.int .i64 0, qka2_9] <|
.seg [.chk [] (.bin .lss) [.inp 116, qka2_10]] <|
.cond (.app (.bin .lss) [.inp 116, qka2_10])
 (.seg [.chk [] (.eidx 23) [.inp 117, .inp 116]] <|
.seg [.chk [] (.rowget 23 0 23 true) [.inp 117, .inp 116]] <|
.seg [.chk [] (.isAgg 23) [qka2_11]] <|
.seg [.call 118 [] 25 [.agg [.app (.part 0 1 false) [qka2_11], .app (.part 1 1 false) [qka2_11], .app (.part 2 1 false) [qka2_11], .app (.part 3 1 false) [qka2_11], .app (.part 4 1 false) [qka2_11], .app (.part 5 1 false) [qka2_11], .app (.part 6 1 false) [qka2_11], .app (.part 7 1 false) [qka2_11], .app (.part 8 1 false) [qka2_11], .app (.part 9 1 false) [qka2_11], .app (.part 10 1 false) [qka2_11], .app (.part 11 1 false) [qka2_11], .app (.part 12 1 false) [qka2_11], .app (.part 13 1 false) [qka2_11], .app (.part 14 1 false) [qka2_11], .app (.part 15 1 false) [qka2_11], .app (.part 16 1 false) [qka2_11], .app (.part 17 1 false) [qka2_11], .app (.part 18 1 false) [qka2_11], .app (.part 19 1 false) [qka2_11], .app (.part 20 1 false) [qka2_11], .app (.part 21 1 false) [qka2_11], .app (.part 22 1 false) [qka2_11]]] false,
.chk [] (.eidx 23) [.inp 117, .inp 116],
.chk [] (.rowset 23 0 23) [.inp 117, .inp 116, qka2_12],
.chk [] (.isAgg 23) [.inp 118]] <|
.seg [.bind 119 (.app (.rowset 23 0 23) [.inp 117, .inp 116, qka2_12])] <|
.seg [.chk [] (.bin .add) [.inp 116, .int .i64 1]] <|
.again 0 [.app (.bin .add) [.inp 116, .int .i64 1], .inp 119])
 (.seg [.chk [] (.isAgg 74) [qka2_13]] <|
.seg [.chk [] (.isAgg 74) [qka2_13]] <|
.seg [.chk [] .len [.inp 117]] <|
.loop 0 118 [.int .i64 (-1), .int .i64 0] <|
.seg [.chk [] (.bin .lss) [.inp 119, .app .len [.inp 117]]] <|
.cond (.app (.bin .lss) [.inp 119, .app .len [.inp 117]])
 (.seg [.chk [] (.eidx 23) [.inp 117, .inp 119]] <|
.seg [.chk [] (.rowget 23 0 23 true) [.inp 117, .inp 119]] <|
.seg [.chk [] (.isAgg 23) [qka2_14]] <|
.seg [.chk [] (.bin .eql) [qka2_15, .inp 114],
.chk [(qka2_16, true)] (.bin .lss) [.inp 118, .int .i64 0],
.chk [(qka2_17, false), (qka2_16, true)] (.eidx 23) [.inp 117, .inp 118],
.chk [(qka2_17, false), (qka2_16, true)] (.inr 4294967296) [.inp 118],
.chk [(qka2_17, false), (qka2_16, true)] (.rowget 23 0 1 false) [.inp 117, .inp 118],
.chk [(qka2_17, false), (qka2_16, true)] (.bin .gtr) [qka2_18, qka2_19],
.chk [(qka2_16, true)] .pick [qka2_17, .bool true, qka2_20],
.chk [] .pick [qka2_16, qka2_21, .bool false]] <|
.seg [.bind 120 (qka2_21),
.bind 121 (.app .pick [qka2_16, qka2_21, .bool false])] <|
.cond (.inp 121)
 (.seg [.chk [] (.bin .add) [.inp 119, .int .i64 1]] <|
.again 0 [.inp 119, qka2_22])
 (.seg [.chk [] (.bin .add) [.inp 119, .int .i64 1]] <|
.again 0 [.inp 118, qka2_22]))
 (.seg [.chk [] (.bin .lss) [.inp 118, .int .i64 0]] <|
.seg [.chk [(qka2_17, false)] (.eidx 23) [.inp 117, .inp 118]] <|
.seg [.chk [(qka2_17, false)] (.inr 4294967296) [.inp 118]] <|
.seg [.chk [(qka2_17, false)] (.rowget 23 6 1 false) [.inp 117, .inp 118]] <|
.seg [.chk [(qka2_17, false)] (.bin .eql) [qka2_23, .int .u8 0]] <|
.seg [.chk [(qka2_17, false)] (.eqf false) [qka2_27, .nilf]] <|
.seg [.chk [] .pick [qka2_17, .bool true, qka2_28]] <|
.cond (.app .pick [qka2_17, .bool true, qka2_28])
 (.seg [.chk [] (.isAgg 74) [qka2_13]] <|
.ret (qka2_29))
 (.cond (qka2_24)
 (.seg [.chk [] (.eidx 23) [.inp 117, .inp 118],
.chk [] (.inr 4294967296) [.inp 118],
.chk [] (.rowget 23 6 1 false) [.inp 117, .inp 118],
.chk [] (.bin .eql) [qka2_23, .int .u8 0],
.chk [] (.eidx 23) [.inp 117, .inp 118],
.chk [] (.rowget 23 0 23 true) [.inp 117, .inp 118],
.call 120 [] 31 [qka2_30] false] <|
.seg [.chk [] (.bin .eql) [.inp 120, .int .i64 1]] <|
.cond (qka2_31)
 (.seg [.chk [] (.bin .add) [.inp 118, .int .i64 1]] <|
.seg [.chk [] (.szs 23) [.inp 117],
.chk [] .app [.inp 117, .nils],
.chk [] (.bin .add) [.inp 118, .int .i64 1],
.chk [] (.bin .lss) [qka2_32, .int .i64 0],
.chk [] (.slice true true) [.inp 117, .inp 118, qka2_32],
.chk [] (.slice true true) [.inp 117, qka2_32, qka2_32]] <|
.seg [.chk [] (.isAgg 74) [qka2_33]] <|
.ret (qka2_34))
 (.seg [.chk [] (.bin .eql) [.inp 120, .int .i64 2]] <|
.cond (qka2_35)
 (.seg [.chk [] (.eidx 23) [.inp 117, .inp 118],
.chk [] (.inr 4294967296) [.inp 118],
.chk [] (.rowset 23 6 1) [.inp 117, .inp 118, .agg [.int .u8 4]],
.chk [] (.eidx 23) [qka2_36, .inp 118],
.chk [] (.inr 4294967296) [.inp 118],
.chk [] (.rowset 23 21 1) [qka2_36, .inp 118, .agg [.inp 7]],
.chk [] .isOne [.inp 7]] <|
.seg [.chk [] (.isAgg 74) [qka2_13]] <|
.ret (qka2_37))
 (.seg [.chk [] (.isAgg 74) [qka2_13]] <|
.ret (qka2_29))))
 (.cond (qka2_25)
 (.seg [.chk [] (.eidx 23) [.inp 117, .inp 118],
.chk [] (.inr 4294967296) [.inp 118],
.chk [] (.rowget 23 6 1 false) [.inp 117, .inp 118],
.chk [] (.bin .eql) [qka2_23, .int .u8 0],
.chk [] (.eidx 23) [.inp 117, .inp 118],
.chk [] (.rowget 23 0 23 true) [.inp 117, .inp 118],
.call 120 [] 32 [qka2_30, qka2_38, qka2_39] true] <|
.seg [.chk [] (.bin .eql) [.inp 120, .int .i64 1]] <|
.cond (qka2_31)
 (.seg [.chk [] (.bin .add) [.inp 118, .int .i64 1]] <|
.seg [.chk [] (.szs 23) [.inp 117],
.chk [] .app [.inp 117, .nils],
.chk [] (.bin .add) [.inp 118, .int .i64 1],
.chk [] (.bin .lss) [qka2_32, .int .i64 0],
.chk [] (.slice true true) [.inp 117, .inp 118, qka2_32],
.chk [] (.slice true true) [.inp 117, qka2_32, qka2_32]] <|
.seg [.chk [] (.isAgg 74) [qka2_33]] <|
.ret (qka2_34))
 (.seg [.chk [] (.bin .eql) [.inp 120, .int .i64 2]] <|
.cond (qka2_35)
 (.seg [.chk [] (.eidx 23) [.inp 117, .inp 118],
.chk [] (.inr 4294967296) [.inp 118],
.chk [] (.rowset 23 6 1) [.inp 117, .inp 118, .agg [.int .u8 4]],
.chk [] (.eidx 23) [qka2_36, .inp 118],
.chk [] (.inr 4294967296) [.inp 118],
.chk [] (.rowset 23 21 1) [qka2_36, .inp 118, .agg [.inp 7]],
.chk [] .isOne [.inp 7]] <|
.seg [.chk [] (.isAgg 74) [qka2_13]] <|
.ret (qka2_37))
 (.seg [.chk [] (.isAgg 74) [qka2_13]] <|
.ret (qka2_29))))
 (.cond (qka2_26)
 (.seg [.chk [] (.eidx 23) [.inp 117, .inp 118],
.chk [] (.inr 4294967296) [.inp 118],
.chk [] (.rowget 23 6 1 false) [.inp 117, .inp 118],
.chk [] (.bin .eql) [qka2_23, .int .u8 0],
.chk [] (.eidx 23) [.inp 117, .inp 118],
.chk [] (.rowget 23 0 23 true) [.inp 117, .inp 118],
.call 120 [] 33 [qka2_30, qka2_38, qka2_39] true] <|
.seg [.chk [] (.bin .eql) [.inp 120, .int .i64 1]] <|
.cond (qka2_31)
 (.seg [.chk [] (.bin .add) [.inp 118, .int .i64 1]] <|
.seg [.chk [] (.szs 23) [.inp 117],
.chk [] .app [.inp 117, .nils],
.chk [] (.bin .add) [.inp 118, .int .i64 1],
.chk [] (.bin .lss) [qka2_32, .int .i64 0],
.chk [] (.slice true true) [.inp 117, .inp 118, qka2_32],
.chk [] (.slice true true) [.inp 117, qka2_32, qka2_32]] <|
.seg [.chk [] (.isAgg 74) [qka2_33]] <|
.ret (qka2_34))
 (.seg [.chk [] (.bin .eql) [.inp 120, .int .i64 2]] <|
.cond (qka2_35)
 (.seg [.chk [] (.eidx 23) [.inp 117, .inp 118],
.chk [] (.inr 4294967296) [.inp 118],
.chk [] (.rowset 23 6 1) [.inp 117, .inp 118, .agg [.int .u8 4]],
.chk [] (.eidx 23) [qka2_36, .inp 118],
.chk [] (.inr 4294967296) [.inp 118],
.chk [] (.rowset 23 21 1) [qka2_36, .inp 118, .agg [.inp 7]],
.chk [] .isOne [.inp 7]] <|
.seg [.chk [] (.isAgg 74) [qka2_13]] <|
.ret (qka2_37))
 (.seg [.chk [] (.isAgg 74) [qka2_13]] <|
.ret (qka2_29))))
 (.dead 17 [.int .i64 13, .int .i64 1, .nilf, qka2_30])))))))
theorem run_back_Cancel : runF E 7 [.agg [.inp 0, .inp 1, .inp 2, .inp 3, .inp 4, .inp 5, .inp 6, .inp 7, .inp 8, .inp 9, .inp 10], .agg [.inp 11, .inp 12, .inp 13, .inp 14, .inp 15, .inp 16, .inp 17, .inp 18, .inp 19, .inp 20, .inp 21, .inp 22, .inp 23, .inp 24, .inp 25, .inp 26, .inp 27, .inp 28, .inp 29, .inp 30, .inp 31, .inp 32, .inp 33, .inp 34, .inp 35, .inp 36, .inp 37, .inp 38, .inp 39], .agg [.inp 40, .inp 41, .inp 42, .inp 43, .inp 44, .inp 45, .inp 46, .inp 47, .inp 48, .inp 49, .inp 50, .inp 51, .inp 52, .inp 53, .inp 54, .inp 55, .inp 56, .inp 57, .inp 58, .inp 59, .inp 60, .inp 61, .inp 62, .inp 63, .inp 64, .inp 65, .inp 66, .inp 67, .inp 68, .inp 69, .inp 70, .inp 71, .inp 72, .inp 73, .inp 74, .inp 75, .inp 76, .inp 77, .inp 78, .inp 79, .inp 80, .inp 81, .inp 82, .inp 83, .inp 84, .inp 85, .inp 86, .inp 87, .inp 88, .inp 89, .inp 90, .inp 91, .inp 92, .inp 93, .inp 94, .inp 95, .inp 96, .inp 97, .inp 98, .inp 99, .inp 100, .inp 101, .inp 102, .inp 103, .inp 104, .inp 105, .inp 106, .inp 107, .inp 108, .inp 109, .inp 110, .inp 111, .inp 112, .inp 113], .inp 114] 115 = rt_back_Cancel := by kernel_rfl

noncomputable def rt_back_Tick : RT :=
.seg [.chk [] (.isAgg 11) [qka2_5]] <|
.seg [.chk [] (.isAgg 29) [qka2_6]] <|
.seg [.chk [] (.isAgg 23) [qka2_40]] <|
.seg [.call 63 [] 25 [qka2_40] false] <|
.seg [.chk [] (.isAgg 23) [.inp 63]] <|
.seg [.chk [] (.bin .neq) [qka2_41, .int .u8 4]] <|
.seg [.call 64 [(qka2_42, false)] 26 [qka2_5, qka2_6] false] <|
.seg [.chk [] .pick [qka2_42, .bool true, .inp 64]] <|
.cond (.app .pick [qka2_42, .bool true, .inp 64])
 (.seg [.chk [] (.isAgg 23) [qka2_65]] <|
.ret (qka2_66))
 (.seg [.call 65 [] 27 [qka2_5, qka2_6, qka2_65] false] <|
.cond (.inp 65)
 (.seg [.call 66 [] 28 [qka2_5, qka2_6, .agg [qka2_43, qka2_44, qka2_45, qka2_46, qka2_47, qka2_48, .int .u8 3, qka2_49, qka2_50, qka2_51, qka2_52, qka2_53, qka2_54, qka2_55, qka2_56, qka2_57, qka2_58, qka2_59, qka2_60, qka2_61, qka2_62, .int .i64 0, qka2_64]] false] <|
.seg [.chk [] (.isAgg 23) [.inp 66]] <|
.seg [.chk [] (.isAgg 23) [qka2_67]] <|
.ret (.tup [qka2_67, .bool false]))
 (.seg [.call 66 [] 8 [qka2_5, qka2_6, qka2_65] false] <|
.cond (.inp 66)
 (.seg [.chk [] (.isAgg 23) [qka2_65]] <|
.ret (qka2_66))
 (.seg [.call 67 [] 29 [qka2_63] false] <|
.seg [.chk [] .isOne [.inp 67]] <|
.seg [.chk [] (.bin .eql) [.inp 67, .int .i64 0]] <|
.seg [.chk [] (.isAgg 23) [qka2_68]] <|
.ret (.tup [qka2_68, .app (.bin .eql) [.inp 67, .int .i64 0]]))))
theorem run_back_Tick : runF E 12 [.agg [.inp 0, .inp 1, .inp 2, .inp 3, .inp 4, .inp 5, .inp 6, .inp 7, .inp 8, .inp 9, .inp 10], .agg [.inp 11, .inp 12, .inp 13, .inp 14, .inp 15, .inp 16, .inp 17, .inp 18, .inp 19, .inp 20, .inp 21, .inp 22, .inp 23, .inp 24, .inp 25, .inp 26, .inp 27, .inp 28, .inp 29, .inp 30, .inp 31, .inp 32, .inp 33, .inp 34, .inp 35, .inp 36, .inp 37, .inp 38, .inp 39], .agg [.inp 40, .inp 41, .inp 42, .inp 43, .inp 44, .inp 45, .inp 46, .inp 47, .inp 48, .inp 49, .inp 50, .inp 51, .inp 52, .inp 53, .inp 54, .inp 55, .inp 56, .inp 57, .inp 58, .inp 59, .inp 60, .inp 61, .inp 62]] 63 = rt_back_Tick := by kernel_rfl

noncomputable def rt_beyond_Rear : RT :=
.seg [.chk [] (.isAgg 11) [qka2_5]] <|
.seg [.chk [] (.bin .lss) [.inp 11, .int .i64 0]] <|
.seg [.chk [(qka2_69, false)] .len [.inp 1]] <|
.seg [.chk [(qka2_69, false)] (.bin .geq) [.inp 11, .app .len [.inp 1]]] <|
.seg [.chk [] .pick [qka2_69, .bool true, qka2_70]] <|
.cond (.app .pick [qka2_69, .bool true, qka2_70])
 (.seg [.chk [] (.eload 2 true) [qka2_71]] <|
.seg [.chk [] (.isAgg 2) [qka2_72]] <|
.ret (qka2_73))
 (.seg [.chk [] (.eidx 2) [.inp 1, .inp 11],
.chk [] (.eoff 0) [qka2_74],
.chk [] (.eload 2 true) [qka2_75],
.call 12 [] 37 [qka2_5, .app (.eload 2 true) [qka2_75]] false,
.chk [] (.isAgg 2) [.inp 12]] <|
.ret (.agg [.app (.part 0 1 false) [.inp 12], .app (.part 1 1 false) [.inp 12]]))
theorem run_beyond_Rear : runF E 21 [.agg [.inp 0, .inp 1, .inp 2, .inp 3, .inp 4, .inp 5, .inp 6, .inp 7, .inp 8, .inp 9, .inp 10], .inp 11] 12 = rt_beyond_Rear := by kernel_rfl

noncomputable def rt_join_Beyond : RT :=
.seg [.chk [] (.isAgg 11) [qka2_5]] <|
.seg [.chk [] (.isAgg 2) [.agg [.inp 11, .inp 12]]] <|
.seg [.call 13 [] 54 [qka2_5, .agg [.inp 11, .inp 12]] false] <|
.cond (.inp 13)
 (.seg [.chk [] (.eidx 11) [.inp 0, .inp 11],
.chk [] (.eoff 1) [qka2_76],
.chk [] (.eaidx 4 2) [qka2_77, .inp 12],
.chk [] (.eload 2 true) [qka2_78],
.chk [] (.isAgg 2) [qka2_79]] <|
.ret (.agg [.app (.part 0 1 false) [qka2_79], .app (.part 1 1 false) [qka2_79]]))
 (.seg [.chk [] (.eload 2 true) [qka2_71]] <|
.seg [.chk [] (.isAgg 2) [qka2_72]] <|
.ret (qka2_73))
theorem run_join_Beyond : runF E 37 [.agg [.inp 0, .inp 1, .inp 2, .inp 3, .inp 4, .inp 5, .inp 6, .inp 7, .inp 8, .inp 9, .inp 10], .agg [.inp 11, .inp 12]] 13 = rt_join_Beyond := by kernel_rfl

noncomputable def rt_join_Has : RT :=
.seg [.chk [] (.isAgg 11) [qka2_5]] <|
.seg [.chk [] (.isAgg 2) [.agg [.inp 11, .inp 12]]] <|
.seg [.chk [] (.bin .geq) [.inp 11, .int .i64 0],
.chk [(qka2_80, true)] .len [.inp 0],
.chk [(qka2_80, true)] (.bin .lss) [.inp 11, .app .len [.inp 0]],
.chk [] .pick [qka2_80, qka2_81, .bool false],
.chk [(qka2_82, true)] (.bin .geq) [.inp 12, .int .i64 0],
.chk [] .pick [qka2_82, qka2_83, .bool false],
.chk [(qka2_84, true)] (.eidx 11) [.inp 0, .inp 11],
.chk [(qka2_84, true)] (.eoff 0) [qka2_76],
.chk [(qka2_84, true)] (.eload 1 false) [qka2_85],
.call 13 [(qka2_84, true)] 61 [.app (.eload 1 false) [qka2_85]] false,
.chk [(qka2_84, true)] (.bin .lss) [.inp 12, .inp 13],
.chk [] .pick [qka2_84, qka2_86, .bool false]] <|
.seg [.bind 14 (.app .pick [qka2_84, qka2_86, .bool false]),
.bind 15 (qka2_84)] <|
.ret (.inp 14)
theorem run_join_Has : runF E 54 [.agg [.inp 0, .inp 1, .inp 2, .inp 3, .inp 4, .inp 5, .inp 6, .inp 7, .inp 8, .inp 9, .inp 10], .agg [.inp 11, .inp 12]] 13 = rt_join_Has := by kernel_rfl

noncomputable def rt_port_Ports : RT :=
.seg [.call 1 [] 69 [.inp 0] false] <|
.seg [.chk [] (.part 0 1 false) [.inp 1]] <|
.ret (.app (.part 0 1 false) [.inp 1])
theorem run_port_Ports : runF E 61 [.inp 0] 1 = rt_port_Ports := by kernel_rfl

noncomputable def rt_lockbarref06_Great : RT :=
.seg [.chk [] (.isAgg 11) [qka2_5]] <|
.loop 0 11 [.int .i64 0] <|
.seg [.chk [] .len [.inp 2]] <|
.seg [.chk [] (.bin .lss) [.inp 11, .app .len [.inp 2]]] <|
.seg [.chk [(qka2_92, true)] (.bin .leq) [.inp 11, .int .i64 30]] <|
.seg [.chk [] .pick [qka2_92, qka2_93, .bool false]] <|
.cond (.app .pick [qka2_92, qka2_93, .bool false])
 (.seg [.chk [] (.eidx 3) [.inp 2, .inp 11]] <|
.seg [.chk [] (.eoff 2) [qka2_94]] <|
.seg [.chk [] (.eload 1 false) [qka2_95]] <|
.seg [.chk [] .len [qka2_96]] <|
.seg [.chk [] (.bin .gtr) [qka2_97, .int .i64 20]] <|
.cond (.app (.bin .gtr) [qka2_97, .int .i64 20])
 (.ret (.bool true))
 (.seg [.chk [] (.bin .add) [.inp 11, .int .i64 1]] <|
.again 0 [.app (.bin .add) [.inp 11, .int .i64 1]]))
 (.seg [.chk [] .len [.inp 0]] <|
.seg [.chk [] (.bin .gtr) [.app .len [.inp 0], .int .i64 40]] <|
.seg [.chk [(qka2_98, false)] .len [.inp 1]] <|
.seg [.chk [(qka2_98, false)] (.bin .gtr) [.app .len [.inp 1], .int .i64 30]] <|
.seg [.chk [] .pick [qka2_98, .bool true, qka2_99]] <|
.seg [.chk [(qka2_100, false)] .len [.inp 2]] <|
.seg [.chk [(qka2_100, false)] (.bin .gtr) [.app .len [.inp 2], .int .i64 30]] <|
.seg [.chk [] .pick [qka2_100, .bool true, qka2_101]] <|
.seg [.chk [(qka2_102, false)] .len [.inp 3]] <|
.seg [.chk [(qka2_102, false)] (.bin .gtr) [.app .len [.inp 3], .int .i64 40]] <|
.seg [.chk [] .pick [qka2_102, .bool true, qka2_103]] <|
.seg [.bind 12 (.app .pick [qka2_102, .bool true, qka2_103]),
.bind 13 (qka2_100),
.bind 14 (qka2_102)] <|
.ret (.inp 12))
theorem run_lockbarref06_Great : runF E 4 [.agg [.inp 0, .inp 1, .inp 2, .inp 3, .inp 4, .inp 5, .inp 6, .inp 7, .inp 8, .inp 9, .inp 10]] 11 = rt_lockbarref06_Great := by kernel_rfl

noncomputable def rt_port_of : RT :=
.seg [.chk [] (.conv .i64) [.inp 0]] <|
.seg [.chk [] (.bin .lss) [.app (.conv .i64) [.inp 0], .int .i64 4]] <|
.cond (.app (.bin .lss) [.app (.conv .i64) [.inp 0], .int .i64 4])
 (.seg [.chk [] (.eaidx 4 7) [qka2_104, .inp 0]] <|
.seg [.chk [] (.eload 7 true) [qka2_105]] <|
.seg [.chk [] (.isAgg 7) [qka2_106]] <|
.seg [.bind 1 (qka2_105),
.bind 2 (qka2_106),
.bind 3 (.app (.part 0 1 false) [qka2_106]),
.bind 4 (.app (.part 1 1 false) [qka2_106]),
.bind 5 (.app (.part 2 1 false) [qka2_106]),
.bind 6 (.app (.part 3 1 false) [qka2_106]),
.bind 7 (.app (.part 4 1 false) [qka2_106]),
.bind 8 (.app (.part 5 1 false) [qka2_106]),
.bind 9 (.app (.part 6 1 false) [qka2_106])] <|
.ret (.agg [.inp 3, .inp 4, .inp 5, .inp 6, .inp 7, .inp 8, .inp 9]))
 (.ret (.agg [.int .i64 0, .int .i64 0, .int .i64 0, .int .i64 0, .int .i64 0, .int .i64 0, .bool false]))
theorem run_port_of : runF E 69 [.inp 0] 1 = rt_port_of := by kernel_rfl

noncomputable def rt_lockbarref18_Same : RT :=
.seg [.chk [] (.isAgg 74) [qka2_87]] <|
.seg [.chk [] (.isAgg 74) [.agg [.inp 74, .inp 75, .inp 76, .inp 77, .inp 78, .inp 79, .inp 80, .inp 81, .inp 82, .inp 83, .inp 84, .inp 85, .inp 86, .inp 87, .inp 88, .inp 89, .inp 90, .inp 91, .inp 92, .inp 93, .inp 94, .inp 95, .inp 96, .inp 97, .inp 98, .inp 99, .inp 100, .inp 101, .inp 102, .inp 103, .inp 104, .inp 105, .inp 106, .inp 107, .inp 108, .inp 109, .inp 110, .inp 111, .inp 112, .inp 113, .inp 114, .inp 115, .inp 116, .inp 117, .inp 118, .inp 119, .inp 120, .inp 121, .inp 122, .inp 123, .inp 124, .inp 125, .inp 126, .inp 127, .inp 128, .inp 129, .inp 130, .inp 131, .inp 132, .inp 133, .inp 134, .inp 135, .inp 136, .inp 137, .inp 138, .inp 139, .inp 140, .inp 141, .inp 142, .inp 143, .inp 144, .inp 145, .inp 146, .inp 147]]] <|
.seg [.chk [] .len [.inp 1]] <|
.seg [.chk [] .len [.inp 75]] <|
.seg [.chk [] (.bin .neq) [.app .len [.inp 1], .app .len [.inp 75]]] <|
.cond (.app (.bin .neq) [.app .len [.inp 1], .app .len [.inp 75]])
 (.ret (.bool false))
 (.loop 0 148 [.int .i64 0] <|
.seg [.chk [] .len [.inp 1]] <|
.seg [.chk [] (.bin .lss) [.inp 148, .app .len [.inp 1]]] <|
.cond (.app (.bin .lss) [.inp 148, .app .len [.inp 1]])
 (.seg [.chk [] (.eidx 23) [.inp 1, .inp 148],
.chk [] (.eload 23 true) [qka2_107],
.chk [] (.eidx 23) [.inp 75, .inp 148],
.chk [] (.eload 23 true) [qka2_108],
.call 149 [] 10 [.app (.eload 23 true) [qka2_107], .app (.eload 23 true) [qka2_108]] false,
.chk [] (.un .not) [.inp 149]] <|
.cond (.inp 149)
 (.seg [.chk [] (.bin .add) [.inp 148, .int .i64 1]] <|
.again 0 [.app (.bin .add) [.inp 148, .int .i64 1]])
 (.ret (.bool false)))
 (.seg [.chk [] (.bin .eql) [.inp 0, .inp 74]] <|
.seg [.chk [(qka2_109, true)] (.eqa [ some .i64, some .i64, none, some .i64, some .i64, none, some .i64, some .i64, none, some .i64, some .i64, none, some .i64, some .i64, none, some .i64, some .i64, none, some .i64, some .i64, none, some .i64, some .i64, none, some .i64, some .i64, none, some .i64, some .i64, none, some .i64, some .i64, none, some .i64, some .i64, none, some .i64, some .i64, none, some .i64, some .i64, none, some .i64, some .i64, none, some .i64, some .i64, none, some .i64, some .i64, none, some .i64, some .i64, none, some .i64, some .i64, none, some .i64, some .i64, none, some .i64, some .i64, none, some .i64, some .i64, none, some .i64, some .i64, none, some .i64, some .i64, none] false) [qka2_110, qka2_111]] <|
.seg [.chk [] .pick [qka2_109, qka2_112, .bool false]] <|
.seg [.bind 149 (.app .pick [qka2_109, qka2_112, .bool false]),
.bind 150 (qka2_112)] <|
.ret (.inp 149)))
theorem run_lockbarref18_Same : runF E 14 [.agg [.inp 0, .inp 1, .inp 2, .inp 3, .inp 4, .inp 5, .inp 6, .inp 7, .inp 8, .inp 9, .inp 10, .inp 11, .inp 12, .inp 13, .inp 14, .inp 15, .inp 16, .inp 17, .inp 18, .inp 19, .inp 20, .inp 21, .inp 22, .inp 23, .inp 24, .inp 25, .inp 26, .inp 27, .inp 28, .inp 29, .inp 30, .inp 31, .inp 32, .inp 33, .inp 34, .inp 35, .inp 36, .inp 37, .inp 38, .inp 39, .inp 40, .inp 41, .inp 42, .inp 43, .inp 44, .inp 45, .inp 46, .inp 47, .inp 48, .inp 49, .inp 50, .inp 51, .inp 52, .inp 53, .inp 54, .inp 55, .inp 56, .inp 57, .inp 58, .inp 59, .inp 60, .inp 61, .inp 62, .inp 63, .inp 64, .inp 65, .inp 66, .inp 67, .inp 68, .inp 69, .inp 70, .inp 71, .inp 72, .inp 73], .agg [.inp 74, .inp 75, .inp 76, .inp 77, .inp 78, .inp 79, .inp 80, .inp 81, .inp 82, .inp 83, .inp 84, .inp 85, .inp 86, .inp 87, .inp 88, .inp 89, .inp 90, .inp 91, .inp 92, .inp 93, .inp 94, .inp 95, .inp 96, .inp 97, .inp 98, .inp 99, .inp 100, .inp 101, .inp 102, .inp 103, .inp 104, .inp 105, .inp 106, .inp 107, .inp 108, .inp 109, .inp 110, .inp 111, .inp 112, .inp 113, .inp 114, .inp 115, .inp 116, .inp 117, .inp 118, .inp 119, .inp 120, .inp 121, .inp 122, .inp 123, .inp 124, .inp 125, .inp 126, .inp 127, .inp 128, .inp 129, .inp 130, .inp 131, .inp 132, .inp 133, .inp 134, .inp 135, .inp 136, .inp 137, .inp 138, .inp 139, .inp 140, .inp 141, .inp 142, .inp 143, .inp 144, .inp 145, .inp 146, .inp 147]] 148 = rt_lockbarref18_Same := by kernel_rfl

noncomputable def rt_lockbarref18_Great : RT :=
.seg [.chk [] (.isAgg 74) [qka2_87]] <|
.loop 0 74 [.int .i64 0] <|
.seg [.chk [] .len [.inp 1]] <|
.seg [.chk [] (.bin .lss) [.inp 74, .app .len [.inp 1]]] <|
.seg [.chk [(qka2_113, true)] (.bin .leq) [.inp 74, .int .i64 10]] <|
.seg [.chk [] .pick [qka2_113, qka2_114, .bool false]] <|
.cond (.app .pick [qka2_113, qka2_114, .bool false])
 (.seg [.chk [] (.eidx 23) [.inp 1, .inp 74]] <|
.seg [.chk [] (.eload 23 true) [qka2_115]] <|
.seg [.chk [] (.isAgg 23) [qka2_116]] <|
.seg [.chk [] .len [qka2_117]] <|
.seg [.chk [] (.bin .gtr) [qka2_118, .int .i64 30]] <|
.seg [.chk [(qka2_119, false)] .len [qka2_120]] <|
.seg [.chk [(qka2_119, false)] (.bin .gtr) [qka2_121, .int .i64 10]] <|
.seg [.chk [] .pick [qka2_119, .bool true, qka2_122]] <|
.seg [.chk [(qka2_123, false)] .len [qka2_124]] <|
.seg [.chk [(qka2_123, false)] (.bin .gtr) [qka2_125, .int .i64 100]] <|
.seg [.chk [] .pick [qka2_123, .bool true, qka2_126]] <|
.seg [.bind 75 (qka2_123),
.bind 76 (.app .pick [qka2_123, .bool true, qka2_126])] <|
.cond (.inp 76)
 (.ret (.bool true))
 (.seg [.chk [] (.bin .add) [.inp 74, .int .i64 1]] <|
.again 0 [.app (.bin .add) [.inp 74, .int .i64 1]]))
 (.seg [.chk [] .len [.inp 1]] <|
.seg [.chk [] (.bin .gtr) [.app .len [.inp 1], .int .i64 10]] <|
.ret (.app (.bin .gtr) [.app .len [.inp 1], .int .i64 10]))
theorem run_lockbarref18_Great : runF E 5 [.agg [.inp 0, .inp 1, .inp 2, .inp 3, .inp 4, .inp 5, .inp 6, .inp 7, .inp 8, .inp 9, .inp 10, .inp 11, .inp 12, .inp 13, .inp 14, .inp 15, .inp 16, .inp 17, .inp 18, .inp 19, .inp 20, .inp 21, .inp 22, .inp 23, .inp 24, .inp 25, .inp 26, .inp 27, .inp 28, .inp 29, .inp 30, .inp 31, .inp 32, .inp 33, .inp 34, .inp 35, .inp 36, .inp 37, .inp 38, .inp 39, .inp 40, .inp 41, .inp 42, .inp 43, .inp 44, .inp 45, .inp 46, .inp 47, .inp 48, .inp 49, .inp 50, .inp 51, .inp 52, .inp 53, .inp 54, .inp 55, .inp 56, .inp 57, .inp 58, .inp 59, .inp 60, .inp 61, .inp 62, .inp 63, .inp 64, .inp 65, .inp 66, .inp 67, .inp 68, .inp 69, .inp 70, .inp 71, .inp 72, .inp 73]] 74 = rt_lockbarref18_Great := by kernel_rfl

noncomputable def rt_lockbarlaw22_three : RT :=
.seg [.bind 0 (.app .lst [.agg [.int .u8 1, .int .i64 (-1), .int .i64 0, .int .i64 1, .int .i64 0, .int .i64 (-1), .int .i64 0, .int .i64 (-1), .int .i64 0, .int .i64 0, .int .i64 0], .agg [.int .u8 1, .int .i64 0, .int .i64 1, .int .i64 2, .int .i64 0, .int .i64 (-1), .int .i64 0, .int .i64 (-1), .int .i64 0, .int .i64 0, .int .i64 0], .agg [.int .u8 1, .int .i64 1, .int .i64 1, .int .i64 (-1), .int .i64 0, .int .i64 (-1), .int .i64 0, .int .i64 (-1), .int .i64 0, .int .i64 0, .int .i64 0]])] <|
.seg [.call 1 [] 15 [] false,
.call 2 [] 13 [qka2_127, .inp 1, .agg [.int .u32 0, .int .u32 0, .int .u32 0, .int .u32 0]] true,
.chk [] (.isAgg 29) [.inp 2]] <|
.seg [.call 3 [] 13 [qka2_127, qka2_128, .agg [.int .u32 1, .int .u32 0, .int .u32 0, .int .u32 0]] true,
.chk [] (.isAgg 29) [qka2_128],
.chk [] (.isAgg 29) [.inp 3]] <|
.ret (.tup [qka2_127, qka2_128, .agg [.app (.part 0 1 false) [.inp 3], .app (.part 1 1 false) [.inp 3], .app (.part 2 1 false) [.inp 3], .app (.part 3 1 false) [.inp 3], .app (.part 4 1 false) [.inp 3], .app (.part 5 1 false) [.inp 3], .app (.part 6 1 false) [.inp 3], .app (.part 7 1 false) [.inp 3], .app (.part 8 1 false) [.inp 3], .app (.part 9 1 false) [.inp 3], .app (.part 10 1 false) [.inp 3], .app (.part 11 1 false) [.inp 3], .app (.part 12 1 false) [.inp 3], .app (.part 13 1 false) [.inp 3], .app (.part 14 1 false) [.inp 3], .app (.part 15 1 false) [.inp 3], .app (.part 16 1 false) [.inp 3], .app (.part 17 1 false) [.inp 3], .app (.part 18 1 false) [.inp 3], .app (.part 19 1 false) [.inp 3], .app (.part 20 1 false) [.inp 3], .app (.part 21 1 false) [.inp 3], .app (.part 22 1 false) [.inp 3], .app (.part 23 1 false) [.inp 3], .app (.part 24 1 false) [.inp 3], .app (.part 25 1 false) [.inp 3], .app (.part 26 1 false) [.inp 3], .app (.part 27 1 false) [.inp 3], .app (.part 28 1 false) [.inp 3]], .agg [.int .i64 5, .int .i64 0, .int .i64 0, .app .lst [.agg [.int .i64 1, .int .i64 0, .int .i64 1], .agg [.int .i64 2, .int .i64 0, .int .i64 1]], .nils, .nils, .int .u8 2, .int .i64 0, .bool false, .bool false, .bool false, .bool false, .bool false, .bool false, .bool false, .bool false, .bool false, .bool false, .bool false, .bool false, .bool false, .int .i64 0, .bool true]])
theorem run_lockbarlaw22_three : runF E 11 [] 0 = rt_lockbarlaw22_three := by kernel_rfl

end Go.Lb.LK

namespace Go.Lb.LK
open Go Go.Lb Go.Proofs
@[simp] noncomputable def qka3_0 : SE := .agg [.app (.part 0 1 false) [.app (.tproj 3) [.inp 0]], .app (.part 1 1 false) [.app (.tproj 3) [.inp 0]], .app (.part 2 1 false) [.app (.tproj 3) [.inp 0]], .app (.part 3 1 false) [.app (.tproj 3) [.inp 0]], .app (.part 4 1 false) [.app (.tproj 3) [.inp 0]], .app (.part 5 1 false) [.app (.tproj 3) [.inp 0]], .app (.part 6 1 false) [.app (.tproj 3) [.inp 0]], .app (.part 7 1 false) [.app (.tproj 3) [.inp 0]], .app (.part 8 1 false) [.app (.tproj 3) [.inp 0]], .app (.part 9 1 false) [.app (.tproj 3) [.inp 0]], .app (.part 10 1 false) [.app (.tproj 3) [.inp 0]], .app (.part 11 1 false) [.app (.tproj 3) [.inp 0]], .app (.part 12 1 false) [.app (.tproj 3) [.inp 0]], .app (.part 13 1 false) [.app (.tproj 3) [.inp 0]], .app (.part 14 1 false) [.app (.tproj 3) [.inp 0]], .app (.part 15 1 false) [.app (.tproj 3) [.inp 0]], .app (.part 16 1 false) [.app (.tproj 3) [.inp 0]], .app (.part 17 1 false) [.app (.tproj 3) [.inp 0]], .app (.part 18 1 false) [.app (.tproj 3) [.inp 0]], .app (.part 19 1 false) [.app (.tproj 3) [.inp 0]], .app (.part 20 1 false) [.app (.tproj 3) [.inp 0]], .app (.part 21 1 false) [.app (.tproj 3) [.inp 0]], .app (.part 22 1 false) [.app (.tproj 3) [.inp 0]]]
@[simp] noncomputable def qka3_1 : SE := .agg [.app (.part 0 1 false) [.app (.tproj 0) [.inp 0]], .app (.part 1 1 false) [.app (.tproj 0) [.inp 0]], .app (.part 2 1 false) [.app (.tproj 0) [.inp 0]], .app (.part 3 1 false) [.app (.tproj 0) [.inp 0]], .app (.part 4 1 false) [.app (.tproj 0) [.inp 0]], .app (.part 5 1 false) [.app (.tproj 0) [.inp 0]], .app (.part 6 1 false) [.app (.tproj 0) [.inp 0]], .app (.part 7 1 false) [.app (.tproj 0) [.inp 0]], .app (.part 8 1 false) [.app (.tproj 0) [.inp 0]], .app (.part 9 1 false) [.app (.tproj 0) [.inp 0]], .app (.part 10 1 false) [.app (.tproj 0) [.inp 0]]]
@[simp] noncomputable def qka3_2 : SE := .agg [.app (.part 0 1 false) [.app (.tproj 1) [.inp 0]], .app (.part 1 1 false) [.app (.tproj 1) [.inp 0]], .app (.part 2 1 false) [.app (.tproj 1) [.inp 0]], .app (.part 3 1 false) [.app (.tproj 1) [.inp 0]], .app (.part 4 1 false) [.app (.tproj 1) [.inp 0]], .app (.part 5 1 false) [.app (.tproj 1) [.inp 0]], .app (.part 6 1 false) [.app (.tproj 1) [.inp 0]], .app (.part 7 1 false) [.app (.tproj 1) [.inp 0]], .app (.part 8 1 false) [.app (.tproj 1) [.inp 0]], .app (.part 9 1 false) [.app (.tproj 1) [.inp 0]], .app (.part 10 1 false) [.app (.tproj 1) [.inp 0]], .app (.part 11 1 false) [.app (.tproj 1) [.inp 0]], .app (.part 12 1 false) [.app (.tproj 1) [.inp 0]], .app (.part 13 1 false) [.app (.tproj 1) [.inp 0]], .app (.part 14 1 false) [.app (.tproj 1) [.inp 0]], .app (.part 15 1 false) [.app (.tproj 1) [.inp 0]], .app (.part 16 1 false) [.app (.tproj 1) [.inp 0]], .app (.part 17 1 false) [.app (.tproj 1) [.inp 0]], .app (.part 18 1 false) [.app (.tproj 1) [.inp 0]], .app (.part 19 1 false) [.app (.tproj 1) [.inp 0]], .app (.part 20 1 false) [.app (.tproj 1) [.inp 0]], .app (.part 21 1 false) [.app (.tproj 1) [.inp 0]], .app (.part 22 1 false) [.app (.tproj 1) [.inp 0]], .app (.part 23 1 false) [.app (.tproj 1) [.inp 0]], .app (.part 24 1 false) [.app (.tproj 1) [.inp 0]], .app (.part 25 1 false) [.app (.tproj 1) [.inp 0]], .app (.part 26 1 false) [.app (.tproj 1) [.inp 0]], .app (.part 27 1 false) [.app (.tproj 1) [.inp 0]], .app (.part 28 1 false) [.app (.tproj 1) [.inp 0]]]
@[simp] noncomputable def qka3_3 : SE := .agg [.int .i64 6, .inp 1, .int .i64 0, .int .i64 0, .bool false, .int .i64 0, .int .i64 0, .bool false, .int .i64 0, .int .i64 0, .bool false, .int .i64 0, .int .i64 0, .bool false, .int .i64 0, .int .i64 0, .bool false, .int .i64 0, .int .i64 0, .bool false, .int .i64 0, .int .i64 0, .bool false, .int .i64 0, .int .i64 0, .bool false, .int .i64 0, .int .i64 0, .bool false, .int .i64 0, .int .i64 0, .bool false, .int .i64 0, .int .i64 0, .bool false, .int .i64 0, .int .i64 0, .bool false, .int .i64 0, .int .i64 0, .bool false, .int .i64 0, .int .i64 0, .bool false, .int .i64 0, .int .i64 0, .bool false, .int .i64 0, .int .i64 0, .bool false, .int .i64 0, .int .i64 0, .bool false, .int .i64 0, .int .i64 0, .bool false, .int .i64 0, .int .i64 0, .bool false, .int .i64 0, .int .i64 0, .bool false, .int .i64 0, .int .i64 0, .bool false, .int .i64 0, .int .i64 0, .bool false, .int .i64 0, .int .i64 0, .bool false, .int .i64 0, .int .i64 0, .bool false]
@[simp] noncomputable def qka3_4 : SE := .agg [.app (.part 0 1 false) [.app (.tproj 2) [.inp 0]], .app (.part 1 1 false) [.app (.tproj 2) [.inp 0]], .app (.part 2 1 false) [.app (.tproj 2) [.inp 0]], .app (.part 3 1 false) [.app (.tproj 2) [.inp 0]], .app (.part 4 1 false) [.app (.tproj 2) [.inp 0]], .app (.part 5 1 false) [.app (.tproj 2) [.inp 0]], .app (.part 6 1 false) [.app (.tproj 2) [.inp 0]], .app (.part 7 1 false) [.app (.tproj 2) [.inp 0]], .app (.part 8 1 false) [.app (.tproj 2) [.inp 0]], .app (.part 9 1 false) [.app (.tproj 2) [.inp 0]], .app (.part 10 1 false) [.app (.tproj 2) [.inp 0]], .app (.part 11 1 false) [.app (.tproj 2) [.inp 0]], .app (.part 12 1 false) [.app (.tproj 2) [.inp 0]], .app (.part 13 1 false) [.app (.tproj 2) [.inp 0]], .app (.part 14 1 false) [.app (.tproj 2) [.inp 0]], .app (.part 15 1 false) [.app (.tproj 2) [.inp 0]], .app (.part 16 1 false) [.app (.tproj 2) [.inp 0]], .app (.part 17 1 false) [.app (.tproj 2) [.inp 0]], .app (.part 18 1 false) [.app (.tproj 2) [.inp 0]], .app (.part 19 1 false) [.app (.tproj 2) [.inp 0]], .app (.part 20 1 false) [.app (.tproj 2) [.inp 0]], .app (.part 21 1 false) [.app (.tproj 2) [.inp 0]], .app (.part 22 1 false) [.app (.tproj 2) [.inp 0]], .app (.part 23 1 false) [.app (.tproj 2) [.inp 0]], .app (.part 24 1 false) [.app (.tproj 2) [.inp 0]], .app (.part 25 1 false) [.app (.tproj 2) [.inp 0]], .app (.part 26 1 false) [.app (.tproj 2) [.inp 0]], .app (.part 27 1 false) [.app (.tproj 2) [.inp 0]], .app (.part 28 1 false) [.app (.tproj 2) [.inp 0]]]
@[simp] noncomputable def qka3_5 : SE := .app (.part 1 1 false) [.app (.tproj 0) [.inp 3]]
@[simp] noncomputable def qka3_6 : SE := .app .len [qka3_5]
@[simp] noncomputable def qka3_7 : SE := .app (.eidx 23) [qka3_5, .int .i64 0]
@[simp] noncomputable def qka3_8 : SE := .app (.part 21 1 false) [.app (.tproj 0) [.inp 5]]
@[simp] noncomputable def qka3_9 : SE := .agg [.app (.part 0 1 false) [.app (.tproj 0) [.inp 5]], .app (.part 1 1 false) [.app (.tproj 0) [.inp 5]], .app (.part 2 1 false) [.app (.tproj 0) [.inp 5]], .app (.part 3 1 false) [.app (.tproj 0) [.inp 5]], .app (.part 4 1 false) [.app (.tproj 0) [.inp 5]], .app (.part 5 1 false) [.app (.tproj 0) [.inp 5]], .app (.part 6 1 false) [.app (.tproj 0) [.inp 5]], .app (.part 7 1 false) [.app (.tproj 0) [.inp 5]], .app (.part 8 1 false) [.app (.tproj 0) [.inp 5]], .app (.part 9 1 false) [.app (.tproj 0) [.inp 5]], .app (.part 10 1 false) [.app (.tproj 0) [.inp 5]], .app (.part 11 1 false) [.app (.tproj 0) [.inp 5]], .app (.part 12 1 false) [.app (.tproj 0) [.inp 5]], .app (.part 13 1 false) [.app (.tproj 0) [.inp 5]], .app (.part 14 1 false) [.app (.tproj 0) [.inp 5]], .app (.part 15 1 false) [.app (.tproj 0) [.inp 5]], .app (.part 16 1 false) [.app (.tproj 0) [.inp 5]], .app (.part 17 1 false) [.app (.tproj 0) [.inp 5]], .app (.part 18 1 false) [.app (.tproj 0) [.inp 5]], .app (.part 19 1 false) [.app (.tproj 0) [.inp 5]], .app (.part 20 1 false) [.app (.tproj 0) [.inp 5]], qka3_8, .app (.part 22 1 false) [.app (.tproj 0) [.inp 5]]]
@[simp] noncomputable def qka3_10 : SE := .app (.part 1 1 false) [.app (.tproj 0) [.inp 2]]
@[simp] noncomputable def qka3_11 : SE := .app .len [qka3_10]
@[simp] noncomputable def qka3_12 : SE := .app (.bin .eql) [qka3_11, .int .i64 0]
@[simp] noncomputable def qka3_13 : SE := .app .pick [qka3_12, .app (.tproj 1) [.inp 2], .bool false]
@[simp] noncomputable def qka3_14 : SE := .app .pick [qka3_13, .app (.tproj 1) [.inp 3], .bool false]
@[simp] noncomputable def qka3_15 : SE := .app (.eoff 6) [qka3_7]
@[simp] noncomputable def qka3_16 : SE := .app (.eload 1 false) [qka3_15]
@[simp] noncomputable def qka3_17 : SE := .app (.bin .eql) [qka3_16, .int .u8 4]
@[simp] noncomputable def qka3_18 : SE := .app .pick [qka3_14, qka3_17, .bool false]
@[simp] noncomputable def qka3_19 : SE := .app (.eoff 21) [qka3_7]
@[simp] noncomputable def qka3_20 : SE := .app (.eload 1 false) [qka3_19]
@[simp] noncomputable def qka3_21 : SE := .app (.bin .eql) [qka3_20, .int .i64 2]
@[simp] noncomputable def qka3_22 : SE := .app .pick [qka3_18, qka3_21, .bool false]
@[simp] noncomputable def qka3_23 : SE := .app (.un .not) [.app (.tproj 1) [.inp 4]]
@[simp] noncomputable def qka3_24 : SE := .app .pick [qka3_22, qka3_23, .bool false]
@[simp] noncomputable def qka3_25 : SE := .app .pick [qka3_24, .inp 9, .bool false]
@[simp] noncomputable def qka3_26 : SE := .app (.un .not) [.app (.tproj 1) [.inp 5]]
@[simp] noncomputable def qka3_27 : SE := .app .pick [qka3_25, qka3_26, .bool false]
@[simp] noncomputable def qka3_28 : SE := .app (.bin .eql) [qka3_8, .int .i64 1]
@[simp] noncomputable def qka3_29 : SE := .app .pick [qka3_27, qka3_28, .bool false]
@[simp] noncomputable def qka3_30 : SE := .app .pick [qka3_29, .app (.tproj 1) [.inp 6], .bool false]
@[simp] noncomputable def qka3_31 : SE := .app (.un .not) [.app (.tproj 1) [.inp 8]]
@[simp] noncomputable def qka3_32 : SE := .app .pick [qka3_30, qka3_31, .bool false]
@[simp] noncomputable def qka3_33 : SE := .app (.part 6 1 false) [.app (.tproj 0) [.inp 8]]
@[simp] noncomputable def qka3_34 : SE := .app (.bin .eql) [qka3_33, .int .u8 3]
@[simp] noncomputable def qka3_35 : SE := .app .pick [qka3_32, qka3_34, .bool false]
@[simp] noncomputable def qka3_36 : SE := .app (.part 21 1 false) [.app (.tproj 0) [.inp 8]]
@[simp] noncomputable def qka3_37 : SE := .app (.bin .eql) [qka3_36, .int .i64 0]
@[simp] noncomputable def qka3_38 : SE := .app .pick [qka3_35, qka3_37, .bool false]
@[simp] noncomputable def qka3_39 : SE := .app .pick [qka3_38, .inp 10, .bool false]
@[simp] noncomputable def qka3_40 : SE := .app .pick [qka3_39, .app (.un .not) [.inp 11], .bool false]
@[simp] noncomputable def qka3_41 : SE := .app .pick [qka3_40, .app (.un .not) [.inp 12], .bool false]
@[simp] noncomputable def qka3_42 : SE := .app .pick [qka3_41, .app (.un .not) [.inp 13], .bool false]
noncomputable def rt_lockbarlaw22_wakes : RT :=
.seg [.call 0 [] 11 [] false] <|
.seg [.chk [] (.tproj 0) [.inp 0]] <|
.seg [.chk [] (.tproj 1) [.inp 0]] <|
.seg [.chk [] (.tproj 2) [.inp 0]] <|
.seg [.chk [] (.tproj 3) [.inp 0]] <|
.seg [.chk [] (.isAgg 11) [.app (.tproj 0) [.inp 0]]] <|
.seg [.chk [] (.isAgg 29) [.app (.tproj 1) [.inp 0]]] <|
.seg [.chk [] (.isAgg 29) [.app (.tproj 2) [.inp 0]]] <|
.seg [.chk [] (.isAgg 23) [.app (.tproj 3) [.inp 0]]] <|
.seg [.chk [] (.isAgg 23) [qka3_0]] <|
.seg [.bind 1 (.app .lst [qka3_0])] <|
.seg [.call 2 [] 7 [qka3_1, qka3_2, qka3_3, .int .i64 0] false] <|
.seg [.chk [] (.tproj 0) [.inp 2]] <|
.seg [.chk [] (.tproj 1) [.inp 2]] <|
.seg [.chk [] (.isAgg 74) [.app (.tproj 0) [.inp 2]]] <|
.seg [.call 3 [] 7 [qka3_1, qka3_4, qka3_3, .int .i64 0] false] <|
.seg [.chk [] (.tproj 0) [.inp 3]] <|
.seg [.chk [] (.tproj 1) [.inp 3]] <|
.seg [.chk [] (.isAgg 74) [.app (.tproj 0) [.inp 3]]] <|
.seg [.call 4 [] 7 [qka3_1, qka3_2, qka3_3, .int .i64 1] false] <|
.seg [.chk [] (.tproj 0) [.inp 4]] <|
.seg [.chk [] (.tproj 1) [.inp 4]] <|
.seg [.chk [] (.isAgg 74) [.app (.tproj 0) [.inp 4]]] <|
.seg [.chk [] .len [qka3_5]] <|
.seg [.chk [] (.bin .neq) [qka3_6, .int .i64 1]] <|
.cond (.app (.bin .neq) [qka3_6, .int .i64 1])
 (.ret (.bool false))
 (.seg [.chk [] (.eidx 23) [qka3_5, .int .i64 0],
.chk [] (.eload 23 true) [qka3_7],
.call 5 [] 12 [qka3_1, qka3_4, .app (.eload 23 true) [qka3_7]] false,
.chk [] (.tproj 0) [.inp 5],
.chk [] (.tproj 1) [.inp 5],
.chk [] (.isAgg 23) [.app (.tproj 0) [.inp 5]]] <|
.seg [.call 6 [] 12 [qka3_1, qka3_4, qka3_9] false] <|
.seg [.chk [] (.tproj 0) [.inp 6]] <|
.seg [.chk [] (.tproj 1) [.inp 6]] <|
.seg [.chk [] (.isAgg 23) [.app (.tproj 0) [.inp 6]]] <|
.seg [.call 7 [] 13 [qka3_1, qka3_4, .agg [.int .u32 4, .int .u32 0, .int .u32 0, .int .u32 0]] false,
.call 8 [] 12 [qka3_1, .inp 7, qka3_9] false,
.chk [] (.tproj 0) [.inp 8],
.chk [] (.tproj 1) [.inp 8],
.chk [] (.isAgg 23) [.app (.tproj 0) [.inp 8]]] <|
.seg [.chk [] .len [qka3_10],
.chk [] (.bin .eql) [qka3_11, .int .i64 0],
.chk [] .pick [qka3_12, .app (.tproj 1) [.inp 2], .bool false],
.chk [] .pick [qka3_13, .app (.tproj 1) [.inp 3], .bool false],
.chk [(qka3_14, true)] (.eidx 23) [qka3_5, .int .i64 0],
.chk [(qka3_14, true)] (.eoff 6) [qka3_7],
.chk [(qka3_14, true)] (.eload 1 false) [qka3_15],
.chk [(qka3_14, true)] (.bin .eql) [qka3_16, .int .u8 4],
.chk [] .pick [qka3_14, qka3_17, .bool false],
.chk [(qka3_18, true)] (.eidx 23) [qka3_5, .int .i64 0],
.chk [(qka3_18, true)] (.eoff 21) [qka3_7],
.chk [(qka3_18, true)] (.eload 1 false) [qka3_19],
.chk [(qka3_18, true)] (.bin .eql) [qka3_20, .int .i64 2],
.chk [] .pick [qka3_18, qka3_21, .bool false],
.chk [(qka3_22, true)] (.un .not) [.app (.tproj 1) [.inp 4]],
.chk [] .pick [qka3_22, qka3_23, .bool false],
.call 9 [(qka3_24, true)] 14 [.agg [.app (.part 0 1 false) [.app (.tproj 0) [.inp 4]], .app (.part 1 1 false) [.app (.tproj 0) [.inp 4]], .app (.part 2 1 false) [.app (.tproj 0) [.inp 4]], .app (.part 3 1 false) [.app (.tproj 0) [.inp 4]], .app (.part 4 1 false) [.app (.tproj 0) [.inp 4]], .app (.part 5 1 false) [.app (.tproj 0) [.inp 4]], .app (.part 6 1 false) [.app (.tproj 0) [.inp 4]], .app (.part 7 1 false) [.app (.tproj 0) [.inp 4]], .app (.part 8 1 false) [.app (.tproj 0) [.inp 4]], .app (.part 9 1 false) [.app (.tproj 0) [.inp 4]], .app (.part 10 1 false) [.app (.tproj 0) [.inp 4]], .app (.part 11 1 false) [.app (.tproj 0) [.inp 4]], .app (.part 12 1 false) [.app (.tproj 0) [.inp 4]], .app (.part 13 1 false) [.app (.tproj 0) [.inp 4]], .app (.part 14 1 false) [.app (.tproj 0) [.inp 4]], .app (.part 15 1 false) [.app (.tproj 0) [.inp 4]], .app (.part 16 1 false) [.app (.tproj 0) [.inp 4]], .app (.part 17 1 false) [.app (.tproj 0) [.inp 4]], .app (.part 18 1 false) [.app (.tproj 0) [.inp 4]], .app (.part 19 1 false) [.app (.tproj 0) [.inp 4]], .app (.part 20 1 false) [.app (.tproj 0) [.inp 4]], .app (.part 21 1 false) [.app (.tproj 0) [.inp 4]], .app (.part 22 1 false) [.app (.tproj 0) [.inp 4]], .app (.part 23 1 false) [.app (.tproj 0) [.inp 4]], .app (.part 24 1 false) [.app (.tproj 0) [.inp 4]], .app (.part 25 1 false) [.app (.tproj 0) [.inp 4]], .app (.part 26 1 false) [.app (.tproj 0) [.inp 4]], .app (.part 27 1 false) [.app (.tproj 0) [.inp 4]], .app (.part 28 1 false) [.app (.tproj 0) [.inp 4]], .app (.part 29 1 false) [.app (.tproj 0) [.inp 4]], .app (.part 30 1 false) [.app (.tproj 0) [.inp 4]], .app (.part 31 1 false) [.app (.tproj 0) [.inp 4]], .app (.part 32 1 false) [.app (.tproj 0) [.inp 4]], .app (.part 33 1 false) [.app (.tproj 0) [.inp 4]], .app (.part 34 1 false) [.app (.tproj 0) [.inp 4]], .app (.part 35 1 false) [.app (.tproj 0) [.inp 4]], .app (.part 36 1 false) [.app (.tproj 0) [.inp 4]], .app (.part 37 1 false) [.app (.tproj 0) [.inp 4]], .app (.part 38 1 false) [.app (.tproj 0) [.inp 4]], .app (.part 39 1 false) [.app (.tproj 0) [.inp 4]], .app (.part 40 1 false) [.app (.tproj 0) [.inp 4]], .app (.part 41 1 false) [.app (.tproj 0) [.inp 4]], .app (.part 42 1 false) [.app (.tproj 0) [.inp 4]], .app (.part 43 1 false) [.app (.tproj 0) [.inp 4]], .app (.part 44 1 false) [.app (.tproj 0) [.inp 4]], .app (.part 45 1 false) [.app (.tproj 0) [.inp 4]], .app (.part 46 1 false) [.app (.tproj 0) [.inp 4]], .app (.part 47 1 false) [.app (.tproj 0) [.inp 4]], .app (.part 48 1 false) [.app (.tproj 0) [.inp 4]], .app (.part 49 1 false) [.app (.tproj 0) [.inp 4]], .app (.part 50 1 false) [.app (.tproj 0) [.inp 4]], .app (.part 51 1 false) [.app (.tproj 0) [.inp 4]], .app (.part 52 1 false) [.app (.tproj 0) [.inp 4]], .app (.part 53 1 false) [.app (.tproj 0) [.inp 4]], .app (.part 54 1 false) [.app (.tproj 0) [.inp 4]], .app (.part 55 1 false) [.app (.tproj 0) [.inp 4]], .app (.part 56 1 false) [.app (.tproj 0) [.inp 4]], .app (.part 57 1 false) [.app (.tproj 0) [.inp 4]], .app (.part 58 1 false) [.app (.tproj 0) [.inp 4]], .app (.part 59 1 false) [.app (.tproj 0) [.inp 4]], .app (.part 60 1 false) [.app (.tproj 0) [.inp 4]], .app (.part 61 1 false) [.app (.tproj 0) [.inp 4]], .app (.part 62 1 false) [.app (.tproj 0) [.inp 4]], .app (.part 63 1 false) [.app (.tproj 0) [.inp 4]], .app (.part 64 1 false) [.app (.tproj 0) [.inp 4]], .app (.part 65 1 false) [.app (.tproj 0) [.inp 4]], .app (.part 66 1 false) [.app (.tproj 0) [.inp 4]], .app (.part 67 1 false) [.app (.tproj 0) [.inp 4]], .app (.part 68 1 false) [.app (.tproj 0) [.inp 4]], .app (.part 69 1 false) [.app (.tproj 0) [.inp 4]], .app (.part 70 1 false) [.app (.tproj 0) [.inp 4]], .app (.part 71 1 false) [.app (.tproj 0) [.inp 4]], .app (.part 72 1 false) [.app (.tproj 0) [.inp 4]], .app (.part 73 1 false) [.app (.tproj 0) [.inp 4]]], qka3_3] false,
.chk [] .pick [qka3_24, .inp 9, .bool false],
.chk [(qka3_25, true)] (.un .not) [.app (.tproj 1) [.inp 5]],
.chk [] .pick [qka3_25, qka3_26, .bool false],
.chk [(qka3_27, true)] (.bin .eql) [qka3_8, .int .i64 1],
.chk [] .pick [qka3_27, qka3_28, .bool false],
.chk [] .pick [qka3_29, .app (.tproj 1) [.inp 6], .bool false],
.chk [(qka3_30, true)] (.un .not) [.app (.tproj 1) [.inp 8]],
.chk [] .pick [qka3_30, qka3_31, .bool false],
.chk [(qka3_32, true)] (.bin .eql) [qka3_33, .int .u8 3],
.chk [] .pick [qka3_32, qka3_34, .bool false],
.chk [(qka3_35, true)] (.bin .eql) [qka3_36, .int .i64 0],
.chk [] .pick [qka3_35, qka3_37, .bool false],
.call 10 [(qka3_38, true)] 9 [qka3_1, qka3_4, .int .i64 0] false,
.chk [] .pick [qka3_38, .inp 10, .bool false],
.call 11 [(qka3_39, true)] 9 [qka3_1, qka3_2, .int .i64 0] false,
.chk [(qka3_39, true)] (.un .not) [.inp 11],
.chk [] .pick [qka3_39, .app (.un .not) [.inp 11], .bool false],
.call 12 [(qka3_40, true)] 9 [qka3_1, qka3_2, .int .i64 1] false,
.chk [(qka3_40, true)] (.un .not) [.inp 12],
.chk [] .pick [qka3_40, .app (.un .not) [.inp 12], .bool false],
.call 13 [(qka3_41, true)] 8 [qka3_1, qka3_4, qka3_0] false,
.chk [(qka3_41, true)] (.un .not) [.inp 13],
.chk [] .pick [qka3_41, .app (.un .not) [.inp 13], .bool false],
.call 14 [(qka3_42, true)] 15 [] false,
.call 15 [(qka3_42, true)] 8 [qka3_1, .inp 14, qka3_0] false,
.chk [] .pick [qka3_42, .inp 15, .bool false]] <|
.seg [.bind 16 (.app .pick [qka3_42, .inp 15, .bool false]),
.bind 17 (qka3_13),
.bind 18 (qka3_14),
.bind 19 (qka3_18),
.bind 20 (qka3_22),
.bind 21 (qka3_24),
.bind 22 (qka3_25),
.bind 23 (qka3_27),
.bind 24 (qka3_29),
.bind 25 (qka3_30),
.bind 26 (qka3_32),
.bind 27 (qka3_35),
.bind 28 (qka3_38),
.bind 29 (qka3_39),
.bind 30 (qka3_40),
.bind 31 (qka3_41),
.bind 32 (qka3_42)] <|
.ret (.inp 16))
theorem run_lockbarlaw22_wakes : runF E 6 [] 0 = rt_lockbarlaw22_wakes := by kernel_rfl

end Go.Lb.LK


namespace Go.Proofs
open Go.Shelf
def Tryd.lays125_ren : Go.Shelf.Ren := ⟨fun | 125 => 76 | 128 => 89 | 129 => 90 | n => n, fun | 46 => 114 | 3 => 3 | 51 => 31 | 53 => 147 | 4 => 4 | 5 => 5 | 9 => 9 | n => n, fun | n => n⟩
theorem Tryd.lays125 : Go.Proofs.Lays.n125 Tryd.prog Tryd.lays125_ren := {
  mixed := by kernel_rfl
  f125 := Tryd.func76.trans (congrArg some (by kernel_rfl))
  f128 := Tryd.func89.trans (congrArg some (by kernel_rfl))
  f129 := Tryd.func90.trans (congrArg some (by kernel_rfl))
  t3 := Tryd.underlying3
  a3 := Tryd.isAgg3
  z3 := Tryd.sizeOf3
  v3 := Tryd.zeroValue3
  t4 := Tryd.underlying4
  a4 := Tryd.isAgg4
  z4 := Tryd.sizeOf4
  v4 := Tryd.zeroValue4
  t5 := Tryd.underlying5
  a5 := Tryd.isAgg5
  z5 := Tryd.sizeOf5
  v5 := Tryd.zeroValue5
  t9 := Tryd.underlying9
  a9 := Tryd.isAgg9
  z9 := Tryd.sizeOf9
  v9 := Tryd.zeroValue9
  t46 := Tryd.underlying114
  a46 := Tryd.isAgg114
  z46 := Tryd.sizeOf114
  v46 := Tryd.zeroValue114
  t51 := Tryd.underlying31
  a51 := Tryd.isAgg31
  z51 := Tryd.sizeOf31
  v51 := Tryd.zeroValue31
  t53 := Tryd.underlying147
  a53 := Tryd.isAgg147
  z53 := Tryd.sizeOf147
  v53 := Tryd.zeroValue147 }
/-- bits.Len: "Len returns the minimum number of bits required to represent x; the result is 0 for x == 0.": IT RETURNS 'Lib.bitLen x'; the world is as it was. (A uint has 64 bits in the model.) ITS CALLEE bits.Len64 IS MET BY ITS OWN CONTRACT OFF THE SHELF (lay that first). (LAID: no walk: one application.) -/
theorem Tryd.bits_Len (x : Int) (w : World) (h0 : 0 ≤ x) (h1 : x ≤ 18446744073709551615) :
    Calls Tryd.prog 76 #[.int .u64 x] w fun e w' => e = .returned (.int .i64 (Lib.bitLen x.toNat)) ∧ w' = w := Any.bits_Len Tryd.lays125 x w h0 h1
def Tryd.lays189_ren : Go.Shelf.Ren := ⟨fun | 189 => 64 | 125 => 76 | 257 => 75 | 128 => 89 | 129 => 90 | 294 => 80 | 295 => 81 | 296 => 82 | 297 => 83 | 298 => 84 | 299 => 85 | 216 => 86 | 300 => 87 | 301 => 88 | 328 => 91 | 329 => 92 | 330 => 93 | 331 => 94 | 332 => 95 | 215 => 96 | 343 => 97 | n => n, fun | 28 => 116 | 3 => 3 | 46 => 114 | 0 => 0 | 51 => 31 | 53 => 147 | 4 => 4 | 183 => 139 | 182 => 138 | 131 => 143 | 5 => 5 | 9 => 9 | 218 => 148 | 222 => 152 | 228 => 154 | 229 => 155 | n => n, fun | n => n⟩
theorem Tryd.lays189 : Go.Proofs.Lays.n189 Tryd.prog Tryd.lays189_ren := {
  mixed := by kernel_rfl
  f125 := Tryd.func76.trans (congrArg some (by kernel_rfl))
  f128 := Tryd.func89.trans (congrArg some (by kernel_rfl))
  f129 := Tryd.func90.trans (congrArg some (by kernel_rfl))
  f189 := Tryd.func64.trans (congrArg some (by kernel_rfl))
  f215 := Tryd.func96.trans (congrArg some (by kernel_rfl))
  f216 := Tryd.func86.trans (congrArg some (by kernel_rfl))
  f257 := Tryd.func75.trans (congrArg some (by kernel_rfl))
  f294 := Tryd.func80.trans (congrArg some (by kernel_rfl))
  f295 := Tryd.func81.trans (congrArg some (by kernel_rfl))
  f296 := Tryd.func82.trans (congrArg some (by kernel_rfl))
  f297 := Tryd.func83.trans (congrArg some (by kernel_rfl))
  f298 := Tryd.func84.trans (congrArg some (by kernel_rfl))
  f299 := Tryd.func85.trans (congrArg some (by kernel_rfl))
  f300 := Tryd.func87.trans (congrArg some (by kernel_rfl))
  f301 := Tryd.func88.trans (congrArg some (by kernel_rfl))
  f328 := Tryd.func91.trans (congrArg some (by kernel_rfl))
  f329 := Tryd.func92.trans (congrArg some (by kernel_rfl))
  f330 := Tryd.func93.trans (congrArg some (by kernel_rfl))
  f331 := Tryd.func94.trans (congrArg some (by kernel_rfl))
  f332 := Tryd.func95.trans (congrArg some (by kernel_rfl))
  f343 := Tryd.func97.trans (congrArg some (by kernel_rfl))
  t0 := Tryd.underlying0
  a0 := Tryd.isAgg0
  z0 := Tryd.sizeOf0
  v0 := Tryd.zeroValue0
  t3 := Tryd.underlying3
  a3 := Tryd.isAgg3
  z3 := Tryd.sizeOf3
  v3 := Tryd.zeroValue3
  t4 := Tryd.underlying4
  a4 := Tryd.isAgg4
  z4 := Tryd.sizeOf4
  v4 := Tryd.zeroValue4
  t5 := Tryd.underlying5
  a5 := Tryd.isAgg5
  z5 := Tryd.sizeOf5
  v5 := Tryd.zeroValue5
  t9 := Tryd.underlying9
  a9 := Tryd.isAgg9
  z9 := Tryd.sizeOf9
  v9 := Tryd.zeroValue9
  t28 := Tryd.underlying116
  a28 := Tryd.isAgg116
  z28 := Tryd.sizeOf116
  v28 := Tryd.zeroValue116
  t46 := Tryd.underlying114
  a46 := Tryd.isAgg114
  z46 := Tryd.sizeOf114
  v46 := Tryd.zeroValue114
  t51 := Tryd.underlying31
  a51 := Tryd.isAgg31
  z51 := Tryd.sizeOf31
  v51 := Tryd.zeroValue31
  t53 := Tryd.underlying147
  a53 := Tryd.isAgg147
  z53 := Tryd.sizeOf147
  v53 := Tryd.zeroValue147
  t131 := Tryd.underlying143
  a131 := Tryd.isAgg143
  z131 := Tryd.sizeOf143
  v131 := Tryd.zeroValue143
  t182 := Tryd.underlying138
  a182 := Tryd.isAgg138
  z182 := Tryd.sizeOf138
  v182 := Tryd.zeroValue138
  t183 := Tryd.underlying139
  a183 := Tryd.isAgg139
  z183 := Tryd.sizeOf139
  v183 := Tryd.zeroValue139
  t218 := Tryd.underlying148
  a218 := Tryd.isAgg148
  z218 := Tryd.sizeOf148
  v218 := Tryd.zeroValue148
  t222 := Tryd.underlying152
  a222 := Tryd.isAgg152
  z222 := Tryd.sizeOf152
  v222 := Tryd.zeroValue152
  t228 := Tryd.underlying154
  a228 := Tryd.isAgg154
  z228 := Tryd.sizeOf154
  v228 := Tryd.zeroValue154
  t229 := Tryd.underlying155
  a229 := Tryd.isAgg155
  z229 := Tryd.sizeOf155
  v229 := Tryd.zeroValue155 }
open Go.Sort Go.RowKit in
theorem Tryd.slices_Sort_int (blk off cap : Nat) (zs : List Int) (w : World) (hH : Holds (Value.int .i64) w blk off zs.toArray) (hblk : blk < w.heap.size) (hsz : zs.length < 4611686018427387904) :
    Calls Tryd.prog 64 #[.slice (some ⟨blk, off, none⟩) zs.length cap] w fun e w' =>
      e = .returned (.tuple #[]) ∧ ∃ n os, w' = grow (putRow (Value.int .i64) (Sort.ahead w n) blk off (zs.mergeSort fun x y => decide (x ≤ y)).toArray) os := Any.slices_Sort_int Tryd.lays189 blk off cap zs w hH hblk hsz
def Tryd.laysNm220_ren : Go.Shelf.Ren := ⟨fun | 20 => 65 | n => n, fun | 22 => 116 | 3 => 3 | 4 => 4 | 0 => 0 | n => n, fun | n => n⟩
theorem Tryd.laysNm220 : Go.Proofs.Lays2.n20 Tryd.prog Tryd.laysNm220_ren := {
  mixed := by kernel_rfl
  f20 := Tryd.func65.trans (congrArg some (by kernel_rfl))
  t0 := Tryd.underlying0
  a0 := Tryd.isAgg0
  z0 := Tryd.sizeOf0
  v0 := Tryd.zeroValue0
  t3 := Tryd.underlying3
  a3 := Tryd.isAgg3
  z3 := Tryd.sizeOf3
  v3 := Tryd.zeroValue3
  t4 := Tryd.underlying4
  a4 := Tryd.isAgg4
  z4 := Tryd.sizeOf4
  v4 := Tryd.zeroValue4
  t22 := Tryd.underlying116
  a22 := Tryd.isAgg116
  z22 := Tryd.sizeOf116
  v22 := Tryd.zeroValue116
  i3 := by kernel_rfl }
open Go.RowKit Go.Lib Go.Sort in
/-- slices.Compact at []int: "Compact replaces consecutive runs of equal elements with a single copy. This is like the uniq command found on Unix. Compact modifies the contents of the slice s and returns the modified slice, which may have a smaller length. Compact zeroes the elements between the new length and the original length. The result preserves the nilness of s.": IT RETURNS THE SLICE CUT TO 'Lib.compact zs'; ITS CELLS HOLD 'Lib.compact zs', THEN ZERO VALUES up to the old length; all else is as it was, but for the count of draws. IN THE WORDS OF slices.Sort's CONTRACT ('Holds', 'putRow'): so the everyday 'slices.Sort(xs); xs = slices.Compact(xs)' goes from the one contract to the other. It asks 'zs.length ≤ cap' (every slice's: the reslicing 's[:k]' looks at it). Length 0, nil: '.._empty'. (LAID: no walk: one application.) -/
theorem Tryd.slices_Compact_int (blk off cap : Nat) (zs : List Int) (w : World) (hH : Holds (Value.int .i64) w blk off zs.toArray) (hsz : zs.length ≤ 9223372036854775807) (hcap : zs.length ≤ cap) :
    Calls Tryd.prog 65 #[.slice (some ⟨blk, off, none⟩) zs.length cap] w fun e w' => e = .returned (.slice (some ⟨blk, off, none⟩) (Lib.compact zs).length cap) ∧ ∃ q, w' = putRow (Value.int .i64) (Sort.ahead w q) blk off (Lib.compact zs ++ List.replicate (zs.length - (Lib.compact zs).length) 0).toArray := Any.slices_Compact_int Tryd.laysNm220 blk off cap zs w hH hsz hcap
open Go.RowKit Go.Lib Go.Sort in
/-- The same at a slice of length 0, a nil one too: it comes back as it is. (LAID: no walk: one application.) -/
theorem Tryd.slices_Compact_int_empty (a : Option Addr) (cap : Nat) (w : World) :
    Calls Tryd.prog 65 #[.slice a 0 cap] w fun e w' => e = .returned (.slice a 0 cap) ∧ w' = w := Any.slices_Compact_int_empty Tryd.laysNm220 a cap w
end Go.Proofs

namespace Go.Lb.LK
open Go Go.Lb

structure Port where
  s : Int
  p : Int
  deriving DecidableEq
def Port.cells (x : Port) : List AV := [I x.s, I x.p]
abbrev Port.av (x : Port) : AV := .agg x.cells

structure Sec where
  kind : Int
  j0 : Port
  j1 : Port
  j2 : Port
  j3 : Port
  c0 : Int
  c1 : Int
  deriving DecidableEq
def Sec.cells (x : Sec) : List AV := [U x.kind, I x.j0.s, I x.j0.p, I x.j1.s, I x.j1.p, I x.j2.s, I x.j2.p, I x.j3.s, I x.j3.p, I x.c0, I x.c1]
abbrev Sec.av (x : Sec) : AV := .agg x.cells

structure Step where
  s : Int
  i : Int
  o : Int
  deriving DecidableEq
def Step.cells (x : Step) : List AV := [I x.s, I x.i, I x.o]
abbrev Step.av (x : Step) : AV := .agg x.cells

structure Exi where
  a : Port
  over : List Step
  deriving DecidableEq
def Exi.cells (x : Exi) : List AV := [I x.a.s, I x.a.p, .sl (x.over.map Step.av)]
abbrev Exi.av (x : Exi) : AV := .agg x.cells

structure Flank where
  s : Int
  way : Int
  point : Int
  pos : Int
  deriving DecidableEq
def Flank.cells (x : Flank) : List AV := [I x.s, I x.way, I x.point, I x.pos]
abbrev Flank.av (x : Flank) : AV := .agg x.cells

structure Lay where
  secs : List Sec
  sigs : List Port
  exits : List Exi
  flanks : List Flank
  clear : Int
  drive : Int
  stale : Int
  approach : Int
  over : Int
  press : Int
  link : Int
  deriving DecidableEq
def Lay.cells (l : Lay) : List AV := [.sl (l.secs.map Sec.av), .sl (l.sigs.map Port.av), .sl (l.exits.map Exi.av), .sl (l.flanks.map Flank.av), I l.clear, I l.drive, I l.stale, I l.approach, I l.over, I l.press, I l.link]
abbrev Lay.av (l : Lay) : AV := .agg l.cells

structure Path where
  sig : Int
  exit : Int
  steps : List Step
  deriving DecidableEq
def Path.cells (x : Path) : List AV := [I x.sig, I x.exit, .sl (x.steps.map Step.av)]
abbrev Path.av (x : Path) : AV := .agg x.cells

structure Need where
  p : Int
  pos : Int
  k : Int
  deriving DecidableEq
def Need.cells (x : Need) : List AV := [I x.p, I x.pos, I x.k]
abbrev Need.av (x : Need) : AV := .agg x.cells
abbrev needs (l : List Need) : AV := .sl (l.map Need.av)
abbrev steps (l : List Step) : AV := .sl (l.map Step.av)

@[simp] theorem Port.pure (x : Port) : AV.pureAll x.cells = true := by simp [Port.cells, AV.pureAll, AV.pure]
@[simp] theorem Sec.pure (x : Sec) : AV.pureAll x.cells = true := by simp [Sec.cells, AV.pureAll, AV.pure]
@[simp] theorem Step.pure (x : Step) : AV.pureAll x.cells = true := by simp [Step.cells, AV.pureAll, AV.pure]
@[simp] theorem steps_pure (l : List Step) : AV.pureAll (l.map Step.av) = true := pureAll_map _ (fun x => by simp [AV.pure]) l
@[simp] theorem Exi.pure (x : Exi) : AV.pureAll x.cells = true := by simp [Exi.cells, AV.pureAll, AV.pure]
@[simp] theorem Flank.pure (x : Flank) : AV.pureAll x.cells = true := by simp [Flank.cells, AV.pureAll, AV.pure]
@[simp] theorem Path.pure (x : Path) : AV.pureAll x.cells = true := by simp [Path.cells, AV.pureAll, AV.pure]
@[simp] theorem Need.pure (x : Need) : AV.pureAll x.cells = true := by simp [Need.cells, AV.pureAll, AV.pure]
@[simp] theorem needs_pure (l : List Need) : AV.pureAll (l.map Need.av) = true := pureAll_map _ (fun x => by simp [AV.pure]) l
@[simp] theorem Lay.pure (l : Lay) : AV.pureAll l.cells = true := by
  simp [Lay.cells, AV.pureAll, AV.pure, pureAll_map Sec.av (fun x => by simp [AV.pure]), pureAll_map Port.av (fun x => by simp [AV.pure]), pureAll_map Exi.av (fun x => by simp [AV.pure]), pureAll_map Flank.av (fun x => by simp [AV.pure])]

/-! ### The form of the data -/
def iT : TS := .int .i64
def portT : TS := .agg [iT, iT]
def secT : TS := .agg [.int .u8, .agg [portT, portT, portT, portT], .agg [iT, iT]]
def sigT : TS := .agg [portT]
def stepT : TS := .agg [iT, iT, iT]
def exitT : TS := .agg [portT, .sl true stepT]
def flankT : TS := .agg [iT, iT, iT, iT]
def timesT : TS := .agg [iT, iT, iT, iT, iT, iT, iT]
def layT : TS := .agg [.sl true secT, .sl true sigT, .sl true exitT, .sl true flankT, timesT]
def pathT : TS := .agg [iT, iT, .sl true stepT]
def needT : TS := .agg [iT, iT, iT]

theorem sec_of {cs : List AV} (h : secT.fits cs) : ∃ s : Sec, AV.agg cs = s.av ∧ 0 ≤ s.kind ∧ s.kind ≤ 255 := by
  simp only [secT, portT, iT, fits_agg, fitsAll_int, fitsAll_agg, fitsAll_nil, List.append_nil, List.cons_append, List.nil_append] at h
  obtain ⟨m, q, rfl, hm, a0, q, rfl, _, a1, q, rfl, _, a2, q, rfl, _, a3, q, rfl, _, a4, q, rfl, _, a5, q, rfl, _, a6, q, rfl, _, a7, q, rfl, _, a8, q, rfl, _, a9, q, rfl, _, rfl⟩ := h
  exact ⟨⟨m, ⟨a0, a1⟩, ⟨a2, a3⟩, ⟨a4, a5⟩, ⟨a6, a7⟩, a8, a9⟩, rfl, by simpa using hm⟩
theorem sig_of {cs : List AV} (h : sigT.fits cs) : ∃ s : Port, AV.agg cs = s.av := by
  simp only [sigT, portT, iT, fits_agg, fitsAll_int, fitsAll_agg, fitsAll_sl, fitsAll_nil, List.append_nil, List.cons_append, List.nil_append] at h
  obtain ⟨a0, q, rfl, _, a1, q, rfl, _, rfl⟩ := h
  exact ⟨⟨a0, a1⟩, rfl⟩
theorem step_of {cs : List AV} (h : stepT.fits cs) : ∃ s : Step, AV.agg cs = s.av := by
  simp only [stepT, iT, fits_agg, fitsAll_int, fitsAll_agg, fitsAll_sl, fitsAll_nil, List.append_nil, List.cons_append, List.nil_append] at h
  obtain ⟨a0, q, rfl, _, a1, q, rfl, _, a2, q, rfl, _, rfl⟩ := h
  exact ⟨⟨a0, a1, a2⟩, rfl⟩
theorem flank_of {cs : List AV} (h : flankT.fits cs) : ∃ s : Flank, AV.agg cs = s.av := by
  simp only [flankT, iT, fits_agg, fitsAll_int, fitsAll_agg, fitsAll_sl, fitsAll_nil, List.append_nil, List.cons_append, List.nil_append] at h
  obtain ⟨a0, q, rfl, _, a1, q, rfl, _, a2, q, rfl, _, a3, q, rfl, _, rfl⟩ := h
  exact ⟨⟨a0, a1, a2, a3⟩, rfl⟩
theorem need_of {cs : List AV} (h : needT.fits cs) : ∃ s : Need, AV.agg cs = s.av := by
  simp only [needT, iT, fits_agg, fitsAll_int, fitsAll_agg, fitsAll_sl, fitsAll_nil, List.append_nil, List.cons_append, List.nil_append] at h
  obtain ⟨a0, q, rfl, _, a1, q, rfl, _, a2, q, rfl, _, rfl⟩ := h
  exact ⟨⟨a0, a1, a2⟩, rfl⟩
theorem exit_of {cs : List AV} (h : exitT.fits cs) : ∃ s : Exi, AV.agg cs = s.av := by
  simp only [exitT, portT, iT, fits_agg, fitsAll_int, fitsAll_agg, fitsAll_sl, fitsAll_nil, List.append_nil, List.cons_append, List.nil_append] at h
  obtain ⟨a0, q, rfl, _, a1, q, rfl, _, es, q, rfl, hs, rfl⟩ := h
  obtain ⟨ov, rfl⟩ := sl_map (g := Step.av) (fun cs h => step_of h) es hs.2
  exact ⟨⟨⟨a0, a1⟩, ov⟩, rfl⟩
/-- Kinds are bytes. -/
def Lay.ok (l : Lay) : Prop := ∀ s ∈ l.secs, 0 ≤ s.kind ∧ s.kind ≤ 255
theorem lay_of {cs : List AV} (h : layT.fits cs) : ∃ l : Lay, AV.agg cs = l.av ∧ l.ok := by
  simp only [layT, timesT, iT, fits_agg, fitsAll_int, fitsAll_agg, fitsAll_sl, fitsAll_nil, List.append_nil, List.cons_append, List.nil_append] at h
  obtain ⟨s1, q, rfl, h1, s2, q, rfl, h2, s3, q, rfl, h3, s4, q, rfl, h4, a0, q, rfl, _, a1, q, rfl, _, a2, q, rfl, _, a3, q, rfl, _, a4, q, rfl, _, a5, q, rfl, _, a6, q, rfl, _, rfl⟩ := h
  obtain ⟨secs, rfl, hs⟩ := sl_mapP (g := Sec.av) (Q := fun s => 0 ≤ s.kind ∧ s.kind ≤ 255) (fun cs h => sec_of h) s1 h1.2
  obtain ⟨sigs, rfl⟩ := sl_map (g := Port.av) (fun cs h => sig_of h) s2 h2.2
  obtain ⟨exits, rfl⟩ := sl_map (g := Exi.av) (fun cs h => exit_of h) s3 h3.2
  obtain ⟨fls, rfl⟩ := sl_map (g := Flank.av) (fun cs h => flank_of h) s4 h4.2
  exact ⟨⟨secs, sigs, exits, fls, a0, a1, a2, a3, a4, a5, a6⟩, rfl, hs⟩
theorem lay_arg {x : AV} (h : layT.fits x.cells) (h2 : aggIf true x) : ∃ l : Lay, x = l.av ∧ l.ok := by
  obtain ⟨cs, rfl⟩ := h2.1 rfl
  exact lay_of h
end Go.Lb.LK

namespace Go.Lb.LK
open Go Go.Lb

abbrev W (n : Int) : AV := .int .u32 n
abbrev B (b : Bool) : AV := .bool b

structure Img where
  age : Int
  free : Nat → Int
  occ : Int
  nor : Int
  rev : Int
  lamp : Int
def Img.cells (x : Img) : List AV := [I x.age, I (x.free 0), I (x.free 1), I (x.free 2), I (x.free 3), I (x.free 4), I (x.free 5), I (x.free 6), I (x.free 7), I (x.free 8), I (x.free 9), I (x.free 10), I (x.free 11), I (x.free 12), I (x.free 13), I (x.free 14), I (x.free 15), I (x.free 16), I (x.free 17), I (x.free 18), I (x.free 19), I (x.free 20), I (x.free 21), I (x.free 22), I (x.free 23), W x.occ, W x.nor, W x.rev, W x.lamp]
abbrev Img.av (x : Img) : AV := .agg x.cells
def Img.ok (x : Img) : Prop := (0 ≤ x.occ ∧ x.occ ≤ 4294967295) ∧ (0 ≤ x.nor ∧ x.nor ≤ 4294967295) ∧ (0 ≤ x.rev ∧ x.rev ≤ 4294967295) ∧ (0 ≤ x.lamp ∧ x.lamp ≤ 4294967295)

structure Hd where
  id : Int
  path : Path
  over : List Step
  needs : List Need
  stage : Int
  gone : Int
  was : Nat → Bool
  opn : Bool
  timer : Int
  shown : Bool
def Hd.cells (x : Hd) : List AV := [I x.id, I x.path.sig, I x.path.exit, steps x.path.steps, steps x.over, Go.Lb.LK.needs x.needs, U x.stage, I x.gone, .bool (x.was 0), .bool (x.was 1), .bool (x.was 2), .bool (x.was 3), .bool (x.was 4), .bool (x.was 5), .bool (x.was 6), .bool (x.was 7), .bool (x.was 8), .bool (x.was 9), .bool (x.was 10), .bool (x.was 11), .bool x.opn, I x.timer, .bool x.shown]
abbrev Hd.av (x : Hd) : AV := .agg x.cells

@[simp] theorem Img.pure (x : Img) : AV.pureAll x.cells = true := by simp [Img.cells, AV.pureAll, AV.pure]
@[simp] theorem Hd.pure (x : Hd) : AV.pureAll x.cells = true := by simp [Hd.cells, AV.pureAll, AV.pure]

@[simp] theorem pv_cellset (b len n j : Nat) (k : IntKind) (u v : AV) : pv (.cellset b len 1 0 1 j) [.int k (n : Nat), u, .agg [v]] = if j = b + n then v else u := by
  simp only [pv, AV.cells, Int.toNat_natCast, Nat.mul_one, Nat.add_zero]
  by_cases h : j = b + n
  · subst h; simp
  · have : ¬ (b + n ≤ j ∧ j < b + n + 1) := by omega
    simp [this, h]
@[simp] theorem pok_cellset (b len n j : Nat) (k : IntKind) (i : Int) (u v : AV) : pok (.cellset b len 1 0 n j) [.int k i, u, v] = (0 ≤ i ∧ i < len ∧ v.cells.length = n ∧ AV.ones v.cells = true ∧ j < b + len * 1 ∧ 0 + n ≤ 1) := rfl

/-- What an array's cell holds. -/
theorem free_get (x : Img) {i : Nat} (h : i < 24) (d : AV) : x.cells.getD (i + 1) d = I (x.free i) := by
  match i, h with
  | 0, _ => rfl
  | 1, _ => rfl
  | 2, _ => rfl
  | 3, _ => rfl
  | 4, _ => rfl
  | 5, _ => rfl
  | 6, _ => rfl
  | 7, _ => rfl
  | 8, _ => rfl
  | 9, _ => rfl
  | 10, _ => rfl
  | 11, _ => rfl
  | 12, _ => rfl
  | 13, _ => rfl
  | 14, _ => rfl
  | 15, _ => rfl
  | 16, _ => rfl
  | 17, _ => rfl
  | 18, _ => rfl
  | 19, _ => rfl
  | 20, _ => rfl
  | 21, _ => rfl
  | 22, _ => rfl
  | 23, _ => rfl
  | n + 24, h => exact absurd h (by omega)
def wcells (w : Nat → Bool) : List AV := [.bool (w 0), .bool (w 1), .bool (w 2), .bool (w 3), .bool (w 4), .bool (w 5), .bool (w 6), .bool (w 7), .bool (w 8), .bool (w 9), .bool (w 10), .bool (w 11)]
theorem wget (w : Nat → Bool) {i : Nat} (h : i < 12) (d : AV) : (wcells w).getD i d = .bool (w i) := by
  match i, h with
  | 0, _ => rfl
  | 1, _ => rfl
  | 2, _ => rfl
  | 3, _ => rfl
  | 4, _ => rfl
  | 5, _ => rfl
  | 6, _ => rfl
  | 7, _ => rfl
  | 8, _ => rfl
  | 9, _ => rfl
  | 10, _ => rfl
  | 11, _ => rfl
/-- Turned at one place. -/
def upd {α : Type} (w : Nat → α) (k : Nat) (v : α) : Nat → α := fun j => if j = k then v else w j

/-! ### Forms -/
def uT : TS := .int .u32
def inT : TS := .agg [uT, uT, uT, uT]
def imgT : TS := .agg [iT, .agg [iT, iT, iT, iT, iT, iT, iT, iT, iT, iT, iT, iT, iT, iT, iT, iT, iT, iT, iT, iT, iT, iT, iT, iT], inT]
def heldT : TS := .agg [iT, pathT, .sl true stepT, .sl true needT, .int .u8, iT, .agg [.bool, .bool, .bool, .bool, .bool, .bool, .bool, .bool, .bool, .bool, .bool, .bool], .bool, iT, .bool]
end Go.Lb.LK
