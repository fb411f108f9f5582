/- What functions come to, printed by a program, checked by the kernel. -/
/- The trees of the functions. -/
/-
  DERIVED: THE SHELF's CONTRACTS AT THIS DUMP, IN PLAIN WORDS (tools/lay-plain.mjs out of 'TryzShelf.lean', which tools/lay-shelf.mjs wrote): THE SAME DECLARATIONS UNDER THE SAME NAMES: 'import', 'namespace', 'open', 'def', 'theorem' AND NOTHING ELSE: no command of the shelf's: FOR A HAND-IN. Each laying: the table of numbers ('.._ren') and one theorem, a field a fact of the dump's own or the kernel's comparison; each contract: ONE APPLICATION.
-/
/- The data of the program, and as pure values. -/
/- An image, a held route, as pure values. -/
/- slices.Delete at routes that are held. -/
/- Contracts over this program. -/
/- Counting, bits, an image. -/
/- Counting, an image. -/
import Derived.Test.YtkcpgfjlmicnnaaGreatDoorCh1
import Derived.Test.YtkcpgfjlmicnnaaGreatDoorCh2
import Derived.Test.YtkcpgfjlmicnnaaGreatDoorCh3
import Derived.Test.YtkcpgfjlmicnnaaGreatDoorCh4
import Derived.Shelf.Small.Bits
import Derived.Shelf.Strconv.Itoa0
import Derived.Shelf.Sort.Plain
import Derived.Ground.Names2Prog
import Derived.Shelf.Slices.CompactI
import Derived.Test.YtkcpgfjlmicnnaaGreatDoorProg
import Derived.Test.YtkcpgfjlmicnnaaGreatDoorFw10
import Derived.WalkKit
import Derived.Deep.LoopGhost
import Derived.Deep.RegionLaw
import Derived.Lib.Walk
import Derived.Lib.SliceRun
import Derived.KernelRfl
import Derived.Deep.MidRow
import Derived.Shelf.RegionOpenPlain
set_option linter.unusedSimpArgs false
set_option linter.unusedVariables false
namespace Go.Lb.LK
open Go Go.Lb Go.Proofs
@[simp] noncomputable def qka4_0 : SE := .agg [.inp 0, .inp 1, .inp 2, .inp 3, .inp 4, .inp 5, .inp 6, .inp 7, .inp 8, .inp 9, .inp 10]
@[simp] noncomputable def qka4_1 : SE := .agg [.inp 11, .inp 12, .inp 13, .inp 14, .inp 15, .inp 16, .inp 17, .inp 18, .inp 19, .inp 20, .inp 21, .inp 22, .inp 23, .inp 24, .inp 25, .inp 26, .inp 27, .inp 28, .inp 29, .inp 30, .inp 31, .inp 32, .inp 33, .inp 34, .inp 35, .inp 36, .inp 37, .inp 38, .inp 39]
@[simp] noncomputable def qka4_2 : SE := .agg [.inp 40, .inp 41, .inp 42, .inp 43, .inp 44, .inp 45, .inp 46, .inp 47, .inp 48, .inp 49, .inp 50, .inp 51, .inp 52, .inp 53, .inp 54, .inp 55, .inp 56, .inp 57, .inp 58, .inp 59, .inp 60, .inp 61, .inp 62, .inp 63, .inp 64, .inp 65, .inp 66, .inp 67, .inp 68, .inp 69, .inp 70, .inp 71, .inp 72, .inp 73, .inp 74, .inp 75, .inp 76, .inp 77, .inp 78, .inp 79, .inp 80, .inp 81, .inp 82, .inp 83, .inp 84, .inp 85, .inp 86, .inp 87, .inp 88, .inp 89, .inp 90, .inp 91, .inp 92, .inp 93, .inp 94, .inp 95, .inp 96, .inp 97, .inp 98, .inp 99, .inp 100, .inp 101, .inp 102, .inp 103, .inp 104, .inp 105, .inp 106, .inp 107, .inp 108, .inp 109, .inp 110, .inp 111, .inp 112, .inp 113]
@[simp] noncomputable def qka4_3 : SE := .app (.eidx 23) [.inp 41, .inp 115]
@[simp] noncomputable def qka4_4 : SE := .app .lst [.agg [.app (.part 0 1 false) [.inp 117], .app (.part 1 1 false) [.inp 117], .app (.part 2 1 false) [.inp 117], .app (.part 3 1 false) [.inp 117], .app (.part 4 1 false) [.inp 117], .app (.part 5 1 false) [.inp 117], .app (.part 6 1 false) [.inp 117], .app (.part 7 1 false) [.inp 117], .app (.part 8 1 false) [.inp 117], .app (.part 9 1 false) [.inp 117], .app (.part 10 1 false) [.inp 117], .app (.part 11 1 false) [.inp 117], .app (.part 12 1 false) [.inp 117], .app (.part 13 1 false) [.inp 117], .app (.part 14 1 false) [.inp 117], .app (.part 15 1 false) [.inp 117], .app (.part 16 1 false) [.inp 117], .app (.part 17 1 false) [.inp 117], .app (.part 18 1 false) [.inp 117], .app (.part 19 1 false) [.inp 117], .app (.part 20 1 false) [.inp 117], .app (.part 21 1 false) [.inp 117], .app (.part 22 1 false) [.inp 117]]]
@[simp] noncomputable def qka4_5 : SE := .agg [.inp 40, .row 28, .inp 42, .inp 43, .inp 44, .inp 45, .inp 46, .inp 47, .inp 48, .inp 49, .inp 50, .inp 51, .inp 52, .inp 53, .inp 54, .inp 55, .inp 56, .inp 57, .inp 58, .inp 59, .inp 60, .inp 61, .inp 62, .inp 63, .inp 64, .inp 65, .inp 66, .inp 67, .inp 68, .inp 69, .inp 70, .inp 71, .inp 72, .inp 73, .inp 74, .inp 75, .inp 76, .inp 77, .inp 78, .inp 79, .inp 80, .inp 81, .inp 82, .inp 83, .inp 84, .inp 85, .inp 86, .inp 87, .inp 88, .inp 89, .inp 90, .inp 91, .inp 92, .inp 93, .inp 94, .inp 95, .inp 96, .inp 97, .inp 98, .inp 99, .inp 100, .inp 101, .inp 102, .inp 103, .inp 104, .inp 105, .inp 106, .inp 107, .inp 108, .inp 109, .inp 110, .inp 111, .inp 112, .inp 113]
@[simp] noncomputable def qka4_6 : SE := .agg [.inp 40, .inp 116, .inp 42, .inp 43, .inp 44, .inp 45, .inp 46, .inp 47, .inp 48, .inp 49, .inp 50, .inp 51, .inp 52, .inp 53, .inp 54, .inp 55, .inp 56, .inp 57, .inp 58, .inp 59, .inp 60, .inp 61, .inp 62, .inp 63, .inp 64, .inp 65, .inp 66, .inp 67, .inp 68, .inp 69, .inp 70, .inp 71, .inp 72, .inp 73, .inp 74, .inp 75, .inp 76, .inp 77, .inp 78, .inp 79, .inp 80, .inp 81, .inp 82, .inp 83, .inp 84, .inp 85, .inp 86, .inp 87, .inp 88, .inp 89, .inp 90, .inp 91, .inp 92, .inp 93, .inp 94, .inp 95, .inp 96, .inp 97, .inp 98, .inp 99, .inp 100, .inp 101, .inp 102, .inp 103, .inp 104, .inp 105, .inp 106, .inp 107, .inp 108, .inp 109, .inp 110, .inp 111, .inp 112, .inp 113]
@[simp] noncomputable def qka4_7 : SE := .tup [qka4_6, .bool false]
@[simp] noncomputable def qka4_8 : SE := .app (.rowget 23 0 23 true) [.inp 116, .inp 117]
@[simp] noncomputable def qka4_9 : SE := .app (.part 6 1 false) [qka4_8]
@[simp] noncomputable def qka4_10 : SE := .app (.slice false true) [.inp 116, .inp 117]
@[simp] noncomputable def qka4_11 : SE := .app (.bin .add) [.inp 117, .int .i64 1]
@[simp] noncomputable def qka4_12 : SE := .app (.slice true false) [.inp 116, qka4_11]
@[simp] noncomputable def qka4_13 : SE := .app .app [.app .lst [], qka4_10]
@[simp] noncomputable def qka4_14 : SE := .app .app [qka4_13, qka4_12]
@[simp] noncomputable def qka4_15 : SE := .app (.bin .eql) [qka4_9, .int .u8 2]
@[simp] noncomputable def qka4_16 : SE := .app (.part 22 1 false) [qka4_8]
@[simp] noncomputable def qka4_17 : SE := .app (.un .not) [qka4_16]
@[simp] noncomputable def qka4_18 : SE := .app .pick [qka4_17, .bool true, .app (.un .not) [.inp 118]]
@[simp] noncomputable def qka4_19 : SE := .app (.rowset 23 6 1) [.inp 116, .inp 117, .agg [.int .u8 4]]
@[simp] noncomputable def qka4_20 : SE := .tup [.agg [.inp 40, .app (.rowset 23 21 1) [qka4_19, .inp 117, .agg [.inp 7]], .inp 42, .inp 43, .inp 44, .inp 45, .inp 46, .inp 47, .inp 48, .inp 49, .inp 50, .inp 51, .inp 52, .inp 53, .inp 54, .inp 55, .inp 56, .inp 57, .inp 58, .inp 59, .inp 60, .inp 61, .inp 62, .inp 63, .inp 64, .inp 65, .inp 66, .inp 67, .inp 68, .inp 69, .inp 70, .inp 71, .inp 72, .inp 73, .inp 74, .inp 75, .inp 76, .inp 77, .inp 78, .inp 79, .inp 80, .inp 81, .inp 82, .inp 83, .inp 84, .inp 85, .inp 86, .inp 87, .inp 88, .inp 89, .inp 90, .inp 91, .inp 92, .inp 93, .inp 94, .inp 95, .inp 96, .inp 97, .inp 98, .inp 99, .inp 100, .inp 101, .inp 102, .inp 103, .inp 104, .inp 105, .inp 106, .inp 107, .inp 108, .inp 109, .inp 110, .inp 111, .inp 112, .inp 113], .bool true]
@[simp] noncomputable def qka4_21 : SE := .app (.bin .eql) [qka4_9, .int .u8 3]
@[simp] noncomputable def qka4_22 : SE := .agg [.inp 40, .inp 41, .inp 42, .inp 43, .inp 44, .inp 45, .inp 46, .inp 47, .inp 48, .inp 49, .inp 50, .inp 51, .inp 52, .inp 53, .inp 54, .inp 55, .inp 56, .inp 57, .inp 58, .inp 59, .inp 60, .inp 61, .inp 62]
@[simp] noncomputable def qka4_23 : SE := .app (.part 6 1 false) [.inp 63]
@[simp] noncomputable def qka4_24 : SE := .app (.bin .neq) [qka4_23, .int .u8 4]
@[simp] noncomputable def qka4_25 : SE := .app (.part 0 1 false) [.inp 63]
@[simp] noncomputable def qka4_26 : SE := .app (.part 1 1 false) [.inp 63]
@[simp] noncomputable def qka4_27 : SE := .app (.part 2 1 false) [.inp 63]
@[simp] noncomputable def qka4_28 : SE := .app (.part 3 1 false) [.inp 63]
@[simp] noncomputable def qka4_29 : SE := .app (.part 4 1 false) [.inp 63]
@[simp] noncomputable def qka4_30 : SE := .app (.part 5 1 false) [.inp 63]
@[simp] noncomputable def qka4_31 : SE := .app (.part 7 1 false) [.inp 63]
@[simp] noncomputable def qka4_32 : SE := .app (.part 8 1 false) [.inp 63]
@[simp] noncomputable def qka4_33 : SE := .app (.part 9 1 false) [.inp 63]
@[simp] noncomputable def qka4_34 : SE := .app (.part 10 1 false) [.inp 63]
@[simp] noncomputable def qka4_35 : SE := .app (.part 11 1 false) [.inp 63]
@[simp] noncomputable def qka4_36 : SE := .app (.part 12 1 false) [.inp 63]
@[simp] noncomputable def qka4_37 : SE := .app (.part 13 1 false) [.inp 63]
@[simp] noncomputable def qka4_38 : SE := .app (.part 14 1 false) [.inp 63]
@[simp] noncomputable def qka4_39 : SE := .app (.part 15 1 false) [.inp 63]
@[simp] noncomputable def qka4_40 : SE := .app (.part 16 1 false) [.inp 63]
@[simp] noncomputable def qka4_41 : SE := .app (.part 17 1 false) [.inp 63]
@[simp] noncomputable def qka4_42 : SE := .app (.part 18 1 false) [.inp 63]
@[simp] noncomputable def qka4_43 : SE := .app (.part 19 1 false) [.inp 63]
@[simp] noncomputable def qka4_44 : SE := .app (.part 20 1 false) [.inp 63]
@[simp] noncomputable def qka4_45 : SE := .app (.part 21 1 false) [.inp 63]
@[simp] noncomputable def qka4_46 : SE := .app (.part 22 1 false) [.inp 63]
@[simp] noncomputable def qka4_47 : SE := .agg [qka4_25, qka4_26, qka4_27, qka4_28, qka4_29, qka4_30, qka4_23, qka4_31, qka4_32, qka4_33, qka4_34, qka4_35, qka4_36, qka4_37, qka4_38, qka4_39, qka4_40, qka4_41, qka4_42, qka4_43, qka4_44, qka4_45, qka4_46]
@[simp] noncomputable def qka4_48 : SE := .tup [qka4_47, .bool false]
@[simp] noncomputable def qka4_49 : SE := .agg [qka4_25, qka4_26, qka4_27, qka4_28, qka4_29, qka4_30, qka4_23, qka4_31, qka4_32, qka4_33, qka4_34, qka4_35, qka4_36, qka4_37, qka4_38, qka4_39, qka4_40, qka4_41, qka4_42, qka4_43, qka4_44, .inp 67, qka4_46]
@[simp] noncomputable def qka4_50 : SE := .agg [.inp 0, .app .lst [.agg [.int .i64 1, .int .i64 0]], .app .lst [.agg [.int .i64 2, .int .i64 1, .nils]], .nils, .int .i64 1, .int .i64 1, .int .i64 9, .int .i64 2, .int .i64 1, .int .i64 1, .int .i64 1]
@[simp] noncomputable def qka4_51 : SE := .agg [.app (.part 0 1 false) [.inp 2], .app (.part 1 1 false) [.inp 2], .app (.part 2 1 false) [.inp 2], .app (.part 3 1 false) [.inp 2], .app (.part 4 1 false) [.inp 2], .app (.part 5 1 false) [.inp 2], .app (.part 6 1 false) [.inp 2], .app (.part 7 1 false) [.inp 2], .app (.part 8 1 false) [.inp 2], .app (.part 9 1 false) [.inp 2], .app (.part 10 1 false) [.inp 2], .app (.part 11 1 false) [.inp 2], .app (.part 12 1 false) [.inp 2], .app (.part 13 1 false) [.inp 2], .app (.part 14 1 false) [.inp 2], .app (.part 15 1 false) [.inp 2], .app (.part 16 1 false) [.inp 2], .app (.part 17 1 false) [.inp 2], .app (.part 18 1 false) [.inp 2], .app (.part 19 1 false) [.inp 2], .app (.part 20 1 false) [.inp 2], .app (.part 21 1 false) [.inp 2], .app (.part 22 1 false) [.inp 2], .app (.part 23 1 false) [.inp 2], .app (.part 24 1 false) [.inp 2], .app (.part 25 1 false) [.inp 2], .app (.part 26 1 false) [.inp 2], .app (.part 27 1 false) [.inp 2], .app (.part 28 1 false) [.inp 2]]
@[simp] noncomputable def qka4_52 : SE := .agg [.app (.part 0 1 false) [.app (.tproj 3) [.inp 0]], .app (.part 1 1 false) [.app (.tproj 3) [.inp 0]], .app (.part 2 1 false) [.app (.tproj 3) [.inp 0]], .app (.part 3 1 false) [.app (.tproj 3) [.inp 0]], .app (.part 4 1 false) [.app (.tproj 3) [.inp 0]], .app (.part 5 1 false) [.app (.tproj 3) [.inp 0]], .app (.part 6 1 false) [.app (.tproj 3) [.inp 0]], .app (.part 7 1 false) [.app (.tproj 3) [.inp 0]], .app (.part 8 1 false) [.app (.tproj 3) [.inp 0]], .app (.part 9 1 false) [.app (.tproj 3) [.inp 0]], .app (.part 10 1 false) [.app (.tproj 3) [.inp 0]], .app (.part 11 1 false) [.app (.tproj 3) [.inp 0]], .app (.part 12 1 false) [.app (.tproj 3) [.inp 0]], .app (.part 13 1 false) [.app (.tproj 3) [.inp 0]], .app (.part 14 1 false) [.app (.tproj 3) [.inp 0]], .app (.part 15 1 false) [.app (.tproj 3) [.inp 0]], .app (.part 16 1 false) [.app (.tproj 3) [.inp 0]], .app (.part 17 1 false) [.app (.tproj 3) [.inp 0]], .app (.part 18 1 false) [.app (.tproj 3) [.inp 0]], .app (.part 19 1 false) [.app (.tproj 3) [.inp 0]], .app (.part 20 1 false) [.app (.tproj 3) [.inp 0]], .app (.part 21 1 false) [.app (.tproj 3) [.inp 0]], .app (.part 22 1 false) [.app (.tproj 3) [.inp 0]]]
@[simp] noncomputable def qka4_53 : SE := .agg [.app (.part 0 1 false) [.app (.tproj 0) [.inp 0]], .app (.part 1 1 false) [.app (.tproj 0) [.inp 0]], .app (.part 2 1 false) [.app (.tproj 0) [.inp 0]], .app (.part 3 1 false) [.app (.tproj 0) [.inp 0]], .app (.part 4 1 false) [.app (.tproj 0) [.inp 0]], .app (.part 5 1 false) [.app (.tproj 0) [.inp 0]], .app (.part 6 1 false) [.app (.tproj 0) [.inp 0]], .app (.part 7 1 false) [.app (.tproj 0) [.inp 0]], .app (.part 8 1 false) [.app (.tproj 0) [.inp 0]], .app (.part 9 1 false) [.app (.tproj 0) [.inp 0]], .app (.part 10 1 false) [.app (.tproj 0) [.inp 0]]]
@[simp] noncomputable def qka4_54 : SE := .agg [.app (.part 0 1 false) [.app (.tproj 1) [.inp 0]], .app (.part 1 1 false) [.app (.tproj 1) [.inp 0]], .app (.part 2 1 false) [.app (.tproj 1) [.inp 0]], .app (.part 3 1 false) [.app (.tproj 1) [.inp 0]], .app (.part 4 1 false) [.app (.tproj 1) [.inp 0]], .app (.part 5 1 false) [.app (.tproj 1) [.inp 0]], .app (.part 6 1 false) [.app (.tproj 1) [.inp 0]], .app (.part 7 1 false) [.app (.tproj 1) [.inp 0]], .app (.part 8 1 false) [.app (.tproj 1) [.inp 0]], .app (.part 9 1 false) [.app (.tproj 1) [.inp 0]], .app (.part 10 1 false) [.app (.tproj 1) [.inp 0]], .app (.part 11 1 false) [.app (.tproj 1) [.inp 0]], .app (.part 12 1 false) [.app (.tproj 1) [.inp 0]], .app (.part 13 1 false) [.app (.tproj 1) [.inp 0]], .app (.part 14 1 false) [.app (.tproj 1) [.inp 0]], .app (.part 15 1 false) [.app (.tproj 1) [.inp 0]], .app (.part 16 1 false) [.app (.tproj 1) [.inp 0]], .app (.part 17 1 false) [.app (.tproj 1) [.inp 0]], .app (.part 18 1 false) [.app (.tproj 1) [.inp 0]], .app (.part 19 1 false) [.app (.tproj 1) [.inp 0]], .app (.part 20 1 false) [.app (.tproj 1) [.inp 0]], .app (.part 21 1 false) [.app (.tproj 1) [.inp 0]], .app (.part 22 1 false) [.app (.tproj 1) [.inp 0]], .app (.part 23 1 false) [.app (.tproj 1) [.inp 0]], .app (.part 24 1 false) [.app (.tproj 1) [.inp 0]], .app (.part 25 1 false) [.app (.tproj 1) [.inp 0]], .app (.part 26 1 false) [.app (.tproj 1) [.inp 0]], .app (.part 27 1 false) [.app (.tproj 1) [.inp 0]], .app (.part 28 1 false) [.app (.tproj 1) [.inp 0]]]
@[simp] noncomputable def qka4_55 : SE := .agg [.int .i64 6, .inp 1, .int .i64 0, .int .i64 0, .bool false, .int .i64 0, .int .i64 0, .bool false, .int .i64 0, .int .i64 0, .bool false, .int .i64 0, .int .i64 0, .bool false, .int .i64 0, .int .i64 0, .bool false, .int .i64 0, .int .i64 0, .bool false, .int .i64 0, .int .i64 0, .bool false, .int .i64 0, .int .i64 0, .bool false, .int .i64 0, .int .i64 0, .bool false, .int .i64 0, .int .i64 0, .bool false, .int .i64 0, .int .i64 0, .bool false, .int .i64 0, .int .i64 0, .bool false, .int .i64 0, .int .i64 0, .bool false, .int .i64 0, .int .i64 0, .bool false, .int .i64 0, .int .i64 0, .bool false, .int .i64 0, .int .i64 0, .bool false, .int .i64 0, .int .i64 0, .bool false, .int .i64 0, .int .i64 0, .bool false, .int .i64 0, .int .i64 0, .bool false, .int .i64 0, .int .i64 0, .bool false, .int .i64 0, .int .i64 0, .bool false, .int .i64 0, .int .i64 0, .bool false, .int .i64 0, .int .i64 0, .bool false, .int .i64 0, .int .i64 0, .bool false]
@[simp] noncomputable def qka4_56 : SE := .agg [.app (.part 0 1 false) [.app (.tproj 2) [.inp 0]], .app (.part 1 1 false) [.app (.tproj 2) [.inp 0]], .app (.part 2 1 false) [.app (.tproj 2) [.inp 0]], .app (.part 3 1 false) [.app (.tproj 2) [.inp 0]], .app (.part 4 1 false) [.app (.tproj 2) [.inp 0]], .app (.part 5 1 false) [.app (.tproj 2) [.inp 0]], .app (.part 6 1 false) [.app (.tproj 2) [.inp 0]], .app (.part 7 1 false) [.app (.tproj 2) [.inp 0]], .app (.part 8 1 false) [.app (.tproj 2) [.inp 0]], .app (.part 9 1 false) [.app (.tproj 2) [.inp 0]], .app (.part 10 1 false) [.app (.tproj 2) [.inp 0]], .app (.part 11 1 false) [.app (.tproj 2) [.inp 0]], .app (.part 12 1 false) [.app (.tproj 2) [.inp 0]], .app (.part 13 1 false) [.app (.tproj 2) [.inp 0]], .app (.part 14 1 false) [.app (.tproj 2) [.inp 0]], .app (.part 15 1 false) [.app (.tproj 2) [.inp 0]], .app (.part 16 1 false) [.app (.tproj 2) [.inp 0]], .app (.part 17 1 false) [.app (.tproj 2) [.inp 0]], .app (.part 18 1 false) [.app (.tproj 2) [.inp 0]], .app (.part 19 1 false) [.app (.tproj 2) [.inp 0]], .app (.part 20 1 false) [.app (.tproj 2) [.inp 0]], .app (.part 21 1 false) [.app (.tproj 2) [.inp 0]], .app (.part 22 1 false) [.app (.tproj 2) [.inp 0]], .app (.part 23 1 false) [.app (.tproj 2) [.inp 0]], .app (.part 24 1 false) [.app (.tproj 2) [.inp 0]], .app (.part 25 1 false) [.app (.tproj 2) [.inp 0]], .app (.part 26 1 false) [.app (.tproj 2) [.inp 0]], .app (.part 27 1 false) [.app (.tproj 2) [.inp 0]], .app (.part 28 1 false) [.app (.tproj 2) [.inp 0]]]
@[simp] noncomputable def qka4_57 : SE := .app (.part 1 1 false) [.app (.tproj 0) [.inp 3]]
@[simp] noncomputable def qka4_58 : SE := .app .len [qka4_57]
@[simp] noncomputable def qka4_59 : SE := .app (.eidx 23) [qka4_57, .int .i64 0]
@[simp] noncomputable def qka4_60 : SE := .app (.part 21 1 false) [.app (.tproj 0) [.inp 5]]
@[simp] noncomputable def qka4_61 : SE := .agg [.app (.part 0 1 false) [.app (.tproj 0) [.inp 5]], .app (.part 1 1 false) [.app (.tproj 0) [.inp 5]], .app (.part 2 1 false) [.app (.tproj 0) [.inp 5]], .app (.part 3 1 false) [.app (.tproj 0) [.inp 5]], .app (.part 4 1 false) [.app (.tproj 0) [.inp 5]], .app (.part 5 1 false) [.app (.tproj 0) [.inp 5]], .app (.part 6 1 false) [.app (.tproj 0) [.inp 5]], .app (.part 7 1 false) [.app (.tproj 0) [.inp 5]], .app (.part 8 1 false) [.app (.tproj 0) [.inp 5]], .app (.part 9 1 false) [.app (.tproj 0) [.inp 5]], .app (.part 10 1 false) [.app (.tproj 0) [.inp 5]], .app (.part 11 1 false) [.app (.tproj 0) [.inp 5]], .app (.part 12 1 false) [.app (.tproj 0) [.inp 5]], .app (.part 13 1 false) [.app (.tproj 0) [.inp 5]], .app (.part 14 1 false) [.app (.tproj 0) [.inp 5]], .app (.part 15 1 false) [.app (.tproj 0) [.inp 5]], .app (.part 16 1 false) [.app (.tproj 0) [.inp 5]], .app (.part 17 1 false) [.app (.tproj 0) [.inp 5]], .app (.part 18 1 false) [.app (.tproj 0) [.inp 5]], .app (.part 19 1 false) [.app (.tproj 0) [.inp 5]], .app (.part 20 1 false) [.app (.tproj 0) [.inp 5]], qka4_60, .app (.part 22 1 false) [.app (.tproj 0) [.inp 5]]]
@[simp] noncomputable def qka4_62 : SE := .app (.part 1 1 false) [.app (.tproj 0) [.inp 2]]
@[simp] noncomputable def qka4_63 : SE := .app .len [qka4_62]
@[simp] noncomputable def qka4_64 : SE := .app (.bin .eql) [qka4_63, .int .i64 0]
@[simp] noncomputable def qka4_65 : SE := .app .pick [qka4_64, .app (.tproj 1) [.inp 2], .bool false]
@[simp] noncomputable def qka4_66 : SE := .app .pick [qka4_65, .app (.tproj 1) [.inp 3], .bool false]
@[simp] noncomputable def qka4_67 : SE := .app (.eoff 6) [qka4_59]
@[simp] noncomputable def qka4_68 : SE := .app (.eload 1 false) [qka4_67]
@[simp] noncomputable def qka4_69 : SE := .app (.bin .eql) [qka4_68, .int .u8 4]
@[simp] noncomputable def qka4_70 : SE := .app .pick [qka4_66, qka4_69, .bool false]
@[simp] noncomputable def qka4_71 : SE := .app (.eoff 21) [qka4_59]
@[simp] noncomputable def qka4_72 : SE := .app (.eload 1 false) [qka4_71]
@[simp] noncomputable def qka4_73 : SE := .app (.bin .eql) [qka4_72, .int .i64 2]
@[simp] noncomputable def qka4_74 : SE := .app .pick [qka4_70, qka4_73, .bool false]
@[simp] noncomputable def qka4_75 : SE := .app (.un .not) [.app (.tproj 1) [.inp 4]]
@[simp] noncomputable def qka4_76 : SE := .app .pick [qka4_74, qka4_75, .bool false]
@[simp] noncomputable def qka4_77 : SE := .app .pick [qka4_76, .inp 9, .bool false]
@[simp] noncomputable def qka4_78 : SE := .app (.un .not) [.app (.tproj 1) [.inp 5]]
@[simp] noncomputable def qka4_79 : SE := .app .pick [qka4_77, qka4_78, .bool false]
@[simp] noncomputable def qka4_80 : SE := .app (.bin .eql) [qka4_60, .int .i64 1]
@[simp] noncomputable def qka4_81 : SE := .app .pick [qka4_79, qka4_80, .bool false]
@[simp] noncomputable def qka4_82 : SE := .app .pick [qka4_81, .app (.tproj 1) [.inp 6], .bool false]
@[simp] noncomputable def qka4_83 : SE := .app (.un .not) [.app (.tproj 1) [.inp 8]]
@[simp] noncomputable def qka4_84 : SE := .app .pick [qka4_82, qka4_83, .bool false]
@[simp] noncomputable def qka4_85 : SE := .app (.part 6 1 false) [.app (.tproj 0) [.inp 8]]
@[simp] noncomputable def qka4_86 : SE := .app (.bin .eql) [qka4_85, .int .u8 3]
@[simp] noncomputable def qka4_87 : SE := .app .pick [qka4_84, qka4_86, .bool false]
@[simp] noncomputable def qka4_88 : SE := .app (.part 21 1 false) [.app (.tproj 0) [.inp 8]]
@[simp] noncomputable def qka4_89 : SE := .app (.bin .eql) [qka4_88, .int .i64 0]
@[simp] noncomputable def qka4_90 : SE := .app .pick [qka4_87, qka4_89, .bool false]
@[simp] noncomputable def qka4_91 : SE := .app .pick [qka4_90, .inp 10, .bool false]
@[simp] noncomputable def qka4_92 : SE := .app .pick [qka4_91, .app (.un .not) [.inp 11], .bool false]
@[simp] noncomputable def qka4_93 : SE := .app .pick [qka4_92, .app (.un .not) [.inp 12], .bool false]
@[simp] noncomputable def qka4_94 : SE := .app .pick [qka4_93, .app (.un .not) [.inp 13], .bool false]
noncomputable def rt_lockbarref22_Cancel : RT :=
.seg [.chk [] (.isAgg 11) [qka4_0]] <|
.seg [.chk [] (.isAgg 29) [qka4_1]] <|
.seg [.chk [] (.isAgg 74) [qka4_2]] <|
.seg [.chk [] (.isAgg 74) [qka4_2]] <|
.loop 0 115 [.int .i64 0, .nils] <|
.seg [.chk [] .len [.inp 41]] <|
.seg [.chk [] (.bin .lss) [.inp 115, .app .len [.inp 41]]] <|
.cond (.app (.bin .lss) [.inp 115, .app .len [.inp 41]])
 (.seg [.chk [] (.eidx 23) [.inp 41, .inp 115],
.chk [] (.eload 23 true) [qka4_3],
.call 117 [] 39 [.app (.eload 23 true) [qka4_3]] false,
.chk [] (.isAgg 23) [.inp 117],
.chk [] (.szs 23) [qka4_4],
.chk [] .app [.inp 116, qka4_4]] <|
.seg [.bind 118 (qka4_4),
.bind 119 (.app .app [.inp 116, qka4_4])] <|
.seg [.chk [] (.bin .add) [.inp 115, .int .i64 1]] <|
.again 0 [.app (.bin .add) [.inp 115, .int .i64 1], .inp 119])
 (.seg [.chk [] (.isAgg 74) [qka4_5]] <|
.seg [.chk [] (.isAgg 74) [qka4_5]] <|
.seg [.call 117 [] 33 [qka4_6, .inp 114] true] <|
.seg [.chk [] (.bin .lss) [.inp 117, .int .i64 0]] <|
.cond (.app (.bin .lss) [.inp 117, .int .i64 0])
 (.seg [.chk [] (.isAgg 74) [qka4_5]] <|
.ret (qka4_7))
 (.seg [.chk [] (.eidx 23) [.inp 116, .inp 117]] <|
.seg [.chk [] (.rowget 23 0 23 true) [.inp 116, .inp 117]] <|
.seg [.chk [] (.isAgg 23) [qka4_8]] <|
.seg [.chk [] (.bin .eql) [qka4_9, .int .u8 1]] <|
.cond (.app (.bin .eql) [qka4_9, .int .u8 1])
 (.seg [.chk [] (.szs 23) [.inp 116],
.chk [] (.slice false true) [.inp 116, .inp 117],
.chk [] (.szs 23) [qka4_10],
.chk [] .app [.app .lst [], qka4_10],
.chk [] (.bin .add) [.inp 117, .int .i64 1],
.chk [] (.szs 23) [.inp 116],
.chk [] (.slice true false) [.inp 116, qka4_11],
.chk [] (.szs 23) [qka4_12],
.chk [] .app [qka4_13, qka4_12]] <|
.seg [.bind 118 (qka4_14)] <|
.seg [.chk [] (.isAgg 74) [.agg [.inp 40, .row 101, .inp 42, .inp 43, .inp 44, .inp 45, .inp 46, .inp 47, .inp 48, .inp 49, .inp 50, .inp 51, .inp 52, .inp 53, .inp 54, .inp 55, .inp 56, .inp 57, .inp 58, .inp 59, .inp 60, .inp 61, .inp 62, .inp 63, .inp 64, .inp 65, .inp 66, .inp 67, .inp 68, .inp 69, .inp 70, .inp 71, .inp 72, .inp 73, .inp 74, .inp 75, .inp 76, .inp 77, .inp 78, .inp 79, .inp 80, .inp 81, .inp 82, .inp 83, .inp 84, .inp 85, .inp 86, .inp 87, .inp 88, .inp 89, .inp 90, .inp 91, .inp 92, .inp 93, .inp 94, .inp 95, .inp 96, .inp 97, .inp 98, .inp 99, .inp 100, .inp 101, .inp 102, .inp 103, .inp 104, .inp 105, .inp 106, .inp 107, .inp 108, .inp 109, .inp 110, .inp 111, .inp 112, .inp 113]]] <|
.ret (.tup [.agg [.inp 40, .inp 118, .inp 42, .inp 43, .inp 44, .inp 45, .inp 46, .inp 47, .inp 48, .inp 49, .inp 50, .inp 51, .inp 52, .inp 53, .inp 54, .inp 55, .inp 56, .inp 57, .inp 58, .inp 59, .inp 60, .inp 61, .inp 62, .inp 63, .inp 64, .inp 65, .inp 66, .inp 67, .inp 68, .inp 69, .inp 70, .inp 71, .inp 72, .inp 73, .inp 74, .inp 75, .inp 76, .inp 77, .inp 78, .inp 79, .inp 80, .inp 81, .inp 82, .inp 83, .inp 84, .inp 85, .inp 86, .inp 87, .inp 88, .inp 89, .inp 90, .inp 91, .inp 92, .inp 93, .inp 94, .inp 95, .inp 96, .inp 97, .inp 98, .inp 99, .inp 100, .inp 101, .inp 102, .inp 103, .inp 104, .inp 105, .inp 106, .inp 107, .inp 108, .inp 109, .inp 110, .inp 111, .inp 112, .inp 113], .bool true]))
 (.seg [.chk [] (.bin .eql) [qka4_9, .int .u8 2]] <|
.seg [.chk [(qka4_15, true)] (.un .not) [qka4_16]] <|
.seg [.call 118 [(qka4_17, false), (qka4_15, true)] 19 [qka4_0, qka4_1, .inp 114] false] <|
.seg [.chk [(qka4_17, false), (qka4_15, true)] (.un .not) [.inp 118]] <|
.seg [.chk [(qka4_15, true)] .pick [qka4_17, .bool true, .app (.un .not) [.inp 118]]] <|
.seg [.chk [] .pick [qka4_15, qka4_18, .bool false]] <|
.seg [.bind 119 (.app .pick [qka4_15, qka4_18, .bool false])] <|
.cond (.inp 119)
 (.seg [.chk [] (.szs 23) [.inp 116],
.chk [] (.slice false true) [.inp 116, .inp 117],
.chk [] (.szs 23) [qka4_10],
.chk [] .app [.app .lst [], qka4_10],
.chk [] (.bin .add) [.inp 117, .int .i64 1],
.chk [] (.szs 23) [.inp 116],
.chk [] (.slice true false) [.inp 116, qka4_11],
.chk [] (.szs 23) [qka4_12],
.chk [] .app [qka4_13, qka4_12]] <|
.seg [.bind 120 (qka4_14)] <|
.seg [.chk [] (.isAgg 74) [.agg [.inp 40, .row 129, .inp 42, .inp 43, .inp 44, .inp 45, .inp 46, .inp 47, .inp 48, .inp 49, .inp 50, .inp 51, .inp 52, .inp 53, .inp 54, .inp 55, .inp 56, .inp 57, .inp 58, .inp 59, .inp 60, .inp 61, .inp 62, .inp 63, .inp 64, .inp 65, .inp 66, .inp 67, .inp 68, .inp 69, .inp 70, .inp 71, .inp 72, .inp 73, .inp 74, .inp 75, .inp 76, .inp 77, .inp 78, .inp 79, .inp 80, .inp 81, .inp 82, .inp 83, .inp 84, .inp 85, .inp 86, .inp 87, .inp 88, .inp 89, .inp 90, .inp 91, .inp 92, .inp 93, .inp 94, .inp 95, .inp 96, .inp 97, .inp 98, .inp 99, .inp 100, .inp 101, .inp 102, .inp 103, .inp 104, .inp 105, .inp 106, .inp 107, .inp 108, .inp 109, .inp 110, .inp 111, .inp 112, .inp 113]]] <|
.ret (.tup [.agg [.inp 40, .inp 120, .inp 42, .inp 43, .inp 44, .inp 45, .inp 46, .inp 47, .inp 48, .inp 49, .inp 50, .inp 51, .inp 52, .inp 53, .inp 54, .inp 55, .inp 56, .inp 57, .inp 58, .inp 59, .inp 60, .inp 61, .inp 62, .inp 63, .inp 64, .inp 65, .inp 66, .inp 67, .inp 68, .inp 69, .inp 70, .inp 71, .inp 72, .inp 73, .inp 74, .inp 75, .inp 76, .inp 77, .inp 78, .inp 79, .inp 80, .inp 81, .inp 82, .inp 83, .inp 84, .inp 85, .inp 86, .inp 87, .inp 88, .inp 89, .inp 90, .inp 91, .inp 92, .inp 93, .inp 94, .inp 95, .inp 96, .inp 97, .inp 98, .inp 99, .inp 100, .inp 101, .inp 102, .inp 103, .inp 104, .inp 105, .inp 106, .inp 107, .inp 108, .inp 109, .inp 110, .inp 111, .inp 112, .inp 113], .bool true]))
 (.seg [.chk [] (.bin .eql) [qka4_9, .int .u8 2]] <|
.cond (qka4_15)
 (.seg [.chk [] (.eidx 23) [.inp 116, .inp 117]] <|
.seg [.chk [] (.inr 4294967296) [.inp 117]] <|
.seg [.chk [] (.rowset 23 6 1) [.inp 116, .inp 117, .agg [.int .u8 4]]] <|
.seg [.chk [] (.eidx 23) [qka4_19, .inp 117]] <|
.seg [.chk [] (.inr 4294967296) [.inp 117]] <|
.seg [.chk [] (.rowset 23 21 1) [qka4_19, .inp 117, .agg [.inp 7]],
.chk [] .isOne [.inp 7]] <|
.seg [.chk [] (.isAgg 74) [qka4_5]] <|
.ret (qka4_20))
 (.seg [.chk [] (.bin .eql) [qka4_9, .int .u8 3]] <|
.seg [.call 120 [(qka4_21, true)] 17 [qka4_0, qka4_1, .agg [.app (.part 0 1 false) [qka4_8], .app (.part 1 1 false) [qka4_8], .app (.part 2 1 false) [qka4_8], .app (.part 3 1 false) [qka4_8], .app (.part 4 1 false) [qka4_8], .app (.part 5 1 false) [qka4_8], qka4_9, .app (.part 7 1 false) [qka4_8], .app (.part 8 1 false) [qka4_8], .app (.part 9 1 false) [qka4_8], .app (.part 10 1 false) [qka4_8], .app (.part 11 1 false) [qka4_8], .app (.part 12 1 false) [qka4_8], .app (.part 13 1 false) [qka4_8], .app (.part 14 1 false) [qka4_8], .app (.part 15 1 false) [qka4_8], .app (.part 16 1 false) [qka4_8], .app (.part 17 1 false) [qka4_8], .app (.part 18 1 false) [qka4_8], .app (.part 19 1 false) [qka4_8], .app (.part 20 1 false) [qka4_8], .app (.part 21 1 false) [qka4_8], qka4_16]] false] <|
.seg [.chk [(qka4_21, true)] (.un .not) [.inp 120]] <|
.seg [.chk [] .pick [qka4_21, .app (.un .not) [.inp 120], .bool false]] <|
.seg [.bind 121 (.app .pick [qka4_21, .app (.un .not) [.inp 120], .bool false])] <|
.cond (.inp 121)
 (.seg [.chk [] (.eidx 23) [.inp 116, .inp 117]] <|
.seg [.chk [] (.inr 4294967296) [.inp 117]] <|
.seg [.chk [] (.rowset 23 6 1) [.inp 116, .inp 117, .agg [.int .u8 4]]] <|
.seg [.chk [] (.eidx 23) [qka4_19, .inp 117]] <|
.seg [.chk [] (.inr 4294967296) [.inp 117]] <|
.seg [.chk [] (.rowset 23 21 1) [qka4_19, .inp 117, .agg [.inp 7]],
.chk [] .isOne [.inp 7]] <|
.seg [.chk [] (.isAgg 74) [qka4_5]] <|
.ret (qka4_20))
 (.seg [.chk [] (.isAgg 74) [qka4_5]] <|
.ret (qka4_7)))))))
theorem run_lockbarref22_Cancel : runF E 11 [.agg [.inp 0, .inp 1, .inp 2, .inp 3, .inp 4, .inp 5, .inp 6, .inp 7, .inp 8, .inp 9, .inp 10], .agg [.inp 11, .inp 12, .inp 13, .inp 14, .inp 15, .inp 16, .inp 17, .inp 18, .inp 19, .inp 20, .inp 21, .inp 22, .inp 23, .inp 24, .inp 25, .inp 26, .inp 27, .inp 28, .inp 29, .inp 30, .inp 31, .inp 32, .inp 33, .inp 34, .inp 35, .inp 36, .inp 37, .inp 38, .inp 39], .agg [.inp 40, .inp 41, .inp 42, .inp 43, .inp 44, .inp 45, .inp 46, .inp 47, .inp 48, .inp 49, .inp 50, .inp 51, .inp 52, .inp 53, .inp 54, .inp 55, .inp 56, .inp 57, .inp 58, .inp 59, .inp 60, .inp 61, .inp 62, .inp 63, .inp 64, .inp 65, .inp 66, .inp 67, .inp 68, .inp 69, .inp 70, .inp 71, .inp 72, .inp 73, .inp 74, .inp 75, .inp 76, .inp 77, .inp 78, .inp 79, .inp 80, .inp 81, .inp 82, .inp 83, .inp 84, .inp 85, .inp 86, .inp 87, .inp 88, .inp 89, .inp 90, .inp 91, .inp 92, .inp 93, .inp 94, .inp 95, .inp 96, .inp 97, .inp 98, .inp 99, .inp 100, .inp 101, .inp 102, .inp 103, .inp 104, .inp 105, .inp 106, .inp 107, .inp 108, .inp 109, .inp 110, .inp 111, .inp 112, .inp 113], .inp 114] 115 = rt_lockbarref22_Cancel := by kernel_rfl

noncomputable def rt_lockbarref22_Tick : RT :=
.seg [.chk [] (.isAgg 11) [qka4_0]] <|
.seg [.chk [] (.isAgg 29) [qka4_1]] <|
.seg [.chk [] (.isAgg 23) [qka4_22]] <|
.seg [.call 63 [] 39 [qka4_22] false] <|
.seg [.chk [] (.isAgg 23) [.inp 63]] <|
.seg [.chk [] (.bin .neq) [qka4_23, .int .u8 4]] <|
.seg [.call 64 [(qka4_24, false)] 25 [qka4_0, qka4_1] false] <|
.seg [.chk [] .pick [qka4_24, .bool true, .inp 64]] <|
.cond (.app .pick [qka4_24, .bool true, .inp 64])
 (.seg [.chk [] (.isAgg 23) [qka4_47]] <|
.ret (qka4_48))
 (.seg [.call 65 [] 40 [qka4_0, qka4_1, qka4_47] false] <|
.cond (.inp 65)
 (.seg [.call 66 [] 26 [qka4_0, qka4_1, .agg [qka4_25, qka4_26, qka4_27, qka4_28, qka4_29, qka4_30, .int .u8 3, qka4_31, qka4_32, qka4_33, qka4_34, qka4_35, qka4_36, qka4_37, qka4_38, qka4_39, qka4_40, qka4_41, qka4_42, qka4_43, qka4_44, .int .i64 0, qka4_46]] false] <|
.seg [.chk [] (.isAgg 23) [.inp 66]] <|
.ret (.tup [.agg [.app (.part 0 1 false) [.inp 66], .app (.part 1 1 false) [.inp 66], .app (.part 2 1 false) [.inp 66], .app (.part 3 1 false) [.inp 66], .app (.part 4 1 false) [.inp 66], .app (.part 5 1 false) [.inp 66], .app (.part 6 1 false) [.inp 66], .app (.part 7 1 false) [.inp 66], .app (.part 8 1 false) [.inp 66], .app (.part 9 1 false) [.inp 66], .app (.part 10 1 false) [.inp 66], .app (.part 11 1 false) [.inp 66], .app (.part 12 1 false) [.inp 66], .app (.part 13 1 false) [.inp 66], .app (.part 14 1 false) [.inp 66], .app (.part 15 1 false) [.inp 66], .app (.part 16 1 false) [.inp 66], .app (.part 17 1 false) [.inp 66], .app (.part 18 1 false) [.inp 66], .app (.part 19 1 false) [.inp 66], .app (.part 20 1 false) [.inp 66], .app (.part 21 1 false) [.inp 66], .app (.part 22 1 false) [.inp 66]], .bool false]))
 (.seg [.call 66 [] 17 [qka4_0, qka4_1, qka4_47] false] <|
.cond (.inp 66)
 (.seg [.chk [] (.isAgg 23) [qka4_47]] <|
.ret (qka4_48))
 (.seg [.call 67 [] 27 [qka4_45] false] <|
.seg [.chk [] .isOne [.inp 67]] <|
.seg [.chk [] (.bin .eql) [.inp 67, .int .i64 0],
.chk [] (.isAgg 23) [qka4_49]] <|
.ret (.tup [qka4_49, .app (.bin .eql) [.inp 67, .int .i64 0]]))))
theorem run_lockbarref22_Tick : runF E 13 [.agg [.inp 0, .inp 1, .inp 2, .inp 3, .inp 4, .inp 5, .inp 6, .inp 7, .inp 8, .inp 9, .inp 10], .agg [.inp 11, .inp 12, .inp 13, .inp 14, .inp 15, .inp 16, .inp 17, .inp 18, .inp 19, .inp 20, .inp 21, .inp 22, .inp 23, .inp 24, .inp 25, .inp 26, .inp 27, .inp 28, .inp 29, .inp 30, .inp 31, .inp 32, .inp 33, .inp 34, .inp 35, .inp 36, .inp 37, .inp 38, .inp 39], .agg [.inp 40, .inp 41, .inp 42, .inp 43, .inp 44, .inp 45, .inp 46, .inp 47, .inp 48, .inp 49, .inp 50, .inp 51, .inp 52, .inp 53, .inp 54, .inp 55, .inp 56, .inp 57, .inp 58, .inp 59, .inp 60, .inp 61, .inp 62]] 63 = rt_lockbarref22_Tick := by kernel_rfl

noncomputable def rt_lockbarlaw22_three : RT :=
.seg [.bind 0 (.app .lst [.agg [.int .u8 1, .int .i64 (-1), .int .i64 0, .int .i64 1, .int .i64 0, .int .i64 (-1), .int .i64 0, .int .i64 (-1), .int .i64 0, .int .i64 0, .int .i64 0], .agg [.int .u8 1, .int .i64 0, .int .i64 1, .int .i64 2, .int .i64 0, .int .i64 (-1), .int .i64 0, .int .i64 (-1), .int .i64 0, .int .i64 0, .int .i64 0], .agg [.int .u8 1, .int .i64 1, .int .i64 1, .int .i64 (-1), .int .i64 0, .int .i64 (-1), .int .i64 0, .int .i64 (-1), .int .i64 0, .int .i64 0, .int .i64 0]])] <|
.seg [.call 1 [] 22 [] false,
.call 2 [] 21 [qka4_50, .inp 1, .agg [.int .u32 0, .int .u32 0, .int .u32 0, .int .u32 0]] true,
.chk [] (.isAgg 29) [.inp 2]] <|
.seg [.call 3 [] 21 [qka4_50, qka4_51, .agg [.int .u32 1, .int .u32 0, .int .u32 0, .int .u32 0]] true,
.chk [] (.isAgg 29) [qka4_51],
.chk [] (.isAgg 29) [.inp 3]] <|
.ret (.tup [qka4_50, qka4_51, .agg [.app (.part 0 1 false) [.inp 3], .app (.part 1 1 false) [.inp 3], .app (.part 2 1 false) [.inp 3], .app (.part 3 1 false) [.inp 3], .app (.part 4 1 false) [.inp 3], .app (.part 5 1 false) [.inp 3], .app (.part 6 1 false) [.inp 3], .app (.part 7 1 false) [.inp 3], .app (.part 8 1 false) [.inp 3], .app (.part 9 1 false) [.inp 3], .app (.part 10 1 false) [.inp 3], .app (.part 11 1 false) [.inp 3], .app (.part 12 1 false) [.inp 3], .app (.part 13 1 false) [.inp 3], .app (.part 14 1 false) [.inp 3], .app (.part 15 1 false) [.inp 3], .app (.part 16 1 false) [.inp 3], .app (.part 17 1 false) [.inp 3], .app (.part 18 1 false) [.inp 3], .app (.part 19 1 false) [.inp 3], .app (.part 20 1 false) [.inp 3], .app (.part 21 1 false) [.inp 3], .app (.part 22 1 false) [.inp 3], .app (.part 23 1 false) [.inp 3], .app (.part 24 1 false) [.inp 3], .app (.part 25 1 false) [.inp 3], .app (.part 26 1 false) [.inp 3], .app (.part 27 1 false) [.inp 3], .app (.part 28 1 false) [.inp 3]], .agg [.int .i64 5, .int .i64 0, .int .i64 0, .app .lst [.agg [.int .i64 1, .int .i64 0, .int .i64 1], .agg [.int .i64 2, .int .i64 0, .int .i64 1]], .nils, .nils, .int .u8 2, .int .i64 0, .bool false, .bool false, .bool false, .bool false, .bool false, .bool false, .bool false, .bool false, .bool false, .bool false, .bool false, .bool false, .bool false, .int .i64 0, .bool true]])
theorem run_lockbarlaw22_three : runF E 28 [] 0 = rt_lockbarlaw22_three := by kernel_rfl

noncomputable def rt_lockbarlaw22_wakes : RT :=
.seg [.call 0 [] 28 [] false] <|
.seg [.chk [] (.tproj 0) [.inp 0]] <|
.seg [.chk [] (.tproj 1) [.inp 0]] <|
.seg [.chk [] (.tproj 2) [.inp 0]] <|
.seg [.chk [] (.tproj 3) [.inp 0]] <|
.seg [.chk [] (.isAgg 11) [.app (.tproj 0) [.inp 0]]] <|
.seg [.chk [] (.isAgg 29) [.app (.tproj 1) [.inp 0]]] <|
.seg [.chk [] (.isAgg 29) [.app (.tproj 2) [.inp 0]]] <|
.seg [.chk [] (.isAgg 23) [.app (.tproj 3) [.inp 0]]] <|
.seg [.chk [] (.isAgg 23) [qka4_52]] <|
.seg [.bind 1 (.app .lst [qka4_52])] <|
.seg [.call 2 [] 10 [qka4_53, qka4_54, qka4_55, .int .i64 0] false] <|
.seg [.chk [] (.tproj 0) [.inp 2]] <|
.seg [.chk [] (.tproj 1) [.inp 2]] <|
.seg [.chk [] (.isAgg 74) [.app (.tproj 0) [.inp 2]]] <|
.seg [.call 3 [] 10 [qka4_53, qka4_56, qka4_55, .int .i64 0] false] <|
.seg [.chk [] (.tproj 0) [.inp 3]] <|
.seg [.chk [] (.tproj 1) [.inp 3]] <|
.seg [.chk [] (.isAgg 74) [.app (.tproj 0) [.inp 3]]] <|
.seg [.call 4 [] 10 [qka4_53, qka4_54, qka4_55, .int .i64 1] false] <|
.seg [.chk [] (.tproj 0) [.inp 4]] <|
.seg [.chk [] (.tproj 1) [.inp 4]] <|
.seg [.chk [] (.isAgg 74) [.app (.tproj 0) [.inp 4]]] <|
.seg [.chk [] .len [qka4_57]] <|
.seg [.chk [] (.bin .neq) [qka4_58, .int .i64 1]] <|
.cond (.app (.bin .neq) [qka4_58, .int .i64 1])
 (.ret (.bool false))
 (.seg [.chk [] (.eidx 23) [qka4_57, .int .i64 0],
.chk [] (.eload 23 true) [qka4_59],
.call 5 [] 12 [qka4_53, qka4_56, .app (.eload 23 true) [qka4_59]] false,
.chk [] (.tproj 0) [.inp 5],
.chk [] (.tproj 1) [.inp 5],
.chk [] (.isAgg 23) [.app (.tproj 0) [.inp 5]]] <|
.seg [.call 6 [] 12 [qka4_53, qka4_56, qka4_61] false] <|
.seg [.chk [] (.tproj 0) [.inp 6]] <|
.seg [.chk [] (.tproj 1) [.inp 6]] <|
.seg [.chk [] (.isAgg 23) [.app (.tproj 0) [.inp 6]]] <|
.seg [.call 7 [] 21 [qka4_53, qka4_56, .agg [.int .u32 4, .int .u32 0, .int .u32 0, .int .u32 0]] false,
.call 8 [] 12 [qka4_53, .inp 7, qka4_61] false,
.chk [] (.tproj 0) [.inp 8],
.chk [] (.tproj 1) [.inp 8],
.chk [] (.isAgg 23) [.app (.tproj 0) [.inp 8]]] <|
.seg [.chk [] .len [qka4_62],
.chk [] (.bin .eql) [qka4_63, .int .i64 0],
.chk [] .pick [qka4_64, .app (.tproj 1) [.inp 2], .bool false],
.chk [] .pick [qka4_65, .app (.tproj 1) [.inp 3], .bool false],
.chk [(qka4_66, true)] (.eidx 23) [qka4_57, .int .i64 0],
.chk [(qka4_66, true)] (.eoff 6) [qka4_59],
.chk [(qka4_66, true)] (.eload 1 false) [qka4_67],
.chk [(qka4_66, true)] (.bin .eql) [qka4_68, .int .u8 4],
.chk [] .pick [qka4_66, qka4_69, .bool false],
.chk [(qka4_70, true)] (.eidx 23) [qka4_57, .int .i64 0],
.chk [(qka4_70, true)] (.eoff 21) [qka4_59],
.chk [(qka4_70, true)] (.eload 1 false) [qka4_71],
.chk [(qka4_70, true)] (.bin .eql) [qka4_72, .int .i64 2],
.chk [] .pick [qka4_70, qka4_73, .bool false],
.chk [(qka4_74, true)] (.un .not) [.app (.tproj 1) [.inp 4]],
.chk [] .pick [qka4_74, qka4_75, .bool false],
.call 9 [(qka4_76, true)] 14 [.agg [.app (.part 0 1 false) [.app (.tproj 0) [.inp 4]], .app (.part 1 1 false) [.app (.tproj 0) [.inp 4]], .app (.part 2 1 false) [.app (.tproj 0) [.inp 4]], .app (.part 3 1 false) [.app (.tproj 0) [.inp 4]], .app (.part 4 1 false) [.app (.tproj 0) [.inp 4]], .app (.part 5 1 false) [.app (.tproj 0) [.inp 4]], .app (.part 6 1 false) [.app (.tproj 0) [.inp 4]], .app (.part 7 1 false) [.app (.tproj 0) [.inp 4]], .app (.part 8 1 false) [.app (.tproj 0) [.inp 4]], .app (.part 9 1 false) [.app (.tproj 0) [.inp 4]], .app (.part 10 1 false) [.app (.tproj 0) [.inp 4]], .app (.part 11 1 false) [.app (.tproj 0) [.inp 4]], .app (.part 12 1 false) [.app (.tproj 0) [.inp 4]], .app (.part 13 1 false) [.app (.tproj 0) [.inp 4]], .app (.part 14 1 false) [.app (.tproj 0) [.inp 4]], .app (.part 15 1 false) [.app (.tproj 0) [.inp 4]], .app (.part 16 1 false) [.app (.tproj 0) [.inp 4]], .app (.part 17 1 false) [.app (.tproj 0) [.inp 4]], .app (.part 18 1 false) [.app (.tproj 0) [.inp 4]], .app (.part 19 1 false) [.app (.tproj 0) [.inp 4]], .app (.part 20 1 false) [.app (.tproj 0) [.inp 4]], .app (.part 21 1 false) [.app (.tproj 0) [.inp 4]], .app (.part 22 1 false) [.app (.tproj 0) [.inp 4]], .app (.part 23 1 false) [.app (.tproj 0) [.inp 4]], .app (.part 24 1 false) [.app (.tproj 0) [.inp 4]], .app (.part 25 1 false) [.app (.tproj 0) [.inp 4]], .app (.part 26 1 false) [.app (.tproj 0) [.inp 4]], .app (.part 27 1 false) [.app (.tproj 0) [.inp 4]], .app (.part 28 1 false) [.app (.tproj 0) [.inp 4]], .app (.part 29 1 false) [.app (.tproj 0) [.inp 4]], .app (.part 30 1 false) [.app (.tproj 0) [.inp 4]], .app (.part 31 1 false) [.app (.tproj 0) [.inp 4]], .app (.part 32 1 false) [.app (.tproj 0) [.inp 4]], .app (.part 33 1 false) [.app (.tproj 0) [.inp 4]], .app (.part 34 1 false) [.app (.tproj 0) [.inp 4]], .app (.part 35 1 false) [.app (.tproj 0) [.inp 4]], .app (.part 36 1 false) [.app (.tproj 0) [.inp 4]], .app (.part 37 1 false) [.app (.tproj 0) [.inp 4]], .app (.part 38 1 false) [.app (.tproj 0) [.inp 4]], .app (.part 39 1 false) [.app (.tproj 0) [.inp 4]], .app (.part 40 1 false) [.app (.tproj 0) [.inp 4]], .app (.part 41 1 false) [.app (.tproj 0) [.inp 4]], .app (.part 42 1 false) [.app (.tproj 0) [.inp 4]], .app (.part 43 1 false) [.app (.tproj 0) [.inp 4]], .app (.part 44 1 false) [.app (.tproj 0) [.inp 4]], .app (.part 45 1 false) [.app (.tproj 0) [.inp 4]], .app (.part 46 1 false) [.app (.tproj 0) [.inp 4]], .app (.part 47 1 false) [.app (.tproj 0) [.inp 4]], .app (.part 48 1 false) [.app (.tproj 0) [.inp 4]], .app (.part 49 1 false) [.app (.tproj 0) [.inp 4]], .app (.part 50 1 false) [.app (.tproj 0) [.inp 4]], .app (.part 51 1 false) [.app (.tproj 0) [.inp 4]], .app (.part 52 1 false) [.app (.tproj 0) [.inp 4]], .app (.part 53 1 false) [.app (.tproj 0) [.inp 4]], .app (.part 54 1 false) [.app (.tproj 0) [.inp 4]], .app (.part 55 1 false) [.app (.tproj 0) [.inp 4]], .app (.part 56 1 false) [.app (.tproj 0) [.inp 4]], .app (.part 57 1 false) [.app (.tproj 0) [.inp 4]], .app (.part 58 1 false) [.app (.tproj 0) [.inp 4]], .app (.part 59 1 false) [.app (.tproj 0) [.inp 4]], .app (.part 60 1 false) [.app (.tproj 0) [.inp 4]], .app (.part 61 1 false) [.app (.tproj 0) [.inp 4]], .app (.part 62 1 false) [.app (.tproj 0) [.inp 4]], .app (.part 63 1 false) [.app (.tproj 0) [.inp 4]], .app (.part 64 1 false) [.app (.tproj 0) [.inp 4]], .app (.part 65 1 false) [.app (.tproj 0) [.inp 4]], .app (.part 66 1 false) [.app (.tproj 0) [.inp 4]], .app (.part 67 1 false) [.app (.tproj 0) [.inp 4]], .app (.part 68 1 false) [.app (.tproj 0) [.inp 4]], .app (.part 69 1 false) [.app (.tproj 0) [.inp 4]], .app (.part 70 1 false) [.app (.tproj 0) [.inp 4]], .app (.part 71 1 false) [.app (.tproj 0) [.inp 4]], .app (.part 72 1 false) [.app (.tproj 0) [.inp 4]], .app (.part 73 1 false) [.app (.tproj 0) [.inp 4]]], qka4_55] false,
.chk [] .pick [qka4_76, .inp 9, .bool false],
.chk [(qka4_77, true)] (.un .not) [.app (.tproj 1) [.inp 5]],
.chk [] .pick [qka4_77, qka4_78, .bool false],
.chk [(qka4_79, true)] (.bin .eql) [qka4_60, .int .i64 1],
.chk [] .pick [qka4_79, qka4_80, .bool false],
.chk [] .pick [qka4_81, .app (.tproj 1) [.inp 6], .bool false],
.chk [(qka4_82, true)] (.un .not) [.app (.tproj 1) [.inp 8]],
.chk [] .pick [qka4_82, qka4_83, .bool false],
.chk [(qka4_84, true)] (.bin .eql) [qka4_85, .int .u8 3],
.chk [] .pick [qka4_84, qka4_86, .bool false],
.chk [(qka4_87, true)] (.bin .eql) [qka4_88, .int .i64 0],
.chk [] .pick [qka4_87, qka4_89, .bool false],
.call 10 [(qka4_90, true)] 18 [qka4_53, qka4_56, .int .i64 0] false,
.chk [] .pick [qka4_90, .inp 10, .bool false],
.call 11 [(qka4_91, true)] 18 [qka4_53, qka4_54, .int .i64 0] false,
.chk [(qka4_91, true)] (.un .not) [.inp 11],
.chk [] .pick [qka4_91, .app (.un .not) [.inp 11], .bool false],
.call 12 [(qka4_92, true)] 18 [qka4_53, qka4_54, .int .i64 1] false,
.chk [(qka4_92, true)] (.un .not) [.inp 12],
.chk [] .pick [qka4_92, .app (.un .not) [.inp 12], .bool false],
.call 13 [(qka4_93, true)] 16 [qka4_53, qka4_56, qka4_52] false,
.chk [(qka4_93, true)] (.un .not) [.inp 13],
.chk [] .pick [qka4_93, .app (.un .not) [.inp 13], .bool false],
.call 14 [(qka4_94, true)] 22 [] false,
.call 15 [(qka4_94, true)] 16 [qka4_53, .inp 14, qka4_52] false,
.chk [] .pick [qka4_94, .inp 15, .bool false]] <|
.seg [.bind 16 (.app .pick [qka4_94, .inp 15, .bool false]),
.bind 17 (qka4_65),
.bind 18 (qka4_66),
.bind 19 (qka4_70),
.bind 20 (qka4_74),
.bind 21 (qka4_76),
.bind 22 (qka4_77),
.bind 23 (qka4_79),
.bind 24 (qka4_81),
.bind 25 (qka4_82),
.bind 26 (qka4_84),
.bind 27 (qka4_87),
.bind 28 (qka4_90),
.bind 29 (qka4_91),
.bind 30 (qka4_92),
.bind 31 (qka4_93),
.bind 32 (qka4_94)] <|
.ret (.inp 16))
theorem run_lockbarlaw22_wakes : runF E 9 [] 0 = rt_lockbarlaw22_wakes := by kernel_rfl

end Go.Lb.LK


namespace Go.Proofs
open Go.Shelf
def Tryz.lays125_ren : Go.Shelf.Ren := ⟨fun | 125 => 109 | 128 => 122 | 129 => 123 | n => n, fun | 46 => 122 | 3 => 3 | 51 => 31 | 53 => 157 | 4 => 4 | 5 => 5 | 9 => 9 | n => n, fun | n => n⟩
theorem Tryz.lays125 : Go.Proofs.Lays.n125 Tryz.prog Tryz.lays125_ren := {
  mixed := by kernel_rfl
  f125 := Tryz.func109.trans (congrArg some (by kernel_rfl))
  f128 := Tryz.func122.trans (congrArg some (by kernel_rfl))
  f129 := Tryz.func123.trans (congrArg some (by kernel_rfl))
  t3 := Tryz.underlying3
  a3 := Tryz.isAgg3
  z3 := Tryz.sizeOf3
  v3 := Tryz.zeroValue3
  t4 := Tryz.underlying4
  a4 := Tryz.isAgg4
  z4 := Tryz.sizeOf4
  v4 := Tryz.zeroValue4
  t5 := Tryz.underlying5
  a5 := Tryz.isAgg5
  z5 := Tryz.sizeOf5
  v5 := Tryz.zeroValue5
  t9 := Tryz.underlying9
  a9 := Tryz.isAgg9
  z9 := Tryz.sizeOf9
  v9 := Tryz.zeroValue9
  t46 := Tryz.underlying122
  a46 := Tryz.isAgg122
  z46 := Tryz.sizeOf122
  v46 := Tryz.zeroValue122
  t51 := Tryz.underlying31
  a51 := Tryz.isAgg31
  z51 := Tryz.sizeOf31
  v51 := Tryz.zeroValue31
  t53 := Tryz.underlying157
  a53 := Tryz.isAgg157
  z53 := Tryz.sizeOf157
  v53 := Tryz.zeroValue157 }
/-- bits.Len: "Len returns the minimum number of bits required to represent x; the result is 0 for x == 0.": IT RETURNS 'Lib.bitLen x'; the world is as it was. (A uint has 64 bits in the model.) ITS CALLEE bits.Len64 IS MET BY ITS OWN CONTRACT OFF THE SHELF (lay that first). (LAID: no walk: one application.) -/
theorem Tryz.bits_Len (x : Int) (w : World) (h0 : 0 ≤ x) (h1 : x ≤ 18446744073709551615) :
    Calls Tryz.prog 109 #[.int .u64 x] w fun e w' => e = .returned (.int .i64 (Lib.bitLen x.toNat)) ∧ w' = w := Any.bits_Len Tryz.lays125 x w h0 h1
def Tryz.lays189_ren : Go.Shelf.Ren := ⟨fun | 189 => 96 | 125 => 109 | 257 => 108 | 128 => 122 | 129 => 123 | 294 => 113 | 295 => 114 | 296 => 115 | 297 => 116 | 298 => 117 | 299 => 118 | 216 => 119 | 300 => 120 | 301 => 121 | 328 => 124 | 329 => 125 | 330 => 126 | 331 => 127 | 332 => 128 | 215 => 129 | 343 => 130 | n => n, fun | 28 => 116 | 3 => 3 | 46 => 122 | 0 => 0 | 51 => 31 | 53 => 157 | 4 => 4 | 183 => 149 | 182 => 148 | 131 => 153 | 5 => 5 | 9 => 9 | 218 => 159 | 222 => 163 | 228 => 165 | 229 => 166 | n => n, fun | n => n⟩
theorem Tryz.lays189 : Go.Proofs.Lays.n189 Tryz.prog Tryz.lays189_ren := {
  mixed := by kernel_rfl
  f125 := Tryz.func109.trans (congrArg some (by kernel_rfl))
  f128 := Tryz.func122.trans (congrArg some (by kernel_rfl))
  f129 := Tryz.func123.trans (congrArg some (by kernel_rfl))
  f189 := Tryz.func96.trans (congrArg some (by kernel_rfl))
  f215 := Tryz.func129.trans (congrArg some (by kernel_rfl))
  f216 := Tryz.func119.trans (congrArg some (by kernel_rfl))
  f257 := Tryz.func108.trans (congrArg some (by kernel_rfl))
  f294 := Tryz.func113.trans (congrArg some (by kernel_rfl))
  f295 := Tryz.func114.trans (congrArg some (by kernel_rfl))
  f296 := Tryz.func115.trans (congrArg some (by kernel_rfl))
  f297 := Tryz.func116.trans (congrArg some (by kernel_rfl))
  f298 := Tryz.func117.trans (congrArg some (by kernel_rfl))
  f299 := Tryz.func118.trans (congrArg some (by kernel_rfl))
  f300 := Tryz.func120.trans (congrArg some (by kernel_rfl))
  f301 := Tryz.func121.trans (congrArg some (by kernel_rfl))
  f328 := Tryz.func124.trans (congrArg some (by kernel_rfl))
  f329 := Tryz.func125.trans (congrArg some (by kernel_rfl))
  f330 := Tryz.func126.trans (congrArg some (by kernel_rfl))
  f331 := Tryz.func127.trans (congrArg some (by kernel_rfl))
  f332 := Tryz.func128.trans (congrArg some (by kernel_rfl))
  f343 := Tryz.func130.trans (congrArg some (by kernel_rfl))
  t0 := Tryz.underlying0
  a0 := Tryz.isAgg0
  z0 := Tryz.sizeOf0
  v0 := Tryz.zeroValue0
  t3 := Tryz.underlying3
  a3 := Tryz.isAgg3
  z3 := Tryz.sizeOf3
  v3 := Tryz.zeroValue3
  t4 := Tryz.underlying4
  a4 := Tryz.isAgg4
  z4 := Tryz.sizeOf4
  v4 := Tryz.zeroValue4
  t5 := Tryz.underlying5
  a5 := Tryz.isAgg5
  z5 := Tryz.sizeOf5
  v5 := Tryz.zeroValue5
  t9 := Tryz.underlying9
  a9 := Tryz.isAgg9
  z9 := Tryz.sizeOf9
  v9 := Tryz.zeroValue9
  t28 := Tryz.underlying116
  a28 := Tryz.isAgg116
  z28 := Tryz.sizeOf116
  v28 := Tryz.zeroValue116
  t46 := Tryz.underlying122
  a46 := Tryz.isAgg122
  z46 := Tryz.sizeOf122
  v46 := Tryz.zeroValue122
  t51 := Tryz.underlying31
  a51 := Tryz.isAgg31
  z51 := Tryz.sizeOf31
  v51 := Tryz.zeroValue31
  t53 := Tryz.underlying157
  a53 := Tryz.isAgg157
  z53 := Tryz.sizeOf157
  v53 := Tryz.zeroValue157
  t131 := Tryz.underlying153
  a131 := Tryz.isAgg153
  z131 := Tryz.sizeOf153
  v131 := Tryz.zeroValue153
  t182 := Tryz.underlying148
  a182 := Tryz.isAgg148
  z182 := Tryz.sizeOf148
  v182 := Tryz.zeroValue148
  t183 := Tryz.underlying149
  a183 := Tryz.isAgg149
  z183 := Tryz.sizeOf149
  v183 := Tryz.zeroValue149
  t218 := Tryz.underlying159
  a218 := Tryz.isAgg159
  z218 := Tryz.sizeOf159
  v218 := Tryz.zeroValue159
  t222 := Tryz.underlying163
  a222 := Tryz.isAgg163
  z222 := Tryz.sizeOf163
  v222 := Tryz.zeroValue163
  t228 := Tryz.underlying165
  a228 := Tryz.isAgg165
  z228 := Tryz.sizeOf165
  v228 := Tryz.zeroValue165
  t229 := Tryz.underlying166
  a229 := Tryz.isAgg166
  z229 := Tryz.sizeOf166
  v229 := Tryz.zeroValue166 }
open Go.Sort Go.RowKit in
theorem Tryz.slices_Sort_int (blk off cap : Nat) (zs : List Int) (w : World) (hH : Holds (Value.int .i64) w blk off zs.toArray) (hblk : blk < w.heap.size) (hsz : zs.length < 4611686018427387904) :
    Calls Tryz.prog 96 #[.slice (some ⟨blk, off, none⟩) zs.length cap] w fun e w' =>
      e = .returned (.tuple #[]) ∧ ∃ n os, w' = grow (putRow (Value.int .i64) (Sort.ahead w n) blk off (zs.mergeSort fun x y => decide (x ≤ y)).toArray) os := Any.slices_Sort_int Tryz.lays189 blk off cap zs w hH hblk hsz
def Tryz.laysNm220_ren : Go.Shelf.Ren := ⟨fun | 20 => 97 | n => n, fun | 22 => 116 | 3 => 3 | 4 => 4 | 0 => 0 | n => n, fun | n => n⟩
theorem Tryz.laysNm220 : Go.Proofs.Lays2.n20 Tryz.prog Tryz.laysNm220_ren := {
  mixed := by kernel_rfl
  f20 := Tryz.func97.trans (congrArg some (by kernel_rfl))
  t0 := Tryz.underlying0
  a0 := Tryz.isAgg0
  z0 := Tryz.sizeOf0
  v0 := Tryz.zeroValue0
  t3 := Tryz.underlying3
  a3 := Tryz.isAgg3
  z3 := Tryz.sizeOf3
  v3 := Tryz.zeroValue3
  t4 := Tryz.underlying4
  a4 := Tryz.isAgg4
  z4 := Tryz.sizeOf4
  v4 := Tryz.zeroValue4
  t22 := Tryz.underlying116
  a22 := Tryz.isAgg116
  z22 := Tryz.sizeOf116
  v22 := Tryz.zeroValue116
  i3 := by kernel_rfl }
open Go.RowKit Go.Lib Go.Sort in
/-- slices.Compact at []int: "Compact replaces consecutive runs of equal elements with a single copy. This is like the uniq command found on Unix. Compact modifies the contents of the slice s and returns the modified slice, which may have a smaller length. Compact zeroes the elements between the new length and the original length. The result preserves the nilness of s.": IT RETURNS THE SLICE CUT TO 'Lib.compact zs'; ITS CELLS HOLD 'Lib.compact zs', THEN ZERO VALUES up to the old length; all else is as it was, but for the count of draws. IN THE WORDS OF slices.Sort's CONTRACT ('Holds', 'putRow'): so the everyday 'slices.Sort(xs); xs = slices.Compact(xs)' goes from the one contract to the other. It asks 'zs.length ≤ cap' (every slice's: the reslicing 's[:k]' looks at it). Length 0, nil: '.._empty'. (LAID: no walk: one application.) -/
theorem Tryz.slices_Compact_int (blk off cap : Nat) (zs : List Int) (w : World) (hH : Holds (Value.int .i64) w blk off zs.toArray) (hsz : zs.length ≤ 9223372036854775807) (hcap : zs.length ≤ cap) :
    Calls Tryz.prog 97 #[.slice (some ⟨blk, off, none⟩) zs.length cap] w fun e w' => e = .returned (.slice (some ⟨blk, off, none⟩) (Lib.compact zs).length cap) ∧ ∃ q, w' = putRow (Value.int .i64) (Sort.ahead w q) blk off (Lib.compact zs ++ List.replicate (zs.length - (Lib.compact zs).length) 0).toArray := Any.slices_Compact_int Tryz.laysNm220 blk off cap zs w hH hsz hcap
open Go.RowKit Go.Lib Go.Sort in
/-- The same at a slice of length 0, a nil one too: it comes back as it is. (LAID: no walk: one application.) -/
theorem Tryz.slices_Compact_int_empty (a : Option Addr) (cap : Nat) (w : World) :
    Calls Tryz.prog 97 #[.slice a 0 cap] w fun e w' => e = .returned (.slice a 0 cap) ∧ w' = w := Any.slices_Compact_int_empty Tryz.laysNm220 a cap w
end Go.Proofs

namespace Go.Lb.LK
open Go Go.Lb

structure Port where
  s : Int
  p : Int
  deriving DecidableEq
def Port.cells (x : Port) : List AV := [I x.s, I x.p]
abbrev Port.av (x : Port) : AV := .agg x.cells

structure Sec where
  kind : Int
  j0 : Port
  j1 : Port
  j2 : Port
  j3 : Port
  c0 : Int
  c1 : Int
  deriving DecidableEq
def Sec.cells (x : Sec) : List AV := [U x.kind, I x.j0.s, I x.j0.p, I x.j1.s, I x.j1.p, I x.j2.s, I x.j2.p, I x.j3.s, I x.j3.p, I x.c0, I x.c1]
abbrev Sec.av (x : Sec) : AV := .agg x.cells

structure Step where
  s : Int
  i : Int
  o : Int
  deriving DecidableEq
def Step.cells (x : Step) : List AV := [I x.s, I x.i, I x.o]
abbrev Step.av (x : Step) : AV := .agg x.cells

structure Exi where
  a : Port
  over : List Step
  deriving DecidableEq
def Exi.cells (x : Exi) : List AV := [I x.a.s, I x.a.p, .sl (x.over.map Step.av)]
abbrev Exi.av (x : Exi) : AV := .agg x.cells

structure Flank where
  s : Int
  way : Int
  point : Int
  pos : Int
  deriving DecidableEq
def Flank.cells (x : Flank) : List AV := [I x.s, I x.way, I x.point, I x.pos]
abbrev Flank.av (x : Flank) : AV := .agg x.cells

structure Lay where
  secs : List Sec
  sigs : List Port
  exits : List Exi
  flanks : List Flank
  clear : Int
  drive : Int
  stale : Int
  approach : Int
  over : Int
  press : Int
  link : Int
  deriving DecidableEq
def Lay.cells (l : Lay) : List AV := [.sl (l.secs.map Sec.av), .sl (l.sigs.map Port.av), .sl (l.exits.map Exi.av), .sl (l.flanks.map Flank.av), I l.clear, I l.drive, I l.stale, I l.approach, I l.over, I l.press, I l.link]
abbrev Lay.av (l : Lay) : AV := .agg l.cells

structure Path where
  sig : Int
  exit : Int
  steps : List Step
  deriving DecidableEq
def Path.cells (x : Path) : List AV := [I x.sig, I x.exit, .sl (x.steps.map Step.av)]
abbrev Path.av (x : Path) : AV := .agg x.cells

structure Need where
  p : Int
  pos : Int
  k : Int
  deriving DecidableEq
def Need.cells (x : Need) : List AV := [I x.p, I x.pos, I x.k]
abbrev Need.av (x : Need) : AV := .agg x.cells
abbrev needs (l : List Need) : AV := .sl (l.map Need.av)
abbrev steps (l : List Step) : AV := .sl (l.map Step.av)

@[simp] theorem Port.pure (x : Port) : AV.pureAll x.cells = true := by simp [Port.cells, AV.pureAll, AV.pure]
@[simp] theorem Sec.pure (x : Sec) : AV.pureAll x.cells = true := by simp [Sec.cells, AV.pureAll, AV.pure]
@[simp] theorem Step.pure (x : Step) : AV.pureAll x.cells = true := by simp [Step.cells, AV.pureAll, AV.pure]
@[simp] theorem steps_pure (l : List Step) : AV.pureAll (l.map Step.av) = true := pureAll_map _ (fun x => by simp [AV.pure]) l
@[simp] theorem Exi.pure (x : Exi) : AV.pureAll x.cells = true := by simp [Exi.cells, AV.pureAll, AV.pure]
@[simp] theorem Flank.pure (x : Flank) : AV.pureAll x.cells = true := by simp [Flank.cells, AV.pureAll, AV.pure]
@[simp] theorem Path.pure (x : Path) : AV.pureAll x.cells = true := by simp [Path.cells, AV.pureAll, AV.pure]
@[simp] theorem Need.pure (x : Need) : AV.pureAll x.cells = true := by simp [Need.cells, AV.pureAll, AV.pure]
@[simp] theorem needs_pure (l : List Need) : AV.pureAll (l.map Need.av) = true := pureAll_map _ (fun x => by simp [AV.pure]) l
@[simp] theorem Lay.pure (l : Lay) : AV.pureAll l.cells = true := by
  simp [Lay.cells, AV.pureAll, AV.pure, pureAll_map Sec.av (fun x => by simp [AV.pure]), pureAll_map Port.av (fun x => by simp [AV.pure]), pureAll_map Exi.av (fun x => by simp [AV.pure]), pureAll_map Flank.av (fun x => by simp [AV.pure])]

/-! ### The form of the data -/
def iT : TS := .int .i64
def portT : TS := .agg [iT, iT]
def secT : TS := .agg [.int .u8, .agg [portT, portT, portT, portT], .agg [iT, iT]]
def sigT : TS := .agg [portT]
def stepT : TS := .agg [iT, iT, iT]
def exitT : TS := .agg [portT, .sl true stepT]
def flankT : TS := .agg [iT, iT, iT, iT]
def timesT : TS := .agg [iT, iT, iT, iT, iT, iT, iT]
def layT : TS := .agg [.sl true secT, .sl true sigT, .sl true exitT, .sl true flankT, timesT]
def pathT : TS := .agg [iT, iT, .sl true stepT]
def needT : TS := .agg [iT, iT, iT]

theorem sec_of {cs : List AV} (h : secT.fits cs) : ∃ s : Sec, AV.agg cs = s.av ∧ 0 ≤ s.kind ∧ s.kind ≤ 255 := by
  simp only [secT, portT, iT, fits_agg, fitsAll_int, fitsAll_agg, fitsAll_nil, List.append_nil, List.cons_append, List.nil_append] at h
  obtain ⟨m, q, rfl, hm, a0, q, rfl, _, a1, q, rfl, _, a2, q, rfl, _, a3, q, rfl, _, a4, q, rfl, _, a5, q, rfl, _, a6, q, rfl, _, a7, q, rfl, _, a8, q, rfl, _, a9, q, rfl, _, rfl⟩ := h
  exact ⟨⟨m, ⟨a0, a1⟩, ⟨a2, a3⟩, ⟨a4, a5⟩, ⟨a6, a7⟩, a8, a9⟩, rfl, by simpa using hm⟩
theorem sig_of {cs : List AV} (h : sigT.fits cs) : ∃ s : Port, AV.agg cs = s.av := by
  simp only [sigT, portT, iT, fits_agg, fitsAll_int, fitsAll_agg, fitsAll_sl, fitsAll_nil, List.append_nil, List.cons_append, List.nil_append] at h
  obtain ⟨a0, q, rfl, _, a1, q, rfl, _, rfl⟩ := h
  exact ⟨⟨a0, a1⟩, rfl⟩
theorem step_of {cs : List AV} (h : stepT.fits cs) : ∃ s : Step, AV.agg cs = s.av := by
  simp only [stepT, iT, fits_agg, fitsAll_int, fitsAll_agg, fitsAll_sl, fitsAll_nil, List.append_nil, List.cons_append, List.nil_append] at h
  obtain ⟨a0, q, rfl, _, a1, q, rfl, _, a2, q, rfl, _, rfl⟩ := h
  exact ⟨⟨a0, a1, a2⟩, rfl⟩
theorem flank_of {cs : List AV} (h : flankT.fits cs) : ∃ s : Flank, AV.agg cs = s.av := by
  simp only [flankT, iT, fits_agg, fitsAll_int, fitsAll_agg, fitsAll_sl, fitsAll_nil, List.append_nil, List.cons_append, List.nil_append] at h
  obtain ⟨a0, q, rfl, _, a1, q, rfl, _, a2, q, rfl, _, a3, q, rfl, _, rfl⟩ := h
  exact ⟨⟨a0, a1, a2, a3⟩, rfl⟩
theorem need_of {cs : List AV} (h : needT.fits cs) : ∃ s : Need, AV.agg cs = s.av := by
  simp only [needT, iT, fits_agg, fitsAll_int, fitsAll_agg, fitsAll_sl, fitsAll_nil, List.append_nil, List.cons_append, List.nil_append] at h
  obtain ⟨a0, q, rfl, _, a1, q, rfl, _, a2, q, rfl, _, rfl⟩ := h
  exact ⟨⟨a0, a1, a2⟩, rfl⟩
theorem exit_of {cs : List AV} (h : exitT.fits cs) : ∃ s : Exi, AV.agg cs = s.av := by
  simp only [exitT, portT, iT, fits_agg, fitsAll_int, fitsAll_agg, fitsAll_sl, fitsAll_nil, List.append_nil, List.cons_append, List.nil_append] at h
  obtain ⟨a0, q, rfl, _, a1, q, rfl, _, es, q, rfl, hs, rfl⟩ := h
  obtain ⟨ov, rfl⟩ := sl_map (g := Step.av) (fun cs h => step_of h) es hs.2
  exact ⟨⟨⟨a0, a1⟩, ov⟩, rfl⟩
/-- Kinds are bytes. -/
def Lay.ok (l : Lay) : Prop := ∀ s ∈ l.secs, 0 ≤ s.kind ∧ s.kind ≤ 255
theorem lay_of {cs : List AV} (h : layT.fits cs) : ∃ l : Lay, AV.agg cs = l.av ∧ l.ok := by
  simp only [layT, timesT, iT, fits_agg, fitsAll_int, fitsAll_agg, fitsAll_sl, fitsAll_nil, List.append_nil, List.cons_append, List.nil_append] at h
  obtain ⟨s1, q, rfl, h1, s2, q, rfl, h2, s3, q, rfl, h3, s4, q, rfl, h4, a0, q, rfl, _, a1, q, rfl, _, a2, q, rfl, _, a3, q, rfl, _, a4, q, rfl, _, a5, q, rfl, _, a6, q, rfl, _, rfl⟩ := h
  obtain ⟨secs, rfl, hs⟩ := sl_mapP (g := Sec.av) (Q := fun s => 0 ≤ s.kind ∧ s.kind ≤ 255) (fun cs h => sec_of h) s1 h1.2
  obtain ⟨sigs, rfl⟩ := sl_map (g := Port.av) (fun cs h => sig_of h) s2 h2.2
  obtain ⟨exits, rfl⟩ := sl_map (g := Exi.av) (fun cs h => exit_of h) s3 h3.2
  obtain ⟨fls, rfl⟩ := sl_map (g := Flank.av) (fun cs h => flank_of h) s4 h4.2
  exact ⟨⟨secs, sigs, exits, fls, a0, a1, a2, a3, a4, a5, a6⟩, rfl, hs⟩
theorem lay_arg {x : AV} (h : layT.fits x.cells) (h2 : aggIf true x) : ∃ l : Lay, x = l.av ∧ l.ok := by
  obtain ⟨cs, rfl⟩ := h2.1 rfl
  exact lay_of h
theorem int_arg {x : AV} (h : iT.fits x.cells) (h2 : aggIf false x) : ∃ n, x = I n := by
  obtain ⟨n, h1, _⟩ := fits_int.1 h
  have : x = I n := by
    cases x <;> simp_all [AV.cells, aggIf]
  exact ⟨n, this⟩
end Go.Lb.LK

namespace Go.Lb.LK
open Go Go.Lb

abbrev W (n : Int) : AV := .int .u32 n
abbrev B (b : Bool) : AV := .bool b

structure Img where
  age : Int
  free : Nat → Int
  occ : Int
  nor : Int
  rev : Int
  lamp : Int
def Img.cells (x : Img) : List AV := [I x.age, I (x.free 0), I (x.free 1), I (x.free 2), I (x.free 3), I (x.free 4), I (x.free 5), I (x.free 6), I (x.free 7), I (x.free 8), I (x.free 9), I (x.free 10), I (x.free 11), I (x.free 12), I (x.free 13), I (x.free 14), I (x.free 15), I (x.free 16), I (x.free 17), I (x.free 18), I (x.free 19), I (x.free 20), I (x.free 21), I (x.free 22), I (x.free 23), W x.occ, W x.nor, W x.rev, W x.lamp]
abbrev Img.av (x : Img) : AV := .agg x.cells
def Img.ok (x : Img) : Prop := (0 ≤ x.occ ∧ x.occ ≤ 4294967295) ∧ (0 ≤ x.nor ∧ x.nor ≤ 4294967295) ∧ (0 ≤ x.rev ∧ x.rev ≤ 4294967295) ∧ (0 ≤ x.lamp ∧ x.lamp ≤ 4294967295)

structure Hd where
  id : Int
  path : Path
  over : List Step
  needs : List Need
  stage : Int
  gone : Int
  was : Nat → Bool
  opn : Bool
  timer : Int
  shown : Bool
def Hd.cells (x : Hd) : List AV := [I x.id, I x.path.sig, I x.path.exit, steps x.path.steps, steps x.over, Go.Lb.LK.needs x.needs, U x.stage, I x.gone, .bool (x.was 0), .bool (x.was 1), .bool (x.was 2), .bool (x.was 3), .bool (x.was 4), .bool (x.was 5), .bool (x.was 6), .bool (x.was 7), .bool (x.was 8), .bool (x.was 9), .bool (x.was 10), .bool (x.was 11), .bool x.opn, I x.timer, .bool x.shown]
abbrev Hd.av (x : Hd) : AV := .agg x.cells

@[simp] theorem Img.pure (x : Img) : AV.pureAll x.cells = true := by simp [Img.cells, AV.pureAll, AV.pure]
@[simp] theorem Hd.pure (x : Hd) : AV.pureAll x.cells = true := by simp [Hd.cells, AV.pureAll, AV.pure]

@[simp] theorem pv_cellset (b len n j : Nat) (k : IntKind) (u v : AV) : pv (.cellset b len 1 0 1 j) [.int k (n : Nat), u, .agg [v]] = if j = b + n then v else u := by
  simp only [pv, AV.cells, Int.toNat_natCast, Nat.mul_one, Nat.add_zero]
  by_cases h : j = b + n
  · subst h; simp
  · have : ¬ (b + n ≤ j ∧ j < b + n + 1) := by omega
    simp [this, h]
@[simp] theorem pok_cellset (b len n j : Nat) (k : IntKind) (i : Int) (u v : AV) : pok (.cellset b len 1 0 n j) [.int k i, u, v] = (0 ≤ i ∧ i < len ∧ v.cells.length = n ∧ AV.ones v.cells = true ∧ j < b + len * 1 ∧ 0 + n ≤ 1) := rfl

/-- What an array's cell holds. -/
theorem free_get (x : Img) {i : Nat} (h : i < 24) (d : AV) : x.cells.getD (i + 1) d = I (x.free i) := by
  match i, h with
  | 0, _ => rfl
  | 1, _ => rfl
  | 2, _ => rfl
  | 3, _ => rfl
  | 4, _ => rfl
  | 5, _ => rfl
  | 6, _ => rfl
  | 7, _ => rfl
  | 8, _ => rfl
  | 9, _ => rfl
  | 10, _ => rfl
  | 11, _ => rfl
  | 12, _ => rfl
  | 13, _ => rfl
  | 14, _ => rfl
  | 15, _ => rfl
  | 16, _ => rfl
  | 17, _ => rfl
  | 18, _ => rfl
  | 19, _ => rfl
  | 20, _ => rfl
  | 21, _ => rfl
  | 22, _ => rfl
  | 23, _ => rfl
  | n + 24, h => exact absurd h (by omega)
theorem was_get (x : Hd) {i : Nat} (h : i < 12) (d : AV) : x.cells.getD (i + 8) d = .bool (x.was i) := by
  match i, h with
  | 0, _ => rfl
  | 1, _ => rfl
  | 2, _ => rfl
  | 3, _ => rfl
  | 4, _ => rfl
  | 5, _ => rfl
  | 6, _ => rfl
  | 7, _ => rfl
  | 8, _ => rfl
  | 9, _ => rfl
  | 10, _ => rfl
  | 11, _ => rfl
def wcells (w : Nat → Bool) : List AV := [.bool (w 0), .bool (w 1), .bool (w 2), .bool (w 3), .bool (w 4), .bool (w 5), .bool (w 6), .bool (w 7), .bool (w 8), .bool (w 9), .bool (w 10), .bool (w 11)]
theorem wget (w : Nat → Bool) {i : Nat} (h : i < 12) (d : AV) : (wcells w).getD i d = .bool (w i) := by
  match i, h with
  | 0, _ => rfl
  | 1, _ => rfl
  | 2, _ => rfl
  | 3, _ => rfl
  | 4, _ => rfl
  | 5, _ => rfl
  | 6, _ => rfl
  | 7, _ => rfl
  | 8, _ => rfl
  | 9, _ => rfl
  | 10, _ => rfl
  | 11, _ => rfl
/-- Turned at one place. -/
def upd {α : Type} (w : Nat → α) (k : Nat) (v : α) : Nat → α := fun j => if j = k then v else w j

/-! ### Forms -/
def uT : TS := .int .u32
def inT : TS := .agg [uT, uT, uT, uT]
def imgT : TS := .agg [iT, .agg [iT, iT, iT, iT, iT, iT, iT, iT, iT, iT, iT, iT, iT, iT, iT, iT, iT, iT, iT, iT, iT, iT, iT, iT], inT]
def heldT : TS := .agg [iT, pathT, .sl true stepT, .sl true needT, .int .u8, iT, .agg [.bool, .bool, .bool, .bool, .bool, .bool, .bool, .bool, .bool, .bool, .bool, .bool], .bool, iT, .bool]
end Go.Lb.LK

namespace Go.Proofs
open Go.RowKit Go.Lib

theorem zero_ones {z : Value} (h1 : ∀ u ∈ z.cells.toList, u.oneCell' = true) (n : Nat) : ∀ u ∈ (Builtin.zeroCells z.cells n).toList, u.oneCell' = true := by
  intro u hu
  unfold Builtin.zeroCells at hu
  rw [Array.toList_map, List.mem_map] at hu
  obtain ⟨i, hi, rfl⟩ := hu
  have hi : i < n * z.cells.size := by simpa using hi
  have hz : 0 < z.cells.size := by
    rcases Nat.eq_zero_or_pos z.cells.size with h | h
    · rw [h] at hi; omega
    · exact h
  have hm : i % z.cells.size < z.cells.size := Nat.mod_lt _ hz
  rw [getElem!_pos z.cells _ hm]
  exact h1 _ (by simp)
theorem run_clear_cells {P : Program} (w : World) (t e ty : TypeId) (z : Value) (ht : P.underlying t = some (.slice e)) (hv : ∀ w, (zeroValue e).run P w = .ok z w) (h1 : ∀ u ∈ z.cells.toList, u.oneCell' = true) (b o n c : Nat) (hn : 0 < n)
    (hc : ∀ j, j < n * z.cells.size → (w.cell? ⟨b, o + j, none⟩).isSome = true) (hf : ∀ j, j < n * z.cells.size → w.frozen? ⟨b, o + j, none⟩ = false) :
    (Builtin.clear_ #[t] ty #[.slice (some ⟨b, o, none⟩) n c]).run P w = .ok (.tuple #[]) (w.setCells b o (Builtin.zeroCells z.cells n).toList) := by
  have hl : (Builtin.zeroCells z.cells n).toList.length = n * z.cells.size := by simp [Builtin.zeroCells]
  have hone := zero_ones h1 n
  have hst := run_storeCells_cells (P := P) b o (Builtin.zeroCells z.cells n).toList 0 w (by rw [hl]; simpa using hc) (by rw [hl]; simpa using hf) hone
  simp only [Nat.add_zero] at hst
  obtain ⟨m, rfl⟩ : ∃ m, n = m + 1 := ⟨n - 1, by omega⟩
  simp [Builtin.clear_, run_underlying ht, hv, hst]

theorem info48 : ∃ i, Tryz.prog.info? 48 = some i ∧ i.size = 23 := by
  have h : ((Tryz.prog.info? 48).map (·.size)) = some 23 := by kernel_rfl
  cases hi : Tryz.prog.info? 48 with
  | none => rw [hi] at h; cases h
  | some i => rw [hi] at h; exact ⟨i, rfl, by simpa using h⟩
def zHeld : Value := .agg #[.int .i64 0, .int .i64 0, .int .i64 0, .slice none 0 0, .slice none 0 0, .slice none 0 0, .int .u8 0, .int .i64 0, .bool false, .bool false, .bool false, .bool false, .bool false, .bool false, .bool false, .bool false, .bool false, .bool false, .bool false, .bool false, .bool false, .int .i64 0, .bool false]
theorem zero48 : (∀ w, (zeroValue 48).run Tryz.prog w = .ok zHeld w) ∧ zHeld.cells.size = 23 ∧ ∀ u ∈ zHeld.cells.toList, u.oneCell' = true := by
  have h : (Tryz.prog.info? 48).bind (·.zero) = some zHeld := by kernel_rfl
  refine ⟨fun w => ?_, rfl, by decide⟩
  obtain ⟨i, hi, hz⟩ := Option.bind_eq_some_iff.1 h
  have hti : (typeInfo 48).run Tryz.prog w = .ok i w := by simp [typeInfo, hi]
  simp [zeroValue, hti, hz]

set_option maxHeartbeats 4000000 in
set_option maxRecDepth 1000000 in
theorem del_Held (blk off cap n i j : Nat) (vs : List Value) (T : TypeId) (w : World) (hH : w.heap[blk]? = some (.cells ⟨vs⟩ T (0, 0))) (hn : n ≤ cap) (hv : off + cap * 23 ≤ vs.length) (hij : i < j) (hj : j ≤ n) 
    (hone : ∀ k u, k < n * 23 → vs[off + k]? = some u → u.oneCell' = true) :
    Calls Tryz.prog 31 #[.slice (some ⟨blk, off, none⟩) n cap, .int .i64 i, .int .i64 j] w fun e w' => e = .returned (.slice (some ⟨blk, off, none⟩) (n - (j - i)) cap) ∧
      ∃ zs, zs.length = (j - i) * 23 ∧ (∀ u ∈ zs, u.oneCell' = true) ∧ w' = ((w.drew.setCells blk (off + i * 23) ((vs.drop (off + j * 23)).take ((n - j) * 23))).setCells blk (off + (i + (n - j)) * 23) zs) := by
  have mixed : Tryz.prog.follows Departure.mixedOrders = true := by kernel_rfl
  obtain ⟨i0, hi0, hz1⟩ := info48
  obtain ⟨hzv, hzs, hz1c⟩ := zero48
  obtain ⟨news, hnews⟩ : ∃ news, news = (vs.drop (off + j * 23)).take ((n - j) * 23) := ⟨_, rfl⟩
  have hlen : news.length = (n - j) * 23 := by rw [hnews, List.length_take, List.length_drop]; omega
  have hget : ∀ t, t < (n - j) * 23 → news[t]? = vs[off + (j * 23 + t)]? := by
    intro t ht
    rw [hnews, List.getElem?_take_of_lt ht, List.getElem?_drop]; congr 1; omega
  have hcell : ∀ k, w.cell? ⟨blk, k, none⟩ = vs[k]? := by
    intro k
    simp only [World.cell?, hH, Option.isSome_none, Bool.false_eq_true, if_false]
    simp
  have hfroz : ∀ k, w.frozen? ⟨blk, k, none⟩ = false := by intro k; simp [World.frozen?, hH]
  obtain ⟨A, hA, hsrc⟩ : ∃ A : Addr, (if cap = j then some (⟨blk, off, none⟩ : Addr) else some ⟨blk, off + j * 23, none⟩) = some A ∧ Hid (∀ t u, news[t]? = some u → w.drew.cell? (A.add t) = some u) := by
    by_cases h : cap = j
    · refine ⟨⟨blk, off, none⟩, by simp [h], fun t u hu => ?_⟩
      have h0 : news.length = 0 := by rw [hlen]; omega
      rw [List.length_eq_zero_iff.1 h0] at hu
      simp at hu
    · refine ⟨⟨blk, off + j * 23, none⟩, by simp [h], fun t u hu => ?_⟩
      have ht : t < (n - j) * 23 := by
        have := (List.getElem?_eq_some_iff.1 hu).1
        rwa [hlen] at this
      rw [hget t ht] at hu
      rw [Addr.add_lit, show off + j * 23 + t = off + (j * 23 + t) by omega]
      exact (hcell _).trans hu
  have s1 : Hid (news.length = (n - j) * 23) := hlen
  have s2 : Hid (∀ u ∈ news, u.oneCell' = true) := by
    intro u hu
    obtain ⟨t, ht⟩ := List.mem_iff_getElem?.1 hu
    have hlt : t < (n - j) * 23 := by
      have := (List.getElem?_eq_some_iff.1 ht).1
      rwa [hlen] at this
    rw [hget t hlt] at ht
    exact hone _ u (by omega) ht
  have s3 : Hid (∀ t, t < news.length → (w.drew.cell? ⟨blk, off + i * 23 + t, none⟩).isSome = true ∧ w.drew.frozen? ⟨blk, off + i * 23 + t, none⟩ = false) := by
    intro t ht
    rw [hlen] at ht
    refine ⟨?_, hfroz _⟩
    show (w.cell? _).isSome = true
    rw [hcell, List.getElem?_eq_getElem (by omega)]; rfl
  obtain ⟨W1, hW1⟩ : ∃ W1, W1 = w.drew.setCells blk (off + i * 23) news := ⟨_, rfl⟩
  have hW1c : ∀ k, k < vs.length → (W1.cell? ⟨blk, k, none⟩).isSome = true := by
    intro k hk
    rw [hW1]
    refine World.isSome_setCells blk _ _ _ _ ?_
    show (w.cell? _).isSome = true
    rw [hcell, List.getElem?_eq_getElem hk]; rfl
  have hW1f : ∀ k, W1.frozen? ⟨blk, k, none⟩ = false := by
    intro k
    rw [hW1, World.frozen?_setCells]; exact hfroz k
  obtain ⟨zs, hzs2⟩ : ∃ zs, zs = (Builtin.zeroCells zHeld.cells (n - (i + (n - j)))).toList := ⟨_, rfl⟩
  have hzl : zs.length = (j - i) * 23 := by rw [hzs2]; simp [Builtin.zeroCells, hzs]; omega
  have hzo : ∀ u ∈ zs, u.oneCell' = true := by rw [hzs2]; exact zero_ones hz1c _
  have hcl : ∀ ty, (Builtin.clear_ #[36] ty #[.slice (some ⟨blk, off + (i + (n - j)) * 23, none⟩) (n - (i + (n - j))) (cap - (i + (n - j)))]).run Tryz.prog W1 = .ok (.tuple #[]) (W1.setCells blk (off + (i + (n - j)) * 23) zs) := by
    intro ty
    rw [hzs2]
    refine run_clear_cells W1 36 48 ty zHeld Tryz.underlying36 hzv hz1c blk (off + (i + (n - j)) * 23) _ _ (by omega) (fun k hk => ?_) (fun k _ => hW1f _)
    rw [hzs] at hk
    exact hW1c _ (by omega)
  have hW : Hid (W1 = w.drew.setCells blk (off + i * 23) news) := hW1
  have hic : i ≤ cap := by omega
  have hjc : j ≤ cap := by omega
  rw [← hnews, ← hW1]
  clear hW1 hW1c hW1f hcell hfroz hget hnews hlen hzs2
  go_enter Tryz.func31, Tryz.ntmps31
  go_wp2_with fail
  go_region_law_o (refine step_append_room rfl (.tmp 22) (.tmp 25) 36 rfl 48 i0 23 Tryz.underlying36 hi0 hz1 blk off i cap (by simp [Act.eval, Act.put]) A (n - j) (cap - j) news (by simp [Act.eval, Act.put]) s1.out hsrc.out s2.out (by omega) s3.out ?_; rw [← hW.out])
  go_wp2
  go_ret
  exact ⟨by rw [show n - (j - i) = i + (n - j) by omega]; rfl, zs, hzl, hzo, rfl⟩
end Go.Proofs
namespace Go.Lb
open Go.RowKit
theorem setCells_facts {w : World} {b o : Nat} {us vs : List Value} {T : TypeId} (h : w.heap[b]? = some (.cells ⟨vs⟩ T (0, 0))) (hl : o + us.length ≤ vs.length) (h1 : ∀ u ∈ us, u.oneCell' = true) :
    (w.setCells b o us).heap[b]? = some (.cells ⟨putL vs o us⟩ T (0, 0)) ∧ (∀ k, k ≠ b → (w.setCells b o us).heap[k]? = w.heap[k]?) ∧ (w.setCells b o us).heap.size = w.heap.size ∧ (w.setCells b o us).os = w.os ∧ (w.setCells b o us).tape = w.tape ∧ (w.setCells b o us).output = w.output := by
  obtain ⟨w', h2, h3, h4, h5, h6, h7, h8⟩ := run_storeCells (P := Go.Proofs.Tryz.prog) us w b o 0 vs T h (by simpa using hl) h1
  have hc : ∀ k, w.cell? ⟨b, k, none⟩ = vs[k]? := by
    intro k
    simp only [World.cell?, h, Option.isSome_none, Bool.false_eq_true, if_false]
    simp
  have h9 := run_storeCells_cells (P := Go.Proofs.Tryz.prog) b o us 0 w (fun j hj => by rw [hc, List.getElem?_eq_getElem (by omega)]; rfl) (fun j _ => by simp [World.frozen?, h]) h1
  rw [h9] at h2
  simp only [Nat.add_zero, Result.ok.injEq, true_and] at h2 h3
  subst h2
  exact ⟨h3, h4, h5, h6, h7, h8⟩
theorem delOk_Held : DelOk Go.Proofs.Tryz.prog 31 23 := by
  intro blk off cap n i j vs T w hH hn hv hij hj hm hone
  refine (Go.Proofs.del_Held blk off cap n i j vs T w hH hn hv hij hj hone).mono ?_
  rintro e w' ⟨rfl, zs, z1, z2, rfl⟩
  refine ⟨rfl, ?_⟩
  obtain ⟨news, hnews⟩ : ∃ news, news = (vs.drop (off + j * 23)).take ((n - j) * 23) := ⟨_, rfl⟩
  rw [← hnews]
  have hlen : news.length = (n - j) * 23 := by rw [hnews, List.length_take, List.length_drop]; omega
  have hno : ∀ u ∈ news, u.oneCell' = true := by
    intro u hu
    obtain ⟨t, ht⟩ := List.mem_iff_getElem?.1 hu
    have hlt : t < (n - j) * 23 := by
      have := (List.getElem?_eq_some_iff.1 ht).1
      rwa [hlen] at this
    rw [hnews, List.getElem?_take_of_lt hlt, List.getElem?_drop] at ht
    refine hone (j * 23 + t) u (by omega) ?_
    rw [← ht]; congr 1; omega
  obtain ⟨a1, a2, a3, a4, a5, a6⟩ := setCells_facts (w := w.drew) (o := off + i * 23) (us := news) hH (by omega) hno
  have hl1 : (putL vs (off + i * 23) news).length = vs.length := putL_length _ _ _ (by omega)
  obtain ⟨b1, b2, b3, b4, b5, b6⟩ := setCells_facts (o := off + (i + (n - j)) * 23) (us := zs) a1 (by rw [hl1]; omega) z2
  have hl2 : (putL (putL vs (off + i * 23) news) (off + (i + (n - j)) * 23) zs).length = vs.length := by rw [putL_length _ _ _ (by rw [hl1]; omega), hl1]
  refine ⟨_, hl2, b1, fun k hk => (b2 k hk).trans (a2 k hk), b3.trans a3, b4.trans a4, b5.trans a5, b6.trans a6, ?_⟩
  apply List.ext_getElem?
  intro t
  by_cases ht : t < (n - (j - i)) * 23
  · rw [List.getElem?_take_of_lt ht, List.getElem?_drop, getElem?_putL _ _ _ (by rw [hl1]; omega), if_pos (by omega), getElem?_putL _ _ _ (by omega)]
    by_cases h1 : t < i * 23
    · rw [if_pos (by omega), List.getElem?_append_left (by rw [List.length_take, List.length_drop]; omega), List.getElem?_take_of_lt h1, List.getElem?_drop]
    · rw [if_neg (by omega), if_pos (by omega), List.getElem?_append_right (by rw [List.length_take, List.length_drop]; omega)]
      congr 1
      rw [List.length_take, List.length_drop]; omega
  · rw [List.getElem?_take_eq_none (by omega), List.getElem?_eq_none]
    rw [List.length_append, List.length_take, List.length_drop]; omega
end Go.Lb
namespace Go.Lb.LK
open Go Go.Lb
theorem delOk : ∀ f, 0 < E.del f → DelOk E.P f (E.del f) := by
  intro f h
  have hf : f = 31 := by
    by_cases hf : f = 31
    · exact hf
    · simp [E, hf] at h
  subst hf
  exact delOk_Held
end Go.Lb.LK

namespace Go.Lb.LK
open Go Go.Lb Go.Proofs Go.RowKit

/-- A function of numbers that leaves the world alone. -/
theorem contract_of_calls {P : Program} {f : FuncId} {avs : List AV} {vs : List Value} {r : AV} {v : Value} (hr : r.pure = true) (ha : ∀ c us, Rvs c avs us → us = vs) (hv : ∀ c, Rv c r v) (h : ∀ w, Calls P f ⟨vs⟩ w fun e w' => e = .returned v ∧ w' = w) : Contract P [] f avs r := by
  refine ⟨hr, fun w c us _ him _ hvs => ?_⟩
  rw [ha c us hvs]
  refine (h w).mono ?_
  rintro e w' ⟨rfl, rfl⟩
  exact ⟨v, c, rfl, Cx.Le.refl c, by assumption, him, fun _ _ => ⟨fun _ _ h => h, fun _ h => h⟩, hv c, Below.refl _ _⟩

theorem EOkS : EnvOk ES := ⟨fun f h => by simp [ES] at h, fun f h => by simp [ES] at h, fun f h => by simp [ES] at h, fun g es h => by simp [ES] at h⟩
theorem bits0 : Contract PR [] f_mathbits_Len [.int .u64 0] (.int .i64 0) := by
  refine contract_of_calls (vs := [.int .u64 0]) (v := .int .i64 0) rfl (fun c us h => ?_) (fun c => .int _ _) (fun w => Tryz.bits_Len 0 w (by omega) (by omega))
  cases h with
  | cons _ v _ vs h1 h2 => cases h1; cases h2; rfl
theorem sort0 : Contract PR [] f_slices_Sort_int [.sl []] (.tup []) := by
  refine contract_of EOkS EmixS [] run_slices_Sort_int rfl rfl rfl ?_ rfl
  unfold rt_slices_Sort_int
  refine RTwp_chk.2 ⟨fun _ => by simp, ?_⟩
  refine RTwp_nil.2 (RTwp_chk.2 ⟨fun _ => by simp, RTwp_nil.2 ?_⟩)
  refine RTwp_call0 (r := .int .i64 0) bits0 (by simp) ?_
  simp
  refine RTwp_loop rfl (fun vs => vs = []) (fun _ => 0) rfl ?_
  rintro vs - rfl
  simp
  refine RTwp_loop rfl (fun vs => vs = []) (fun _ => 0) rfl ?_
  rintro vs - rfl
  simp
theorem srtOk : SrtOk PR f_slices_Sort_int := ⟨fun blk off cap zs w h1 h2 h3 => Tryz.slices_Sort_int blk off cap zs w h1 h2 h3, sort0⟩
theorem cptOk : CptOk PR f_slices_Compact_int := ⟨fun blk off cap zs w h1 h2 h3 => Tryz.slices_Compact_int blk off cap zs w h1 h2 h3, fun a cap w => Tryz.slices_Compact_int_empty a cap w⟩
theorem EOk : EnvOk E := by
  refine ⟨fun f h => ?_, fun f h => ?_, delOk, fun g es h => ?_⟩
  · have : f = f_slices_Compact_int := by simpa [E, cptF] using h
    rw [this]; exact cptOk
  · have : f = f_slices_Sort_int := by simpa [E, srtF] using h
    rw [this]; exact srtOk
  · have hall : (GL.all fun es => SE.wfs 0 (fun _ => false) es) = true := by kernel_rfl
    have hm : es ∈ GL := by
      have h : GL[g]? = some es := h
      exact List.mem_of_getElem? h
    exact List.all_eq_true.1 hall es hm
abbrev C (f : Nat) (avs : List AV) (r : AV) : Prop := Contract PR GL f avs r
theorem ctr {f n : Nat} {args : List SE} (vs : List AV) {rt : RT} (hrun : runF E f args n = rt) (hw : SE.wfs n (fun _ => false) args = true)
    (hp : AV.pureAll vs = true) {r : AV} (hr : r.pure = true) (h : RTwp PR GL (fun x => x = r) rt (fun _ _ => False) (envOf vs)) {avs : List AV} (ha : dens (envOf vs) args = avs) : C f avs r :=
  contract_of EOk Emix vs hrun hw hp hr h ha

theorem map_take {α β : Type} (f : α → β) (l : List α) {i : Nat} (h : i < l.length) : (l.take (i + 1)).map f = (l.take i).map f ++ [f l[i]] := by
  rw [List.take_add_one, List.getElem?_eq_getElem h, List.map_append]
  simp
@[simp] theorem ite_avbool (c : Prop) [Decidable c] (a b : Bool) : (if c then AV.bool a else AV.bool b) = AV.bool (if c then a else b) := by split <;> rfl
@[simp] theorem ite_avint (c : Prop) [Decidable c] (k : IntKind) (a b : Int) : (if c then AV.int k a else AV.int k b) = AV.int k (if c then a else b) := by split <;> rfl

/-- A call that is sure, its arguments reckoned. -/
theorem call {ρ : Nat → AV} {R : AV → Prop} {L : Nat → List AV → Prop} {n f : Nat} {args : List SE} {bo : Bool} {ns : List Nd} {k : RT} {r : AV} {avs : List AV} (hc : C f avs r) (ha : dens ρ args = avs) (hb : bo = true → r.scalar = true)
    (h : RTwp PR GL R (.seg ns k) L (setEnv ρ n r)) : RTwp PR GL R (.seg (.call n [] f args bo :: ns) k) L ρ := RTwp_call0 (by rw [ha]; exact hc) hb h
/-- A call that is wanted under conditions. -/
theorem callIf {ρ : Nat → AV} {R : AV → Prop} {L : Nat → List AV → Prop} {pcs : List (SE × Bool)} {n f : Nat} {args : List SE} {bo : Bool} {ns : List Nd} {k : RT} {avs : List AV} (r : AV) (hr : r.pure = true) (hc : Holds ρ pcs → dens ρ args = avs ∧ C f avs r) (hb : bo = true → r.scalar = true)
    (h : RTwp PR GL R (.seg ns k) L (setEnv ρ n r)) : RTwp PR GL R (.seg (.call n pcs f args bo :: ns) k) L ρ := RTwp_call r hr (fun hp => ⟨by rw [(hc hp).1]; exact (hc hp).2, hb⟩) h
end Go.Lb.LK

namespace Go.Lb.LK
open Go Go.Lb Go.Proofs Go.RowKit

def stale (l : Lay) (im : Img) : Bool := decide (l.stale < im.age)
def bitAt (x n : Int) : Bool := decide (0 ≤ n) && (decide (n < 32) && x.toNat.testBit n.toNat)

theorem u32wrap {n : Int} (h0 : 0 ≤ n) (h1 : n ≤ 4294967295) : IntKind.u32.wrap n = n := by
  simp only [IntKind.wrap, IntKind.signed, IntKind.bits]
  simp
  omega
theorem u64wrap {n : Int} (h0 : 0 ≤ n) (h1 : n ≤ 4294967295) : IntKind.u64.wrap n = n := by
  simp only [IntKind.wrap, IntKind.signed, IntKind.bits]
  simp
  omega
theorem pow_i (n : Nat) : (2 : Int) ^ n = ((2 ^ n : Nat) : Int) := by simp
theorem and_pow (x n : Nat) : (((x &&& 2 ^ n : Nat) : Int) != 0) = x.testBit n := by
  cases h : x.testBit n
  · have : x &&& 2 ^ n = 0 := by
      apply Nat.eq_of_testBit_eq
      intro i
      rw [Nat.testBit_and, Nat.testBit_two_pow, Nat.zero_testBit]
      by_cases hi : n = i
      · subst hi; simp [h]
      · simp [hi]
    rw [this]; rfl
  · have : x &&& 2 ^ n ≠ 0 := by
      intro h0
      have := congrArg (Nat.testBit · n) h0
      simp [Nat.testBit_and, h] at this
    simpa using this
theorem g1 (x n : Nat) (hx : x ≤ 4294967295) (hn : n < 32) : (IntKind.u32.wrap ((x % 2 ^ IntKind.u32.bits &&& (IntKind.u32.wrap (2 ^ min n IntKind.u32.bits) % 2 ^ IntKind.u32.bits).toNat : Nat) : Int) != 0) = x.testBit n := by
  have hb : IntKind.u32.bits = 32 := rfl
  have h2 : 2 ^ n ≤ 2 ^ 31 := Nat.pow_le_pow_right (by omega) (by omega)
  have h1 : min n 32 = n := by omega
  have h4 : 2 ^ n ≤ 4294967295 := by omega
  generalize hp : 2 ^ n = p at h4
  rw [hb, h1, pow_i, hp, u32wrap (n := (p : Int)) (by omega) (by omega)]
  have e1 : ((p : Int) % 2 ^ 32).toNat = p := by omega
  have e2 : x % 2 ^ 32 = x := by omega
  have e3 : x &&& p ≤ x := Nat.and_le_left
  rw [e1, e2, u32wrap (by omega) (by omega), ← hp]
  exact and_pow x n
theorem g2 (x n : Nat) (hx : x ≤ 4294967295) (hn : n < 32) : (IntKind.u32.wrap ((((x : Int).fdiv (2 ^ min n IntKind.u32.bits) % 2 ^ IntKind.u32.bits).toNat &&& 1 % 2 ^ IntKind.u32.bits : Nat) : Int) == 1) = x.testBit n := by
  have hb : IntKind.u32.bits = 32 := rfl
  have h1 : min n 32 = n := by omega
  have e4 : Int.fdiv (x : Int) (2 ^ n) = ((x / 2 ^ n : Nat) : Int) := by
    rw [pow_i]
    exact (Int.ofNat_fdiv x (2 ^ n)).symm
  have h6 : x / 2 ^ n ≤ x := Nat.div_le_self _ _
  rw [hb, h1, e4]
  have e1 : (((x / 2 ^ n : Nat) : Int) % 2 ^ 32).toNat = x / 2 ^ n := by generalize x / 2 ^ n = q at h6; omega
  have e2 : 1 % 2 ^ 32 = 1 := rfl
  rw [e1, e2, Nat.and_one_is_mod, Nat.testBit_eq_decide_div_mod_eq]
  have := Nat.mod_two_eq_zero_or_one (x / 2 ^ n)
  rcases this with h | h <;> simp [h] <;> decide

theorem c_bit (x : Int) : C f_image_bit [W x] (.clo f_image_bit_1 [] [.ref [W x] 0]) := by
  refine ctr [W x] run_image_bit rfl rfl rfl ?_ rfl
  unfold rt_image_bit
  simp
theorem c_bit1 (x n : Int) (h0 : 0 ≤ x) (h1 : x ≤ 4294967295) : C f_image_bit_1 [I n, .ref [W x] 0] (.bool (bitAt x n)) := by
  refine ctr [I n, W x] run_image_bit_1 rfl rfl rfl ?_ rfl
  unfold rt_image_bit_1
  obtain ⟨x, rfl⟩ : ∃ k : Nat, x = k := ⟨x.toNat, by omega⟩
  by_cases hn : 0 ≤ n
  · obtain ⟨n, rfl⟩ : ∃ k : Nat, n = k := ⟨n.toNat, by omega⟩
    by_cases hn2 : n < 32
    · have h3 : ((n : Nat) : Int) < 32 := by omega
      simp [bitAt, h3]
      exact g1 x n (by omega) hn2
    · have h3 : ¬ ((n : Nat) : Int) < 32 := by omega
      simp [bitAt, h3]
  · have h3 : ¬ (n ≥ 0) := by omega
    simp [bitAt, hn, h3]
theorem c_r15bit (x n : Int) (h0 : 0 ≤ x) (h1 : x ≤ 4294967295) : C f_lockbarref15_bit [W x, I n] (.bool (bitAt x n)) := by
  refine ctr [W x, I n] run_lockbarref15_bit rfl rfl rfl ?_ rfl
  unfold rt_lockbarref15_bit
  obtain ⟨x, rfl⟩ : ∃ k : Nat, x = k := ⟨x.toNat, by omega⟩
  by_cases hn : 0 ≤ n
  · obtain ⟨n, rfl⟩ : ∃ k : Nat, n = k := ⟨n.toNat, by omega⟩
    by_cases hn2 : n < 32
    · have h3 : ((n : Nat) : Int) < 32 := by omega
      have e1 : IntKind.u64.wrap (n : Int) = n := u64wrap (by omega) (by omega)
      simp [bitAt, h3, e1]
      exact g2 x n (by omega) hn2
    · have h3 : ¬ ((n : Nat) : Int) < 32 := by omega
      simp [bitAt, h3]
  · have h3 : ¬ (n ≥ 0) := by omega
    simp [bitAt, hn, h3]
end Go.Lb.LK

namespace Go.Lb.LK
open Go Go.Lb Go.Proofs Go.RowKit

theorem c_tick_Late (a t : Int) : C f_tick_Late [I a, I t] (.bool (decide (t < a))) := by
  refine ctr [I a, I t] run_tick_Late rfl rfl rfl ?_ rfl
  unfold rt_tick_Late
  simp
theorem c_r03Late (a t : Int) : C f_lockbarref03_Late [I a, I t] (.bool (decide (t < a))) := by
  refine ctr [I a, I t] run_lockbarref03_Late rfl rfl rfl ?_ rfl
  unfold rt_lockbarref03_Late
  simp
theorem li (l : Lay) (im : Img) : AV.pureAll (l.cells ++ im.cells) = true := by simp [pureAll_append]
theorem lii (l : Lay) (im : Img) (s : Int) : AV.pureAll (l.cells ++ im.cells ++ [I s]) = true := by simp [pureAll_append, AV.pureAll, AV.pure]
theorem c_image_Stale (l : Lay) (im : Img) : C f_image_Stale [l.av, im.av] (.bool (stale l im)) := by
  refine ctr (l.cells ++ im.cells) run_image_Stale rfl (li l im) rfl ?_ rfl
  unfold rt_image_Stale
  simp [Lay.cells, Img.cells]
  refine call (c_tick_Late im.age l.stale) (by simp) (by simp) ?_
  simp [stale]
theorem c_r15Stale (l : Lay) (im : Img) : C f_lockbarref15_Stale [l.av, im.av] (.bool (stale l im)) := by
  refine ctr (l.cells ++ im.cells) run_lockbarref15_Stale rfl (li l im) rfl ?_ rfl
  unfold rt_lockbarref15_Stale
  simp [Lay.cells, Img.cells]
  refine call (c_r03Late im.age l.stale) (by simp) (by simp) ?_
  simp [stale]

abbrev cloB (x : Int) : AV := .clo f_image_bit_1 [] [.ref [W x] 0]
theorem c_image_clear (l : Lay) (im : Img) : C f_image_clear [l.av, im.av] (.clo f_image_clear_1 [] [.ref [.bool (stale l im)] 0, .ref [cloB im.occ] 0]) := by
  refine ctr (l.cells ++ im.cells) run_image_clear rfl (li l im) rfl ?_ rfl
  unfold rt_image_clear
  simp [Lay.cells, Img.cells]
  refine call (c_image_Stale l im) (by simp [Lay.cells, Img.cells]) (by simp) ?_
  simp
  refine call (c_bit im.occ) (by simp) (by simp) ?_
  simp
theorem c_image_clear1 (s occ : Int) (st : Bool) (h0 : 0 ≤ occ) (h1 : occ ≤ 4294967295) : C f_image_clear_1 [I s, .ref [.bool st] 0, .ref [cloB occ] 0] (.bool (!st && !bitAt occ s)) := by
  refine ctr [I s, .bool st, W occ] run_image_clear_1 rfl rfl rfl ?_ rfl
  unfold rt_image_clear_1
  simp
  refine callIf (avs := [I s, .ref [W occ] 0]) (.bool (bitAt occ s)) rfl (fun _ => ⟨by simp, c_bit1 occ s h0 h1⟩) (by simp) ?_
  cases st <;> simp

def told (l : Lay) (im : Img) (s : Int) : Bool := decide (0 ≤ s ∧ s < l.secs.length ∧ s < 24) && (!stale l im && bitAt im.occ s)
def occupied (l : Lay) (im : Img) (s : Int) : Bool := !decide (0 ≤ s ∧ s < l.secs.length ∧ s < 24) || (stale l im || (bitAt im.occ s || decide (im.free s.toNat < l.clear)))
theorem bitAt_neg {x s : Int} (h : ¬ 0 ≤ s) : bitAt x s = false := by simp [bitAt, h]

theorem c_image_Told (l : Lay) (im : Img) (hi : im.ok) (s : Int) : C f_image_Told [l.av, im.av, I s] (.bool (told l im s)) := by
  refine ctr (l.cells ++ im.cells ++ [I s]) run_image_Told rfl (lii l im s) rfl ?_ rfl
  unfold rt_image_Told
  simp [Lay.cells, Img.cells]
  refine callIf (avs := [W im.occ]) (cloB im.occ) rfl (fun _ => ⟨by simp, c_bit im.occ⟩) (by simp) ?_
  simp
  refine callIf (avs := [I s, .ref [W im.occ] 0]) (.bool (bitAt im.occ s)) rfl (fun _ => ⟨by simp, c_bit1 im.occ s hi.1.1 hi.1.2⟩) (by simp) ?_
  simp
  refine callIf (avs := [l.av, im.av]) (.bool (stale l im)) rfl (fun _ => ⟨by simp [Lay.cells, Img.cells], c_image_Stale l im⟩) (by simp) ?_
  by_cases h1 : s < l.secs.length <;> by_cases h2 : s < 24 <;> by_cases h0 : 0 ≤ s
  all_goals first | simp [told, h1, h2, h0, bitAt_neg h0, Int.lt_min] | simp [told, h1, h2, h0, Int.lt_min]
  · cases stale l im <;> cases bitAt im.occ s <;> simp
theorem c_r15Told (l : Lay) (im : Img) (hi : im.ok) (s : Int) : C f_lockbarref15_Told [l.av, im.av, I s] (.bool (told l im s)) := by
  refine ctr (l.cells ++ im.cells ++ [I s]) run_lockbarref15_Told rfl (lii l im s) rfl ?_ rfl
  unfold rt_lockbarref15_Told
  simp [Lay.cells, Img.cells]
  refine callIf (avs := [l.av, im.av]) (.bool (stale l im)) rfl (fun _ => ⟨by simp [Lay.cells, Img.cells], c_r15Stale l im⟩) (by simp) ?_
  simp
  refine callIf (avs := [W im.occ, I s]) (.bool (bitAt im.occ s)) rfl (fun _ => ⟨by simp, c_r15bit im.occ s hi.1.1 hi.1.2⟩) (by simp) ?_
  by_cases h1 : s < l.secs.length <;> by_cases h2 : s < 24 <;> by_cases h0 : 0 ≤ s
  all_goals simp [told, h1, h2, h0]
  all_goals cases stale l im <;> cases bitAt im.occ s <;> simp

end Go.Lb.LK
