/- Chapter 25: what functions come to, printed by a program, checked by the kernel. -/
/- Chapter 25: PressStays, of pure values. -/
/- Chapter 25: PressLate, of pure values. -/
import Derived.Test.YtcidpfilgicfcaaCh1
import Derived.Test.YtcidpfilgicfcaaCh7
set_option linter.unusedSimpArgs false
set_option linter.unusedVariables false
namespace Go.Lb.C25
open Go Go.Lb Go.Proofs
noncomputable def rt7 : RT :=
 .seg [.chk [] (.isAgg 11) [.agg [.inp 0, .inp 1, .inp 2, .inp 3, .inp 4, .inp 5, .inp 6, .inp 7, .inp 8, .inp 9, .inp 10]]] <|
 .seg [.chk [] (.isAgg 5) [.agg [.inp 11, .inp 12, .inp 13, .inp 14, .inp 15]]] <|
 .seg [.call 20 [] 8 [.agg [.inp 0, .inp 1, .inp 2, .inp 3, .inp 4, .inp 5, .inp 6, .inp 7, .inp 8, .inp 9, .inp 10], .agg [.inp 11, .inp 12, .inp 13, .inp 14, .inp 15]] false] <|
 .seg [.chk [(.inp 20, false)] (.bin .lss) [.inp 9, .int .i64 1]] <|
 .seg [.chk [] .pick [.inp 20, .bool true, .app (.bin .lss) [.inp 9, .int .i64 1]]] <|
 .seg [.chk [(.app .pick [.inp 20, .bool true, .app (.bin .lss) [.inp 9, .int .i64 1]], false)] (.bin .gtr) [.inp 9, .int .i64 1000]] <|
 .seg [.chk [] .pick [.app .pick [.inp 20, .bool true, .app (.bin .lss) [.inp 9, .int .i64 1]], .bool true, .app (.bin .gtr) [.inp 9, .int .i64 1000]]] <|
 .seg [.call 21 [(.app .pick [.app .pick [.inp 20, .bool true, .app (.bin .lss) [.inp 9, .int .i64 1]], .bool true, .app (.bin .gtr) [.inp 9, .int .i64 1000]], false)] 19 [.agg [.inp 0, .inp 1, .inp 2, .inp 3, .inp 4, .inp 5, .inp 6, .inp 7, .inp 8, .inp 9, .inp 10], .agg [.inp 11, .inp 12, .inp 13, .inp 14, .inp 15]] false] <|
 .seg [.chk [(.app .pick [.app .pick [.inp 20, .bool true, .app (.bin .lss) [.inp 9, .int .i64 1]], .bool true, .app (.bin .gtr) [.inp 9, .int .i64 1000]], false)] (.un .not) [.inp 21]] <|
 .seg [.chk [] .pick [.app .pick [.app .pick [.inp 20, .bool true, .app (.bin .lss) [.inp 9, .int .i64 1]], .bool true, .app (.bin .gtr) [.inp 9, .int .i64 1000]], .bool true, .app (.un .not) [.inp 21]]] <|
 .seg [.chk [(.app .pick [.app .pick [.app .pick [.inp 20, .bool true, .app (.bin .lss) [.inp 9, .int .i64 1]], .bool true, .app (.bin .gtr) [.inp 9, .int .i64 1000]], .bool true, .app (.un .not) [.inp 21]], false)] (.bin .lss) [.inp 16, .int .i64 0]] <|
 .seg [.chk [] .pick [.app .pick [.app .pick [.app .pick [.inp 20, .bool true, .app (.bin .lss) [.inp 9, .int .i64 1]], .bool true, .app (.bin .gtr) [.inp 9, .int .i64 1000]], .bool true, .app (.un .not) [.inp 21]], .bool true, .app (.bin .lss) [.inp 16, .int .i64 0]]] <|
 .seg [.chk [(.app .pick [.app .pick [.app .pick [.app .pick [.inp 20, .bool true, .app (.bin .lss) [.inp 9, .int .i64 1]], .bool true, .app (.bin .gtr) [.inp 9, .int .i64 1000]], .bool true, .app (.un .not) [.inp 21]], .bool true, .app (.bin .lss) [.inp 16, .int .i64 0]], false)] .len [.inp 1]] <|
 .seg [.chk [(.app .pick [.app .pick [.app .pick [.app .pick [.inp 20, .bool true, .app (.bin .lss) [.inp 9, .int .i64 1]], .bool true, .app (.bin .gtr) [.inp 9, .int .i64 1000]], .bool true, .app (.un .not) [.inp 21]], .bool true, .app (.bin .lss) [.inp 16, .int .i64 0]], false)] (.bin .geq) [.inp 16, .app .len [.inp 1]]] <|
 .seg [.chk [] .pick [.app .pick [.app .pick [.app .pick [.app .pick [.inp 20, .bool true, .app (.bin .lss) [.inp 9, .int .i64 1]], .bool true, .app (.bin .gtr) [.inp 9, .int .i64 1000]], .bool true, .app (.un .not) [.inp 21]], .bool true, .app (.bin .lss) [.inp 16, .int .i64 0]], .bool true, .app (.bin .geq) [.inp 16, .app .len [.inp 1]]]] <|
 .cond (.app .pick [.app .pick [.app .pick [.app .pick [.app .pick [.inp 20, .bool true, .app (.bin .lss) [.inp 9, .int .i64 1]], .bool true, .app (.bin .gtr) [.inp 9, .int .i64 1000]], .bool true, .app (.un .not) [.inp 21]], .bool true, .app (.bin .lss) [.inp 16, .int .i64 0]], .bool true, .app (.bin .geq) [.inp 16, .app .len [.inp 1]]])
 (.seg [.call 22 [] 9 [] false] <|
  .ret (.inp 22))
 (.cond (.inp 19)
  (.seg [.chk [] .isOne [.inp 16]] <|
   .seg [.chk [] (.isAgg 3) [.agg [.int .u8 3, .inp 16, .int .i64 0]]] <|
   .seg [.chk [] (.isAgg 3) [.agg [.int .u8 3, .inp 16, .int .i64 0]],
   .chk [] (.isAgg 3) [.agg [.int .u8 3, .inp 16, .int .i64 0]]] <|
   .seg [.call 22 [] 14 [.agg [.inp 0, .inp 1, .inp 2, .inp 3, .inp 4, .inp 5, .inp 6, .inp 7, .inp 8, .inp 9, .inp 10], .agg [.inp 11, .inp 12, .inp 13, .inp 14, .inp 15], .app .lst [.agg [.int .u8 1, .int .i64 0, .int .i64 0], .agg [.int .u8 3, .inp 16, .int .i64 0], .agg [.int .u8 3, .inp 16, .int .i64 0]]] false] <|
   .seg [.chk [] (.tproj 0) [.inp 22]] <|
   .seg [.chk [] (.tproj 1) [.inp 22]] <|
   .seg [.chk [] (.isAgg 5) [.app (.tproj 0) [.inp 22]]] <|
   .seg [.chk [] .len [.app (.tproj 1) [.inp 22]]] <|
   .seg [.chk [] (.bin .neq) [.app .len [.app (.tproj 1) [.inp 22]], .int .i64 1]] <|
   .seg [.chk [(.app (.bin .neq) [.app .len [.app (.tproj 1) [.inp 22]], .int .i64 1], false)] (.eidx 6) [.app (.tproj 1) [.inp 22], .int .i64 0]] <|
   .seg [.chk [(.app (.bin .neq) [.app .len [.app (.tproj 1) [.inp 22]], .int .i64 1], false)] (.eoff 0) [.app (.eidx 6) [.app (.tproj 1) [.inp 22], .int .i64 0]]] <|
   .seg [.chk [(.app (.bin .neq) [.app .len [.app (.tproj 1) [.inp 22]], .int .i64 1], false)] (.eload 1 false) [.app (.eoff 0) [.app (.eidx 6) [.app (.tproj 1) [.inp 22], .int .i64 0]]]] <|
   .seg [.chk [(.app (.bin .neq) [.app .len [.app (.tproj 1) [.inp 22]], .int .i64 1], false)] (.bin .neq) [.app (.eload 1 false) [.app (.eoff 0) [.app (.eidx 6) [.app (.tproj 1) [.inp 22], .int .i64 0]]], .int .u8 1]] <|
   .seg [.chk [] .pick [.app (.bin .neq) [.app .len [.app (.tproj 1) [.inp 22]], .int .i64 1], .bool true, .app (.bin .neq) [.app (.eload 1 false) [.app (.eoff 0) [.app (.eidx 6) [.app (.tproj 1) [.inp 22], .int .i64 0]]], .int .u8 1]]] <|
   .seg [.chk [(.app .pick [.app (.bin .neq) [.app .len [.app (.tproj 1) [.inp 22]], .int .i64 1], .bool true, .app (.bin .neq) [.app (.eload 1 false) [.app (.eoff 0) [.app (.eidx 6) [.app (.tproj 1) [.inp 22], .int .i64 0]]], .int .u8 1]], false)] (.eidx 6) [.app (.tproj 1) [.inp 22], .int .i64 0]] <|
   .seg [.chk [(.app .pick [.app (.bin .neq) [.app .len [.app (.tproj 1) [.inp 22]], .int .i64 1], .bool true, .app (.bin .neq) [.app (.eload 1 false) [.app (.eoff 0) [.app (.eidx 6) [.app (.tproj 1) [.inp 22], .int .i64 0]]], .int .u8 1]], false)] (.eoff 1) [.app (.eidx 6) [.app (.tproj 1) [.inp 22], .int .i64 0]]] <|
   .seg [.chk [(.app .pick [.app (.bin .neq) [.app .len [.app (.tproj 1) [.inp 22]], .int .i64 1], .bool true, .app (.bin .neq) [.app (.eload 1 false) [.app (.eoff 0) [.app (.eidx 6) [.app (.tproj 1) [.inp 22], .int .i64 0]]], .int .u8 1]], false)] (.eload 1 false) [.app (.eoff 1) [.app (.eidx 6) [.app (.tproj 1) [.inp 22], .int .i64 0]]]] <|
   .seg [.chk [(.app .pick [.app (.bin .neq) [.app .len [.app (.tproj 1) [.inp 22]], .int .i64 1], .bool true, .app (.bin .neq) [.app (.eload 1 false) [.app (.eoff 0) [.app (.eidx 6) [.app (.tproj 1) [.inp 22], .int .i64 0]]], .int .u8 1]], false)] (.bin .neq) [.app (.eload 1 false) [.app (.eoff 1) [.app (.eidx 6) [.app (.tproj 1) [.inp 22], .int .i64 0]]], .inp 16]] <|
   .seg [.chk [] .pick [.app .pick [.app (.bin .neq) [.app .len [.app (.tproj 1) [.inp 22]], .int .i64 1], .bool true, .app (.bin .neq) [.app (.eload 1 false) [.app (.eoff 0) [.app (.eidx 6) [.app (.tproj 1) [.inp 22], .int .i64 0]]], .int .u8 1]], .bool true, .app (.bin .neq) [.app (.eload 1 false) [.app (.eoff 1) [.app (.eidx 6) [.app (.tproj 1) [.inp 22], .int .i64 0]]], .inp 16]]] <|
   .seg [.chk [(.app .pick [.app .pick [.app (.bin .neq) [.app .len [.app (.tproj 1) [.inp 22]], .int .i64 1], .bool true, .app (.bin .neq) [.app (.eload 1 false) [.app (.eoff 0) [.app (.eidx 6) [.app (.tproj 1) [.inp 22], .int .i64 0]]], .int .u8 1]], .bool true, .app (.bin .neq) [.app (.eload 1 false) [.app (.eoff 1) [.app (.eidx 6) [.app (.tproj 1) [.inp 22], .int .i64 0]]], .inp 16]], false)] (.bin .neq) [.app (.part 0 1 false) [.app (.tproj 0) [.inp 22]], .inp 16]] <|
   .seg [.chk [] .pick [.app .pick [.app .pick [.app (.bin .neq) [.app .len [.app (.tproj 1) [.inp 22]], .int .i64 1], .bool true, .app (.bin .neq) [.app (.eload 1 false) [.app (.eoff 0) [.app (.eidx 6) [.app (.tproj 1) [.inp 22], .int .i64 0]]], .int .u8 1]], .bool true, .app (.bin .neq) [.app (.eload 1 false) [.app (.eoff 1) [.app (.eidx 6) [.app (.tproj 1) [.inp 22], .int .i64 0]]], .inp 16]], .bool true, .app (.bin .neq) [.app (.part 0 1 false) [.app (.tproj 0) [.inp 22]], .inp 16]]] <|
   .seg [.chk [(.app .pick [.app .pick [.app .pick [.app (.bin .neq) [.app .len [.app (.tproj 1) [.inp 22]], .int .i64 1], .bool true, .app (.bin .neq) [.app (.eload 1 false) [.app (.eoff 0) [.app (.eidx 6) [.app (.tproj 1) [.inp 22], .int .i64 0]]], .int .u8 1]], .bool true, .app (.bin .neq) [.app (.eload 1 false) [.app (.eoff 1) [.app (.eidx 6) [.app (.tproj 1) [.inp 22], .int .i64 0]]], .inp 16]], .bool true, .app (.bin .neq) [.app (.part 0 1 false) [.app (.tproj 0) [.inp 22]], .inp 16]], false)] (.bin .neq) [.app (.part 3 1 false) [.app (.tproj 0) [.inp 22]], .int .u8 0]] <|
   .seg [.chk [] .pick [.app .pick [.app .pick [.app .pick [.app (.bin .neq) [.app .len [.app (.tproj 1) [.inp 22]], .int .i64 1], .bool true, .app (.bin .neq) [.app (.eload 1 false) [.app (.eoff 0) [.app (.eidx 6) [.app (.tproj 1) [.inp 22], .int .i64 0]]], .int .u8 1]], .bool true, .app (.bin .neq) [.app (.eload 1 false) [.app (.eoff 1) [.app (.eidx 6) [.app (.tproj 1) [.inp 22], .int .i64 0]]], .inp 16]], .bool true, .app (.bin .neq) [.app (.part 0 1 false) [.app (.tproj 0) [.inp 22]], .inp 16]], .bool true, .app (.bin .neq) [.app (.part 3 1 false) [.app (.tproj 0) [.inp 22]], .int .u8 0]]] <|
   .seg [.chk [(.app .pick [.app .pick [.app .pick [.app .pick [.app (.bin .neq) [.app .len [.app (.tproj 1) [.inp 22]], .int .i64 1], .bool true, .app (.bin .neq) [.app (.eload 1 false) [.app (.eoff 0) [.app (.eidx 6) [.app (.tproj 1) [.inp 22], .int .i64 0]]], .int .u8 1]], .bool true, .app (.bin .neq) [.app (.eload 1 false) [.app (.eoff 1) [.app (.eidx 6) [.app (.tproj 1) [.inp 22], .int .i64 0]]], .inp 16]], .bool true, .app (.bin .neq) [.app (.part 0 1 false) [.app (.tproj 0) [.inp 22]], .inp 16]], .bool true, .app (.bin .neq) [.app (.part 3 1 false) [.app (.tproj 0) [.inp 22]], .int .u8 0]], false)] (.bin .neq) [.app (.part 2 1 false) [.app (.tproj 0) [.inp 22]], .inp 9]] <|
   .seg [.chk [] .pick [.app .pick [.app .pick [.app .pick [.app .pick [.app (.bin .neq) [.app .len [.app (.tproj 1) [.inp 22]], .int .i64 1], .bool true, .app (.bin .neq) [.app (.eload 1 false) [.app (.eoff 0) [.app (.eidx 6) [.app (.tproj 1) [.inp 22], .int .i64 0]]], .int .u8 1]], .bool true, .app (.bin .neq) [.app (.eload 1 false) [.app (.eoff 1) [.app (.eidx 6) [.app (.tproj 1) [.inp 22], .int .i64 0]]], .inp 16]], .bool true, .app (.bin .neq) [.app (.part 0 1 false) [.app (.tproj 0) [.inp 22]], .inp 16]], .bool true, .app (.bin .neq) [.app (.part 3 1 false) [.app (.tproj 0) [.inp 22]], .int .u8 0]], .bool true, .app (.bin .neq) [.app (.part 2 1 false) [.app (.tproj 0) [.inp 22]], .inp 9]]] <|
   .cond (.app .pick [.app .pick [.app .pick [.app .pick [.app .pick [.app (.bin .neq) [.app .len [.app (.tproj 1) [.inp 22]], .int .i64 1], .bool true, .app (.bin .neq) [.app (.eload 1 false) [.app (.eoff 0) [.app (.eidx 6) [.app (.tproj 1) [.inp 22], .int .i64 0]]], .int .u8 1]], .bool true, .app (.bin .neq) [.app (.eload 1 false) [.app (.eoff 1) [.app (.eidx 6) [.app (.tproj 1) [.inp 22], .int .i64 0]]], .inp 16]], .bool true, .app (.bin .neq) [.app (.part 0 1 false) [.app (.tproj 0) [.inp 22]], .inp 16]], .bool true, .app (.bin .neq) [.app (.part 3 1 false) [.app (.tproj 0) [.inp 22]], .int .u8 0]], .bool true, .app (.bin .neq) [.app (.part 2 1 false) [.app (.tproj 0) [.inp 22]], .inp 9]])
   (.ret (.bool false))
   (.seg [.chk [] .isOne [.inp 17],
    .chk [] .isOne [.inp 18]] <|
    .seg [.call 23 [] 10 [.agg [.inp 0, .inp 1, .inp 2, .inp 3, .inp 4, .inp 5, .inp 6, .inp 7, .inp 8, .inp 9, .inp 10], .agg [.inp 11, .inp 12, .inp 13, .inp 14, .inp 15], .agg [.int .u8 6, .inp 17, .inp 18]] false] <|
    .seg [.chk [] (.tproj 0) [.inp 23]] <|
    .seg [.chk [] (.tproj 1) [.inp 23]] <|
    .seg [.chk [] (.isAgg 5) [.app (.tproj 0) [.inp 23]]] <|
    .seg [.chk [] (.bin .geq) [.inp 17, .int .i64 0]] <|
    .seg [.chk [(.app (.bin .geq) [.inp 17, .int .i64 0], true)] .len [.inp 0]] <|
    .seg [.chk [(.app (.bin .geq) [.inp 17, .int .i64 0], true)] (.bin .lss) [.inp 17, .app .len [.inp 0]]] <|
    .seg [.chk [] .pick [.app (.bin .geq) [.inp 17, .int .i64 0], .app (.bin .lss) [.inp 17, .app .len [.inp 0]], .bool false]] <|
    .seg [.chk [(.app .pick [.app (.bin .geq) [.inp 17, .int .i64 0], .app (.bin .lss) [.inp 17, .app .len [.inp 0]], .bool false], true)] (.eidx 11) [.inp 0, .inp 17]] <|
    .seg [.chk [(.app .pick [.app (.bin .geq) [.inp 17, .int .i64 0], .app (.bin .lss) [.inp 17, .app .len [.inp 0]], .bool false], true)] (.eoff 0) [.app (.eidx 11) [.inp 0, .inp 17]]] <|
    .seg [.chk [(.app .pick [.app (.bin .geq) [.inp 17, .int .i64 0], .app (.bin .lss) [.inp 17, .app .len [.inp 0]], .bool false], true)] (.eload 1 false) [.app (.eoff 0) [.app (.eidx 11) [.inp 0, .inp 17]]]] <|
    .seg [.chk [(.app .pick [.app (.bin .geq) [.inp 17, .int .i64 0], .app (.bin .lss) [.inp 17, .app .len [.inp 0]], .bool false], true)] (.bin .eql) [.app (.eload 1 false) [.app (.eoff 0) [.app (.eidx 11) [.inp 0, .inp 17]]], .int .u8 2]] <|
    .seg [.chk [] .pick [.app .pick [.app (.bin .geq) [.inp 17, .int .i64 0], .app (.bin .lss) [.inp 17, .app .len [.inp 0]], .bool false], .app (.bin .eql) [.app (.eload 1 false) [.app (.eoff 0) [.app (.eidx 11) [.inp 0, .inp 17]]], .int .u8 2], .bool false]] <|
    .seg [.chk [(.app .pick [.app .pick [.app (.bin .geq) [.inp 17, .int .i64 0], .app (.bin .lss) [.inp 17, .app .len [.inp 0]], .bool false], .app (.bin .eql) [.app (.eload 1 false) [.app (.eoff 0) [.app (.eidx 11) [.inp 0, .inp 17]]], .int .u8 2], .bool false], true)] (.bin .geq) [.inp 18, .int .i64 0]] <|
    .seg [.chk [] .pick [.app .pick [.app .pick [.app (.bin .geq) [.inp 17, .int .i64 0], .app (.bin .lss) [.inp 17, .app .len [.inp 0]], .bool false], .app (.bin .eql) [.app (.eload 1 false) [.app (.eoff 0) [.app (.eidx 11) [.inp 0, .inp 17]]], .int .u8 2], .bool false], .app (.bin .geq) [.inp 18, .int .i64 0], .bool false]] <|
    .seg [.chk [(.app .pick [.app .pick [.app .pick [.app (.bin .geq) [.inp 17, .int .i64 0], .app (.bin .lss) [.inp 17, .app .len [.inp 0]], .bool false], .app (.bin .eql) [.app (.eload 1 false) [.app (.eoff 0) [.app (.eidx 11) [.inp 0, .inp 17]]], .int .u8 2], .bool false], .app (.bin .geq) [.inp 18, .int .i64 0], .bool false], true)] (.bin .leq) [.inp 18, .int .i64 1]] <|
    .seg [.chk [] .pick [.app .pick [.app .pick [.app .pick [.app (.bin .geq) [.inp 17, .int .i64 0], .app (.bin .lss) [.inp 17, .app .len [.inp 0]], .bool false], .app (.bin .eql) [.app (.eload 1 false) [.app (.eoff 0) [.app (.eidx 11) [.inp 0, .inp 17]]], .int .u8 2], .bool false], .app (.bin .geq) [.inp 18, .int .i64 0], .bool false], .app (.bin .leq) [.inp 18, .int .i64 1], .bool false]] <|
    .seg [.call 24 [] 12 [.agg [.app (.part 0 1 false) [.app (.tproj 0) [.inp 23]], .app (.part 1 1 false) [.app (.tproj 0) [.inp 23]], .app (.part 2 1 false) [.app (.tproj 0) [.inp 23]], .app (.part 3 1 false) [.app (.tproj 0) [.inp 23]], .app (.part 4 1 false) [.app (.tproj 0) [.inp 23]]], .agg [.inp 11, .inp 12, .inp 13, .inp 14, .inp 15]] false] <|
    .seg [.chk [(.inp 24, true)] .len [.app (.tproj 1) [.inp 23]]] <|
    .seg [.chk [(.inp 24, true)] (.bin .eql) [.app .len [.app (.tproj 1) [.inp 23]], .int .i64 1]] <|
    .seg [.chk [(.inp 24, true)] (.eqb false) [.app (.bin .eql) [.app .len [.app (.tproj 1) [.inp 23]], .int .i64 1], .app .pick [.app .pick [.app .pick [.app .pick [.app (.bin .geq) [.inp 17, .int .i64 0], .app (.bin .lss) [.inp 17, .app .len [.inp 0]], .bool false], .app (.bin .eql) [.app (.eload 1 false) [.app (.eoff 0) [.app (.eidx 11) [.inp 0, .inp 17]]], .int .u8 2], .bool false], .app (.bin .geq) [.inp 18, .int .i64 0], .bool false], .app (.bin .leq) [.inp 18, .int .i64 1], .bool false]]] <|
    .seg [.chk [] .pick [.inp 24, .app (.eqb false) [.app (.bin .eql) [.app .len [.app (.tproj 1) [.inp 23]], .int .i64 1], .app .pick [.app .pick [.app .pick [.app .pick [.app (.bin .geq) [.inp 17, .int .i64 0], .app (.bin .lss) [.inp 17, .app .len [.inp 0]], .bool false], .app (.bin .eql) [.app (.eload 1 false) [.app (.eoff 0) [.app (.eidx 11) [.inp 0, .inp 17]]], .int .u8 2], .bool false], .app (.bin .geq) [.inp 18, .int .i64 0], .bool false], .app (.bin .leq) [.inp 18, .int .i64 1], .bool false]], .bool false]] <|
    .seg [.chk [(.app .pick [.inp 24, .app (.eqb false) [.app (.bin .eql) [.app .len [.app (.tproj 1) [.inp 23]], .int .i64 1], .app .pick [.app .pick [.app .pick [.app .pick [.app (.bin .geq) [.inp 17, .int .i64 0], .app (.bin .lss) [.inp 17, .app .len [.inp 0]], .bool false], .app (.bin .eql) [.app (.eload 1 false) [.app (.eoff 0) [.app (.eidx 11) [.inp 0, .inp 17]]], .int .u8 2], .bool false], .app (.bin .geq) [.inp 18, .int .i64 0], .bool false], .app (.bin .leq) [.inp 18, .int .i64 1], .bool false]], .bool false], true)] .len [.app (.tproj 1) [.inp 23]]] <|
    .seg [.chk [(.app .pick [.inp 24, .app (.eqb false) [.app (.bin .eql) [.app .len [.app (.tproj 1) [.inp 23]], .int .i64 1], .app .pick [.app .pick [.app .pick [.app .pick [.app (.bin .geq) [.inp 17, .int .i64 0], .app (.bin .lss) [.inp 17, .app .len [.inp 0]], .bool false], .app (.bin .eql) [.app (.eload 1 false) [.app (.eoff 0) [.app (.eidx 11) [.inp 0, .inp 17]]], .int .u8 2], .bool false], .app (.bin .geq) [.inp 18, .int .i64 0], .bool false], .app (.bin .leq) [.inp 18, .int .i64 1], .bool false]], .bool false], true)] (.bin .eql) [.app .len [.app (.tproj 1) [.inp 23]], .int .i64 0]] <|
    .seg [.chk [(.app (.bin .eql) [.app .len [.app (.tproj 1) [.inp 23]], .int .i64 0], false), (.app .pick [.inp 24, .app (.eqb false) [.app (.bin .eql) [.app .len [.app (.tproj 1) [.inp 23]], .int .i64 1], .app .pick [.app .pick [.app .pick [.app .pick [.app (.bin .geq) [.inp 17, .int .i64 0], .app (.bin .lss) [.inp 17, .app .len [.inp 0]], .bool false], .app (.bin .eql) [.app (.eload 1 false) [.app (.eoff 0) [.app (.eidx 11) [.inp 0, .inp 17]]], .int .u8 2], .bool false], .app (.bin .geq) [.inp 18, .int .i64 0], .bool false], .app (.bin .leq) [.inp 18, .int .i64 1], .bool false]], .bool false], true)] (.eidx 6) [.app (.tproj 1) [.inp 23], .int .i64 0]] <|
    .seg [.chk [(.app (.bin .eql) [.app .len [.app (.tproj 1) [.inp 23]], .int .i64 0], false), (.app .pick [.inp 24, .app (.eqb false) [.app (.bin .eql) [.app .len [.app (.tproj 1) [.inp 23]], .int .i64 1], .app .pick [.app .pick [.app .pick [.app .pick [.app (.bin .geq) [.inp 17, .int .i64 0], .app (.bin .lss) [.inp 17, .app .len [.inp 0]], .bool false], .app (.bin .eql) [.app (.eload 1 false) [.app (.eoff 0) [.app (.eidx 11) [.inp 0, .inp 17]]], .int .u8 2], .bool false], .app (.bin .geq) [.inp 18, .int .i64 0], .bool false], .app (.bin .leq) [.inp 18, .int .i64 1], .bool false]], .bool false], true)] (.eoff 0) [.app (.eidx 6) [.app (.tproj 1) [.inp 23], .int .i64 0]]] <|
    .seg [.chk [(.app (.bin .eql) [.app .len [.app (.tproj 1) [.inp 23]], .int .i64 0], false), (.app .pick [.inp 24, .app (.eqb false) [.app (.bin .eql) [.app .len [.app (.tproj 1) [.inp 23]], .int .i64 1], .app .pick [.app .pick [.app .pick [.app .pick [.app (.bin .geq) [.inp 17, .int .i64 0], .app (.bin .lss) [.inp 17, .app .len [.inp 0]], .bool false], .app (.bin .eql) [.app (.eload 1 false) [.app (.eoff 0) [.app (.eidx 11) [.inp 0, .inp 17]]], .int .u8 2], .bool false], .app (.bin .geq) [.inp 18, .int .i64 0], .bool false], .app (.bin .leq) [.inp 18, .int .i64 1], .bool false]], .bool false], true)] (.eload 1 false) [.app (.eoff 0) [.app (.eidx 6) [.app (.tproj 1) [.inp 23], .int .i64 0]]]] <|
    .seg [.chk [(.app (.bin .eql) [.app .len [.app (.tproj 1) [.inp 23]], .int .i64 0], false), (.app .pick [.inp 24, .app (.eqb false) [.app (.bin .eql) [.app .len [.app (.tproj 1) [.inp 23]], .int .i64 1], .app .pick [.app .pick [.app .pick [.app .pick [.app (.bin .geq) [.inp 17, .int .i64 0], .app (.bin .lss) [.inp 17, .app .len [.inp 0]], .bool false], .app (.bin .eql) [.app (.eload 1 false) [.app (.eoff 0) [.app (.eidx 11) [.inp 0, .inp 17]]], .int .u8 2], .bool false], .app (.bin .geq) [.inp 18, .int .i64 0], .bool false], .app (.bin .leq) [.inp 18, .int .i64 1], .bool false]], .bool false], true)] (.bin .eql) [.app (.eload 1 false) [.app (.eoff 0) [.app (.eidx 6) [.app (.tproj 1) [.inp 23], .int .i64 0]]], .int .u8 4]] <|
    .seg [.chk [(.app (.bin .eql) [.app (.eload 1 false) [.app (.eoff 0) [.app (.eidx 6) [.app (.tproj 1) [.inp 23], .int .i64 0]]], .int .u8 4], true), (.app (.bin .eql) [.app .len [.app (.tproj 1) [.inp 23]], .int .i64 0], false), (.app .pick [.inp 24, .app (.eqb false) [.app (.bin .eql) [.app .len [.app (.tproj 1) [.inp 23]], .int .i64 1], .app .pick [.app .pick [.app .pick [.app .pick [.app (.bin .geq) [.inp 17, .int .i64 0], .app (.bin .lss) [.inp 17, .app .len [.inp 0]], .bool false], .app (.bin .eql) [.app (.eload 1 false) [.app (.eoff 0) [.app (.eidx 11) [.inp 0, .inp 17]]], .int .u8 2], .bool false], .app (.bin .geq) [.inp 18, .int .i64 0], .bool false], .app (.bin .leq) [.inp 18, .int .i64 1], .bool false]], .bool false], true)] (.eidx 6) [.app (.tproj 1) [.inp 23], .int .i64 0]] <|
    .seg [.chk [(.app (.bin .eql) [.app (.eload 1 false) [.app (.eoff 0) [.app (.eidx 6) [.app (.tproj 1) [.inp 23], .int .i64 0]]], .int .u8 4], true), (.app (.bin .eql) [.app .len [.app (.tproj 1) [.inp 23]], .int .i64 0], false), (.app .pick [.inp 24, .app (.eqb false) [.app (.bin .eql) [.app .len [.app (.tproj 1) [.inp 23]], .int .i64 1], .app .pick [.app .pick [.app .pick [.app .pick [.app (.bin .geq) [.inp 17, .int .i64 0], .app (.bin .lss) [.inp 17, .app .len [.inp 0]], .bool false], .app (.bin .eql) [.app (.eload 1 false) [.app (.eoff 0) [.app (.eidx 11) [.inp 0, .inp 17]]], .int .u8 2], .bool false], .app (.bin .geq) [.inp 18, .int .i64 0], .bool false], .app (.bin .leq) [.inp 18, .int .i64 1], .bool false]], .bool false], true)] (.eoff 1) [.app (.eidx 6) [.app (.tproj 1) [.inp 23], .int .i64 0]]] <|
    .seg [.chk [(.app (.bin .eql) [.app (.eload 1 false) [.app (.eoff 0) [.app (.eidx 6) [.app (.tproj 1) [.inp 23], .int .i64 0]]], .int .u8 4], true), (.app (.bin .eql) [.app .len [.app (.tproj 1) [.inp 23]], .int .i64 0], false), (.app .pick [.inp 24, .app (.eqb false) [.app (.bin .eql) [.app .len [.app (.tproj 1) [.inp 23]], .int .i64 1], .app .pick [.app .pick [.app .pick [.app .pick [.app (.bin .geq) [.inp 17, .int .i64 0], .app (.bin .lss) [.inp 17, .app .len [.inp 0]], .bool false], .app (.bin .eql) [.app (.eload 1 false) [.app (.eoff 0) [.app (.eidx 11) [.inp 0, .inp 17]]], .int .u8 2], .bool false], .app (.bin .geq) [.inp 18, .int .i64 0], .bool false], .app (.bin .leq) [.inp 18, .int .i64 1], .bool false]], .bool false], true)] (.eload 1 false) [.app (.eoff 1) [.app (.eidx 6) [.app (.tproj 1) [.inp 23], .int .i64 0]]]] <|
    .seg [.chk [(.app (.bin .eql) [.app (.eload 1 false) [.app (.eoff 0) [.app (.eidx 6) [.app (.tproj 1) [.inp 23], .int .i64 0]]], .int .u8 4], true), (.app (.bin .eql) [.app .len [.app (.tproj 1) [.inp 23]], .int .i64 0], false), (.app .pick [.inp 24, .app (.eqb false) [.app (.bin .eql) [.app .len [.app (.tproj 1) [.inp 23]], .int .i64 1], .app .pick [.app .pick [.app .pick [.app .pick [.app (.bin .geq) [.inp 17, .int .i64 0], .app (.bin .lss) [.inp 17, .app .len [.inp 0]], .bool false], .app (.bin .eql) [.app (.eload 1 false) [.app (.eoff 0) [.app (.eidx 11) [.inp 0, .inp 17]]], .int .u8 2], .bool false], .app (.bin .geq) [.inp 18, .int .i64 0], .bool false], .app (.bin .leq) [.inp 18, .int .i64 1], .bool false]], .bool false], true)] (.bin .eql) [.app (.eload 1 false) [.app (.eoff 1) [.app (.eidx 6) [.app (.tproj 1) [.inp 23], .int .i64 0]]], .inp 17]] <|
    .seg [.chk [(.app (.bin .eql) [.app .len [.app (.tproj 1) [.inp 23]], .int .i64 0], false), (.app .pick [.inp 24, .app (.eqb false) [.app (.bin .eql) [.app .len [.app (.tproj 1) [.inp 23]], .int .i64 1], .app .pick [.app .pick [.app .pick [.app .pick [.app (.bin .geq) [.inp 17, .int .i64 0], .app (.bin .lss) [.inp 17, .app .len [.inp 0]], .bool false], .app (.bin .eql) [.app (.eload 1 false) [.app (.eoff 0) [.app (.eidx 11) [.inp 0, .inp 17]]], .int .u8 2], .bool false], .app (.bin .geq) [.inp 18, .int .i64 0], .bool false], .app (.bin .leq) [.inp 18, .int .i64 1], .bool false]], .bool false], true)] .pick [.app (.bin .eql) [.app (.eload 1 false) [.app (.eoff 0) [.app (.eidx 6) [.app (.tproj 1) [.inp 23], .int .i64 0]]], .int .u8 4], .app (.bin .eql) [.app (.eload 1 false) [.app (.eoff 1) [.app (.eidx 6) [.app (.tproj 1) [.inp 23], .int .i64 0]]], .inp 17], .bool false]] <|
    .seg [.chk [(.app .pick [.app (.bin .eql) [.app (.eload 1 false) [.app (.eoff 0) [.app (.eidx 6) [.app (.tproj 1) [.inp 23], .int .i64 0]]], .int .u8 4], .app (.bin .eql) [.app (.eload 1 false) [.app (.eoff 1) [.app (.eidx 6) [.app (.tproj 1) [.inp 23], .int .i64 0]]], .inp 17], .bool false], true), (.app (.bin .eql) [.app .len [.app (.tproj 1) [.inp 23]], .int .i64 0], false), (.app .pick [.inp 24, .app (.eqb false) [.app (.bin .eql) [.app .len [.app (.tproj 1) [.inp 23]], .int .i64 1], .app .pick [.app .pick [.app .pick [.app .pick [.app (.bin .geq) [.inp 17, .int .i64 0], .app (.bin .lss) [.inp 17, .app .len [.inp 0]], .bool false], .app (.bin .eql) [.app (.eload 1 false) [.app (.eoff 0) [.app (.eidx 11) [.inp 0, .inp 17]]], .int .u8 2], .bool false], .app (.bin .geq) [.inp 18, .int .i64 0], .bool false], .app (.bin .leq) [.inp 18, .int .i64 1], .bool false]], .bool false], true)] (.eidx 6) [.app (.tproj 1) [.inp 23], .int .i64 0]] <|
    .seg [.chk [(.app .pick [.app (.bin .eql) [.app (.eload 1 false) [.app (.eoff 0) [.app (.eidx 6) [.app (.tproj 1) [.inp 23], .int .i64 0]]], .int .u8 4], .app (.bin .eql) [.app (.eload 1 false) [.app (.eoff 1) [.app (.eidx 6) [.app (.tproj 1) [.inp 23], .int .i64 0]]], .inp 17], .bool false], true), (.app (.bin .eql) [.app .len [.app (.tproj 1) [.inp 23]], .int .i64 0], false), (.app .pick [.inp 24, .app (.eqb false) [.app (.bin .eql) [.app .len [.app (.tproj 1) [.inp 23]], .int .i64 1], .app .pick [.app .pick [.app .pick [.app .pick [.app (.bin .geq) [.inp 17, .int .i64 0], .app (.bin .lss) [.inp 17, .app .len [.inp 0]], .bool false], .app (.bin .eql) [.app (.eload 1 false) [.app (.eoff 0) [.app (.eidx 11) [.inp 0, .inp 17]]], .int .u8 2], .bool false], .app (.bin .geq) [.inp 18, .int .i64 0], .bool false], .app (.bin .leq) [.inp 18, .int .i64 1], .bool false]], .bool false], true)] (.eoff 2) [.app (.eidx 6) [.app (.tproj 1) [.inp 23], .int .i64 0]]] <|
    .seg [.chk [(.app .pick [.app (.bin .eql) [.app (.eload 1 false) [.app (.eoff 0) [.app (.eidx 6) [.app (.tproj 1) [.inp 23], .int .i64 0]]], .int .u8 4], .app (.bin .eql) [.app (.eload 1 false) [.app (.eoff 1) [.app (.eidx 6) [.app (.tproj 1) [.inp 23], .int .i64 0]]], .inp 17], .bool false], true), (.app (.bin .eql) [.app .len [.app (.tproj 1) [.inp 23]], .int .i64 0], false), (.app .pick [.inp 24, .app (.eqb false) [.app (.bin .eql) [.app .len [.app (.tproj 1) [.inp 23]], .int .i64 1], .app .pick [.app .pick [.app .pick [.app .pick [.app (.bin .geq) [.inp 17, .int .i64 0], .app (.bin .lss) [.inp 17, .app .len [.inp 0]], .bool false], .app (.bin .eql) [.app (.eload 1 false) [.app (.eoff 0) [.app (.eidx 11) [.inp 0, .inp 17]]], .int .u8 2], .bool false], .app (.bin .geq) [.inp 18, .int .i64 0], .bool false], .app (.bin .leq) [.inp 18, .int .i64 1], .bool false]], .bool false], true)] (.eload 1 false) [.app (.eoff 2) [.app (.eidx 6) [.app (.tproj 1) [.inp 23], .int .i64 0]]]] <|
    .seg [.chk [(.app .pick [.app (.bin .eql) [.app (.eload 1 false) [.app (.eoff 0) [.app (.eidx 6) [.app (.tproj 1) [.inp 23], .int .i64 0]]], .int .u8 4], .app (.bin .eql) [.app (.eload 1 false) [.app (.eoff 1) [.app (.eidx 6) [.app (.tproj 1) [.inp 23], .int .i64 0]]], .inp 17], .bool false], true), (.app (.bin .eql) [.app .len [.app (.tproj 1) [.inp 23]], .int .i64 0], false), (.app .pick [.inp 24, .app (.eqb false) [.app (.bin .eql) [.app .len [.app (.tproj 1) [.inp 23]], .int .i64 1], .app .pick [.app .pick [.app .pick [.app .pick [.app (.bin .geq) [.inp 17, .int .i64 0], .app (.bin .lss) [.inp 17, .app .len [.inp 0]], .bool false], .app (.bin .eql) [.app (.eload 1 false) [.app (.eoff 0) [.app (.eidx 11) [.inp 0, .inp 17]]], .int .u8 2], .bool false], .app (.bin .geq) [.inp 18, .int .i64 0], .bool false], .app (.bin .leq) [.inp 18, .int .i64 1], .bool false]], .bool false], true)] (.bin .eql) [.app (.eload 1 false) [.app (.eoff 2) [.app (.eidx 6) [.app (.tproj 1) [.inp 23], .int .i64 0]]], .inp 18]] <|
    .seg [.chk [(.app (.bin .eql) [.app .len [.app (.tproj 1) [.inp 23]], .int .i64 0], false), (.app .pick [.inp 24, .app (.eqb false) [.app (.bin .eql) [.app .len [.app (.tproj 1) [.inp 23]], .int .i64 1], .app .pick [.app .pick [.app .pick [.app .pick [.app (.bin .geq) [.inp 17, .int .i64 0], .app (.bin .lss) [.inp 17, .app .len [.inp 0]], .bool false], .app (.bin .eql) [.app (.eload 1 false) [.app (.eoff 0) [.app (.eidx 11) [.inp 0, .inp 17]]], .int .u8 2], .bool false], .app (.bin .geq) [.inp 18, .int .i64 0], .bool false], .app (.bin .leq) [.inp 18, .int .i64 1], .bool false]], .bool false], true)] .pick [.app .pick [.app (.bin .eql) [.app (.eload 1 false) [.app (.eoff 0) [.app (.eidx 6) [.app (.tproj 1) [.inp 23], .int .i64 0]]], .int .u8 4], .app (.bin .eql) [.app (.eload 1 false) [.app (.eoff 1) [.app (.eidx 6) [.app (.tproj 1) [.inp 23], .int .i64 0]]], .inp 17], .bool false], .app (.bin .eql) [.app (.eload 1 false) [.app (.eoff 2) [.app (.eidx 6) [.app (.tproj 1) [.inp 23], .int .i64 0]]], .inp 18], .bool false]] <|
    .seg [.chk [(.app .pick [.inp 24, .app (.eqb false) [.app (.bin .eql) [.app .len [.app (.tproj 1) [.inp 23]], .int .i64 1], .app .pick [.app .pick [.app .pick [.app .pick [.app (.bin .geq) [.inp 17, .int .i64 0], .app (.bin .lss) [.inp 17, .app .len [.inp 0]], .bool false], .app (.bin .eql) [.app (.eload 1 false) [.app (.eoff 0) [.app (.eidx 11) [.inp 0, .inp 17]]], .int .u8 2], .bool false], .app (.bin .geq) [.inp 18, .int .i64 0], .bool false], .app (.bin .leq) [.inp 18, .int .i64 1], .bool false]], .bool false], true)] .pick [.app (.bin .eql) [.app .len [.app (.tproj 1) [.inp 23]], .int .i64 0], .bool true, .app .pick [.app .pick [.app (.bin .eql) [.app (.eload 1 false) [.app (.eoff 0) [.app (.eidx 6) [.app (.tproj 1) [.inp 23], .int .i64 0]]], .int .u8 4], .app (.bin .eql) [.app (.eload 1 false) [.app (.eoff 1) [.app (.eidx 6) [.app (.tproj 1) [.inp 23], .int .i64 0]]], .inp 17], .bool false], .app (.bin .eql) [.app (.eload 1 false) [.app (.eoff 2) [.app (.eidx 6) [.app (.tproj 1) [.inp 23], .int .i64 0]]], .inp 18], .bool false]]] <|
    .seg [.chk [] .pick [.app .pick [.inp 24, .app (.eqb false) [.app (.bin .eql) [.app .len [.app (.tproj 1) [.inp 23]], .int .i64 1], .app .pick [.app .pick [.app .pick [.app .pick [.app (.bin .geq) [.inp 17, .int .i64 0], .app (.bin .lss) [.inp 17, .app .len [.inp 0]], .bool false], .app (.bin .eql) [.app (.eload 1 false) [.app (.eoff 0) [.app (.eidx 11) [.inp 0, .inp 17]]], .int .u8 2], .bool false], .app (.bin .geq) [.inp 18, .int .i64 0], .bool false], .app (.bin .leq) [.inp 18, .int .i64 1], .bool false]], .bool false], .app .pick [.app (.bin .eql) [.app .len [.app (.tproj 1) [.inp 23]], .int .i64 0], .bool true, .app .pick [.app .pick [.app (.bin .eql) [.app (.eload 1 false) [.app (.eoff 0) [.app (.eidx 6) [.app (.tproj 1) [.inp 23], .int .i64 0]]], .int .u8 4], .app (.bin .eql) [.app (.eload 1 false) [.app (.eoff 1) [.app (.eidx 6) [.app (.tproj 1) [.inp 23], .int .i64 0]]], .inp 17], .bool false], .app (.bin .eql) [.app (.eload 1 false) [.app (.eoff 2) [.app (.eidx 6) [.app (.tproj 1) [.inp 23], .int .i64 0]]], .inp 18], .bool false]], .bool false]] <|
    .seg [.chk [(.app .pick [.app .pick [.inp 24, .app (.eqb false) [.app (.bin .eql) [.app .len [.app (.tproj 1) [.inp 23]], .int .i64 1], .app .pick [.app .pick [.app .pick [.app .pick [.app (.bin .geq) [.inp 17, .int .i64 0], .app (.bin .lss) [.inp 17, .app .len [.inp 0]], .bool false], .app (.bin .eql) [.app (.eload 1 false) [.app (.eoff 0) [.app (.eidx 11) [.inp 0, .inp 17]]], .int .u8 2], .bool false], .app (.bin .geq) [.inp 18, .int .i64 0], .bool false], .app (.bin .leq) [.inp 18, .int .i64 1], .bool false]], .bool false], .app .pick [.app (.bin .eql) [.app .len [.app (.tproj 1) [.inp 23]], .int .i64 0], .bool true, .app .pick [.app .pick [.app (.bin .eql) [.app (.eload 1 false) [.app (.eoff 0) [.app (.eidx 6) [.app (.tproj 1) [.inp 23], .int .i64 0]]], .int .u8 4], .app (.bin .eql) [.app (.eload 1 false) [.app (.eoff 1) [.app (.eidx 6) [.app (.tproj 1) [.inp 23], .int .i64 0]]], .inp 17], .bool false], .app (.bin .eql) [.app (.eload 1 false) [.app (.eoff 2) [.app (.eidx 6) [.app (.tproj 1) [.inp 23], .int .i64 0]]], .inp 18], .bool false]], .bool false], true)] .len [.app (.tproj 1) [.inp 23]]] <|
    .seg [.chk [(.app .pick [.app .pick [.inp 24, .app (.eqb false) [.app (.bin .eql) [.app .len [.app (.tproj 1) [.inp 23]], .int .i64 1], .app .pick [.app .pick [.app .pick [.app .pick [.app (.bin .geq) [.inp 17, .int .i64 0], .app (.bin .lss) [.inp 17, .app .len [.inp 0]], .bool false], .app (.bin .eql) [.app (.eload 1 false) [.app (.eoff 0) [.app (.eidx 11) [.inp 0, .inp 17]]], .int .u8 2], .bool false], .app (.bin .geq) [.inp 18, .int .i64 0], .bool false], .app (.bin .leq) [.inp 18, .int .i64 1], .bool false]], .bool false], .app .pick [.app (.bin .eql) [.app .len [.app (.tproj 1) [.inp 23]], .int .i64 0], .bool true, .app .pick [.app .pick [.app (.bin .eql) [.app (.eload 1 false) [.app (.eoff 0) [.app (.eidx 6) [.app (.tproj 1) [.inp 23], .int .i64 0]]], .int .u8 4], .app (.bin .eql) [.app (.eload 1 false) [.app (.eoff 1) [.app (.eidx 6) [.app (.tproj 1) [.inp 23], .int .i64 0]]], .inp 17], .bool false], .app (.bin .eql) [.app (.eload 1 false) [.app (.eoff 2) [.app (.eidx 6) [.app (.tproj 1) [.inp 23], .int .i64 0]]], .inp 18], .bool false]], .bool false], true)] (.bin .lss) [.app .len [.app (.tproj 1) [.inp 23]], .int .i64 2]] <|
    .seg [.chk [] .pick [.app .pick [.app .pick [.inp 24, .app (.eqb false) [.app (.bin .eql) [.app .len [.app (.tproj 1) [.inp 23]], .int .i64 1], .app .pick [.app .pick [.app .pick [.app .pick [.app (.bin .geq) [.inp 17, .int .i64 0], .app (.bin .lss) [.inp 17, .app .len [.inp 0]], .bool false], .app (.bin .eql) [.app (.eload 1 false) [.app (.eoff 0) [.app (.eidx 11) [.inp 0, .inp 17]]], .int .u8 2], .bool false], .app (.bin .geq) [.inp 18, .int .i64 0], .bool false], .app (.bin .leq) [.inp 18, .int .i64 1], .bool false]], .bool false], .app .pick [.app (.bin .eql) [.app .len [.app (.tproj 1) [.inp 23]], .int .i64 0], .bool true, .app .pick [.app .pick [.app (.bin .eql) [.app (.eload 1 false) [.app (.eoff 0) [.app (.eidx 6) [.app (.tproj 1) [.inp 23], .int .i64 0]]], .int .u8 4], .app (.bin .eql) [.app (.eload 1 false) [.app (.eoff 1) [.app (.eidx 6) [.app (.tproj 1) [.inp 23], .int .i64 0]]], .inp 17], .bool false], .app (.bin .eql) [.app (.eload 1 false) [.app (.eoff 2) [.app (.eidx 6) [.app (.tproj 1) [.inp 23], .int .i64 0]]], .inp 18], .bool false]], .bool false], .app (.bin .lss) [.app .len [.app (.tproj 1) [.inp 23]], .int .i64 2], .bool false]] <|
    .seg [.call 25 [(.app .pick [.app .pick [.app .pick [.inp 24, .app (.eqb false) [.app (.bin .eql) [.app .len [.app (.tproj 1) [.inp 23]], .int .i64 1], .app .pick [.app .pick [.app .pick [.app .pick [.app (.bin .geq) [.inp 17, .int .i64 0], .app (.bin .lss) [.inp 17, .app .len [.inp 0]], .bool false], .app (.bin .eql) [.app (.eload 1 false) [.app (.eoff 0) [.app (.eidx 11) [.inp 0, .inp 17]]], .int .u8 2], .bool false], .app (.bin .geq) [.inp 18, .int .i64 0], .bool false], .app (.bin .leq) [.inp 18, .int .i64 1], .bool false]], .bool false], .app .pick [.app (.bin .eql) [.app .len [.app (.tproj 1) [.inp 23]], .int .i64 0], .bool true, .app .pick [.app .pick [.app (.bin .eql) [.app (.eload 1 false) [.app (.eoff 0) [.app (.eidx 6) [.app (.tproj 1) [.inp 23], .int .i64 0]]], .int .u8 4], .app (.bin .eql) [.app (.eload 1 false) [.app (.eoff 1) [.app (.eidx 6) [.app (.tproj 1) [.inp 23], .int .i64 0]]], .inp 17], .bool false], .app (.bin .eql) [.app (.eload 1 false) [.app (.eoff 2) [.app (.eidx 6) [.app (.tproj 1) [.inp 23], .int .i64 0]]], .inp 18], .bool false]], .bool false], .app (.bin .lss) [.app .len [.app (.tproj 1) [.inp 23]], .int .i64 2], .bool false], true)] 9 [] false] <|
    .seg [.chk [] .pick [.app .pick [.app .pick [.app .pick [.inp 24, .app (.eqb false) [.app (.bin .eql) [.app .len [.app (.tproj 1) [.inp 23]], .int .i64 1], .app .pick [.app .pick [.app .pick [.app .pick [.app (.bin .geq) [.inp 17, .int .i64 0], .app (.bin .lss) [.inp 17, .app .len [.inp 0]], .bool false], .app (.bin .eql) [.app (.eload 1 false) [.app (.eoff 0) [.app (.eidx 11) [.inp 0, .inp 17]]], .int .u8 2], .bool false], .app (.bin .geq) [.inp 18, .int .i64 0], .bool false], .app (.bin .leq) [.inp 18, .int .i64 1], .bool false]], .bool false], .app .pick [.app (.bin .eql) [.app .len [.app (.tproj 1) [.inp 23]], .int .i64 0], .bool true, .app .pick [.app .pick [.app (.bin .eql) [.app (.eload 1 false) [.app (.eoff 0) [.app (.eidx 6) [.app (.tproj 1) [.inp 23], .int .i64 0]]], .int .u8 4], .app (.bin .eql) [.app (.eload 1 false) [.app (.eoff 1) [.app (.eidx 6) [.app (.tproj 1) [.inp 23], .int .i64 0]]], .inp 17], .bool false], .app (.bin .eql) [.app (.eload 1 false) [.app (.eoff 2) [.app (.eidx 6) [.app (.tproj 1) [.inp 23], .int .i64 0]]], .inp 18], .bool false]], .bool false], .app (.bin .lss) [.app .len [.app (.tproj 1) [.inp 23]], .int .i64 2], .bool false], .inp 25, .bool false]] <|
    .ret (.app .pick [.app .pick [.app .pick [.app .pick [.inp 24, .app (.eqb false) [.app (.bin .eql) [.app .len [.app (.tproj 1) [.inp 23]], .int .i64 1], .app .pick [.app .pick [.app .pick [.app .pick [.app (.bin .geq) [.inp 17, .int .i64 0], .app (.bin .lss) [.inp 17, .app .len [.inp 0]], .bool false], .app (.bin .eql) [.app (.eload 1 false) [.app (.eoff 0) [.app (.eidx 11) [.inp 0, .inp 17]]], .int .u8 2], .bool false], .app (.bin .geq) [.inp 18, .int .i64 0], .bool false], .app (.bin .leq) [.inp 18, .int .i64 1], .bool false]], .bool false], .app .pick [.app (.bin .eql) [.app .len [.app (.tproj 1) [.inp 23]], .int .i64 0], .bool true, .app .pick [.app .pick [.app (.bin .eql) [.app (.eload 1 false) [.app (.eoff 0) [.app (.eidx 6) [.app (.tproj 1) [.inp 23], .int .i64 0]]], .int .u8 4], .app (.bin .eql) [.app (.eload 1 false) [.app (.eoff 1) [.app (.eidx 6) [.app (.tproj 1) [.inp 23], .int .i64 0]]], .inp 17], .bool false], .app (.bin .eql) [.app (.eload 1 false) [.app (.eoff 2) [.app (.eidx 6) [.app (.tproj 1) [.inp 23], .int .i64 0]]], .inp 18], .bool false]], .bool false], .app (.bin .lss) [.app .len [.app (.tproj 1) [.inp 23]], .int .i64 2], .bool false], .inp 25, .bool false])))
  (.seg [.chk [] .isOne [.inp 16]] <|
   .seg [.chk [] (.isAgg 3) [.agg [.int .u8 3, .inp 16, .int .i64 0]]] <|
   .seg [.chk [] (.isAgg 3) [.agg [.int .u8 3, .inp 16, .int .i64 0]],
   .chk [] (.isAgg 3) [.agg [.int .u8 3, .inp 16, .int .i64 0]]] <|
   .seg [.call 22 [] 14 [.agg [.inp 0, .inp 1, .inp 2, .inp 3, .inp 4, .inp 5, .inp 6, .inp 7, .inp 8, .inp 9, .inp 10], .agg [.inp 11, .inp 12, .inp 13, .inp 14, .inp 15], .app .lst [.agg [.int .u8 2, .int .i64 0, .int .i64 0], .agg [.int .u8 3, .inp 16, .int .i64 0], .agg [.int .u8 3, .inp 16, .int .i64 0]]] false] <|
   .seg [.chk [] (.tproj 0) [.inp 22]] <|
   .seg [.chk [] (.tproj 1) [.inp 22]] <|
   .seg [.chk [] (.isAgg 5) [.app (.tproj 0) [.inp 22]]] <|
   .seg [.chk [] .len [.app (.tproj 1) [.inp 22]]] <|
   .seg [.chk [] (.bin .neq) [.app .len [.app (.tproj 1) [.inp 22]], .int .i64 1]] <|
   .seg [.chk [(.app (.bin .neq) [.app .len [.app (.tproj 1) [.inp 22]], .int .i64 1], false)] (.eidx 6) [.app (.tproj 1) [.inp 22], .int .i64 0]] <|
   .seg [.chk [(.app (.bin .neq) [.app .len [.app (.tproj 1) [.inp 22]], .int .i64 1], false)] (.eoff 0) [.app (.eidx 6) [.app (.tproj 1) [.inp 22], .int .i64 0]]] <|
   .seg [.chk [(.app (.bin .neq) [.app .len [.app (.tproj 1) [.inp 22]], .int .i64 1], false)] (.eload 1 false) [.app (.eoff 0) [.app (.eidx 6) [.app (.tproj 1) [.inp 22], .int .i64 0]]]] <|
   .seg [.chk [(.app (.bin .neq) [.app .len [.app (.tproj 1) [.inp 22]], .int .i64 1], false)] (.bin .neq) [.app (.eload 1 false) [.app (.eoff 0) [.app (.eidx 6) [.app (.tproj 1) [.inp 22], .int .i64 0]]], .int .u8 2]] <|
   .seg [.chk [] .pick [.app (.bin .neq) [.app .len [.app (.tproj 1) [.inp 22]], .int .i64 1], .bool true, .app (.bin .neq) [.app (.eload 1 false) [.app (.eoff 0) [.app (.eidx 6) [.app (.tproj 1) [.inp 22], .int .i64 0]]], .int .u8 2]]] <|
   .seg [.chk [(.app .pick [.app (.bin .neq) [.app .len [.app (.tproj 1) [.inp 22]], .int .i64 1], .bool true, .app (.bin .neq) [.app (.eload 1 false) [.app (.eoff 0) [.app (.eidx 6) [.app (.tproj 1) [.inp 22], .int .i64 0]]], .int .u8 2]], false)] (.eidx 6) [.app (.tproj 1) [.inp 22], .int .i64 0]] <|
   .seg [.chk [(.app .pick [.app (.bin .neq) [.app .len [.app (.tproj 1) [.inp 22]], .int .i64 1], .bool true, .app (.bin .neq) [.app (.eload 1 false) [.app (.eoff 0) [.app (.eidx 6) [.app (.tproj 1) [.inp 22], .int .i64 0]]], .int .u8 2]], false)] (.eoff 1) [.app (.eidx 6) [.app (.tproj 1) [.inp 22], .int .i64 0]]] <|
   .seg [.chk [(.app .pick [.app (.bin .neq) [.app .len [.app (.tproj 1) [.inp 22]], .int .i64 1], .bool true, .app (.bin .neq) [.app (.eload 1 false) [.app (.eoff 0) [.app (.eidx 6) [.app (.tproj 1) [.inp 22], .int .i64 0]]], .int .u8 2]], false)] (.eload 1 false) [.app (.eoff 1) [.app (.eidx 6) [.app (.tproj 1) [.inp 22], .int .i64 0]]]] <|
   .seg [.chk [(.app .pick [.app (.bin .neq) [.app .len [.app (.tproj 1) [.inp 22]], .int .i64 1], .bool true, .app (.bin .neq) [.app (.eload 1 false) [.app (.eoff 0) [.app (.eidx 6) [.app (.tproj 1) [.inp 22], .int .i64 0]]], .int .u8 2]], false)] (.bin .neq) [.app (.eload 1 false) [.app (.eoff 1) [.app (.eidx 6) [.app (.tproj 1) [.inp 22], .int .i64 0]]], .inp 16]] <|
   .seg [.chk [] .pick [.app .pick [.app (.bin .neq) [.app .len [.app (.tproj 1) [.inp 22]], .int .i64 1], .bool true, .app (.bin .neq) [.app (.eload 1 false) [.app (.eoff 0) [.app (.eidx 6) [.app (.tproj 1) [.inp 22], .int .i64 0]]], .int .u8 2]], .bool true, .app (.bin .neq) [.app (.eload 1 false) [.app (.eoff 1) [.app (.eidx 6) [.app (.tproj 1) [.inp 22], .int .i64 0]]], .inp 16]]] <|
   .seg [.chk [(.app .pick [.app .pick [.app (.bin .neq) [.app .len [.app (.tproj 1) [.inp 22]], .int .i64 1], .bool true, .app (.bin .neq) [.app (.eload 1 false) [.app (.eoff 0) [.app (.eidx 6) [.app (.tproj 1) [.inp 22], .int .i64 0]]], .int .u8 2]], .bool true, .app (.bin .neq) [.app (.eload 1 false) [.app (.eoff 1) [.app (.eidx 6) [.app (.tproj 1) [.inp 22], .int .i64 0]]], .inp 16]], false)] (.bin .neq) [.app (.part 0 1 false) [.app (.tproj 0) [.inp 22]], .inp 16]] <|
   .seg [.chk [] .pick [.app .pick [.app .pick [.app (.bin .neq) [.app .len [.app (.tproj 1) [.inp 22]], .int .i64 1], .bool true, .app (.bin .neq) [.app (.eload 1 false) [.app (.eoff 0) [.app (.eidx 6) [.app (.tproj 1) [.inp 22], .int .i64 0]]], .int .u8 2]], .bool true, .app (.bin .neq) [.app (.eload 1 false) [.app (.eoff 1) [.app (.eidx 6) [.app (.tproj 1) [.inp 22], .int .i64 0]]], .inp 16]], .bool true, .app (.bin .neq) [.app (.part 0 1 false) [.app (.tproj 0) [.inp 22]], .inp 16]]] <|
   .seg [.chk [(.app .pick [.app .pick [.app .pick [.app (.bin .neq) [.app .len [.app (.tproj 1) [.inp 22]], .int .i64 1], .bool true, .app (.bin .neq) [.app (.eload 1 false) [.app (.eoff 0) [.app (.eidx 6) [.app (.tproj 1) [.inp 22], .int .i64 0]]], .int .u8 2]], .bool true, .app (.bin .neq) [.app (.eload 1 false) [.app (.eoff 1) [.app (.eidx 6) [.app (.tproj 1) [.inp 22], .int .i64 0]]], .inp 16]], .bool true, .app (.bin .neq) [.app (.part 0 1 false) [.app (.tproj 0) [.inp 22]], .inp 16]], false)] (.bin .neq) [.app (.part 3 1 false) [.app (.tproj 0) [.inp 22]], .int .u8 0]] <|
   .seg [.chk [] .pick [.app .pick [.app .pick [.app .pick [.app (.bin .neq) [.app .len [.app (.tproj 1) [.inp 22]], .int .i64 1], .bool true, .app (.bin .neq) [.app (.eload 1 false) [.app (.eoff 0) [.app (.eidx 6) [.app (.tproj 1) [.inp 22], .int .i64 0]]], .int .u8 2]], .bool true, .app (.bin .neq) [.app (.eload 1 false) [.app (.eoff 1) [.app (.eidx 6) [.app (.tproj 1) [.inp 22], .int .i64 0]]], .inp 16]], .bool true, .app (.bin .neq) [.app (.part 0 1 false) [.app (.tproj 0) [.inp 22]], .inp 16]], .bool true, .app (.bin .neq) [.app (.part 3 1 false) [.app (.tproj 0) [.inp 22]], .int .u8 0]]] <|
   .seg [.chk [(.app .pick [.app .pick [.app .pick [.app .pick [.app (.bin .neq) [.app .len [.app (.tproj 1) [.inp 22]], .int .i64 1], .bool true, .app (.bin .neq) [.app (.eload 1 false) [.app (.eoff 0) [.app (.eidx 6) [.app (.tproj 1) [.inp 22], .int .i64 0]]], .int .u8 2]], .bool true, .app (.bin .neq) [.app (.eload 1 false) [.app (.eoff 1) [.app (.eidx 6) [.app (.tproj 1) [.inp 22], .int .i64 0]]], .inp 16]], .bool true, .app (.bin .neq) [.app (.part 0 1 false) [.app (.tproj 0) [.inp 22]], .inp 16]], .bool true, .app (.bin .neq) [.app (.part 3 1 false) [.app (.tproj 0) [.inp 22]], .int .u8 0]], false)] (.bin .neq) [.app (.part 2 1 false) [.app (.tproj 0) [.inp 22]], .inp 9]] <|
   .seg [.chk [] .pick [.app .pick [.app .pick [.app .pick [.app .pick [.app (.bin .neq) [.app .len [.app (.tproj 1) [.inp 22]], .int .i64 1], .bool true, .app (.bin .neq) [.app (.eload 1 false) [.app (.eoff 0) [.app (.eidx 6) [.app (.tproj 1) [.inp 22], .int .i64 0]]], .int .u8 2]], .bool true, .app (.bin .neq) [.app (.eload 1 false) [.app (.eoff 1) [.app (.eidx 6) [.app (.tproj 1) [.inp 22], .int .i64 0]]], .inp 16]], .bool true, .app (.bin .neq) [.app (.part 0 1 false) [.app (.tproj 0) [.inp 22]], .inp 16]], .bool true, .app (.bin .neq) [.app (.part 3 1 false) [.app (.tproj 0) [.inp 22]], .int .u8 0]], .bool true, .app (.bin .neq) [.app (.part 2 1 false) [.app (.tproj 0) [.inp 22]], .inp 9]]] <|
   .cond (.app .pick [.app .pick [.app .pick [.app .pick [.app .pick [.app (.bin .neq) [.app .len [.app (.tproj 1) [.inp 22]], .int .i64 1], .bool true, .app (.bin .neq) [.app (.eload 1 false) [.app (.eoff 0) [.app (.eidx 6) [.app (.tproj 1) [.inp 22], .int .i64 0]]], .int .u8 2]], .bool true, .app (.bin .neq) [.app (.eload 1 false) [.app (.eoff 1) [.app (.eidx 6) [.app (.tproj 1) [.inp 22], .int .i64 0]]], .inp 16]], .bool true, .app (.bin .neq) [.app (.part 0 1 false) [.app (.tproj 0) [.inp 22]], .inp 16]], .bool true, .app (.bin .neq) [.app (.part 3 1 false) [.app (.tproj 0) [.inp 22]], .int .u8 0]], .bool true, .app (.bin .neq) [.app (.part 2 1 false) [.app (.tproj 0) [.inp 22]], .inp 9]])
   (.ret (.bool false))
   (.seg [.chk [] .isOne [.inp 17],
    .chk [] .isOne [.inp 18]] <|
    .seg [.call 23 [] 10 [.agg [.inp 0, .inp 1, .inp 2, .inp 3, .inp 4, .inp 5, .inp 6, .inp 7, .inp 8, .inp 9, .inp 10], .agg [.inp 11, .inp 12, .inp 13, .inp 14, .inp 15], .agg [.int .u8 6, .inp 17, .inp 18]] false] <|
    .seg [.chk [] (.tproj 0) [.inp 23]] <|
    .seg [.chk [] (.tproj 1) [.inp 23]] <|
    .seg [.chk [] (.isAgg 5) [.app (.tproj 0) [.inp 23]]] <|
    .seg [.chk [] (.bin .geq) [.inp 17, .int .i64 0]] <|
    .seg [.chk [(.app (.bin .geq) [.inp 17, .int .i64 0], true)] .len [.inp 0]] <|
    .seg [.chk [(.app (.bin .geq) [.inp 17, .int .i64 0], true)] (.bin .lss) [.inp 17, .app .len [.inp 0]]] <|
    .seg [.chk [] .pick [.app (.bin .geq) [.inp 17, .int .i64 0], .app (.bin .lss) [.inp 17, .app .len [.inp 0]], .bool false]] <|
    .seg [.chk [(.app .pick [.app (.bin .geq) [.inp 17, .int .i64 0], .app (.bin .lss) [.inp 17, .app .len [.inp 0]], .bool false], true)] (.eidx 11) [.inp 0, .inp 17]] <|
    .seg [.chk [(.app .pick [.app (.bin .geq) [.inp 17, .int .i64 0], .app (.bin .lss) [.inp 17, .app .len [.inp 0]], .bool false], true)] (.eoff 0) [.app (.eidx 11) [.inp 0, .inp 17]]] <|
    .seg [.chk [(.app .pick [.app (.bin .geq) [.inp 17, .int .i64 0], .app (.bin .lss) [.inp 17, .app .len [.inp 0]], .bool false], true)] (.eload 1 false) [.app (.eoff 0) [.app (.eidx 11) [.inp 0, .inp 17]]]] <|
    .seg [.chk [(.app .pick [.app (.bin .geq) [.inp 17, .int .i64 0], .app (.bin .lss) [.inp 17, .app .len [.inp 0]], .bool false], true)] (.bin .eql) [.app (.eload 1 false) [.app (.eoff 0) [.app (.eidx 11) [.inp 0, .inp 17]]], .int .u8 2]] <|
    .seg [.chk [] .pick [.app .pick [.app (.bin .geq) [.inp 17, .int .i64 0], .app (.bin .lss) [.inp 17, .app .len [.inp 0]], .bool false], .app (.bin .eql) [.app (.eload 1 false) [.app (.eoff 0) [.app (.eidx 11) [.inp 0, .inp 17]]], .int .u8 2], .bool false]] <|
    .seg [.chk [(.app .pick [.app .pick [.app (.bin .geq) [.inp 17, .int .i64 0], .app (.bin .lss) [.inp 17, .app .len [.inp 0]], .bool false], .app (.bin .eql) [.app (.eload 1 false) [.app (.eoff 0) [.app (.eidx 11) [.inp 0, .inp 17]]], .int .u8 2], .bool false], true)] (.bin .geq) [.inp 18, .int .i64 0]] <|
    .seg [.chk [] .pick [.app .pick [.app .pick [.app (.bin .geq) [.inp 17, .int .i64 0], .app (.bin .lss) [.inp 17, .app .len [.inp 0]], .bool false], .app (.bin .eql) [.app (.eload 1 false) [.app (.eoff 0) [.app (.eidx 11) [.inp 0, .inp 17]]], .int .u8 2], .bool false], .app (.bin .geq) [.inp 18, .int .i64 0], .bool false]] <|
    .seg [.chk [(.app .pick [.app .pick [.app .pick [.app (.bin .geq) [.inp 17, .int .i64 0], .app (.bin .lss) [.inp 17, .app .len [.inp 0]], .bool false], .app (.bin .eql) [.app (.eload 1 false) [.app (.eoff 0) [.app (.eidx 11) [.inp 0, .inp 17]]], .int .u8 2], .bool false], .app (.bin .geq) [.inp 18, .int .i64 0], .bool false], true)] (.bin .leq) [.inp 18, .int .i64 1]] <|
    .seg [.chk [] .pick [.app .pick [.app .pick [.app .pick [.app (.bin .geq) [.inp 17, .int .i64 0], .app (.bin .lss) [.inp 17, .app .len [.inp 0]], .bool false], .app (.bin .eql) [.app (.eload 1 false) [.app (.eoff 0) [.app (.eidx 11) [.inp 0, .inp 17]]], .int .u8 2], .bool false], .app (.bin .geq) [.inp 18, .int .i64 0], .bool false], .app (.bin .leq) [.inp 18, .int .i64 1], .bool false]] <|
    .seg [.call 24 [] 12 [.agg [.app (.part 0 1 false) [.app (.tproj 0) [.inp 23]], .app (.part 1 1 false) [.app (.tproj 0) [.inp 23]], .app (.part 2 1 false) [.app (.tproj 0) [.inp 23]], .app (.part 3 1 false) [.app (.tproj 0) [.inp 23]], .app (.part 4 1 false) [.app (.tproj 0) [.inp 23]]], .agg [.inp 11, .inp 12, .inp 13, .inp 14, .inp 15]] false] <|
    .seg [.chk [(.inp 24, true)] .len [.app (.tproj 1) [.inp 23]]] <|
    .seg [.chk [(.inp 24, true)] (.bin .eql) [.app .len [.app (.tproj 1) [.inp 23]], .int .i64 1]] <|
    .seg [.chk [(.inp 24, true)] (.eqb false) [.app (.bin .eql) [.app .len [.app (.tproj 1) [.inp 23]], .int .i64 1], .app .pick [.app .pick [.app .pick [.app .pick [.app (.bin .geq) [.inp 17, .int .i64 0], .app (.bin .lss) [.inp 17, .app .len [.inp 0]], .bool false], .app (.bin .eql) [.app (.eload 1 false) [.app (.eoff 0) [.app (.eidx 11) [.inp 0, .inp 17]]], .int .u8 2], .bool false], .app (.bin .geq) [.inp 18, .int .i64 0], .bool false], .app (.bin .leq) [.inp 18, .int .i64 1], .bool false]]] <|
    .seg [.chk [] .pick [.inp 24, .app (.eqb false) [.app (.bin .eql) [.app .len [.app (.tproj 1) [.inp 23]], .int .i64 1], .app .pick [.app .pick [.app .pick [.app .pick [.app (.bin .geq) [.inp 17, .int .i64 0], .app (.bin .lss) [.inp 17, .app .len [.inp 0]], .bool false], .app (.bin .eql) [.app (.eload 1 false) [.app (.eoff 0) [.app (.eidx 11) [.inp 0, .inp 17]]], .int .u8 2], .bool false], .app (.bin .geq) [.inp 18, .int .i64 0], .bool false], .app (.bin .leq) [.inp 18, .int .i64 1], .bool false]], .bool false]] <|
    .seg [.chk [(.app .pick [.inp 24, .app (.eqb false) [.app (.bin .eql) [.app .len [.app (.tproj 1) [.inp 23]], .int .i64 1], .app .pick [.app .pick [.app .pick [.app .pick [.app (.bin .geq) [.inp 17, .int .i64 0], .app (.bin .lss) [.inp 17, .app .len [.inp 0]], .bool false], .app (.bin .eql) [.app (.eload 1 false) [.app (.eoff 0) [.app (.eidx 11) [.inp 0, .inp 17]]], .int .u8 2], .bool false], .app (.bin .geq) [.inp 18, .int .i64 0], .bool false], .app (.bin .leq) [.inp 18, .int .i64 1], .bool false]], .bool false], true)] .len [.app (.tproj 1) [.inp 23]]] <|
    .seg [.chk [(.app .pick [.inp 24, .app (.eqb false) [.app (.bin .eql) [.app .len [.app (.tproj 1) [.inp 23]], .int .i64 1], .app .pick [.app .pick [.app .pick [.app .pick [.app (.bin .geq) [.inp 17, .int .i64 0], .app (.bin .lss) [.inp 17, .app .len [.inp 0]], .bool false], .app (.bin .eql) [.app (.eload 1 false) [.app (.eoff 0) [.app (.eidx 11) [.inp 0, .inp 17]]], .int .u8 2], .bool false], .app (.bin .geq) [.inp 18, .int .i64 0], .bool false], .app (.bin .leq) [.inp 18, .int .i64 1], .bool false]], .bool false], true)] (.bin .eql) [.app .len [.app (.tproj 1) [.inp 23]], .int .i64 0]] <|
    .seg [.chk [(.app (.bin .eql) [.app .len [.app (.tproj 1) [.inp 23]], .int .i64 0], false), (.app .pick [.inp 24, .app (.eqb false) [.app (.bin .eql) [.app .len [.app (.tproj 1) [.inp 23]], .int .i64 1], .app .pick [.app .pick [.app .pick [.app .pick [.app (.bin .geq) [.inp 17, .int .i64 0], .app (.bin .lss) [.inp 17, .app .len [.inp 0]], .bool false], .app (.bin .eql) [.app (.eload 1 false) [.app (.eoff 0) [.app (.eidx 11) [.inp 0, .inp 17]]], .int .u8 2], .bool false], .app (.bin .geq) [.inp 18, .int .i64 0], .bool false], .app (.bin .leq) [.inp 18, .int .i64 1], .bool false]], .bool false], true)] (.eidx 6) [.app (.tproj 1) [.inp 23], .int .i64 0]] <|
    .seg [.chk [(.app (.bin .eql) [.app .len [.app (.tproj 1) [.inp 23]], .int .i64 0], false), (.app .pick [.inp 24, .app (.eqb false) [.app (.bin .eql) [.app .len [.app (.tproj 1) [.inp 23]], .int .i64 1], .app .pick [.app .pick [.app .pick [.app .pick [.app (.bin .geq) [.inp 17, .int .i64 0], .app (.bin .lss) [.inp 17, .app .len [.inp 0]], .bool false], .app (.bin .eql) [.app (.eload 1 false) [.app (.eoff 0) [.app (.eidx 11) [.inp 0, .inp 17]]], .int .u8 2], .bool false], .app (.bin .geq) [.inp 18, .int .i64 0], .bool false], .app (.bin .leq) [.inp 18, .int .i64 1], .bool false]], .bool false], true)] (.eoff 0) [.app (.eidx 6) [.app (.tproj 1) [.inp 23], .int .i64 0]]] <|
    .seg [.chk [(.app (.bin .eql) [.app .len [.app (.tproj 1) [.inp 23]], .int .i64 0], false), (.app .pick [.inp 24, .app (.eqb false) [.app (.bin .eql) [.app .len [.app (.tproj 1) [.inp 23]], .int .i64 1], .app .pick [.app .pick [.app .pick [.app .pick [.app (.bin .geq) [.inp 17, .int .i64 0], .app (.bin .lss) [.inp 17, .app .len [.inp 0]], .bool false], .app (.bin .eql) [.app (.eload 1 false) [.app (.eoff 0) [.app (.eidx 11) [.inp 0, .inp 17]]], .int .u8 2], .bool false], .app (.bin .geq) [.inp 18, .int .i64 0], .bool false], .app (.bin .leq) [.inp 18, .int .i64 1], .bool false]], .bool false], true)] (.eload 1 false) [.app (.eoff 0) [.app (.eidx 6) [.app (.tproj 1) [.inp 23], .int .i64 0]]]] <|
    .seg [.chk [(.app (.bin .eql) [.app .len [.app (.tproj 1) [.inp 23]], .int .i64 0], false), (.app .pick [.inp 24, .app (.eqb false) [.app (.bin .eql) [.app .len [.app (.tproj 1) [.inp 23]], .int .i64 1], .app .pick [.app .pick [.app .pick [.app .pick [.app (.bin .geq) [.inp 17, .int .i64 0], .app (.bin .lss) [.inp 17, .app .len [.inp 0]], .bool false], .app (.bin .eql) [.app (.eload 1 false) [.app (.eoff 0) [.app (.eidx 11) [.inp 0, .inp 17]]], .int .u8 2], .bool false], .app (.bin .geq) [.inp 18, .int .i64 0], .bool false], .app (.bin .leq) [.inp 18, .int .i64 1], .bool false]], .bool false], true)] (.bin .eql) [.app (.eload 1 false) [.app (.eoff 0) [.app (.eidx 6) [.app (.tproj 1) [.inp 23], .int .i64 0]]], .int .u8 4]] <|
    .seg [.chk [(.app (.bin .eql) [.app (.eload 1 false) [.app (.eoff 0) [.app (.eidx 6) [.app (.tproj 1) [.inp 23], .int .i64 0]]], .int .u8 4], true), (.app (.bin .eql) [.app .len [.app (.tproj 1) [.inp 23]], .int .i64 0], false), (.app .pick [.inp 24, .app (.eqb false) [.app (.bin .eql) [.app .len [.app (.tproj 1) [.inp 23]], .int .i64 1], .app .pick [.app .pick [.app .pick [.app .pick [.app (.bin .geq) [.inp 17, .int .i64 0], .app (.bin .lss) [.inp 17, .app .len [.inp 0]], .bool false], .app (.bin .eql) [.app (.eload 1 false) [.app (.eoff 0) [.app (.eidx 11) [.inp 0, .inp 17]]], .int .u8 2], .bool false], .app (.bin .geq) [.inp 18, .int .i64 0], .bool false], .app (.bin .leq) [.inp 18, .int .i64 1], .bool false]], .bool false], true)] (.eidx 6) [.app (.tproj 1) [.inp 23], .int .i64 0]] <|
    .seg [.chk [(.app (.bin .eql) [.app (.eload 1 false) [.app (.eoff 0) [.app (.eidx 6) [.app (.tproj 1) [.inp 23], .int .i64 0]]], .int .u8 4], true), (.app (.bin .eql) [.app .len [.app (.tproj 1) [.inp 23]], .int .i64 0], false), (.app .pick [.inp 24, .app (.eqb false) [.app (.bin .eql) [.app .len [.app (.tproj 1) [.inp 23]], .int .i64 1], .app .pick [.app .pick [.app .pick [.app .pick [.app (.bin .geq) [.inp 17, .int .i64 0], .app (.bin .lss) [.inp 17, .app .len [.inp 0]], .bool false], .app (.bin .eql) [.app (.eload 1 false) [.app (.eoff 0) [.app (.eidx 11) [.inp 0, .inp 17]]], .int .u8 2], .bool false], .app (.bin .geq) [.inp 18, .int .i64 0], .bool false], .app (.bin .leq) [.inp 18, .int .i64 1], .bool false]], .bool false], true)] (.eoff 1) [.app (.eidx 6) [.app (.tproj 1) [.inp 23], .int .i64 0]]] <|
    .seg [.chk [(.app (.bin .eql) [.app (.eload 1 false) [.app (.eoff 0) [.app (.eidx 6) [.app (.tproj 1) [.inp 23], .int .i64 0]]], .int .u8 4], true), (.app (.bin .eql) [.app .len [.app (.tproj 1) [.inp 23]], .int .i64 0], false), (.app .pick [.inp 24, .app (.eqb false) [.app (.bin .eql) [.app .len [.app (.tproj 1) [.inp 23]], .int .i64 1], .app .pick [.app .pick [.app .pick [.app .pick [.app (.bin .geq) [.inp 17, .int .i64 0], .app (.bin .lss) [.inp 17, .app .len [.inp 0]], .bool false], .app (.bin .eql) [.app (.eload 1 false) [.app (.eoff 0) [.app (.eidx 11) [.inp 0, .inp 17]]], .int .u8 2], .bool false], .app (.bin .geq) [.inp 18, .int .i64 0], .bool false], .app (.bin .leq) [.inp 18, .int .i64 1], .bool false]], .bool false], true)] (.eload 1 false) [.app (.eoff 1) [.app (.eidx 6) [.app (.tproj 1) [.inp 23], .int .i64 0]]]] <|
    .seg [.chk [(.app (.bin .eql) [.app (.eload 1 false) [.app (.eoff 0) [.app (.eidx 6) [.app (.tproj 1) [.inp 23], .int .i64 0]]], .int .u8 4], true), (.app (.bin .eql) [.app .len [.app (.tproj 1) [.inp 23]], .int .i64 0], false), (.app .pick [.inp 24, .app (.eqb false) [.app (.bin .eql) [.app .len [.app (.tproj 1) [.inp 23]], .int .i64 1], .app .pick [.app .pick [.app .pick [.app .pick [.app (.bin .geq) [.inp 17, .int .i64 0], .app (.bin .lss) [.inp 17, .app .len [.inp 0]], .bool false], .app (.bin .eql) [.app (.eload 1 false) [.app (.eoff 0) [.app (.eidx 11) [.inp 0, .inp 17]]], .int .u8 2], .bool false], .app (.bin .geq) [.inp 18, .int .i64 0], .bool false], .app (.bin .leq) [.inp 18, .int .i64 1], .bool false]], .bool false], true)] (.bin .eql) [.app (.eload 1 false) [.app (.eoff 1) [.app (.eidx 6) [.app (.tproj 1) [.inp 23], .int .i64 0]]], .inp 17]] <|
    .seg [.chk [(.app (.bin .eql) [.app .len [.app (.tproj 1) [.inp 23]], .int .i64 0], false), (.app .pick [.inp 24, .app (.eqb false) [.app (.bin .eql) [.app .len [.app (.tproj 1) [.inp 23]], .int .i64 1], .app .pick [.app .pick [.app .pick [.app .pick [.app (.bin .geq) [.inp 17, .int .i64 0], .app (.bin .lss) [.inp 17, .app .len [.inp 0]], .bool false], .app (.bin .eql) [.app (.eload 1 false) [.app (.eoff 0) [.app (.eidx 11) [.inp 0, .inp 17]]], .int .u8 2], .bool false], .app (.bin .geq) [.inp 18, .int .i64 0], .bool false], .app (.bin .leq) [.inp 18, .int .i64 1], .bool false]], .bool false], true)] .pick [.app (.bin .eql) [.app (.eload 1 false) [.app (.eoff 0) [.app (.eidx 6) [.app (.tproj 1) [.inp 23], .int .i64 0]]], .int .u8 4], .app (.bin .eql) [.app (.eload 1 false) [.app (.eoff 1) [.app (.eidx 6) [.app (.tproj 1) [.inp 23], .int .i64 0]]], .inp 17], .bool false]] <|
    .seg [.chk [(.app .pick [.app (.bin .eql) [.app (.eload 1 false) [.app (.eoff 0) [.app (.eidx 6) [.app (.tproj 1) [.inp 23], .int .i64 0]]], .int .u8 4], .app (.bin .eql) [.app (.eload 1 false) [.app (.eoff 1) [.app (.eidx 6) [.app (.tproj 1) [.inp 23], .int .i64 0]]], .inp 17], .bool false], true), (.app (.bin .eql) [.app .len [.app (.tproj 1) [.inp 23]], .int .i64 0], false), (.app .pick [.inp 24, .app (.eqb false) [.app (.bin .eql) [.app .len [.app (.tproj 1) [.inp 23]], .int .i64 1], .app .pick [.app .pick [.app .pick [.app .pick [.app (.bin .geq) [.inp 17, .int .i64 0], .app (.bin .lss) [.inp 17, .app .len [.inp 0]], .bool false], .app (.bin .eql) [.app (.eload 1 false) [.app (.eoff 0) [.app (.eidx 11) [.inp 0, .inp 17]]], .int .u8 2], .bool false], .app (.bin .geq) [.inp 18, .int .i64 0], .bool false], .app (.bin .leq) [.inp 18, .int .i64 1], .bool false]], .bool false], true)] (.eidx 6) [.app (.tproj 1) [.inp 23], .int .i64 0]] <|
    .seg [.chk [(.app .pick [.app (.bin .eql) [.app (.eload 1 false) [.app (.eoff 0) [.app (.eidx 6) [.app (.tproj 1) [.inp 23], .int .i64 0]]], .int .u8 4], .app (.bin .eql) [.app (.eload 1 false) [.app (.eoff 1) [.app (.eidx 6) [.app (.tproj 1) [.inp 23], .int .i64 0]]], .inp 17], .bool false], true), (.app (.bin .eql) [.app .len [.app (.tproj 1) [.inp 23]], .int .i64 0], false), (.app .pick [.inp 24, .app (.eqb false) [.app (.bin .eql) [.app .len [.app (.tproj 1) [.inp 23]], .int .i64 1], .app .pick [.app .pick [.app .pick [.app .pick [.app (.bin .geq) [.inp 17, .int .i64 0], .app (.bin .lss) [.inp 17, .app .len [.inp 0]], .bool false], .app (.bin .eql) [.app (.eload 1 false) [.app (.eoff 0) [.app (.eidx 11) [.inp 0, .inp 17]]], .int .u8 2], .bool false], .app (.bin .geq) [.inp 18, .int .i64 0], .bool false], .app (.bin .leq) [.inp 18, .int .i64 1], .bool false]], .bool false], true)] (.eoff 2) [.app (.eidx 6) [.app (.tproj 1) [.inp 23], .int .i64 0]]] <|
    .seg [.chk [(.app .pick [.app (.bin .eql) [.app (.eload 1 false) [.app (.eoff 0) [.app (.eidx 6) [.app (.tproj 1) [.inp 23], .int .i64 0]]], .int .u8 4], .app (.bin .eql) [.app (.eload 1 false) [.app (.eoff 1) [.app (.eidx 6) [.app (.tproj 1) [.inp 23], .int .i64 0]]], .inp 17], .bool false], true), (.app (.bin .eql) [.app .len [.app (.tproj 1) [.inp 23]], .int .i64 0], false), (.app .pick [.inp 24, .app (.eqb false) [.app (.bin .eql) [.app .len [.app (.tproj 1) [.inp 23]], .int .i64 1], .app .pick [.app .pick [.app .pick [.app .pick [.app (.bin .geq) [.inp 17, .int .i64 0], .app (.bin .lss) [.inp 17, .app .len [.inp 0]], .bool false], .app (.bin .eql) [.app (.eload 1 false) [.app (.eoff 0) [.app (.eidx 11) [.inp 0, .inp 17]]], .int .u8 2], .bool false], .app (.bin .geq) [.inp 18, .int .i64 0], .bool false], .app (.bin .leq) [.inp 18, .int .i64 1], .bool false]], .bool false], true)] (.eload 1 false) [.app (.eoff 2) [.app (.eidx 6) [.app (.tproj 1) [.inp 23], .int .i64 0]]]] <|
    .seg [.chk [(.app .pick [.app (.bin .eql) [.app (.eload 1 false) [.app (.eoff 0) [.app (.eidx 6) [.app (.tproj 1) [.inp 23], .int .i64 0]]], .int .u8 4], .app (.bin .eql) [.app (.eload 1 false) [.app (.eoff 1) [.app (.eidx 6) [.app (.tproj 1) [.inp 23], .int .i64 0]]], .inp 17], .bool false], true), (.app (.bin .eql) [.app .len [.app (.tproj 1) [.inp 23]], .int .i64 0], false), (.app .pick [.inp 24, .app (.eqb false) [.app (.bin .eql) [.app .len [.app (.tproj 1) [.inp 23]], .int .i64 1], .app .pick [.app .pick [.app .pick [.app .pick [.app (.bin .geq) [.inp 17, .int .i64 0], .app (.bin .lss) [.inp 17, .app .len [.inp 0]], .bool false], .app (.bin .eql) [.app (.eload 1 false) [.app (.eoff 0) [.app (.eidx 11) [.inp 0, .inp 17]]], .int .u8 2], .bool false], .app (.bin .geq) [.inp 18, .int .i64 0], .bool false], .app (.bin .leq) [.inp 18, .int .i64 1], .bool false]], .bool false], true)] (.bin .eql) [.app (.eload 1 false) [.app (.eoff 2) [.app (.eidx 6) [.app (.tproj 1) [.inp 23], .int .i64 0]]], .inp 18]] <|
    .seg [.chk [(.app (.bin .eql) [.app .len [.app (.tproj 1) [.inp 23]], .int .i64 0], false), (.app .pick [.inp 24, .app (.eqb false) [.app (.bin .eql) [.app .len [.app (.tproj 1) [.inp 23]], .int .i64 1], .app .pick [.app .pick [.app .pick [.app .pick [.app (.bin .geq) [.inp 17, .int .i64 0], .app (.bin .lss) [.inp 17, .app .len [.inp 0]], .bool false], .app (.bin .eql) [.app (.eload 1 false) [.app (.eoff 0) [.app (.eidx 11) [.inp 0, .inp 17]]], .int .u8 2], .bool false], .app (.bin .geq) [.inp 18, .int .i64 0], .bool false], .app (.bin .leq) [.inp 18, .int .i64 1], .bool false]], .bool false], true)] .pick [.app .pick [.app (.bin .eql) [.app (.eload 1 false) [.app (.eoff 0) [.app (.eidx 6) [.app (.tproj 1) [.inp 23], .int .i64 0]]], .int .u8 4], .app (.bin .eql) [.app (.eload 1 false) [.app (.eoff 1) [.app (.eidx 6) [.app (.tproj 1) [.inp 23], .int .i64 0]]], .inp 17], .bool false], .app (.bin .eql) [.app (.eload 1 false) [.app (.eoff 2) [.app (.eidx 6) [.app (.tproj 1) [.inp 23], .int .i64 0]]], .inp 18], .bool false]] <|
    .seg [.chk [(.app .pick [.inp 24, .app (.eqb false) [.app (.bin .eql) [.app .len [.app (.tproj 1) [.inp 23]], .int .i64 1], .app .pick [.app .pick [.app .pick [.app .pick [.app (.bin .geq) [.inp 17, .int .i64 0], .app (.bin .lss) [.inp 17, .app .len [.inp 0]], .bool false], .app (.bin .eql) [.app (.eload 1 false) [.app (.eoff 0) [.app (.eidx 11) [.inp 0, .inp 17]]], .int .u8 2], .bool false], .app (.bin .geq) [.inp 18, .int .i64 0], .bool false], .app (.bin .leq) [.inp 18, .int .i64 1], .bool false]], .bool false], true)] .pick [.app (.bin .eql) [.app .len [.app (.tproj 1) [.inp 23]], .int .i64 0], .bool true, .app .pick [.app .pick [.app (.bin .eql) [.app (.eload 1 false) [.app (.eoff 0) [.app (.eidx 6) [.app (.tproj 1) [.inp 23], .int .i64 0]]], .int .u8 4], .app (.bin .eql) [.app (.eload 1 false) [.app (.eoff 1) [.app (.eidx 6) [.app (.tproj 1) [.inp 23], .int .i64 0]]], .inp 17], .bool false], .app (.bin .eql) [.app (.eload 1 false) [.app (.eoff 2) [.app (.eidx 6) [.app (.tproj 1) [.inp 23], .int .i64 0]]], .inp 18], .bool false]]] <|
    .seg [.chk [] .pick [.app .pick [.inp 24, .app (.eqb false) [.app (.bin .eql) [.app .len [.app (.tproj 1) [.inp 23]], .int .i64 1], .app .pick [.app .pick [.app .pick [.app .pick [.app (.bin .geq) [.inp 17, .int .i64 0], .app (.bin .lss) [.inp 17, .app .len [.inp 0]], .bool false], .app (.bin .eql) [.app (.eload 1 false) [.app (.eoff 0) [.app (.eidx 11) [.inp 0, .inp 17]]], .int .u8 2], .bool false], .app (.bin .geq) [.inp 18, .int .i64 0], .bool false], .app (.bin .leq) [.inp 18, .int .i64 1], .bool false]], .bool false], .app .pick [.app (.bin .eql) [.app .len [.app (.tproj 1) [.inp 23]], .int .i64 0], .bool true, .app .pick [.app .pick [.app (.bin .eql) [.app (.eload 1 false) [.app (.eoff 0) [.app (.eidx 6) [.app (.tproj 1) [.inp 23], .int .i64 0]]], .int .u8 4], .app (.bin .eql) [.app (.eload 1 false) [.app (.eoff 1) [.app (.eidx 6) [.app (.tproj 1) [.inp 23], .int .i64 0]]], .inp 17], .bool false], .app (.bin .eql) [.app (.eload 1 false) [.app (.eoff 2) [.app (.eidx 6) [.app (.tproj 1) [.inp 23], .int .i64 0]]], .inp 18], .bool false]], .bool false]] <|
    .seg [.chk [(.app .pick [.app .pick [.inp 24, .app (.eqb false) [.app (.bin .eql) [.app .len [.app (.tproj 1) [.inp 23]], .int .i64 1], .app .pick [.app .pick [.app .pick [.app .pick [.app (.bin .geq) [.inp 17, .int .i64 0], .app (.bin .lss) [.inp 17, .app .len [.inp 0]], .bool false], .app (.bin .eql) [.app (.eload 1 false) [.app (.eoff 0) [.app (.eidx 11) [.inp 0, .inp 17]]], .int .u8 2], .bool false], .app (.bin .geq) [.inp 18, .int .i64 0], .bool false], .app (.bin .leq) [.inp 18, .int .i64 1], .bool false]], .bool false], .app .pick [.app (.bin .eql) [.app .len [.app (.tproj 1) [.inp 23]], .int .i64 0], .bool true, .app .pick [.app .pick [.app (.bin .eql) [.app (.eload 1 false) [.app (.eoff 0) [.app (.eidx 6) [.app (.tproj 1) [.inp 23], .int .i64 0]]], .int .u8 4], .app (.bin .eql) [.app (.eload 1 false) [.app (.eoff 1) [.app (.eidx 6) [.app (.tproj 1) [.inp 23], .int .i64 0]]], .inp 17], .bool false], .app (.bin .eql) [.app (.eload 1 false) [.app (.eoff 2) [.app (.eidx 6) [.app (.tproj 1) [.inp 23], .int .i64 0]]], .inp 18], .bool false]], .bool false], true)] .len [.app (.tproj 1) [.inp 23]]] <|
    .seg [.chk [(.app .pick [.app .pick [.inp 24, .app (.eqb false) [.app (.bin .eql) [.app .len [.app (.tproj 1) [.inp 23]], .int .i64 1], .app .pick [.app .pick [.app .pick [.app .pick [.app (.bin .geq) [.inp 17, .int .i64 0], .app (.bin .lss) [.inp 17, .app .len [.inp 0]], .bool false], .app (.bin .eql) [.app (.eload 1 false) [.app (.eoff 0) [.app (.eidx 11) [.inp 0, .inp 17]]], .int .u8 2], .bool false], .app (.bin .geq) [.inp 18, .int .i64 0], .bool false], .app (.bin .leq) [.inp 18, .int .i64 1], .bool false]], .bool false], .app .pick [.app (.bin .eql) [.app .len [.app (.tproj 1) [.inp 23]], .int .i64 0], .bool true, .app .pick [.app .pick [.app (.bin .eql) [.app (.eload 1 false) [.app (.eoff 0) [.app (.eidx 6) [.app (.tproj 1) [.inp 23], .int .i64 0]]], .int .u8 4], .app (.bin .eql) [.app (.eload 1 false) [.app (.eoff 1) [.app (.eidx 6) [.app (.tproj 1) [.inp 23], .int .i64 0]]], .inp 17], .bool false], .app (.bin .eql) [.app (.eload 1 false) [.app (.eoff 2) [.app (.eidx 6) [.app (.tproj 1) [.inp 23], .int .i64 0]]], .inp 18], .bool false]], .bool false], true)] (.bin .lss) [.app .len [.app (.tproj 1) [.inp 23]], .int .i64 2]] <|
    .seg [.chk [] .pick [.app .pick [.app .pick [.inp 24, .app (.eqb false) [.app (.bin .eql) [.app .len [.app (.tproj 1) [.inp 23]], .int .i64 1], .app .pick [.app .pick [.app .pick [.app .pick [.app (.bin .geq) [.inp 17, .int .i64 0], .app (.bin .lss) [.inp 17, .app .len [.inp 0]], .bool false], .app (.bin .eql) [.app (.eload 1 false) [.app (.eoff 0) [.app (.eidx 11) [.inp 0, .inp 17]]], .int .u8 2], .bool false], .app (.bin .geq) [.inp 18, .int .i64 0], .bool false], .app (.bin .leq) [.inp 18, .int .i64 1], .bool false]], .bool false], .app .pick [.app (.bin .eql) [.app .len [.app (.tproj 1) [.inp 23]], .int .i64 0], .bool true, .app .pick [.app .pick [.app (.bin .eql) [.app (.eload 1 false) [.app (.eoff 0) [.app (.eidx 6) [.app (.tproj 1) [.inp 23], .int .i64 0]]], .int .u8 4], .app (.bin .eql) [.app (.eload 1 false) [.app (.eoff 1) [.app (.eidx 6) [.app (.tproj 1) [.inp 23], .int .i64 0]]], .inp 17], .bool false], .app (.bin .eql) [.app (.eload 1 false) [.app (.eoff 2) [.app (.eidx 6) [.app (.tproj 1) [.inp 23], .int .i64 0]]], .inp 18], .bool false]], .bool false], .app (.bin .lss) [.app .len [.app (.tproj 1) [.inp 23]], .int .i64 2], .bool false]] <|
    .seg [.call 25 [(.app .pick [.app .pick [.app .pick [.inp 24, .app (.eqb false) [.app (.bin .eql) [.app .len [.app (.tproj 1) [.inp 23]], .int .i64 1], .app .pick [.app .pick [.app .pick [.app .pick [.app (.bin .geq) [.inp 17, .int .i64 0], .app (.bin .lss) [.inp 17, .app .len [.inp 0]], .bool false], .app (.bin .eql) [.app (.eload 1 false) [.app (.eoff 0) [.app (.eidx 11) [.inp 0, .inp 17]]], .int .u8 2], .bool false], .app (.bin .geq) [.inp 18, .int .i64 0], .bool false], .app (.bin .leq) [.inp 18, .int .i64 1], .bool false]], .bool false], .app .pick [.app (.bin .eql) [.app .len [.app (.tproj 1) [.inp 23]], .int .i64 0], .bool true, .app .pick [.app .pick [.app (.bin .eql) [.app (.eload 1 false) [.app (.eoff 0) [.app (.eidx 6) [.app (.tproj 1) [.inp 23], .int .i64 0]]], .int .u8 4], .app (.bin .eql) [.app (.eload 1 false) [.app (.eoff 1) [.app (.eidx 6) [.app (.tproj 1) [.inp 23], .int .i64 0]]], .inp 17], .bool false], .app (.bin .eql) [.app (.eload 1 false) [.app (.eoff 2) [.app (.eidx 6) [.app (.tproj 1) [.inp 23], .int .i64 0]]], .inp 18], .bool false]], .bool false], .app (.bin .lss) [.app .len [.app (.tproj 1) [.inp 23]], .int .i64 2], .bool false], true)] 9 [] false] <|
    .seg [.chk [] .pick [.app .pick [.app .pick [.app .pick [.inp 24, .app (.eqb false) [.app (.bin .eql) [.app .len [.app (.tproj 1) [.inp 23]], .int .i64 1], .app .pick [.app .pick [.app .pick [.app .pick [.app (.bin .geq) [.inp 17, .int .i64 0], .app (.bin .lss) [.inp 17, .app .len [.inp 0]], .bool false], .app (.bin .eql) [.app (.eload 1 false) [.app (.eoff 0) [.app (.eidx 11) [.inp 0, .inp 17]]], .int .u8 2], .bool false], .app (.bin .geq) [.inp 18, .int .i64 0], .bool false], .app (.bin .leq) [.inp 18, .int .i64 1], .bool false]], .bool false], .app .pick [.app (.bin .eql) [.app .len [.app (.tproj 1) [.inp 23]], .int .i64 0], .bool true, .app .pick [.app .pick [.app (.bin .eql) [.app (.eload 1 false) [.app (.eoff 0) [.app (.eidx 6) [.app (.tproj 1) [.inp 23], .int .i64 0]]], .int .u8 4], .app (.bin .eql) [.app (.eload 1 false) [.app (.eoff 1) [.app (.eidx 6) [.app (.tproj 1) [.inp 23], .int .i64 0]]], .inp 17], .bool false], .app (.bin .eql) [.app (.eload 1 false) [.app (.eoff 2) [.app (.eidx 6) [.app (.tproj 1) [.inp 23], .int .i64 0]]], .inp 18], .bool false]], .bool false], .app (.bin .lss) [.app .len [.app (.tproj 1) [.inp 23]], .int .i64 2], .bool false], .inp 25, .bool false]] <|
    .ret (.app .pick [.app .pick [.app .pick [.app .pick [.inp 24, .app (.eqb false) [.app (.bin .eql) [.app .len [.app (.tproj 1) [.inp 23]], .int .i64 1], .app .pick [.app .pick [.app .pick [.app .pick [.app (.bin .geq) [.inp 17, .int .i64 0], .app (.bin .lss) [.inp 17, .app .len [.inp 0]], .bool false], .app (.bin .eql) [.app (.eload 1 false) [.app (.eoff 0) [.app (.eidx 11) [.inp 0, .inp 17]]], .int .u8 2], .bool false], .app (.bin .geq) [.inp 18, .int .i64 0], .bool false], .app (.bin .leq) [.inp 18, .int .i64 1], .bool false]], .bool false], .app .pick [.app (.bin .eql) [.app .len [.app (.tproj 1) [.inp 23]], .int .i64 0], .bool true, .app .pick [.app .pick [.app (.bin .eql) [.app (.eload 1 false) [.app (.eoff 0) [.app (.eidx 6) [.app (.tproj 1) [.inp 23], .int .i64 0]]], .int .u8 4], .app (.bin .eql) [.app (.eload 1 false) [.app (.eoff 1) [.app (.eidx 6) [.app (.tproj 1) [.inp 23], .int .i64 0]]], .inp 17], .bool false], .app (.bin .eql) [.app (.eload 1 false) [.app (.eoff 2) [.app (.eidx 6) [.app (.tproj 1) [.inp 23], .int .i64 0]]], .inp 18], .bool false]], .bool false], .app (.bin .lss) [.app .len [.app (.tproj 1) [.inp 23]], .int .i64 2], .bool false], .inp 25, .bool false]))))
theorem run7 : runF E 7 [.agg [.inp 0, .inp 1, .inp 2, .inp 3, .inp 4, .inp 5, .inp 6, .inp 7, .inp 8, .inp 9, .inp 10], .agg [.inp 11, .inp 12, .inp 13, .inp 14, .inp 15], .inp 16, .inp 17, .inp 18, .inp 19] 20 = rt7 := by kernel_rfl


end Go.Lb.C25

namespace Go.Lb.C25
open Go Go.Lb Go.Proofs Go.RowKit

theorem new_right (l : Lay) : right l newDesk = true := by
  rw [right_iff]
  simp [newDesk, tm]; omega
theorem press_right {l : Lay} {d : Desk} (p : Pr) (hr : right l d = true) : right l (press l d p).1 = true := by
  have h := right_iff.1 hr
  unfold press
  split
  · rename_i hmc
    simp only [Bool.and_eq_true] at hmc
    have hm := may_iff.1 hmc.1
    have hc := hmc.2
    split
    · rename_i hk
      rw [right_iff]
      simp [tm]; omega
    · rename_i hk
      split
      · rename_i hk3
        split
        · rw [right_iff]
          have : inR p.n l.sigs.length = true := by simpa [counts, hk3] using hc
          simp [inR] at this
          simp [tm]; omega
        · exact new_right l
      · rename_i hk3
        split
        · rename_i hk4
          split
          · rename_i hv
            have : inR p.n l.secs.length = true := by simpa [counts, hk4] using hc
            rw [right_iff]
            simp only [List.length_append, List.length_singleton, List.mem_append, List.mem_singleton]
            refine ⟨h.1, h.2.1, by omega, ?_, by simp [tm]; omega, h.2.2.2.2.2.1, h.2.2.2.2.2.2.1, by omega, h.2.2.2.2.2.2.2.2.1, ?_⟩
            · rintro v (hv | rfl)
              · exact h.2.2.2.1 v hv
              · exact this
            · have := h.2.2.2.2.2.2.2.2.2
              left; omega
          · exact hr
        · split
          · split
            · exact new_right l
            · exact hr
          · exact hr
  · exact hr
theorem tick_right {l : Lay} {d : Desk} (hr : right l d = true) : right l (tick l d).1 = true := by
  have h := right_iff.1 hr
  unfold tick
  split
  · split
    · exact new_right l
    · rename_i hn
      rw [right_iff]
      obtain ⟨h1, h2, h3, h4, h5, h6, h7, h8, h9, h10⟩ := h
      rw [tm_iff] at h5 h6
      refine ⟨h1, h2, h3, h4, ?_, ?_, h7, ?_, ?_, h10⟩
      · rw [tm_iff]; unfold down; simp only; split <;> omega
      · rw [tm_iff]; unfold down; simp only; split <;> omega
      · unfold down; simp only; split <;> omega
      · unfold down; simp only; split <;> omega
  · exact hr
theorem press_not {l : Lay} {d : Desk} {p : Pr} (h : counts l p = false) : press l d p = (d, []) := by
  simp [press, h]
theorem all_right {l : Lay} {d : Desk} (hr : right l d = true) {ps : List Pr} : ∀ i, i ≤ ps.length → right l (all l d (ps.take i)).1 = true := by
  intro i
  induction i with
  | zero => intro _; exact hr
  | succ i ih => intro h; rw [all_take (by omega)]; exact press_right _ (ih (by omega))
theorem dok_of {l : Lay} {d : Desk} (hr : right l d = true) : Dok d := by
  have := right_iff.1 hr
  exact ⟨by omega, by omega⟩

theorem c5 (l : Lay) (hl : l.ok) (d : Desk) (ps : List Pr) : C 5 [l.av, d.av, prs ps] (.bool true) := by
  refine ctr (l.cells ++ d.cells ++ [prs ps]) run5 rfl (by simp [pureAll_append, hl.1, AV.pureAll, prs_pure]) rfl ?_ rfl
  unfold rt5
  simp [Lay.cells, Desk.cells]
  refine RTwp_call0 (c8 l hl d) (by simp) ?_
  simp [prs]
  by_cases hd1 : d.vias.length ≤ 4294967296
  · refine RTwp_call (.bool (right l d)) rfl (fun _ => ⟨c19 l hl d hd1, by simp⟩) ?_
    simp
    refine ⟨fun _ => ?_, fun hg hdv hpl hp1 hp2 hr => ?_⟩
    · refine RTwp_call0 c9 (by simp) ?_
      simp
    have hd : Dok d := dok_of hr
    refine RTwp_loop rfl (fun vs => ∃ i : Nat, vs = [deedsAv (all l d (ps.take i)).2, I i] ++ (all l d (ps.take i)).1.cells ∧ i ≤ ps.length) (fun vs => match vs with | (_ :: .int _ i :: _) => ps.length - i.toNat | _ => 0) ⟨0, rfl, Nat.zero_le _⟩ ?_
    rintro vs - ⟨i, rfl, hi⟩
    have hri := all_right hr (ps := ps) i hi
    have hai := all_ok (l := l) hd (ps := ps) i hi
    generalize hone : (all l d (ps.take i)).1 = one at *
    simp [Desk.cells]
    refine ⟨fun hlt => ?_, fun hge => ?_⟩
    · have hw : IntKind.i64.wrap ((i : Int) + 1) = ((i + 1 : Nat) : Int) := by rw [wrap_i] <;> omega
      have hpi : (Option.map Pr.av ps[i]?).getD AV.undef = (ps[i]).av := by rw [List.getElem?_eq_getElem hlt]; rfl
      simp [hpi, hlt, Pr.cells]
      have hp := press_ok (l := l) hai.1 ps[i]
      have hpr := press_right ps[i] hri
      have htr := tick_right hpr
      refine RTwp_call0 (r := pressAv (press l one ps[i])) (by have h := c10 l hl one hai.1.1 hai.1.2 ps[i]; simp [hpi, Pr.cells]; exact h) (by simp) ?_
      generalize hpre : press l one ps[i] = pr at *
      simp [pressAv, Desk.cells]
      refine RTwp_call0 (r := tickAv (tick l pr.1)) (c16 l hl pr.1 (by have := hp.1.1; omega) hp.1.2) (by simp) ?_
      simp [pressAv, tickAv, Desk.cells]
      refine RTwp_call0 (r := .bool true) (by have h := c18 l hl pr.1 (by have := hp.1.1; omega) hp.1.2; rw [hpr] at h; exact h) (by simp) ?_
      simp [pressAv, tickAv, Desk.cells]
      refine RTwp_call (.bool true) rfl (fun _ => ⟨(by have h := c18 l hl (tick l pr.1).1 (by have := (dok_of htr).1; omega) (dok_of htr).2; rw [htr] at h; exact h), by simp⟩) ?_
      simp [hpi, hlt, pressAv, tickAv, Desk.cells, Pr.cells]
      refine RTwp_call (.bool (counts l ps[i])) rfl (fun _ => ⟨(by have h := c25 l hl ps[i]; simp [hpi, Pr.cells]; exact h), by simp⟩) ?_
      simp [hpi, hlt, pressAv, tickAv, Desk.cells, Pr.cells]
      refine RTwp_call (.bool (decide (pr.1 = one))) rfl (fun _ => ⟨(by have h := c12 pr.1 one (by have := hp.1.1; omega); simp; exact h), by simp⟩) ?_
      simp [hpi, hlt, pressAv, tickAv, Desk.cells, Pr.cells]
      have hnot : counts l ps[i] = false → pr = (one, []) := fun h => by rw [← hpre, press_not h]
      have hal : all l d (ps.take (i + 1)) = (pr.1, (all l d (ps.take i)).2 ++ pr.2) := by
        rw [all_take hlt]; simp [allStep, hone, hpre]
      have hd2 : (all l d (ps.take i)).2.length + pr.2.length ≤ 4294967296 := by omega
      simp only [deedsAv, pok_len, pv_len, pok_szs, pok_app, pv_app]
      refine ⟨fun _ _ => trivial, fun _ _ => by simp [binOk], fun h => ?_, ?_, by simpa using hd2, ⟨i + 1, ⟨?_, hw, ?_⟩, by omega⟩, by rw [hw]; omega⟩
      · rw [hnot h]; simp
      · intro e he
        simp only [List.mem_map] at he
        obtain ⟨x, _, rfl⟩ := he
        simp [Deed.cells, AV.ones, AV.one]
      · rw [hal]; simp
      · rw [hal]; simp
    · have hle : i = ps.length := by omega
      rw [hle, List.take_length] at hone hai
      subst hone
      refine RTwp_call0 (c14 l hl d hd ps (by omega)) (by simp) ?_
      simp [pressAv, Desk.cells]
      refine RTwp_call0 (r := .bool true) (by have h := c12 (all l d ps).1 (all l d ps).1 (by have := hai.1.1; omega); simp at h; exact h) (by simp) ?_
      simp [pressAv, Desk.cells]
      refine RTwp_call (.bool true) rfl (fun _ => ⟨(by have h := c13 (all l d ps).2 (all l d ps).2 (all_deeds hd (by omega)); simp at h; simp [hle]; exact h), fun _ => rfl⟩) ?_
      simp [pressAv, Desk.cells]
      refine RTwp_call (.bool true) rfl (fun _ => ⟨c9, by simp⟩) ?_
      simp [pressAv, Desk.cells]
  · refine RTwp_call (.bool false) rfl (fun h => ?_) ?_
    · simp at h; omega
    have hgr : (20 : Nat) < d.vias.length := by omega
    simp [hgr]
    refine RTwp_call0 c9 (by simp) ?_
    simp
end Go.Lb.C25

namespace Go.Lb.C25
open Go Go.Lb Go.Proofs Go.RowKit

@[simp] theorem mm_max (a b : Int) (k : IntKind) : mmStep true a (.int k b) = max a b := by
  simp only [mmStep]; split <;> omega
@[simp] theorem mm_min (a b : Int) (k : IntKind) : mmStep false a (.int k b) = min a b := by
  simp only [mmStep]; split <;> omega
theorem right_idle {l : Lay} {d : Desk} (hr : right l d = true) (h1 : d.tim ≤ 0) (h2 : d.left ≤ 0) : d = newDesk := by
  obtain ⟨a1, a2, a3, a4, a5, a6, a7, a8, a9, a10⟩ := right_iff.1 hr
  rw [tm_iff] at a5 a6
  have t0 : d.tim = 0 := by omega
  have l0 : d.left = 0 := by omega
  have s := a8.1 t0
  have m := a9.1 l0
  obtain ⟨s1, v1, t1, m1, l1⟩ := d
  simp only at *
  have : v1 = [] := by rcases a10 with h | h; omega; exact h.2
  simp [newDesk, *]

theorem late_step {l : Lay} {d e : Desk} {k : Nat} (hp1 : 1 ≤ l.press) (hp2 : l.press ≤ 1000) (hre : right l e = true) (hs : max d.tim d.left ≤ (k : Int) → d.sig < 0 ∨ max d.tim d.left ≠ (k : Int) + 1) (hds : d.sig < 0 → d.tim = 0)  (hdl : 0 ≤ d.sig → d.left = 0)
    (hlt : (k : Int) < max d.tim d.left → e.sig = d.sig ∧ e.mode = d.mode ∧ max e.tim e.left = max d.tim d.left - k) (hge : max d.tim d.left ≤ (k : Int) → e = newDesk) :
    (tick l e).2 = (decide (0 ≤ d.sig) && decide ((k : Int) + 1 = max d.tim d.left)) ∧ right l (tick l e).1 = true ∧ (max d.tim d.left ≤ (k : Int) + 1 → (tick l e).1 = newDesk) ∧
      ((k : Int) + 1 < max d.tim d.left → (tick l e).1.sig = d.sig ∧ (tick l e).1.mode = d.mode ∧ max (tick l e).1.tim (tick l e).1.left = max d.tim d.left - ((k : Int) + 1)) := by
  have hmay : may l e = true := may_iff.2 ⟨hp1, hp2, hre⟩
  have hto := tick_right hre
  obtain ⟨b1, -, -, -, b5, b6, b7, b8, b9, b10⟩ := right_iff.1 hre
  rw [tm_iff] at b5 b6
  have ht1 : (tick l e).2 = decide (e.tim = 1) := by unfold tick; rw [if_pos hmay]; split <;> rfl
  have ht2 : e.tim = 1 ∨ e.left = 1 → (tick l e).1 = newDesk := by intro h; unfold tick; rw [if_pos hmay, if_pos h]
  have ht3 : ¬ (e.tim = 1 ∨ e.left = 1) → (tick l e).1.sig = e.sig ∧ (tick l e).1.mode = e.mode ∧ (tick l e).1.tim = down e.tim ∧ (tick l e).1.left = down e.left := by
    intro h; unfold tick; rw [if_pos hmay, if_neg h]; exact ⟨rfl, rfl, rfl, rfl⟩
  have hdn : ∀ n : Int, down n = if n ≤ 0 then 0 else n - 1 := fun _ => rfl
  refine ⟨?_, hto, fun h => ?_, fun h => ?_⟩
  · rw [ht1, Bool.eq_iff_iff]
    simp only [Bool.and_eq_true, decide_eq_true_eq]
    by_cases hk2 : (k : Int) < max d.tim d.left
    · obtain ⟨e1, e2, e3⟩ := hlt hk2
      omega
    · have := hge (by omega)
      subst this
      simp [newDesk]; omega
  · by_cases hc : e.tim = 1 ∨ e.left = 1
    · exact ht2 hc
    · obtain ⟨t1, t2, t3, t4⟩ := ht3 hc
      have he : e.tim ≤ 1 ∧ e.left ≤ 1 := by
        by_cases hk2 : (k : Int) < max d.tim d.left
        · obtain ⟨e1, e2, e3⟩ := hlt hk2
          omega
        · rw [hge (by omega)]; simp [newDesk]
      rw [hdn] at t3 t4
      refine right_idle hto ?_ ?_
      · rw [t3]; split <;> omega
      · rw [t4]; split <;> omega
  · obtain ⟨e1, e2, e3⟩ := hlt (by omega)
    have hc : ¬ (e.tim = 1 ∨ e.left = 1) := by omega
    obtain ⟨t1, t2, t3, t4⟩ := ht3 hc
    rw [hdn] at t3 t4
    refine ⟨by omega, by omega, ?_⟩
    rw [t3, t4]
    split <;> split <;> omega

theorem c6 (l : Lay) (hl : l.ok) (d : Desk) : C 6 [l.av, d.av] (.bool true) := by
  refine ctr (l.cells ++ d.cells) run6 rfl (by simp [pureAll_append, hl.1]) rfl ?_ rfl
  unfold rt6
  simp [Lay.cells, Desk.cells]
  refine RTwp_call0 (c8 l hl d) (by simp) ?_
  simp
  by_cases hd1 : d.vias.length ≤ 4294967296
  · refine RTwp_call (.bool (right l d)) rfl (fun _ => ⟨c19 l hl d hd1, by simp⟩) ?_
    simp
    refine ⟨fun _ => ?_, fun hg hdv hp1 hp2 hr => ?_⟩
    · refine RTwp_call0 c9 (by simp) ?_
      simp
    obtain ⟨a1, a2, a3, a4, a5, a6, a7, a8, a9, a10⟩ := right_iff.1 hr
    rw [tm_iff] at a5 a6
    refine RTwp_loop rfl (fun vs => ∃ (k : Nat) (e : Desk), vs = I ((k : Int) + 1) :: e.cells ∧ k ≤ 51 ∧ right l e = true ∧ ((k : Int) < max d.tim d.left → e.sig = d.sig ∧ e.mode = d.mode ∧ max e.tim e.left = max d.tim d.left - k) ∧ (max d.tim d.left ≤ (k : Int) → e = newDesk))
      (fun vs => match vs with | (.int _ i :: _) => 60 - i.toNat | _ => 0) ⟨0, d, rfl, by omega, hr, by simp, fun h => ?_⟩ ?_
    · simp at h; exact right_idle hr (by omega) (by omega)
    rintro vs - ⟨k, e, rfl, hk, hre, hlt, hge⟩
    have hw0 : IntKind.i64.wrap (min (max d.tim d.left) 50 + 1) = min (max d.tim d.left) 50 + 1 := by rw [wrap_i] <;> omega
    have hw1 : IntKind.i64.wrap ((k : Int) + 1 + 1) = (k : Int) + 1 + 1 := by rw [wrap_i] <;> omega
    have hw2 : IntKind.i64.wrap (max d.tim d.left - ((k : Int) + 1)) = max d.tim d.left - ((k : Int) + 1) := by rw [wrap_i] <;> omega
    simp [Desk.cells, hw0]
    refine ⟨fun hin => ?_, fun hout => ?_⟩
    · obtain ⟨hl1, hto, hon, hol⟩ := late_step (d := d) hp1 hp2 hre (by omega) (by omega) (by omega) hlt hge
      have hde := dok_of hre
      refine RTwp_call0 (c16 l hl e (by have := hde.1; omega) hde.2) (by simp) ?_
      clear hlt hge a1 a2 a3 a4 a7 a8 a9 a10
      generalize hT : tick l e = T at *
      obtain ⟨o, late⟩ := T
      simp only at hl1 hto hon hol
      subst hl1
      simp [tickAv, Desk.cells]
      refine ⟨by rw [Bool.eq_iff_iff]; simp, ?_⟩
      refine RTwp_call newDesk.av (by simp [AV.pure]) (fun _ => ⟨c23, by simp⟩) ?_
      refine RTwp_call (.bool (decide (o = newDesk))) rfl (fun _ => ⟨c12 o newDesk (by have := (dok_of hto).1; omega), by simp⟩) ?_
      by_cases hc : max d.tim d.left ≤ (k : Int) + 1
      · have ho := hon hc
        subst ho
        have hc2 : ¬ ((k : Int) + 1 < max d.tim d.left) := by omega
        simp [tickAv, Desk.cells, hc, hc2, hw1]
        exact ⟨⟨k + 1, newDesk, ⟨by omega, rfl, rfl, rfl, rfl, rfl⟩, by omega, new_right l, fun h => by omega, fun _ => rfl⟩, by omega⟩
      · have hc2 : ((k : Int) + 1 < max d.tim d.left) := by omega
        obtain ⟨o1, o2, o3⟩ := hol hc2
        have hc3 : ¬ (d.tim ≤ (k : Int) + 1 ∧ d.left ≤ (k : Int) + 1) := by omega
        simp [tickAv, Desk.cells, hc, hc2, hc3, hw1, hw2, o1, o2, o3]
        exact ⟨⟨k + 1, o, ⟨by omega, o1.symm, rfl, rfl, o2.symm, rfl⟩, by omega, hto, fun h => by omega, fun _ => by omega⟩, by omega⟩
    · refine RTwp_call0 c9 (by simp) ?_
      simp
  · refine RTwp_call (.bool false) rfl (fun h => ?_) ?_
    · simp at h; omega
    have hgr : (20 : Nat) < d.vias.length := by omega
    simp [hgr]
    refine RTwp_call0 c9 (by simp) ?_
    simp
end Go.Lb.C25
