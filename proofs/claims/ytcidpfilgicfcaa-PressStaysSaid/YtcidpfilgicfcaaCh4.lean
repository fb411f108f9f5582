/- Chapter 25: what functions come to, printed by a program, checked by the kernel. -/
/- Chapter 25: presses. -/
import Derived.Test.YtcidpfilgicfcaaCh1
import Derived.Test.YtcidpfilgicfcaaCh3
set_option linter.unusedSimpArgs false
set_option linter.unusedVariables false
namespace Go.Lb.C25
open Go Go.Lb Go.Proofs
noncomputable def rt10 : RT :=
 .seg [.chk [] (.isAgg 11) [.agg [.inp 0, .inp 1, .inp 2, .inp 3, .inp 4, .inp 5, .inp 6, .inp 7, .inp 8, .inp 9, .inp 10]]] <|
 .seg [.chk [] (.isAgg 5) [.agg [.inp 11, .inp 12, .inp 13, .inp 14, .inp 15]]] <|
 .seg [.chk [] (.isAgg 3) [.agg [.inp 16, .inp 17, .inp 18]]] <|
 .seg [.call 19 [] 27 [.agg [.inp 0, .inp 1, .inp 2, .inp 3, .inp 4, .inp 5, .inp 6, .inp 7, .inp 8, .inp 9, .inp 10]] false,
 .same 19 [] (.mp .u8 [1, 2, 3, 4, 5, 6] [.clo 41 [] [.ref [.inp 0, .inp 1, .inp 2, .inp 3, .inp 4, .inp 5, .inp 6, .inp 7, .inp 8, .inp 9, .inp 10] 0], .clo 41 [] [.ref [.inp 0, .inp 1, .inp 2, .inp 3, .inp 4, .inp 5, .inp 6, .inp 7, .inp 8, .inp 9, .inp 10] 0], .clo 42 [] [.ref [.inp 0, .inp 1, .inp 2, .inp 3, .inp 4, .inp 5, .inp 6, .inp 7, .inp 8, .inp 9, .inp 10] 0], .clo 43 [] [.ref [.inp 0, .inp 1, .inp 2, .inp 3, .inp 4, .inp 5, .inp 6, .inp 7, .inp 8, .inp 9, .inp 10] 0], .clo 44 [] [.ref [.inp 0, .inp 1, .inp 2, .inp 3, .inp 4, .inp 5, .inp 6, .inp 7, .inp 8, .inp 9, .inp 10] 0], .clo 45 [] [.ref [.inp 0, .inp 1, .inp 2, .inp 3, .inp 4, .inp 5, .inp 6, .inp 7, .inp 8, .inp 9, .inp 10] 0]]),
 .chk [] (.bin .eql) [.inp 16, .int .u8 0]] <|
 .seg [.chk [] (.isAgg 5) [.agg [.inp 11, .inp 12, .inp 13, .inp 14, .inp 15]]] <|
 .seg [.chk [] .len [.inp 12],
 .isNil 20 [] (.inp 12)] <|
 .cond (.inp 20)
 (.seg [.chk [] (.isAgg 5) [.agg [.inp 11, .enil, .inp 13, .inp 14, .inp 15]]] <|
  .seg [.chk [] (.isAgg 5) [.agg [.inp 11, .enil, .inp 13, .inp 14, .inp 15]]] <|
  .seg [.chk [] (.eqf false) [.app .pick [.app (.bin .eql) [.inp 16, .int .u8 1], .clo 41 [] [.ref [.inp 0, .inp 1, .inp 2, .inp 3, .inp 4, .inp 5, .inp 6, .inp 7, .inp 8, .inp 9, .inp 10] 0], .app .pick [.app (.bin .eql) [.inp 16, .int .u8 2], .clo 41 [] [.ref [.inp 0, .inp 1, .inp 2, .inp 3, .inp 4, .inp 5, .inp 6, .inp 7, .inp 8, .inp 9, .inp 10] 0], .app .pick [.app (.bin .eql) [.inp 16, .int .u8 3], .clo 42 [] [.ref [.inp 0, .inp 1, .inp 2, .inp 3, .inp 4, .inp 5, .inp 6, .inp 7, .inp 8, .inp 9, .inp 10] 0], .app .pick [.app (.bin .eql) [.inp 16, .int .u8 4], .clo 43 [] [.ref [.inp 0, .inp 1, .inp 2, .inp 3, .inp 4, .inp 5, .inp 6, .inp 7, .inp 8, .inp 9, .inp 10] 0], .app .pick [.app (.bin .eql) [.inp 16, .int .u8 5], .clo 44 [] [.ref [.inp 0, .inp 1, .inp 2, .inp 3, .inp 4, .inp 5, .inp 6, .inp 7, .inp 8, .inp 9, .inp 10] 0], .app .pick [.app (.bin .eql) [.inp 16, .int .u8 6], .clo 45 [] [.ref [.inp 0, .inp 1, .inp 2, .inp 3, .inp 4, .inp 5, .inp 6, .inp 7, .inp 8, .inp 9, .inp 10] 0], .nilf]]]]]], .nilf]] <|
  .seg [.call 21 [(.app (.eqf false) [.app .pick [.app (.bin .eql) [.inp 16, .int .u8 1], .clo 41 [] [.ref [.inp 0, .inp 1, .inp 2, .inp 3, .inp 4, .inp 5, .inp 6, .inp 7, .inp 8, .inp 9, .inp 10] 0], .app .pick [.app (.bin .eql) [.inp 16, .int .u8 2], .clo 41 [] [.ref [.inp 0, .inp 1, .inp 2, .inp 3, .inp 4, .inp 5, .inp 6, .inp 7, .inp 8, .inp 9, .inp 10] 0], .app .pick [.app (.bin .eql) [.inp 16, .int .u8 3], .clo 42 [] [.ref [.inp 0, .inp 1, .inp 2, .inp 3, .inp 4, .inp 5, .inp 6, .inp 7, .inp 8, .inp 9, .inp 10] 0], .app .pick [.app (.bin .eql) [.inp 16, .int .u8 4], .clo 43 [] [.ref [.inp 0, .inp 1, .inp 2, .inp 3, .inp 4, .inp 5, .inp 6, .inp 7, .inp 8, .inp 9, .inp 10] 0], .app .pick [.app (.bin .eql) [.inp 16, .int .u8 5], .clo 44 [] [.ref [.inp 0, .inp 1, .inp 2, .inp 3, .inp 4, .inp 5, .inp 6, .inp 7, .inp 8, .inp 9, .inp 10] 0], .app .pick [.app (.bin .eql) [.inp 16, .int .u8 6], .clo 45 [] [.ref [.inp 0, .inp 1, .inp 2, .inp 3, .inp 4, .inp 5, .inp 6, .inp 7, .inp 8, .inp 9, .inp 10] 0], .nilf]]]]]], .nilf], false)] 28 [.agg [.inp 0, .inp 1, .inp 2, .inp 3, .inp 4, .inp 5, .inp 6, .inp 7, .inp 8, .inp 9, .inp 10], .agg [.inp 11, .inp 12, .inp 13, .inp 14, .inp 15]] false] <|
  .seg [.chk [(.app (.eqf false) [.app .pick [.app (.bin .eql) [.inp 16, .int .u8 1], .clo 41 [] [.ref [.inp 0, .inp 1, .inp 2, .inp 3, .inp 4, .inp 5, .inp 6, .inp 7, .inp 8, .inp 9, .inp 10] 0], .app .pick [.app (.bin .eql) [.inp 16, .int .u8 2], .clo 41 [] [.ref [.inp 0, .inp 1, .inp 2, .inp 3, .inp 4, .inp 5, .inp 6, .inp 7, .inp 8, .inp 9, .inp 10] 0], .app .pick [.app (.bin .eql) [.inp 16, .int .u8 3], .clo 42 [] [.ref [.inp 0, .inp 1, .inp 2, .inp 3, .inp 4, .inp 5, .inp 6, .inp 7, .inp 8, .inp 9, .inp 10] 0], .app .pick [.app (.bin .eql) [.inp 16, .int .u8 4], .clo 43 [] [.ref [.inp 0, .inp 1, .inp 2, .inp 3, .inp 4, .inp 5, .inp 6, .inp 7, .inp 8, .inp 9, .inp 10] 0], .app .pick [.app (.bin .eql) [.inp 16, .int .u8 5], .clo 44 [] [.ref [.inp 0, .inp 1, .inp 2, .inp 3, .inp 4, .inp 5, .inp 6, .inp 7, .inp 8, .inp 9, .inp 10] 0], .app .pick [.app (.bin .eql) [.inp 16, .int .u8 6], .clo 45 [] [.ref [.inp 0, .inp 1, .inp 2, .inp 3, .inp 4, .inp 5, .inp 6, .inp 7, .inp 8, .inp 9, .inp 10] 0], .nilf]]]]]], .nilf], false)] (.un .not) [.inp 21]] <|
  .seg [.chk [] .pick [.app (.eqf false) [.app .pick [.app (.bin .eql) [.inp 16, .int .u8 1], .clo 41 [] [.ref [.inp 0, .inp 1, .inp 2, .inp 3, .inp 4, .inp 5, .inp 6, .inp 7, .inp 8, .inp 9, .inp 10] 0], .app .pick [.app (.bin .eql) [.inp 16, .int .u8 2], .clo 41 [] [.ref [.inp 0, .inp 1, .inp 2, .inp 3, .inp 4, .inp 5, .inp 6, .inp 7, .inp 8, .inp 9, .inp 10] 0], .app .pick [.app (.bin .eql) [.inp 16, .int .u8 3], .clo 42 [] [.ref [.inp 0, .inp 1, .inp 2, .inp 3, .inp 4, .inp 5, .inp 6, .inp 7, .inp 8, .inp 9, .inp 10] 0], .app .pick [.app (.bin .eql) [.inp 16, .int .u8 4], .clo 43 [] [.ref [.inp 0, .inp 1, .inp 2, .inp 3, .inp 4, .inp 5, .inp 6, .inp 7, .inp 8, .inp 9, .inp 10] 0], .app .pick [.app (.bin .eql) [.inp 16, .int .u8 5], .clo 44 [] [.ref [.inp 0, .inp 1, .inp 2, .inp 3, .inp 4, .inp 5, .inp 6, .inp 7, .inp 8, .inp 9, .inp 10] 0], .app .pick [.app (.bin .eql) [.inp 16, .int .u8 6], .clo 45 [] [.ref [.inp 0, .inp 1, .inp 2, .inp 3, .inp 4, .inp 5, .inp 6, .inp 7, .inp 8, .inp 9, .inp 10] 0], .nilf]]]]]], .nilf], .bool true, .app (.un .not) [.inp 21]]] <|
  .cond (.app .pick [.app (.eqf false) [.app .pick [.app (.bin .eql) [.inp 16, .int .u8 1], .clo 41 [] [.ref [.inp 0, .inp 1, .inp 2, .inp 3, .inp 4, .inp 5, .inp 6, .inp 7, .inp 8, .inp 9, .inp 10] 0], .app .pick [.app (.bin .eql) [.inp 16, .int .u8 2], .clo 41 [] [.ref [.inp 0, .inp 1, .inp 2, .inp 3, .inp 4, .inp 5, .inp 6, .inp 7, .inp 8, .inp 9, .inp 10] 0], .app .pick [.app (.bin .eql) [.inp 16, .int .u8 3], .clo 42 [] [.ref [.inp 0, .inp 1, .inp 2, .inp 3, .inp 4, .inp 5, .inp 6, .inp 7, .inp 8, .inp 9, .inp 10] 0], .app .pick [.app (.bin .eql) [.inp 16, .int .u8 4], .clo 43 [] [.ref [.inp 0, .inp 1, .inp 2, .inp 3, .inp 4, .inp 5, .inp 6, .inp 7, .inp 8, .inp 9, .inp 10] 0], .app .pick [.app (.bin .eql) [.inp 16, .int .u8 5], .clo 44 [] [.ref [.inp 0, .inp 1, .inp 2, .inp 3, .inp 4, .inp 5, .inp 6, .inp 7, .inp 8, .inp 9, .inp 10] 0], .app .pick [.app (.bin .eql) [.inp 16, .int .u8 6], .clo 45 [] [.ref [.inp 0, .inp 1, .inp 2, .inp 3, .inp 4, .inp 5, .inp 6, .inp 7, .inp 8, .inp 9, .inp 10] 0], .nilf]]]]]], .nilf], .bool true, .app (.un .not) [.inp 21]])
  (.seg [.chk [] (.isAgg 5) [.agg [.inp 11, .inp 12, .inp 13, .inp 14, .inp 15]]] <|
   .seg [.chk [] .len [.inp 12],
   .isNil 22 [] (.inp 12)] <|
   .cond (.inp 22)
   (.seg [.chk [] (.isAgg 5) [.agg [.inp 11, .enil, .inp 13, .inp 14, .inp 15]]] <|
    .seg [.chk [] (.isAgg 5) [.agg [.inp 11, .enil, .inp 13, .inp 14, .inp 15]]] <|
    .ret (.tup [.agg [.inp 11, .nils, .inp 13, .inp 14, .inp 15], .nils]))
   (.seg [.chk [] (.szs 1) [.inp 12],
    .chk [] .app [.app .lst [], .inp 12]] <|
    .seg [.chk [] (.isAgg 5) [.agg [.inp 11, .row 86, .inp 13, .inp 14, .inp 15]]] <|
    .seg [.chk [] (.isAgg 5) [.agg [.inp 11, .row 86, .inp 13, .inp 14, .inp 15]]] <|
    .ret (.tup [.agg [.inp 11, .app .app [.app .lst [], .inp 12], .inp 13, .inp 14, .inp 15], .nils])))
  (.cond (.app (.bin .eql) [.inp 16, .int .u8 1])
   (.seg [.chk [] (.isAgg 3) [.agg [.inp 16, .inp 17, .inp 18]]] <|
    .seg [.chk [] (.eoff 4) [.ref [.inp 0, .inp 1, .inp 2, .inp 3, .inp 4, .inp 5, .inp 6, .inp 7, .inp 8, .inp 9, .inp 10] 0]] <|
    .seg [.chk [] (.eoff 5) [.app (.eoff 4) [.ref [.inp 0, .inp 1, .inp 2, .inp 3, .inp 4, .inp 5, .inp 6, .inp 7, .inp 8, .inp 9, .inp 10] 0]]] <|
    .seg [.chk [] (.eload 1 false) [.app (.eoff 5) [.app (.eoff 4) [.ref [.inp 0, .inp 1, .inp 2, .inp 3, .inp 4, .inp 5, .inp 6, .inp 7, .inp 8, .inp 9, .inp 10] 0]]]] <|
    .seg [.chk [] .isOne [.inp 16],
    .chk [] .isOne [.app (.eload 1 false) [.app (.eoff 5) [.app (.eoff 4) [.ref [.inp 0, .inp 1, .inp 2, .inp 3, .inp 4, .inp 5, .inp 6, .inp 7, .inp 8, .inp 9, .inp 10] 0]]]]] <|
    .seg [.chk [] (.isAgg 5) [.agg [.int .i64 (-1), .enil, .int .i64 0, .inp 16, .app (.eload 1 false) [.app (.eoff 5) [.app (.eoff 4) [.ref [.inp 0, .inp 1, .inp 2, .inp 3, .inp 4, .inp 5, .inp 6, .inp 7, .inp 8, .inp 9, .inp 10] 0]]]]]] <|
    .seg [.chk [] (.un .not) [.bool true]] <|
    .seg [.chk [] (.isAgg 5) [.agg [.int .i64 (-1), .enil, .int .i64 0, .inp 16, .app (.eload 1 false) [.app (.eoff 5) [.app (.eoff 4) [.ref [.inp 0, .inp 1, .inp 2, .inp 3, .inp 4, .inp 5, .inp 6, .inp 7, .inp 8, .inp 9, .inp 10] 0]]]]]] <|
    .ret (.tup [.agg [.int .i64 (-1), .nils, .int .i64 0, .inp 16, .app (.eload 1 false) [.app (.eoff 5) [.app (.eoff 4) [.ref [.inp 0, .inp 1, .inp 2, .inp 3, .inp 4, .inp 5, .inp 6, .inp 7, .inp 8, .inp 9, .inp 10] 0]]]], .nils]))
   (.cond (.app (.bin .eql) [.inp 16, .int .u8 2])
    (.seg [.chk [] (.isAgg 3) [.agg [.inp 16, .inp 17, .inp 18]]] <|
     .seg [.chk [] (.eoff 4) [.ref [.inp 0, .inp 1, .inp 2, .inp 3, .inp 4, .inp 5, .inp 6, .inp 7, .inp 8, .inp 9, .inp 10] 0]] <|
     .seg [.chk [] (.eoff 5) [.app (.eoff 4) [.ref [.inp 0, .inp 1, .inp 2, .inp 3, .inp 4, .inp 5, .inp 6, .inp 7, .inp 8, .inp 9, .inp 10] 0]]] <|
     .seg [.chk [] (.eload 1 false) [.app (.eoff 5) [.app (.eoff 4) [.ref [.inp 0, .inp 1, .inp 2, .inp 3, .inp 4, .inp 5, .inp 6, .inp 7, .inp 8, .inp 9, .inp 10] 0]]]] <|
     .seg [.chk [] .isOne [.inp 16],
     .chk [] .isOne [.app (.eload 1 false) [.app (.eoff 5) [.app (.eoff 4) [.ref [.inp 0, .inp 1, .inp 2, .inp 3, .inp 4, .inp 5, .inp 6, .inp 7, .inp 8, .inp 9, .inp 10] 0]]]]] <|
     .seg [.chk [] (.isAgg 5) [.agg [.int .i64 (-1), .enil, .int .i64 0, .inp 16, .app (.eload 1 false) [.app (.eoff 5) [.app (.eoff 4) [.ref [.inp 0, .inp 1, .inp 2, .inp 3, .inp 4, .inp 5, .inp 6, .inp 7, .inp 8, .inp 9, .inp 10] 0]]]]]] <|
     .seg [.chk [] (.un .not) [.bool true]] <|
     .seg [.chk [] (.isAgg 5) [.agg [.int .i64 (-1), .enil, .int .i64 0, .inp 16, .app (.eload 1 false) [.app (.eoff 5) [.app (.eoff 4) [.ref [.inp 0, .inp 1, .inp 2, .inp 3, .inp 4, .inp 5, .inp 6, .inp 7, .inp 8, .inp 9, .inp 10] 0]]]]]] <|
     .ret (.tup [.agg [.int .i64 (-1), .nils, .int .i64 0, .inp 16, .app (.eload 1 false) [.app (.eoff 5) [.app (.eoff 4) [.ref [.inp 0, .inp 1, .inp 2, .inp 3, .inp 4, .inp 5, .inp 6, .inp 7, .inp 8, .inp 9, .inp 10] 0]]]], .nils]))
    (.cond (.app (.bin .eql) [.inp 16, .int .u8 3])
     (.seg [.chk [] (.isAgg 3) [.agg [.inp 16, .inp 17, .inp 18]]] <|
      .seg [.chk [] (.bin .eql) [.inp 14, .int .u8 0]] <|
      .seg [.chk [] (.eoff 1) [.ref [.inp 0, .inp 1, .inp 2, .inp 3, .inp 4, .inp 5, .inp 6, .inp 7, .inp 8, .inp 9, .inp 10] 0]] <|
      .seg [.chk [] (.eload 1 false) [.app (.eoff 1) [.ref [.inp 0, .inp 1, .inp 2, .inp 3, .inp 4, .inp 5, .inp 6, .inp 7, .inp 8, .inp 9, .inp 10] 0]]] <|
      .seg [.chk [] .len [.app (.eload 1 false) [.app (.eoff 1) [.ref [.inp 0, .inp 1, .inp 2, .inp 3, .inp 4, .inp 5, .inp 6, .inp 7, .inp 8, .inp 9, .inp 10] 0]]]] <|
      .seg [.chk [] (.bin .geq) [.inp 17, .int .i64 0]] <|
      .seg [.chk [(.app (.bin .geq) [.inp 17, .int .i64 0], true)] (.bin .lss) [.inp 17, .app .len [.app (.eload 1 false) [.app (.eoff 1) [.ref [.inp 0, .inp 1, .inp 2, .inp 3, .inp 4, .inp 5, .inp 6, .inp 7, .inp 8, .inp 9, .inp 10] 0]]]]] <|
      .seg [.chk [] .pick [.app (.bin .geq) [.inp 17, .int .i64 0], .app (.bin .lss) [.inp 17, .app .len [.app (.eload 1 false) [.app (.eoff 1) [.ref [.inp 0, .inp 1, .inp 2, .inp 3, .inp 4, .inp 5, .inp 6, .inp 7, .inp 8, .inp 9, .inp 10] 0]]]], .bool false]] <|
      .seg [.chk [] (.un .not) [.app .pick [.app (.bin .geq) [.inp 17, .int .i64 0], .app (.bin .lss) [.inp 17, .app .len [.app (.eload 1 false) [.app (.eoff 1) [.ref [.inp 0, .inp 1, .inp 2, .inp 3, .inp 4, .inp 5, .inp 6, .inp 7, .inp 8, .inp 9, .inp 10] 0]]]], .bool false]]] <|
      .cond (.app .pick [.app (.bin .geq) [.inp 17, .int .i64 0], .app (.bin .lss) [.inp 17, .app .len [.app (.eload 1 false) [.app (.eoff 1) [.ref [.inp 0, .inp 1, .inp 2, .inp 3, .inp 4, .inp 5, .inp 6, .inp 7, .inp 8, .inp 9, .inp 10] 0]]]], .bool false])
      (.seg [.chk [] (.bin .gtr) [.app .pick [.app (.bin .eql) [.inp 14, .int .u8 1], .int .u8 1, .app .pick [.app (.bin .eql) [.inp 14, .int .u8 2], .int .u8 2, .int .u8 0]], .int .u8 0]] <|
       .cond (.app (.bin .gtr) [.app .pick [.app (.bin .eql) [.inp 14, .int .u8 1], .int .u8 1, .app .pick [.app (.bin .eql) [.inp 14, .int .u8 2], .int .u8 2, .int .u8 0]], .int .u8 0])
       (.seg [.call 22 [] 22 [] false] <|
        .seg [.chk [] (.isAgg 5) [.inp 22]] <|
        .seg [.chk [] .isOne [.app .pick [.app (.bin .eql) [.inp 14, .int .u8 1], .int .u8 1, .app .pick [.app (.bin .eql) [.inp 14, .int .u8 2], .int .u8 2, .int .u8 0]]],
        .chk [] .isOne [.inp 17]] <|
        .seg [.chk [] (.isAgg 6) [.agg [.app .pick [.app (.bin .eql) [.inp 14, .int .u8 1], .int .u8 1, .app .pick [.app (.bin .eql) [.inp 14, .int .u8 2], .int .u8 2, .int .u8 0]], .inp 17, .int .i64 0, .int .i64 0, .int .i64 0, .nils]]] <|
        .seg [.chk [] (.un .not) [.bool true]] <|
        .seg [.chk [] (.isAgg 5) [.agg [.app (.part 0 1 false) [.inp 22], .app (.part 1 1 false) [.inp 22], .app (.part 2 1 false) [.inp 22], .app (.part 3 1 false) [.inp 22], .app (.part 4 1 false) [.inp 22]]]] <|
        .ret (.tup [.agg [.app (.part 0 1 false) [.inp 22], .app (.part 1 1 false) [.inp 22], .app (.part 2 1 false) [.inp 22], .app (.part 3 1 false) [.inp 22], .app (.part 4 1 false) [.inp 22]], .app .lst [.agg [.app .pick [.app (.bin .eql) [.inp 14, .int .u8 1], .int .u8 1, .app .pick [.app (.bin .eql) [.inp 14, .int .u8 2], .int .u8 2, .int .u8 0]], .inp 17, .int .i64 0, .int .i64 0, .int .i64 0, .nils]]]))
       (.seg [.chk [] (.eoff 4) [.ref [.inp 0, .inp 1, .inp 2, .inp 3, .inp 4, .inp 5, .inp 6, .inp 7, .inp 8, .inp 9, .inp 10] 0]] <|
        .seg [.chk [] (.eoff 5) [.app (.eoff 4) [.ref [.inp 0, .inp 1, .inp 2, .inp 3, .inp 4, .inp 5, .inp 6, .inp 7, .inp 8, .inp 9, .inp 10] 0]]] <|
        .seg [.chk [] (.eload 1 false) [.app (.eoff 5) [.app (.eoff 4) [.ref [.inp 0, .inp 1, .inp 2, .inp 3, .inp 4, .inp 5, .inp 6, .inp 7, .inp 8, .inp 9, .inp 10] 0]]]] <|
        .seg [.chk [] .isOne [.inp 17],
        .chk [] .isOne [.app (.eload 1 false) [.app (.eoff 5) [.app (.eoff 4) [.ref [.inp 0, .inp 1, .inp 2, .inp 3, .inp 4, .inp 5, .inp 6, .inp 7, .inp 8, .inp 9, .inp 10] 0]]]]] <|
        .seg [.chk [] (.isAgg 5) [.agg [.inp 17, .enil, .app (.eload 1 false) [.app (.eoff 5) [.app (.eoff 4) [.ref [.inp 0, .inp 1, .inp 2, .inp 3, .inp 4, .inp 5, .inp 6, .inp 7, .inp 8, .inp 9, .inp 10] 0]]], .int .u8 0, .int .i64 0]]] <|
        .seg [.chk [] (.un .not) [.bool true]] <|
        .seg [.chk [] (.isAgg 5) [.agg [.inp 17, .enil, .app (.eload 1 false) [.app (.eoff 5) [.app (.eoff 4) [.ref [.inp 0, .inp 1, .inp 2, .inp 3, .inp 4, .inp 5, .inp 6, .inp 7, .inp 8, .inp 9, .inp 10] 0]]], .int .u8 0, .int .i64 0]]] <|
        .ret (.tup [.agg [.inp 17, .nils, .app (.eload 1 false) [.app (.eoff 5) [.app (.eoff 4) [.ref [.inp 0, .inp 1, .inp 2, .inp 3, .inp 4, .inp 5, .inp 6, .inp 7, .inp 8, .inp 9, .inp 10] 0]]], .int .u8 0, .int .i64 0], .nils])))
      (.seg [.chk [] (.un .not) [.bool false]] <|
       .seg [.chk [] (.isAgg 5) [.agg [.inp 11, .inp 12, .inp 13, .inp 14, .inp 15]]] <|
       .seg [.chk [] .len [.inp 12],
       .isNil 22 [] (.inp 12)] <|
       .cond (.inp 22)
       (.seg [.chk [] (.isAgg 5) [.agg [.inp 11, .enil, .inp 13, .inp 14, .inp 15]]] <|
        .seg [.chk [] (.isAgg 5) [.agg [.inp 11, .enil, .inp 13, .inp 14, .inp 15]]] <|
        .ret (.tup [.agg [.inp 11, .nils, .inp 13, .inp 14, .inp 15], .nils]))
       (.seg [.chk [] (.szs 1) [.inp 12],
        .chk [] .app [.app .lst [], .inp 12]] <|
        .seg [.chk [] (.isAgg 5) [.agg [.inp 11, .row 162, .inp 13, .inp 14, .inp 15]]] <|
        .seg [.chk [] (.isAgg 5) [.agg [.inp 11, .row 162, .inp 13, .inp 14, .inp 15]]] <|
        .ret (.tup [.agg [.inp 11, .app .app [.app .lst [], .inp 12], .inp 13, .inp 14, .inp 15], .nils]))))
     (.cond (.app (.bin .eql) [.inp 16, .int .u8 4])
      (.seg [.chk [] (.isAgg 3) [.agg [.inp 16, .inp 17, .inp 18]]] <|
       .seg [.chk [] (.bin .lss) [.inp 11, .int .i64 0]] <|
       .seg [.chk [(.app (.bin .lss) [.inp 11, .int .i64 0], false)] .len [.nils]] <|
       .seg [.chk [(.app (.bin .lss) [.inp 11, .int .i64 0], false)] (.bin .eql) [.app .len [.nils], .int .i64 2]] <|
       .seg [.chk [] .pick [.app (.bin .lss) [.inp 11, .int .i64 0], .bool true, .app (.bin .eql) [.app .len [.nils], .int .i64 2]]] <|
       .seg [.chk [(.app .pick [.app (.bin .lss) [.inp 11, .int .i64 0], .bool true, .app (.bin .eql) [.app .len [.nils], .int .i64 2]], false)] (.eoff 0) [.ref [.inp 0, .inp 1, .inp 2, .inp 3, .inp 4, .inp 5, .inp 6, .inp 7, .inp 8, .inp 9, .inp 10] 0]] <|
       .seg [.chk [(.app .pick [.app (.bin .lss) [.inp 11, .int .i64 0], .bool true, .app (.bin .eql) [.app .len [.nils], .int .i64 2]], false)] (.eload 1 false) [.app (.eoff 0) [.ref [.inp 0, .inp 1, .inp 2, .inp 3, .inp 4, .inp 5, .inp 6, .inp 7, .inp 8, .inp 9, .inp 10] 0]]] <|
       .seg [.chk [(.app .pick [.app (.bin .lss) [.inp 11, .int .i64 0], .bool true, .app (.bin .eql) [.app .len [.nils], .int .i64 2]], false)] .len [.app (.eload 1 false) [.app (.eoff 0) [.ref [.inp 0, .inp 1, .inp 2, .inp 3, .inp 4, .inp 5, .inp 6, .inp 7, .inp 8, .inp 9, .inp 10] 0]]]] <|
       .cond (.app .pick [.app (.bin .lss) [.inp 11, .int .i64 0], .bool true, .app (.bin .eql) [.app .len [.nils], .int .i64 2]])
       (.seg [.chk [] (.un .not) [.bool false]] <|
        .seg [.chk [] (.isAgg 5) [.agg [.inp 11, .inp 12, .inp 13, .inp 14, .inp 15]]] <|
        .seg [.chk [] .len [.inp 12],
        .isNil 22 [] (.inp 12)] <|
        .cond (.inp 22)
        (.seg [.chk [] (.isAgg 5) [.agg [.inp 11, .enil, .inp 13, .inp 14, .inp 15]]] <|
         .seg [.chk [] (.isAgg 5) [.agg [.inp 11, .enil, .inp 13, .inp 14, .inp 15]]] <|
         .ret (.tup [.agg [.inp 11, .nils, .inp 13, .inp 14, .inp 15], .nils]))
        (.seg [.chk [] (.szs 1) [.inp 12],
         .chk [] .app [.app .lst [], .inp 12]] <|
         .seg [.chk [] (.isAgg 5) [.agg [.inp 11, .row 150, .inp 13, .inp 14, .inp 15]]] <|
         .seg [.chk [] (.isAgg 5) [.agg [.inp 11, .row 150, .inp 13, .inp 14, .inp 15]]] <|
         .ret (.tup [.agg [.inp 11, .app .app [.app .lst [], .inp 12], .inp 13, .inp 14, .inp 15], .nils])))
       (.seg [.chk [] (.bin .geq) [.inp 17, .int .i64 0]] <|
        .seg [.chk [(.app (.bin .geq) [.inp 17, .int .i64 0], true)] (.bin .lss) [.inp 17, .app .len [.app (.eload 1 false) [.app (.eoff 0) [.ref [.inp 0, .inp 1, .inp 2, .inp 3, .inp 4, .inp 5, .inp 6, .inp 7, .inp 8, .inp 9, .inp 10] 0]]]]] <|
        .seg [.chk [] .pick [.app (.bin .geq) [.inp 17, .int .i64 0], .app (.bin .lss) [.inp 17, .app .len [.app (.eload 1 false) [.app (.eoff 0) [.ref [.inp 0, .inp 1, .inp 2, .inp 3, .inp 4, .inp 5, .inp 6, .inp 7, .inp 8, .inp 9, .inp 10] 0]]]], .bool false]] <|
        .seg [.chk [] (.un .not) [.app .pick [.app (.bin .geq) [.inp 17, .int .i64 0], .app (.bin .lss) [.inp 17, .app .len [.app (.eload 1 false) [.app (.eoff 0) [.ref [.inp 0, .inp 1, .inp 2, .inp 3, .inp 4, .inp 5, .inp 6, .inp 7, .inp 8, .inp 9, .inp 10] 0]]]], .bool false]]] <|
        .cond (.app .pick [.app (.bin .geq) [.inp 17, .int .i64 0], .app (.bin .lss) [.inp 17, .app .len [.app (.eload 1 false) [.app (.eoff 0) [.ref [.inp 0, .inp 1, .inp 2, .inp 3, .inp 4, .inp 5, .inp 6, .inp 7, .inp 8, .inp 9, .inp 10] 0]]]], .bool false])
        (.seg [.chk [] .isOne [.inp 17],
         .chk [] .isOne [.inp 17],
         .chk [] (.szs 1) [.app .lst [.inp 17]],
         .chk [] .app [.nils, .app .lst [.inp 17]],
         .chk [] (.eoff 4) [.ref [.inp 0, .inp 1, .inp 2, .inp 3, .inp 4, .inp 5, .inp 6, .inp 7, .inp 8, .inp 9, .inp 10] 0],
         .chk [] (.eoff 5) [.app (.eoff 4) [.ref [.inp 0, .inp 1, .inp 2, .inp 3, .inp 4, .inp 5, .inp 6, .inp 7, .inp 8, .inp 9, .inp 10] 0]],
         .chk [] (.eload 1 false) [.app (.eoff 5) [.app (.eoff 4) [.ref [.inp 0, .inp 1, .inp 2, .inp 3, .inp 4, .inp 5, .inp 6, .inp 7, .inp 8, .inp 9, .inp 10] 0]]],
         .chk [] .isOne [.app (.eload 1 false) [.app (.eoff 5) [.app (.eoff 4) [.ref [.inp 0, .inp 1, .inp 2, .inp 3, .inp 4, .inp 5, .inp 6, .inp 7, .inp 8, .inp 9, .inp 10] 0]]]]] <|
         .seg [.chk [] (.un .not) [.bool true]] <|
         .seg [.chk [] (.isAgg 5) [.agg [.inp 11, .row 148, .app (.eload 1 false) [.app (.eoff 5) [.app (.eoff 4) [.ref [.inp 0, .inp 1, .inp 2, .inp 3, .inp 4, .inp 5, .inp 6, .inp 7, .inp 8, .inp 9, .inp 10] 0]]], .inp 14, .inp 15]]] <|
         .ret (.tup [.agg [.inp 11, .app .app [.nils, .app .lst [.inp 17]], .app (.eload 1 false) [.app (.eoff 5) [.app (.eoff 4) [.ref [.inp 0, .inp 1, .inp 2, .inp 3, .inp 4, .inp 5, .inp 6, .inp 7, .inp 8, .inp 9, .inp 10] 0]]], .inp 14, .inp 15], .nils]))
        (.seg [.chk [] (.un .not) [.bool false]] <|
         .seg [.chk [] (.isAgg 5) [.agg [.inp 11, .inp 12, .inp 13, .inp 14, .inp 15]]] <|
         .seg [.chk [] .len [.inp 12],
         .isNil 22 [] (.inp 12)] <|
         .cond (.inp 22)
         (.seg [.chk [] (.isAgg 5) [.agg [.inp 11, .enil, .inp 13, .inp 14, .inp 15]]] <|
          .seg [.chk [] (.isAgg 5) [.agg [.inp 11, .enil, .inp 13, .inp 14, .inp 15]]] <|
          .ret (.tup [.agg [.inp 11, .nils, .inp 13, .inp 14, .inp 15], .nils]))
         (.seg [.chk [] (.szs 1) [.inp 12],
          .chk [] .app [.app .lst [], .inp 12]] <|
          .seg [.chk [] (.isAgg 5) [.agg [.inp 11, .row 168, .inp 13, .inp 14, .inp 15]]] <|
          .seg [.chk [] (.isAgg 5) [.agg [.inp 11, .row 168, .inp 13, .inp 14, .inp 15]]] <|
          .ret (.tup [.agg [.inp 11, .app .app [.app .lst [], .inp 12], .inp 13, .inp 14, .inp 15], .nils])))))
      (.cond (.app (.bin .eql) [.inp 16, .int .u8 5])
       (.seg [.chk [] (.isAgg 3) [.agg [.inp 16, .inp 17, .inp 18]]] <|
        .seg [.chk [] (.bin .lss) [.inp 11, .int .i64 0]] <|
        .seg [.chk [(.app (.bin .lss) [.inp 11, .int .i64 0], false)] (.eoff 2) [.ref [.inp 0, .inp 1, .inp 2, .inp 3, .inp 4, .inp 5, .inp 6, .inp 7, .inp 8, .inp 9, .inp 10] 0]] <|
        .seg [.chk [(.app (.bin .lss) [.inp 11, .int .i64 0], false)] (.eload 1 false) [.app (.eoff 2) [.ref [.inp 0, .inp 1, .inp 2, .inp 3, .inp 4, .inp 5, .inp 6, .inp 7, .inp 8, .inp 9, .inp 10] 0]]] <|
        .seg [.chk [(.app (.bin .lss) [.inp 11, .int .i64 0], false)] .len [.app (.eload 1 false) [.app (.eoff 2) [.ref [.inp 0, .inp 1, .inp 2, .inp 3, .inp 4, .inp 5, .inp 6, .inp 7, .inp 8, .inp 9, .inp 10] 0]]]] <|
        .cond (.app (.bin .lss) [.inp 11, .int .i64 0])
        (.seg [.chk [] (.un .not) [.bool false]] <|
         .seg [.chk [] (.isAgg 5) [.agg [.inp 11, .inp 12, .inp 13, .inp 14, .inp 15]]] <|
         .seg [.chk [] .len [.inp 12],
         .isNil 22 [] (.inp 12)] <|
         .cond (.inp 22)
         (.seg [.chk [] (.isAgg 5) [.agg [.inp 11, .enil, .inp 13, .inp 14, .inp 15]]] <|
          .seg [.chk [] (.isAgg 5) [.agg [.inp 11, .enil, .inp 13, .inp 14, .inp 15]]] <|
          .ret (.tup [.agg [.inp 11, .nils, .inp 13, .inp 14, .inp 15], .nils]))
         (.seg [.chk [] (.szs 1) [.inp 12],
          .chk [] .app [.app .lst [], .inp 12]] <|
          .seg [.chk [] (.isAgg 5) [.agg [.inp 11, .row 136, .inp 13, .inp 14, .inp 15]]] <|
          .seg [.chk [] (.isAgg 5) [.agg [.inp 11, .row 136, .inp 13, .inp 14, .inp 15]]] <|
          .ret (.tup [.agg [.inp 11, .app .app [.app .lst [], .inp 12], .inp 13, .inp 14, .inp 15], .nils])))
        (.seg [.chk [] (.bin .geq) [.inp 17, .int .i64 0]] <|
         .seg [.chk [(.app (.bin .geq) [.inp 17, .int .i64 0], true)] (.bin .lss) [.inp 17, .app .len [.app (.eload 1 false) [.app (.eoff 2) [.ref [.inp 0, .inp 1, .inp 2, .inp 3, .inp 4, .inp 5, .inp 6, .inp 7, .inp 8, .inp 9, .inp 10] 0]]]]] <|
         .seg [.chk [] .pick [.app (.bin .geq) [.inp 17, .int .i64 0], .app (.bin .lss) [.inp 17, .app .len [.app (.eload 1 false) [.app (.eoff 2) [.ref [.inp 0, .inp 1, .inp 2, .inp 3, .inp 4, .inp 5, .inp 6, .inp 7, .inp 8, .inp 9, .inp 10] 0]]]], .bool false]] <|
         .seg [.chk [] (.un .not) [.app .pick [.app (.bin .geq) [.inp 17, .int .i64 0], .app (.bin .lss) [.inp 17, .app .len [.app (.eload 1 false) [.app (.eoff 2) [.ref [.inp 0, .inp 1, .inp 2, .inp 3, .inp 4, .inp 5, .inp 6, .inp 7, .inp 8, .inp 9, .inp 10] 0]]]], .bool false]]] <|
         .cond (.app .pick [.app (.bin .geq) [.inp 17, .int .i64 0], .app (.bin .lss) [.inp 17, .app .len [.app (.eload 1 false) [.app (.eoff 2) [.ref [.inp 0, .inp 1, .inp 2, .inp 3, .inp 4, .inp 5, .inp 6, .inp 7, .inp 8, .inp 9, .inp 10] 0]]]], .bool false])
         (.seg [.chk [] .isOne [.inp 11],
          .chk [] .isOne [.inp 17],
          .chk [] (.isAgg 3) [.agg [.inp 11, .inp 17, .enil]]] <|
          .seg [.call 22 [] 22 [] false] <|
          .seg [.chk [] (.isAgg 5) [.inp 22]] <|
          .seg [.chk [] (.isAgg 3) [.agg [.inp 11, .inp 17, .enil]]] <|
          .seg [.chk [] (.isAgg 6) [.agg [.int .u8 3, .int .i64 0, .int .i64 0, .inp 11, .inp 17, .nils]]] <|
          .seg [.chk [] (.un .not) [.bool true]] <|
          .seg [.chk [] (.isAgg 5) [.agg [.app (.part 0 1 false) [.inp 22], .app (.part 1 1 false) [.inp 22], .app (.part 2 1 false) [.inp 22], .app (.part 3 1 false) [.inp 22], .app (.part 4 1 false) [.inp 22]]]] <|
          .ret (.tup [.agg [.app (.part 0 1 false) [.inp 22], .app (.part 1 1 false) [.inp 22], .app (.part 2 1 false) [.inp 22], .app (.part 3 1 false) [.inp 22], .app (.part 4 1 false) [.inp 22]], .app .lst [.agg [.int .u8 3, .int .i64 0, .int .i64 0, .inp 11, .inp 17, .nils]]]))
         (.seg [.chk [] (.un .not) [.bool false]] <|
          .seg [.chk [] (.isAgg 5) [.agg [.inp 11, .inp 12, .inp 13, .inp 14, .inp 15]]] <|
          .seg [.chk [] .len [.inp 12],
          .isNil 22 [] (.inp 12)] <|
          .cond (.inp 22)
          (.seg [.chk [] (.isAgg 5) [.agg [.inp 11, .enil, .inp 13, .inp 14, .inp 15]]] <|
           .seg [.chk [] (.isAgg 5) [.agg [.inp 11, .enil, .inp 13, .inp 14, .inp 15]]] <|
           .ret (.tup [.agg [.inp 11, .nils, .inp 13, .inp 14, .inp 15], .nils]))
          (.seg [.chk [] (.szs 1) [.inp 12],
           .chk [] .app [.app .lst [], .inp 12]] <|
           .seg [.chk [] (.isAgg 5) [.agg [.inp 11, .row 154, .inp 13, .inp 14, .inp 15]]] <|
           .seg [.chk [] (.isAgg 5) [.agg [.inp 11, .row 154, .inp 13, .inp 14, .inp 15]]] <|
           .ret (.tup [.agg [.inp 11, .app .app [.app .lst [], .inp 12], .inp 13, .inp 14, .inp 15], .nils])))))
       (.cond (.app (.bin .eql) [.inp 16, .int .u8 6])
        (.seg [.chk [] (.isAgg 3) [.agg [.inp 16, .inp 17, .inp 18]]] <|
         .seg [.chk [] (.eoff 0) [.ref [.inp 0, .inp 1, .inp 2, .inp 3, .inp 4, .inp 5, .inp 6, .inp 7, .inp 8, .inp 9, .inp 10] 0]] <|
         .seg [.chk [] (.eload 1 false) [.app (.eoff 0) [.ref [.inp 0, .inp 1, .inp 2, .inp 3, .inp 4, .inp 5, .inp 6, .inp 7, .inp 8, .inp 9, .inp 10] 0]]] <|
         .seg [.chk [] .len [.app (.eload 1 false) [.app (.eoff 0) [.ref [.inp 0, .inp 1, .inp 2, .inp 3, .inp 4, .inp 5, .inp 6, .inp 7, .inp 8, .inp 9, .inp 10] 0]]]] <|
         .seg [.chk [] (.bin .geq) [.inp 17, .int .i64 0]] <|
         .seg [.chk [(.app (.bin .geq) [.inp 17, .int .i64 0], true)] (.bin .lss) [.inp 17, .app .len [.app (.eload 1 false) [.app (.eoff 0) [.ref [.inp 0, .inp 1, .inp 2, .inp 3, .inp 4, .inp 5, .inp 6, .inp 7, .inp 8, .inp 9, .inp 10] 0]]]]] <|
         .seg [.chk [] .pick [.app (.bin .geq) [.inp 17, .int .i64 0], .app (.bin .lss) [.inp 17, .app .len [.app (.eload 1 false) [.app (.eoff 0) [.ref [.inp 0, .inp 1, .inp 2, .inp 3, .inp 4, .inp 5, .inp 6, .inp 7, .inp 8, .inp 9, .inp 10] 0]]]], .bool false]] <|
         .seg [.chk [] (.un .not) [.app .pick [.app (.bin .geq) [.inp 17, .int .i64 0], .app (.bin .lss) [.inp 17, .app .len [.app (.eload 1 false) [.app (.eoff 0) [.ref [.inp 0, .inp 1, .inp 2, .inp 3, .inp 4, .inp 5, .inp 6, .inp 7, .inp 8, .inp 9, .inp 10] 0]]]], .bool false]]] <|
         .seg [.chk [(.app (.un .not) [.app .pick [.app (.bin .geq) [.inp 17, .int .i64 0], .app (.bin .lss) [.inp 17, .app .len [.app (.eload 1 false) [.app (.eoff 0) [.ref [.inp 0, .inp 1, .inp 2, .inp 3, .inp 4, .inp 5, .inp 6, .inp 7, .inp 8, .inp 9, .inp 10] 0]]]], .bool false]], false)] (.eoff 0) [.ref [.inp 0, .inp 1, .inp 2, .inp 3, .inp 4, .inp 5, .inp 6, .inp 7, .inp 8, .inp 9, .inp 10] 0]] <|
         .seg [.chk [(.app (.un .not) [.app .pick [.app (.bin .geq) [.inp 17, .int .i64 0], .app (.bin .lss) [.inp 17, .app .len [.app (.eload 1 false) [.app (.eoff 0) [.ref [.inp 0, .inp 1, .inp 2, .inp 3, .inp 4, .inp 5, .inp 6, .inp 7, .inp 8, .inp 9, .inp 10] 0]]]], .bool false]], false)] (.eload 1 false) [.app (.eoff 0) [.ref [.inp 0, .inp 1, .inp 2, .inp 3, .inp 4, .inp 5, .inp 6, .inp 7, .inp 8, .inp 9, .inp 10] 0]]] <|
         .seg [.chk [(.app (.un .not) [.app .pick [.app (.bin .geq) [.inp 17, .int .i64 0], .app (.bin .lss) [.inp 17, .app .len [.app (.eload 1 false) [.app (.eoff 0) [.ref [.inp 0, .inp 1, .inp 2, .inp 3, .inp 4, .inp 5, .inp 6, .inp 7, .inp 8, .inp 9, .inp 10] 0]]]], .bool false]], false)] (.eidx 11) [.app (.eload 1 false) [.app (.eoff 0) [.ref [.inp 0, .inp 1, .inp 2, .inp 3, .inp 4, .inp 5, .inp 6, .inp 7, .inp 8, .inp 9, .inp 10] 0]], .inp 17]] <|
         .seg [.chk [(.app (.un .not) [.app .pick [.app (.bin .geq) [.inp 17, .int .i64 0], .app (.bin .lss) [.inp 17, .app .len [.app (.eload 1 false) [.app (.eoff 0) [.ref [.inp 0, .inp 1, .inp 2, .inp 3, .inp 4, .inp 5, .inp 6, .inp 7, .inp 8, .inp 9, .inp 10] 0]]]], .bool false]], false)] (.eoff 0) [.app (.eidx 11) [.app (.eload 1 false) [.app (.eoff 0) [.ref [.inp 0, .inp 1, .inp 2, .inp 3, .inp 4, .inp 5, .inp 6, .inp 7, .inp 8, .inp 9, .inp 10] 0]], .inp 17]]] <|
         .seg [.chk [(.app (.un .not) [.app .pick [.app (.bin .geq) [.inp 17, .int .i64 0], .app (.bin .lss) [.inp 17, .app .len [.app (.eload 1 false) [.app (.eoff 0) [.ref [.inp 0, .inp 1, .inp 2, .inp 3, .inp 4, .inp 5, .inp 6, .inp 7, .inp 8, .inp 9, .inp 10] 0]]]], .bool false]], false)] (.eload 1 false) [.app (.eoff 0) [.app (.eidx 11) [.app (.eload 1 false) [.app (.eoff 0) [.ref [.inp 0, .inp 1, .inp 2, .inp 3, .inp 4, .inp 5, .inp 6, .inp 7, .inp 8, .inp 9, .inp 10] 0]], .inp 17]]]] <|
         .seg [.chk [(.app (.un .not) [.app .pick [.app (.bin .geq) [.inp 17, .int .i64 0], .app (.bin .lss) [.inp 17, .app .len [.app (.eload 1 false) [.app (.eoff 0) [.ref [.inp 0, .inp 1, .inp 2, .inp 3, .inp 4, .inp 5, .inp 6, .inp 7, .inp 8, .inp 9, .inp 10] 0]]]], .bool false]], false)] (.bin .neq) [.app (.eload 1 false) [.app (.eoff 0) [.app (.eidx 11) [.app (.eload 1 false) [.app (.eoff 0) [.ref [.inp 0, .inp 1, .inp 2, .inp 3, .inp 4, .inp 5, .inp 6, .inp 7, .inp 8, .inp 9, .inp 10] 0]], .inp 17]]], .int .u8 2]] <|
         .seg [.chk [] .pick [.app (.un .not) [.app .pick [.app (.bin .geq) [.inp 17, .int .i64 0], .app (.bin .lss) [.inp 17, .app .len [.app (.eload 1 false) [.app (.eoff 0) [.ref [.inp 0, .inp 1, .inp 2, .inp 3, .inp 4, .inp 5, .inp 6, .inp 7, .inp 8, .inp 9, .inp 10] 0]]]], .bool false]], .bool true, .app (.bin .neq) [.app (.eload 1 false) [.app (.eoff 0) [.app (.eidx 11) [.app (.eload 1 false) [.app (.eoff 0) [.ref [.inp 0, .inp 1, .inp 2, .inp 3, .inp 4, .inp 5, .inp 6, .inp 7, .inp 8, .inp 9, .inp 10] 0]], .inp 17]]], .int .u8 2]]] <|
         .cond (.app .pick [.app (.un .not) [.app .pick [.app (.bin .geq) [.inp 17, .int .i64 0], .app (.bin .lss) [.inp 17, .app .len [.app (.eload 1 false) [.app (.eoff 0) [.ref [.inp 0, .inp 1, .inp 2, .inp 3, .inp 4, .inp 5, .inp 6, .inp 7, .inp 8, .inp 9, .inp 10] 0]]]], .bool false]], .bool true, .app (.bin .neq) [.app (.eload 1 false) [.app (.eoff 0) [.app (.eidx 11) [.app (.eload 1 false) [.app (.eoff 0) [.ref [.inp 0, .inp 1, .inp 2, .inp 3, .inp 4, .inp 5, .inp 6, .inp 7, .inp 8, .inp 9, .inp 10] 0]], .inp 17]]], .int .u8 2]])
         (.seg [.chk [] (.un .not) [.bool false]] <|
          .seg [.chk [] (.isAgg 5) [.agg [.inp 11, .inp 12, .inp 13, .inp 14, .inp 15]]] <|
          .seg [.chk [] .len [.inp 12],
          .isNil 22 [] (.inp 12)] <|
          .cond (.inp 22)
          (.seg [.chk [] (.isAgg 5) [.agg [.inp 11, .enil, .inp 13, .inp 14, .inp 15]]] <|
           .seg [.chk [] (.isAgg 5) [.agg [.inp 11, .enil, .inp 13, .inp 14, .inp 15]]] <|
           .ret (.tup [.agg [.inp 11, .nils, .inp 13, .inp 14, .inp 15], .nils]))
          (.seg [.chk [] (.szs 1) [.inp 12],
           .chk [] .app [.app .lst [], .inp 12]] <|
           .seg [.chk [] (.isAgg 5) [.agg [.inp 11, .row 166, .inp 13, .inp 14, .inp 15]]] <|
           .seg [.chk [] (.isAgg 5) [.agg [.inp 11, .row 166, .inp 13, .inp 14, .inp 15]]] <|
           .ret (.tup [.agg [.inp 11, .app .app [.app .lst [], .inp 12], .inp 13, .inp 14, .inp 15], .nils])))
         (.seg [.chk [] (.bin .geq) [.inp 18, .int .i64 0]] <|
          .seg [.chk [(.app (.bin .geq) [.inp 18, .int .i64 0], true)] (.bin .lss) [.inp 18, .int .i64 2]] <|
          .seg [.chk [] .pick [.app (.bin .geq) [.inp 18, .int .i64 0], .app (.bin .lss) [.inp 18, .int .i64 2], .bool false]] <|
          .seg [.chk [] (.un .not) [.app .pick [.app (.bin .geq) [.inp 18, .int .i64 0], .app (.bin .lss) [.inp 18, .int .i64 2], .bool false]]] <|
          .cond (.app .pick [.app (.bin .geq) [.inp 18, .int .i64 0], .app (.bin .lss) [.inp 18, .int .i64 2], .bool false])
          (.seg [.chk [] .isOne [.inp 17],
           .chk [] .isOne [.inp 18]] <|
           .seg [.chk [] (.isAgg 6) [.agg [.int .u8 4, .inp 17, .inp 18, .int .i64 0, .int .i64 0, .nils]]] <|
           .seg [.chk [] (.un .not) [.bool true]] <|
           .seg [.chk [] (.isAgg 5) [.agg [.inp 11, .enil, .inp 13, .inp 14, .inp 15]]] <|
           .ret (.tup [.agg [.inp 11, .nils, .inp 13, .inp 14, .inp 15], .app .lst [.agg [.int .u8 4, .inp 17, .inp 18, .int .i64 0, .int .i64 0, .nils]]]))
          (.seg [.chk [] (.un .not) [.bool false]] <|
           .seg [.chk [] (.isAgg 5) [.agg [.inp 11, .inp 12, .inp 13, .inp 14, .inp 15]]] <|
           .seg [.chk [] .len [.inp 12],
           .isNil 22 [] (.inp 12)] <|
           .cond (.inp 22)
           (.seg [.chk [] (.isAgg 5) [.agg [.inp 11, .enil, .inp 13, .inp 14, .inp 15]]] <|
            .seg [.chk [] (.isAgg 5) [.agg [.inp 11, .enil, .inp 13, .inp 14, .inp 15]]] <|
            .ret (.tup [.agg [.inp 11, .nils, .inp 13, .inp 14, .inp 15], .nils]))
           (.seg [.chk [] (.szs 1) [.inp 12],
            .chk [] .app [.app .lst [], .inp 12]] <|
            .seg [.chk [] (.isAgg 5) [.agg [.inp 11, .row 184, .inp 13, .inp 14, .inp 15]]] <|
            .seg [.chk [] (.isAgg 5) [.agg [.inp 11, .row 184, .inp 13, .inp 14, .inp 15]]] <|
            .ret (.tup [.agg [.inp 11, .app .app [.app .lst [], .inp 12], .inp 13, .inp 14, .inp 15], .nils])))))
        (.dead 6 []))))))))
 (.seg [.chk [] (.szs 1) [.inp 12],
  .chk [] .app [.app .lst [], .inp 12]] <|
  .seg [.chk [] (.isAgg 5) [.agg [.inp 11, .row 44, .inp 13, .inp 14, .inp 15]]] <|
  .seg [.chk [] (.isAgg 5) [.agg [.inp 11, .row 44, .inp 13, .inp 14, .inp 15]]] <|
  .seg [.chk [] (.eqf false) [.app .pick [.app (.bin .eql) [.inp 16, .int .u8 1], .clo 41 [] [.ref [.inp 0, .inp 1, .inp 2, .inp 3, .inp 4, .inp 5, .inp 6, .inp 7, .inp 8, .inp 9, .inp 10] 0], .app .pick [.app (.bin .eql) [.inp 16, .int .u8 2], .clo 41 [] [.ref [.inp 0, .inp 1, .inp 2, .inp 3, .inp 4, .inp 5, .inp 6, .inp 7, .inp 8, .inp 9, .inp 10] 0], .app .pick [.app (.bin .eql) [.inp 16, .int .u8 3], .clo 42 [] [.ref [.inp 0, .inp 1, .inp 2, .inp 3, .inp 4, .inp 5, .inp 6, .inp 7, .inp 8, .inp 9, .inp 10] 0], .app .pick [.app (.bin .eql) [.inp 16, .int .u8 4], .clo 43 [] [.ref [.inp 0, .inp 1, .inp 2, .inp 3, .inp 4, .inp 5, .inp 6, .inp 7, .inp 8, .inp 9, .inp 10] 0], .app .pick [.app (.bin .eql) [.inp 16, .int .u8 5], .clo 44 [] [.ref [.inp 0, .inp 1, .inp 2, .inp 3, .inp 4, .inp 5, .inp 6, .inp 7, .inp 8, .inp 9, .inp 10] 0], .app .pick [.app (.bin .eql) [.inp 16, .int .u8 6], .clo 45 [] [.ref [.inp 0, .inp 1, .inp 2, .inp 3, .inp 4, .inp 5, .inp 6, .inp 7, .inp 8, .inp 9, .inp 10] 0], .nilf]]]]]], .nilf]] <|
  .seg [.call 21 [(.app (.eqf false) [.app .pick [.app (.bin .eql) [.inp 16, .int .u8 1], .clo 41 [] [.ref [.inp 0, .inp 1, .inp 2, .inp 3, .inp 4, .inp 5, .inp 6, .inp 7, .inp 8, .inp 9, .inp 10] 0], .app .pick [.app (.bin .eql) [.inp 16, .int .u8 2], .clo 41 [] [.ref [.inp 0, .inp 1, .inp 2, .inp 3, .inp 4, .inp 5, .inp 6, .inp 7, .inp 8, .inp 9, .inp 10] 0], .app .pick [.app (.bin .eql) [.inp 16, .int .u8 3], .clo 42 [] [.ref [.inp 0, .inp 1, .inp 2, .inp 3, .inp 4, .inp 5, .inp 6, .inp 7, .inp 8, .inp 9, .inp 10] 0], .app .pick [.app (.bin .eql) [.inp 16, .int .u8 4], .clo 43 [] [.ref [.inp 0, .inp 1, .inp 2, .inp 3, .inp 4, .inp 5, .inp 6, .inp 7, .inp 8, .inp 9, .inp 10] 0], .app .pick [.app (.bin .eql) [.inp 16, .int .u8 5], .clo 44 [] [.ref [.inp 0, .inp 1, .inp 2, .inp 3, .inp 4, .inp 5, .inp 6, .inp 7, .inp 8, .inp 9, .inp 10] 0], .app .pick [.app (.bin .eql) [.inp 16, .int .u8 6], .clo 45 [] [.ref [.inp 0, .inp 1, .inp 2, .inp 3, .inp 4, .inp 5, .inp 6, .inp 7, .inp 8, .inp 9, .inp 10] 0], .nilf]]]]]], .nilf], false)] 28 [.agg [.inp 0, .inp 1, .inp 2, .inp 3, .inp 4, .inp 5, .inp 6, .inp 7, .inp 8, .inp 9, .inp 10], .agg [.inp 11, .inp 12, .inp 13, .inp 14, .inp 15]] false] <|
  .seg [.chk [(.app (.eqf false) [.app .pick [.app (.bin .eql) [.inp 16, .int .u8 1], .clo 41 [] [.ref [.inp 0, .inp 1, .inp 2, .inp 3, .inp 4, .inp 5, .inp 6, .inp 7, .inp 8, .inp 9, .inp 10] 0], .app .pick [.app (.bin .eql) [.inp 16, .int .u8 2], .clo 41 [] [.ref [.inp 0, .inp 1, .inp 2, .inp 3, .inp 4, .inp 5, .inp 6, .inp 7, .inp 8, .inp 9, .inp 10] 0], .app .pick [.app (.bin .eql) [.inp 16, .int .u8 3], .clo 42 [] [.ref [.inp 0, .inp 1, .inp 2, .inp 3, .inp 4, .inp 5, .inp 6, .inp 7, .inp 8, .inp 9, .inp 10] 0], .app .pick [.app (.bin .eql) [.inp 16, .int .u8 4], .clo 43 [] [.ref [.inp 0, .inp 1, .inp 2, .inp 3, .inp 4, .inp 5, .inp 6, .inp 7, .inp 8, .inp 9, .inp 10] 0], .app .pick [.app (.bin .eql) [.inp 16, .int .u8 5], .clo 44 [] [.ref [.inp 0, .inp 1, .inp 2, .inp 3, .inp 4, .inp 5, .inp 6, .inp 7, .inp 8, .inp 9, .inp 10] 0], .app .pick [.app (.bin .eql) [.inp 16, .int .u8 6], .clo 45 [] [.ref [.inp 0, .inp 1, .inp 2, .inp 3, .inp 4, .inp 5, .inp 6, .inp 7, .inp 8, .inp 9, .inp 10] 0], .nilf]]]]]], .nilf], false)] (.un .not) [.inp 21]] <|
  .seg [.chk [] .pick [.app (.eqf false) [.app .pick [.app (.bin .eql) [.inp 16, .int .u8 1], .clo 41 [] [.ref [.inp 0, .inp 1, .inp 2, .inp 3, .inp 4, .inp 5, .inp 6, .inp 7, .inp 8, .inp 9, .inp 10] 0], .app .pick [.app (.bin .eql) [.inp 16, .int .u8 2], .clo 41 [] [.ref [.inp 0, .inp 1, .inp 2, .inp 3, .inp 4, .inp 5, .inp 6, .inp 7, .inp 8, .inp 9, .inp 10] 0], .app .pick [.app (.bin .eql) [.inp 16, .int .u8 3], .clo 42 [] [.ref [.inp 0, .inp 1, .inp 2, .inp 3, .inp 4, .inp 5, .inp 6, .inp 7, .inp 8, .inp 9, .inp 10] 0], .app .pick [.app (.bin .eql) [.inp 16, .int .u8 4], .clo 43 [] [.ref [.inp 0, .inp 1, .inp 2, .inp 3, .inp 4, .inp 5, .inp 6, .inp 7, .inp 8, .inp 9, .inp 10] 0], .app .pick [.app (.bin .eql) [.inp 16, .int .u8 5], .clo 44 [] [.ref [.inp 0, .inp 1, .inp 2, .inp 3, .inp 4, .inp 5, .inp 6, .inp 7, .inp 8, .inp 9, .inp 10] 0], .app .pick [.app (.bin .eql) [.inp 16, .int .u8 6], .clo 45 [] [.ref [.inp 0, .inp 1, .inp 2, .inp 3, .inp 4, .inp 5, .inp 6, .inp 7, .inp 8, .inp 9, .inp 10] 0], .nilf]]]]]], .nilf], .bool true, .app (.un .not) [.inp 21]]] <|
  .cond (.app .pick [.app (.eqf false) [.app .pick [.app (.bin .eql) [.inp 16, .int .u8 1], .clo 41 [] [.ref [.inp 0, .inp 1, .inp 2, .inp 3, .inp 4, .inp 5, .inp 6, .inp 7, .inp 8, .inp 9, .inp 10] 0], .app .pick [.app (.bin .eql) [.inp 16, .int .u8 2], .clo 41 [] [.ref [.inp 0, .inp 1, .inp 2, .inp 3, .inp 4, .inp 5, .inp 6, .inp 7, .inp 8, .inp 9, .inp 10] 0], .app .pick [.app (.bin .eql) [.inp 16, .int .u8 3], .clo 42 [] [.ref [.inp 0, .inp 1, .inp 2, .inp 3, .inp 4, .inp 5, .inp 6, .inp 7, .inp 8, .inp 9, .inp 10] 0], .app .pick [.app (.bin .eql) [.inp 16, .int .u8 4], .clo 43 [] [.ref [.inp 0, .inp 1, .inp 2, .inp 3, .inp 4, .inp 5, .inp 6, .inp 7, .inp 8, .inp 9, .inp 10] 0], .app .pick [.app (.bin .eql) [.inp 16, .int .u8 5], .clo 44 [] [.ref [.inp 0, .inp 1, .inp 2, .inp 3, .inp 4, .inp 5, .inp 6, .inp 7, .inp 8, .inp 9, .inp 10] 0], .app .pick [.app (.bin .eql) [.inp 16, .int .u8 6], .clo 45 [] [.ref [.inp 0, .inp 1, .inp 2, .inp 3, .inp 4, .inp 5, .inp 6, .inp 7, .inp 8, .inp 9, .inp 10] 0], .nilf]]]]]], .nilf], .bool true, .app (.un .not) [.inp 21]])
  (.seg [.chk [] (.isAgg 5) [.agg [.inp 11, .inp 12, .inp 13, .inp 14, .inp 15]]] <|
   .seg [.chk [] .len [.inp 12],
   .isNil 22 [] (.inp 12)] <|
   .cond (.inp 22)
   (.seg [.chk [] (.isAgg 5) [.agg [.inp 11, .enil, .inp 13, .inp 14, .inp 15]]] <|
    .seg [.chk [] (.isAgg 5) [.agg [.inp 11, .enil, .inp 13, .inp 14, .inp 15]]] <|
    .ret (.tup [.agg [.inp 11, .nils, .inp 13, .inp 14, .inp 15], .nils]))
   (.seg [.chk [] (.szs 1) [.inp 12],
    .chk [] .app [.app .lst [], .inp 12]] <|
    .seg [.chk [] (.isAgg 5) [.agg [.inp 11, .row 92, .inp 13, .inp 14, .inp 15]]] <|
    .seg [.chk [] (.isAgg 5) [.agg [.inp 11, .row 92, .inp 13, .inp 14, .inp 15]]] <|
    .ret (.tup [.agg [.inp 11, .app .app [.app .lst [], .inp 12], .inp 13, .inp 14, .inp 15], .nils])))
  (.cond (.app (.bin .eql) [.inp 16, .int .u8 1])
   (.seg [.chk [] (.isAgg 3) [.agg [.inp 16, .inp 17, .inp 18]]] <|
    .seg [.chk [] (.eoff 4) [.ref [.inp 0, .inp 1, .inp 2, .inp 3, .inp 4, .inp 5, .inp 6, .inp 7, .inp 8, .inp 9, .inp 10] 0]] <|
    .seg [.chk [] (.eoff 5) [.app (.eoff 4) [.ref [.inp 0, .inp 1, .inp 2, .inp 3, .inp 4, .inp 5, .inp 6, .inp 7, .inp 8, .inp 9, .inp 10] 0]]] <|
    .seg [.chk [] (.eload 1 false) [.app (.eoff 5) [.app (.eoff 4) [.ref [.inp 0, .inp 1, .inp 2, .inp 3, .inp 4, .inp 5, .inp 6, .inp 7, .inp 8, .inp 9, .inp 10] 0]]]] <|
    .seg [.chk [] .isOne [.inp 16],
    .chk [] .isOne [.app (.eload 1 false) [.app (.eoff 5) [.app (.eoff 4) [.ref [.inp 0, .inp 1, .inp 2, .inp 3, .inp 4, .inp 5, .inp 6, .inp 7, .inp 8, .inp 9, .inp 10] 0]]]]] <|
    .seg [.chk [] (.isAgg 5) [.agg [.int .i64 (-1), .enil, .int .i64 0, .inp 16, .app (.eload 1 false) [.app (.eoff 5) [.app (.eoff 4) [.ref [.inp 0, .inp 1, .inp 2, .inp 3, .inp 4, .inp 5, .inp 6, .inp 7, .inp 8, .inp 9, .inp 10] 0]]]]]] <|
    .seg [.chk [] (.un .not) [.bool true]] <|
    .seg [.chk [] (.isAgg 5) [.agg [.int .i64 (-1), .enil, .int .i64 0, .inp 16, .app (.eload 1 false) [.app (.eoff 5) [.app (.eoff 4) [.ref [.inp 0, .inp 1, .inp 2, .inp 3, .inp 4, .inp 5, .inp 6, .inp 7, .inp 8, .inp 9, .inp 10] 0]]]]]] <|
    .ret (.tup [.agg [.int .i64 (-1), .nils, .int .i64 0, .inp 16, .app (.eload 1 false) [.app (.eoff 5) [.app (.eoff 4) [.ref [.inp 0, .inp 1, .inp 2, .inp 3, .inp 4, .inp 5, .inp 6, .inp 7, .inp 8, .inp 9, .inp 10] 0]]]], .nils]))
   (.cond (.app (.bin .eql) [.inp 16, .int .u8 2])
    (.seg [.chk [] (.isAgg 3) [.agg [.inp 16, .inp 17, .inp 18]]] <|
     .seg [.chk [] (.eoff 4) [.ref [.inp 0, .inp 1, .inp 2, .inp 3, .inp 4, .inp 5, .inp 6, .inp 7, .inp 8, .inp 9, .inp 10] 0]] <|
     .seg [.chk [] (.eoff 5) [.app (.eoff 4) [.ref [.inp 0, .inp 1, .inp 2, .inp 3, .inp 4, .inp 5, .inp 6, .inp 7, .inp 8, .inp 9, .inp 10] 0]]] <|
     .seg [.chk [] (.eload 1 false) [.app (.eoff 5) [.app (.eoff 4) [.ref [.inp 0, .inp 1, .inp 2, .inp 3, .inp 4, .inp 5, .inp 6, .inp 7, .inp 8, .inp 9, .inp 10] 0]]]] <|
     .seg [.chk [] .isOne [.inp 16],
     .chk [] .isOne [.app (.eload 1 false) [.app (.eoff 5) [.app (.eoff 4) [.ref [.inp 0, .inp 1, .inp 2, .inp 3, .inp 4, .inp 5, .inp 6, .inp 7, .inp 8, .inp 9, .inp 10] 0]]]]] <|
     .seg [.chk [] (.isAgg 5) [.agg [.int .i64 (-1), .enil, .int .i64 0, .inp 16, .app (.eload 1 false) [.app (.eoff 5) [.app (.eoff 4) [.ref [.inp 0, .inp 1, .inp 2, .inp 3, .inp 4, .inp 5, .inp 6, .inp 7, .inp 8, .inp 9, .inp 10] 0]]]]]] <|
     .seg [.chk [] (.un .not) [.bool true]] <|
     .seg [.chk [] (.isAgg 5) [.agg [.int .i64 (-1), .enil, .int .i64 0, .inp 16, .app (.eload 1 false) [.app (.eoff 5) [.app (.eoff 4) [.ref [.inp 0, .inp 1, .inp 2, .inp 3, .inp 4, .inp 5, .inp 6, .inp 7, .inp 8, .inp 9, .inp 10] 0]]]]]] <|
     .ret (.tup [.agg [.int .i64 (-1), .nils, .int .i64 0, .inp 16, .app (.eload 1 false) [.app (.eoff 5) [.app (.eoff 4) [.ref [.inp 0, .inp 1, .inp 2, .inp 3, .inp 4, .inp 5, .inp 6, .inp 7, .inp 8, .inp 9, .inp 10] 0]]]], .nils]))
    (.cond (.app (.bin .eql) [.inp 16, .int .u8 3])
     (.seg [.chk [] (.isAgg 3) [.agg [.inp 16, .inp 17, .inp 18]]] <|
      .seg [.chk [] (.bin .eql) [.inp 14, .int .u8 0]] <|
      .seg [.chk [] (.eoff 1) [.ref [.inp 0, .inp 1, .inp 2, .inp 3, .inp 4, .inp 5, .inp 6, .inp 7, .inp 8, .inp 9, .inp 10] 0]] <|
      .seg [.chk [] (.eload 1 false) [.app (.eoff 1) [.ref [.inp 0, .inp 1, .inp 2, .inp 3, .inp 4, .inp 5, .inp 6, .inp 7, .inp 8, .inp 9, .inp 10] 0]]] <|
      .seg [.chk [] .len [.app (.eload 1 false) [.app (.eoff 1) [.ref [.inp 0, .inp 1, .inp 2, .inp 3, .inp 4, .inp 5, .inp 6, .inp 7, .inp 8, .inp 9, .inp 10] 0]]]] <|
      .seg [.chk [] (.bin .geq) [.inp 17, .int .i64 0]] <|
      .seg [.chk [(.app (.bin .geq) [.inp 17, .int .i64 0], true)] (.bin .lss) [.inp 17, .app .len [.app (.eload 1 false) [.app (.eoff 1) [.ref [.inp 0, .inp 1, .inp 2, .inp 3, .inp 4, .inp 5, .inp 6, .inp 7, .inp 8, .inp 9, .inp 10] 0]]]]] <|
      .seg [.chk [] .pick [.app (.bin .geq) [.inp 17, .int .i64 0], .app (.bin .lss) [.inp 17, .app .len [.app (.eload 1 false) [.app (.eoff 1) [.ref [.inp 0, .inp 1, .inp 2, .inp 3, .inp 4, .inp 5, .inp 6, .inp 7, .inp 8, .inp 9, .inp 10] 0]]]], .bool false]] <|
      .seg [.chk [] (.un .not) [.app .pick [.app (.bin .geq) [.inp 17, .int .i64 0], .app (.bin .lss) [.inp 17, .app .len [.app (.eload 1 false) [.app (.eoff 1) [.ref [.inp 0, .inp 1, .inp 2, .inp 3, .inp 4, .inp 5, .inp 6, .inp 7, .inp 8, .inp 9, .inp 10] 0]]]], .bool false]]] <|
      .cond (.app .pick [.app (.bin .geq) [.inp 17, .int .i64 0], .app (.bin .lss) [.inp 17, .app .len [.app (.eload 1 false) [.app (.eoff 1) [.ref [.inp 0, .inp 1, .inp 2, .inp 3, .inp 4, .inp 5, .inp 6, .inp 7, .inp 8, .inp 9, .inp 10] 0]]]], .bool false])
      (.seg [.chk [] (.bin .gtr) [.app .pick [.app (.bin .eql) [.inp 14, .int .u8 1], .int .u8 1, .app .pick [.app (.bin .eql) [.inp 14, .int .u8 2], .int .u8 2, .int .u8 0]], .int .u8 0]] <|
       .cond (.app (.bin .gtr) [.app .pick [.app (.bin .eql) [.inp 14, .int .u8 1], .int .u8 1, .app .pick [.app (.bin .eql) [.inp 14, .int .u8 2], .int .u8 2, .int .u8 0]], .int .u8 0])
       (.seg [.call 22 [] 22 [] false] <|
        .seg [.chk [] (.isAgg 5) [.inp 22]] <|
        .seg [.chk [] .isOne [.app .pick [.app (.bin .eql) [.inp 14, .int .u8 1], .int .u8 1, .app .pick [.app (.bin .eql) [.inp 14, .int .u8 2], .int .u8 2, .int .u8 0]]],
        .chk [] .isOne [.inp 17]] <|
        .seg [.chk [] (.isAgg 6) [.agg [.app .pick [.app (.bin .eql) [.inp 14, .int .u8 1], .int .u8 1, .app .pick [.app (.bin .eql) [.inp 14, .int .u8 2], .int .u8 2, .int .u8 0]], .inp 17, .int .i64 0, .int .i64 0, .int .i64 0, .nils]]] <|
        .seg [.chk [] (.un .not) [.bool true]] <|
        .seg [.chk [] (.isAgg 5) [.agg [.app (.part 0 1 false) [.inp 22], .app (.part 1 1 false) [.inp 22], .app (.part 2 1 false) [.inp 22], .app (.part 3 1 false) [.inp 22], .app (.part 4 1 false) [.inp 22]]]] <|
        .ret (.tup [.agg [.app (.part 0 1 false) [.inp 22], .app (.part 1 1 false) [.inp 22], .app (.part 2 1 false) [.inp 22], .app (.part 3 1 false) [.inp 22], .app (.part 4 1 false) [.inp 22]], .app .lst [.agg [.app .pick [.app (.bin .eql) [.inp 14, .int .u8 1], .int .u8 1, .app .pick [.app (.bin .eql) [.inp 14, .int .u8 2], .int .u8 2, .int .u8 0]], .inp 17, .int .i64 0, .int .i64 0, .int .i64 0, .nils]]]))
       (.seg [.chk [] (.eoff 4) [.ref [.inp 0, .inp 1, .inp 2, .inp 3, .inp 4, .inp 5, .inp 6, .inp 7, .inp 8, .inp 9, .inp 10] 0]] <|
        .seg [.chk [] (.eoff 5) [.app (.eoff 4) [.ref [.inp 0, .inp 1, .inp 2, .inp 3, .inp 4, .inp 5, .inp 6, .inp 7, .inp 8, .inp 9, .inp 10] 0]]] <|
        .seg [.chk [] (.eload 1 false) [.app (.eoff 5) [.app (.eoff 4) [.ref [.inp 0, .inp 1, .inp 2, .inp 3, .inp 4, .inp 5, .inp 6, .inp 7, .inp 8, .inp 9, .inp 10] 0]]]] <|
        .seg [.chk [] .isOne [.inp 17],
        .chk [] .isOne [.app (.eload 1 false) [.app (.eoff 5) [.app (.eoff 4) [.ref [.inp 0, .inp 1, .inp 2, .inp 3, .inp 4, .inp 5, .inp 6, .inp 7, .inp 8, .inp 9, .inp 10] 0]]]]] <|
        .seg [.chk [] (.isAgg 5) [.agg [.inp 17, .enil, .app (.eload 1 false) [.app (.eoff 5) [.app (.eoff 4) [.ref [.inp 0, .inp 1, .inp 2, .inp 3, .inp 4, .inp 5, .inp 6, .inp 7, .inp 8, .inp 9, .inp 10] 0]]], .int .u8 0, .int .i64 0]]] <|
        .seg [.chk [] (.un .not) [.bool true]] <|
        .seg [.chk [] (.isAgg 5) [.agg [.inp 17, .enil, .app (.eload 1 false) [.app (.eoff 5) [.app (.eoff 4) [.ref [.inp 0, .inp 1, .inp 2, .inp 3, .inp 4, .inp 5, .inp 6, .inp 7, .inp 8, .inp 9, .inp 10] 0]]], .int .u8 0, .int .i64 0]]] <|
        .ret (.tup [.agg [.inp 17, .nils, .app (.eload 1 false) [.app (.eoff 5) [.app (.eoff 4) [.ref [.inp 0, .inp 1, .inp 2, .inp 3, .inp 4, .inp 5, .inp 6, .inp 7, .inp 8, .inp 9, .inp 10] 0]]], .int .u8 0, .int .i64 0], .nils])))
      (.seg [.chk [] (.un .not) [.bool false]] <|
       .seg [.chk [] (.isAgg 5) [.agg [.inp 11, .inp 12, .inp 13, .inp 14, .inp 15]]] <|
       .seg [.chk [] .len [.inp 12],
       .isNil 22 [] (.inp 12)] <|
       .cond (.inp 22)
       (.seg [.chk [] (.isAgg 5) [.agg [.inp 11, .enil, .inp 13, .inp 14, .inp 15]]] <|
        .seg [.chk [] (.isAgg 5) [.agg [.inp 11, .enil, .inp 13, .inp 14, .inp 15]]] <|
        .ret (.tup [.agg [.inp 11, .nils, .inp 13, .inp 14, .inp 15], .nils]))
       (.seg [.chk [] (.szs 1) [.inp 12],
        .chk [] .app [.app .lst [], .inp 12]] <|
        .seg [.chk [] (.isAgg 5) [.agg [.inp 11, .row 168, .inp 13, .inp 14, .inp 15]]] <|
        .seg [.chk [] (.isAgg 5) [.agg [.inp 11, .row 168, .inp 13, .inp 14, .inp 15]]] <|
        .ret (.tup [.agg [.inp 11, .app .app [.app .lst [], .inp 12], .inp 13, .inp 14, .inp 15], .nils]))))
     (.cond (.app (.bin .eql) [.inp 16, .int .u8 4])
      (.seg [.chk [] (.isAgg 3) [.agg [.inp 16, .inp 17, .inp 18]]] <|
       .seg [.chk [] (.bin .lss) [.inp 11, .int .i64 0]] <|
       .seg [.chk [(.app (.bin .lss) [.inp 11, .int .i64 0], false)] .len [.app .app [.app .lst [], .inp 12]]] <|
       .seg [.chk [(.app (.bin .lss) [.inp 11, .int .i64 0], false)] (.bin .eql) [.app .len [.app .app [.app .lst [], .inp 12]], .int .i64 2]] <|
       .seg [.chk [] .pick [.app (.bin .lss) [.inp 11, .int .i64 0], .bool true, .app (.bin .eql) [.app .len [.app .app [.app .lst [], .inp 12]], .int .i64 2]]] <|
       .seg [.chk [(.app .pick [.app (.bin .lss) [.inp 11, .int .i64 0], .bool true, .app (.bin .eql) [.app .len [.app .app [.app .lst [], .inp 12]], .int .i64 2]], false)] (.eoff 0) [.ref [.inp 0, .inp 1, .inp 2, .inp 3, .inp 4, .inp 5, .inp 6, .inp 7, .inp 8, .inp 9, .inp 10] 0]] <|
       .seg [.chk [(.app .pick [.app (.bin .lss) [.inp 11, .int .i64 0], .bool true, .app (.bin .eql) [.app .len [.app .app [.app .lst [], .inp 12]], .int .i64 2]], false)] (.eload 1 false) [.app (.eoff 0) [.ref [.inp 0, .inp 1, .inp 2, .inp 3, .inp 4, .inp 5, .inp 6, .inp 7, .inp 8, .inp 9, .inp 10] 0]]] <|
       .seg [.chk [(.app .pick [.app (.bin .lss) [.inp 11, .int .i64 0], .bool true, .app (.bin .eql) [.app .len [.app .app [.app .lst [], .inp 12]], .int .i64 2]], false)] .len [.app (.eload 1 false) [.app (.eoff 0) [.ref [.inp 0, .inp 1, .inp 2, .inp 3, .inp 4, .inp 5, .inp 6, .inp 7, .inp 8, .inp 9, .inp 10] 0]]]] <|
       .cond (.app .pick [.app (.bin .lss) [.inp 11, .int .i64 0], .bool true, .app (.bin .eql) [.app .len [.app .app [.app .lst [], .inp 12]], .int .i64 2]])
       (.seg [.chk [] (.un .not) [.bool false]] <|
        .seg [.chk [] (.isAgg 5) [.agg [.inp 11, .inp 12, .inp 13, .inp 14, .inp 15]]] <|
        .seg [.chk [] .len [.inp 12],
        .isNil 22 [] (.inp 12)] <|
        .cond (.inp 22)
        (.seg [.chk [] (.isAgg 5) [.agg [.inp 11, .enil, .inp 13, .inp 14, .inp 15]]] <|
         .seg [.chk [] (.isAgg 5) [.agg [.inp 11, .enil, .inp 13, .inp 14, .inp 15]]] <|
         .ret (.tup [.agg [.inp 11, .nils, .inp 13, .inp 14, .inp 15], .nils]))
        (.seg [.chk [] (.szs 1) [.inp 12],
         .chk [] .app [.app .lst [], .inp 12]] <|
         .seg [.chk [] (.isAgg 5) [.agg [.inp 11, .row 156, .inp 13, .inp 14, .inp 15]]] <|
         .seg [.chk [] (.isAgg 5) [.agg [.inp 11, .row 156, .inp 13, .inp 14, .inp 15]]] <|
         .ret (.tup [.agg [.inp 11, .app .app [.app .lst [], .inp 12], .inp 13, .inp 14, .inp 15], .nils])))
       (.seg [.chk [] (.bin .geq) [.inp 17, .int .i64 0]] <|
        .seg [.chk [(.app (.bin .geq) [.inp 17, .int .i64 0], true)] (.bin .lss) [.inp 17, .app .len [.app (.eload 1 false) [.app (.eoff 0) [.ref [.inp 0, .inp 1, .inp 2, .inp 3, .inp 4, .inp 5, .inp 6, .inp 7, .inp 8, .inp 9, .inp 10] 0]]]]] <|
        .seg [.chk [] .pick [.app (.bin .geq) [.inp 17, .int .i64 0], .app (.bin .lss) [.inp 17, .app .len [.app (.eload 1 false) [.app (.eoff 0) [.ref [.inp 0, .inp 1, .inp 2, .inp 3, .inp 4, .inp 5, .inp 6, .inp 7, .inp 8, .inp 9, .inp 10] 0]]]], .bool false]] <|
        .seg [.chk [] (.un .not) [.app .pick [.app (.bin .geq) [.inp 17, .int .i64 0], .app (.bin .lss) [.inp 17, .app .len [.app (.eload 1 false) [.app (.eoff 0) [.ref [.inp 0, .inp 1, .inp 2, .inp 3, .inp 4, .inp 5, .inp 6, .inp 7, .inp 8, .inp 9, .inp 10] 0]]]], .bool false]]] <|
        .cond (.app .pick [.app (.bin .geq) [.inp 17, .int .i64 0], .app (.bin .lss) [.inp 17, .app .len [.app (.eload 1 false) [.app (.eoff 0) [.ref [.inp 0, .inp 1, .inp 2, .inp 3, .inp 4, .inp 5, .inp 6, .inp 7, .inp 8, .inp 9, .inp 10] 0]]]], .bool false])
        (.seg [.chk [] .isOne [.inp 17],
         .chk [] .isOne [.inp 17],
         .chk [] (.szs 1) [.app .lst [.inp 17]],
         .chk [] .app [.app .app [.app .lst [], .inp 12], .app .lst [.inp 17]],
         .chk [] (.eoff 4) [.ref [.inp 0, .inp 1, .inp 2, .inp 3, .inp 4, .inp 5, .inp 6, .inp 7, .inp 8, .inp 9, .inp 10] 0],
         .chk [] (.eoff 5) [.app (.eoff 4) [.ref [.inp 0, .inp 1, .inp 2, .inp 3, .inp 4, .inp 5, .inp 6, .inp 7, .inp 8, .inp 9, .inp 10] 0]],
         .chk [] (.eload 1 false) [.app (.eoff 5) [.app (.eoff 4) [.ref [.inp 0, .inp 1, .inp 2, .inp 3, .inp 4, .inp 5, .inp 6, .inp 7, .inp 8, .inp 9, .inp 10] 0]]],
         .chk [] .isOne [.app (.eload 1 false) [.app (.eoff 5) [.app (.eoff 4) [.ref [.inp 0, .inp 1, .inp 2, .inp 3, .inp 4, .inp 5, .inp 6, .inp 7, .inp 8, .inp 9, .inp 10] 0]]]]] <|
         .seg [.chk [] (.un .not) [.bool true]] <|
         .seg [.chk [] (.isAgg 5) [.agg [.inp 11, .row 154, .app (.eload 1 false) [.app (.eoff 5) [.app (.eoff 4) [.ref [.inp 0, .inp 1, .inp 2, .inp 3, .inp 4, .inp 5, .inp 6, .inp 7, .inp 8, .inp 9, .inp 10] 0]]], .inp 14, .inp 15]]] <|
         .ret (.tup [.agg [.inp 11, .app .app [.app .app [.app .lst [], .inp 12], .app .lst [.inp 17]], .app (.eload 1 false) [.app (.eoff 5) [.app (.eoff 4) [.ref [.inp 0, .inp 1, .inp 2, .inp 3, .inp 4, .inp 5, .inp 6, .inp 7, .inp 8, .inp 9, .inp 10] 0]]], .inp 14, .inp 15], .nils]))
        (.seg [.chk [] (.un .not) [.bool false]] <|
         .seg [.chk [] (.isAgg 5) [.agg [.inp 11, .inp 12, .inp 13, .inp 14, .inp 15]]] <|
         .seg [.chk [] .len [.inp 12],
         .isNil 22 [] (.inp 12)] <|
         .cond (.inp 22)
         (.seg [.chk [] (.isAgg 5) [.agg [.inp 11, .enil, .inp 13, .inp 14, .inp 15]]] <|
          .seg [.chk [] (.isAgg 5) [.agg [.inp 11, .enil, .inp 13, .inp 14, .inp 15]]] <|
          .ret (.tup [.agg [.inp 11, .nils, .inp 13, .inp 14, .inp 15], .nils]))
         (.seg [.chk [] (.szs 1) [.inp 12],
          .chk [] .app [.app .lst [], .inp 12]] <|
          .seg [.chk [] (.isAgg 5) [.agg [.inp 11, .row 174, .inp 13, .inp 14, .inp 15]]] <|
          .seg [.chk [] (.isAgg 5) [.agg [.inp 11, .row 174, .inp 13, .inp 14, .inp 15]]] <|
          .ret (.tup [.agg [.inp 11, .app .app [.app .lst [], .inp 12], .inp 13, .inp 14, .inp 15], .nils])))))
      (.cond (.app (.bin .eql) [.inp 16, .int .u8 5])
       (.seg [.chk [] (.isAgg 3) [.agg [.inp 16, .inp 17, .inp 18]]] <|
        .seg [.chk [] (.bin .lss) [.inp 11, .int .i64 0]] <|
        .seg [.chk [(.app (.bin .lss) [.inp 11, .int .i64 0], false)] (.eoff 2) [.ref [.inp 0, .inp 1, .inp 2, .inp 3, .inp 4, .inp 5, .inp 6, .inp 7, .inp 8, .inp 9, .inp 10] 0]] <|
        .seg [.chk [(.app (.bin .lss) [.inp 11, .int .i64 0], false)] (.eload 1 false) [.app (.eoff 2) [.ref [.inp 0, .inp 1, .inp 2, .inp 3, .inp 4, .inp 5, .inp 6, .inp 7, .inp 8, .inp 9, .inp 10] 0]]] <|
        .seg [.chk [(.app (.bin .lss) [.inp 11, .int .i64 0], false)] .len [.app (.eload 1 false) [.app (.eoff 2) [.ref [.inp 0, .inp 1, .inp 2, .inp 3, .inp 4, .inp 5, .inp 6, .inp 7, .inp 8, .inp 9, .inp 10] 0]]]] <|
        .cond (.app (.bin .lss) [.inp 11, .int .i64 0])
        (.seg [.chk [] (.un .not) [.bool false]] <|
         .seg [.chk [] (.isAgg 5) [.agg [.inp 11, .inp 12, .inp 13, .inp 14, .inp 15]]] <|
         .seg [.chk [] .len [.inp 12],
         .isNil 22 [] (.inp 12)] <|
         .cond (.inp 22)
         (.seg [.chk [] (.isAgg 5) [.agg [.inp 11, .enil, .inp 13, .inp 14, .inp 15]]] <|
          .seg [.chk [] (.isAgg 5) [.agg [.inp 11, .enil, .inp 13, .inp 14, .inp 15]]] <|
          .ret (.tup [.agg [.inp 11, .nils, .inp 13, .inp 14, .inp 15], .nils]))
         (.seg [.chk [] (.szs 1) [.inp 12],
          .chk [] .app [.app .lst [], .inp 12]] <|
          .seg [.chk [] (.isAgg 5) [.agg [.inp 11, .row 142, .inp 13, .inp 14, .inp 15]]] <|
          .seg [.chk [] (.isAgg 5) [.agg [.inp 11, .row 142, .inp 13, .inp 14, .inp 15]]] <|
          .ret (.tup [.agg [.inp 11, .app .app [.app .lst [], .inp 12], .inp 13, .inp 14, .inp 15], .nils])))
        (.seg [.chk [] (.bin .geq) [.inp 17, .int .i64 0]] <|
         .seg [.chk [(.app (.bin .geq) [.inp 17, .int .i64 0], true)] (.bin .lss) [.inp 17, .app .len [.app (.eload 1 false) [.app (.eoff 2) [.ref [.inp 0, .inp 1, .inp 2, .inp 3, .inp 4, .inp 5, .inp 6, .inp 7, .inp 8, .inp 9, .inp 10] 0]]]]] <|
         .seg [.chk [] .pick [.app (.bin .geq) [.inp 17, .int .i64 0], .app (.bin .lss) [.inp 17, .app .len [.app (.eload 1 false) [.app (.eoff 2) [.ref [.inp 0, .inp 1, .inp 2, .inp 3, .inp 4, .inp 5, .inp 6, .inp 7, .inp 8, .inp 9, .inp 10] 0]]]], .bool false]] <|
         .seg [.chk [] (.un .not) [.app .pick [.app (.bin .geq) [.inp 17, .int .i64 0], .app (.bin .lss) [.inp 17, .app .len [.app (.eload 1 false) [.app (.eoff 2) [.ref [.inp 0, .inp 1, .inp 2, .inp 3, .inp 4, .inp 5, .inp 6, .inp 7, .inp 8, .inp 9, .inp 10] 0]]]], .bool false]]] <|
         .cond (.app .pick [.app (.bin .geq) [.inp 17, .int .i64 0], .app (.bin .lss) [.inp 17, .app .len [.app (.eload 1 false) [.app (.eoff 2) [.ref [.inp 0, .inp 1, .inp 2, .inp 3, .inp 4, .inp 5, .inp 6, .inp 7, .inp 8, .inp 9, .inp 10] 0]]]], .bool false])
         (.seg [.chk [] .isOne [.inp 11],
          .chk [] .isOne [.inp 17],
          .chk [] (.isAgg 3) [.agg [.inp 11, .inp 17, .row 44]]] <|
          .seg [.call 22 [] 22 [] false] <|
          .seg [.chk [] (.isAgg 5) [.inp 22]] <|
          .seg [.chk [] (.isAgg 3) [.agg [.inp 11, .inp 17, .row 44]]] <|
          .seg [.chk [] (.isAgg 6) [.agg [.int .u8 3, .int .i64 0, .int .i64 0, .inp 11, .inp 17, .app .app [.app .lst [], .inp 12]]]] <|
          .seg [.chk [] (.un .not) [.bool true]] <|
          .seg [.chk [] (.isAgg 5) [.agg [.app (.part 0 1 false) [.inp 22], .app (.part 1 1 false) [.inp 22], .app (.part 2 1 false) [.inp 22], .app (.part 3 1 false) [.inp 22], .app (.part 4 1 false) [.inp 22]]]] <|
          .ret (.tup [.agg [.app (.part 0 1 false) [.inp 22], .app (.part 1 1 false) [.inp 22], .app (.part 2 1 false) [.inp 22], .app (.part 3 1 false) [.inp 22], .app (.part 4 1 false) [.inp 22]], .app .lst [.agg [.int .u8 3, .int .i64 0, .int .i64 0, .inp 11, .inp 17, .app .app [.app .lst [], .inp 12]]]]))
         (.seg [.chk [] (.un .not) [.bool false]] <|
          .seg [.chk [] (.isAgg 5) [.agg [.inp 11, .inp 12, .inp 13, .inp 14, .inp 15]]] <|
          .seg [.chk [] .len [.inp 12],
          .isNil 22 [] (.inp 12)] <|
          .cond (.inp 22)
          (.seg [.chk [] (.isAgg 5) [.agg [.inp 11, .enil, .inp 13, .inp 14, .inp 15]]] <|
           .seg [.chk [] (.isAgg 5) [.agg [.inp 11, .enil, .inp 13, .inp 14, .inp 15]]] <|
           .ret (.tup [.agg [.inp 11, .nils, .inp 13, .inp 14, .inp 15], .nils]))
          (.seg [.chk [] (.szs 1) [.inp 12],
           .chk [] .app [.app .lst [], .inp 12]] <|
           .seg [.chk [] (.isAgg 5) [.agg [.inp 11, .row 160, .inp 13, .inp 14, .inp 15]]] <|
           .seg [.chk [] (.isAgg 5) [.agg [.inp 11, .row 160, .inp 13, .inp 14, .inp 15]]] <|
           .ret (.tup [.agg [.inp 11, .app .app [.app .lst [], .inp 12], .inp 13, .inp 14, .inp 15], .nils])))))
       (.cond (.app (.bin .eql) [.inp 16, .int .u8 6])
        (.seg [.chk [] (.isAgg 3) [.agg [.inp 16, .inp 17, .inp 18]]] <|
         .seg [.chk [] (.eoff 0) [.ref [.inp 0, .inp 1, .inp 2, .inp 3, .inp 4, .inp 5, .inp 6, .inp 7, .inp 8, .inp 9, .inp 10] 0]] <|
         .seg [.chk [] (.eload 1 false) [.app (.eoff 0) [.ref [.inp 0, .inp 1, .inp 2, .inp 3, .inp 4, .inp 5, .inp 6, .inp 7, .inp 8, .inp 9, .inp 10] 0]]] <|
         .seg [.chk [] .len [.app (.eload 1 false) [.app (.eoff 0) [.ref [.inp 0, .inp 1, .inp 2, .inp 3, .inp 4, .inp 5, .inp 6, .inp 7, .inp 8, .inp 9, .inp 10] 0]]]] <|
         .seg [.chk [] (.bin .geq) [.inp 17, .int .i64 0]] <|
         .seg [.chk [(.app (.bin .geq) [.inp 17, .int .i64 0], true)] (.bin .lss) [.inp 17, .app .len [.app (.eload 1 false) [.app (.eoff 0) [.ref [.inp 0, .inp 1, .inp 2, .inp 3, .inp 4, .inp 5, .inp 6, .inp 7, .inp 8, .inp 9, .inp 10] 0]]]]] <|
         .seg [.chk [] .pick [.app (.bin .geq) [.inp 17, .int .i64 0], .app (.bin .lss) [.inp 17, .app .len [.app (.eload 1 false) [.app (.eoff 0) [.ref [.inp 0, .inp 1, .inp 2, .inp 3, .inp 4, .inp 5, .inp 6, .inp 7, .inp 8, .inp 9, .inp 10] 0]]]], .bool false]] <|
         .seg [.chk [] (.un .not) [.app .pick [.app (.bin .geq) [.inp 17, .int .i64 0], .app (.bin .lss) [.inp 17, .app .len [.app (.eload 1 false) [.app (.eoff 0) [.ref [.inp 0, .inp 1, .inp 2, .inp 3, .inp 4, .inp 5, .inp 6, .inp 7, .inp 8, .inp 9, .inp 10] 0]]]], .bool false]]] <|
         .seg [.chk [(.app (.un .not) [.app .pick [.app (.bin .geq) [.inp 17, .int .i64 0], .app (.bin .lss) [.inp 17, .app .len [.app (.eload 1 false) [.app (.eoff 0) [.ref [.inp 0, .inp 1, .inp 2, .inp 3, .inp 4, .inp 5, .inp 6, .inp 7, .inp 8, .inp 9, .inp 10] 0]]]], .bool false]], false)] (.eoff 0) [.ref [.inp 0, .inp 1, .inp 2, .inp 3, .inp 4, .inp 5, .inp 6, .inp 7, .inp 8, .inp 9, .inp 10] 0]] <|
         .seg [.chk [(.app (.un .not) [.app .pick [.app (.bin .geq) [.inp 17, .int .i64 0], .app (.bin .lss) [.inp 17, .app .len [.app (.eload 1 false) [.app (.eoff 0) [.ref [.inp 0, .inp 1, .inp 2, .inp 3, .inp 4, .inp 5, .inp 6, .inp 7, .inp 8, .inp 9, .inp 10] 0]]]], .bool false]], false)] (.eload 1 false) [.app (.eoff 0) [.ref [.inp 0, .inp 1, .inp 2, .inp 3, .inp 4, .inp 5, .inp 6, .inp 7, .inp 8, .inp 9, .inp 10] 0]]] <|
         .seg [.chk [(.app (.un .not) [.app .pick [.app (.bin .geq) [.inp 17, .int .i64 0], .app (.bin .lss) [.inp 17, .app .len [.app (.eload 1 false) [.app (.eoff 0) [.ref [.inp 0, .inp 1, .inp 2, .inp 3, .inp 4, .inp 5, .inp 6, .inp 7, .inp 8, .inp 9, .inp 10] 0]]]], .bool false]], false)] (.eidx 11) [.app (.eload 1 false) [.app (.eoff 0) [.ref [.inp 0, .inp 1, .inp 2, .inp 3, .inp 4, .inp 5, .inp 6, .inp 7, .inp 8, .inp 9, .inp 10] 0]], .inp 17]] <|
         .seg [.chk [(.app (.un .not) [.app .pick [.app (.bin .geq) [.inp 17, .int .i64 0], .app (.bin .lss) [.inp 17, .app .len [.app (.eload 1 false) [.app (.eoff 0) [.ref [.inp 0, .inp 1, .inp 2, .inp 3, .inp 4, .inp 5, .inp 6, .inp 7, .inp 8, .inp 9, .inp 10] 0]]]], .bool false]], false)] (.eoff 0) [.app (.eidx 11) [.app (.eload 1 false) [.app (.eoff 0) [.ref [.inp 0, .inp 1, .inp 2, .inp 3, .inp 4, .inp 5, .inp 6, .inp 7, .inp 8, .inp 9, .inp 10] 0]], .inp 17]]] <|
         .seg [.chk [(.app (.un .not) [.app .pick [.app (.bin .geq) [.inp 17, .int .i64 0], .app (.bin .lss) [.inp 17, .app .len [.app (.eload 1 false) [.app (.eoff 0) [.ref [.inp 0, .inp 1, .inp 2, .inp 3, .inp 4, .inp 5, .inp 6, .inp 7, .inp 8, .inp 9, .inp 10] 0]]]], .bool false]], false)] (.eload 1 false) [.app (.eoff 0) [.app (.eidx 11) [.app (.eload 1 false) [.app (.eoff 0) [.ref [.inp 0, .inp 1, .inp 2, .inp 3, .inp 4, .inp 5, .inp 6, .inp 7, .inp 8, .inp 9, .inp 10] 0]], .inp 17]]]] <|
         .seg [.chk [(.app (.un .not) [.app .pick [.app (.bin .geq) [.inp 17, .int .i64 0], .app (.bin .lss) [.inp 17, .app .len [.app (.eload 1 false) [.app (.eoff 0) [.ref [.inp 0, .inp 1, .inp 2, .inp 3, .inp 4, .inp 5, .inp 6, .inp 7, .inp 8, .inp 9, .inp 10] 0]]]], .bool false]], false)] (.bin .neq) [.app (.eload 1 false) [.app (.eoff 0) [.app (.eidx 11) [.app (.eload 1 false) [.app (.eoff 0) [.ref [.inp 0, .inp 1, .inp 2, .inp 3, .inp 4, .inp 5, .inp 6, .inp 7, .inp 8, .inp 9, .inp 10] 0]], .inp 17]]], .int .u8 2]] <|
         .seg [.chk [] .pick [.app (.un .not) [.app .pick [.app (.bin .geq) [.inp 17, .int .i64 0], .app (.bin .lss) [.inp 17, .app .len [.app (.eload 1 false) [.app (.eoff 0) [.ref [.inp 0, .inp 1, .inp 2, .inp 3, .inp 4, .inp 5, .inp 6, .inp 7, .inp 8, .inp 9, .inp 10] 0]]]], .bool false]], .bool true, .app (.bin .neq) [.app (.eload 1 false) [.app (.eoff 0) [.app (.eidx 11) [.app (.eload 1 false) [.app (.eoff 0) [.ref [.inp 0, .inp 1, .inp 2, .inp 3, .inp 4, .inp 5, .inp 6, .inp 7, .inp 8, .inp 9, .inp 10] 0]], .inp 17]]], .int .u8 2]]] <|
         .cond (.app .pick [.app (.un .not) [.app .pick [.app (.bin .geq) [.inp 17, .int .i64 0], .app (.bin .lss) [.inp 17, .app .len [.app (.eload 1 false) [.app (.eoff 0) [.ref [.inp 0, .inp 1, .inp 2, .inp 3, .inp 4, .inp 5, .inp 6, .inp 7, .inp 8, .inp 9, .inp 10] 0]]]], .bool false]], .bool true, .app (.bin .neq) [.app (.eload 1 false) [.app (.eoff 0) [.app (.eidx 11) [.app (.eload 1 false) [.app (.eoff 0) [.ref [.inp 0, .inp 1, .inp 2, .inp 3, .inp 4, .inp 5, .inp 6, .inp 7, .inp 8, .inp 9, .inp 10] 0]], .inp 17]]], .int .u8 2]])
         (.seg [.chk [] (.un .not) [.bool false]] <|
          .seg [.chk [] (.isAgg 5) [.agg [.inp 11, .inp 12, .inp 13, .inp 14, .inp 15]]] <|
          .seg [.chk [] .len [.inp 12],
          .isNil 22 [] (.inp 12)] <|
          .cond (.inp 22)
          (.seg [.chk [] (.isAgg 5) [.agg [.inp 11, .enil, .inp 13, .inp 14, .inp 15]]] <|
           .seg [.chk [] (.isAgg 5) [.agg [.inp 11, .enil, .inp 13, .inp 14, .inp 15]]] <|
           .ret (.tup [.agg [.inp 11, .nils, .inp 13, .inp 14, .inp 15], .nils]))
          (.seg [.chk [] (.szs 1) [.inp 12],
           .chk [] .app [.app .lst [], .inp 12]] <|
           .seg [.chk [] (.isAgg 5) [.agg [.inp 11, .row 172, .inp 13, .inp 14, .inp 15]]] <|
           .seg [.chk [] (.isAgg 5) [.agg [.inp 11, .row 172, .inp 13, .inp 14, .inp 15]]] <|
           .ret (.tup [.agg [.inp 11, .app .app [.app .lst [], .inp 12], .inp 13, .inp 14, .inp 15], .nils])))
         (.seg [.chk [] (.bin .geq) [.inp 18, .int .i64 0]] <|
          .seg [.chk [(.app (.bin .geq) [.inp 18, .int .i64 0], true)] (.bin .lss) [.inp 18, .int .i64 2]] <|
          .seg [.chk [] .pick [.app (.bin .geq) [.inp 18, .int .i64 0], .app (.bin .lss) [.inp 18, .int .i64 2], .bool false]] <|
          .seg [.chk [] (.un .not) [.app .pick [.app (.bin .geq) [.inp 18, .int .i64 0], .app (.bin .lss) [.inp 18, .int .i64 2], .bool false]]] <|
          .cond (.app .pick [.app (.bin .geq) [.inp 18, .int .i64 0], .app (.bin .lss) [.inp 18, .int .i64 2], .bool false])
          (.seg [.chk [] .isOne [.inp 17],
           .chk [] .isOne [.inp 18]] <|
           .seg [.chk [] (.isAgg 6) [.agg [.int .u8 4, .inp 17, .inp 18, .int .i64 0, .int .i64 0, .nils]]] <|
           .seg [.chk [] (.un .not) [.bool true]] <|
           .seg [.chk [] (.isAgg 5) [.agg [.inp 11, .row 44, .inp 13, .inp 14, .inp 15]]] <|
           .ret (.tup [.agg [.inp 11, .app .app [.app .lst [], .inp 12], .inp 13, .inp 14, .inp 15], .app .lst [.agg [.int .u8 4, .inp 17, .inp 18, .int .i64 0, .int .i64 0, .nils]]]))
          (.seg [.chk [] (.un .not) [.bool false]] <|
           .seg [.chk [] (.isAgg 5) [.agg [.inp 11, .inp 12, .inp 13, .inp 14, .inp 15]]] <|
           .seg [.chk [] .len [.inp 12],
           .isNil 22 [] (.inp 12)] <|
           .cond (.inp 22)
           (.seg [.chk [] (.isAgg 5) [.agg [.inp 11, .enil, .inp 13, .inp 14, .inp 15]]] <|
            .seg [.chk [] (.isAgg 5) [.agg [.inp 11, .enil, .inp 13, .inp 14, .inp 15]]] <|
            .ret (.tup [.agg [.inp 11, .nils, .inp 13, .inp 14, .inp 15], .nils]))
           (.seg [.chk [] (.szs 1) [.inp 12],
            .chk [] .app [.app .lst [], .inp 12]] <|
            .seg [.chk [] (.isAgg 5) [.agg [.inp 11, .row 190, .inp 13, .inp 14, .inp 15]]] <|
            .seg [.chk [] (.isAgg 5) [.agg [.inp 11, .row 190, .inp 13, .inp 14, .inp 15]]] <|
            .ret (.tup [.agg [.inp 11, .app .app [.app .lst [], .inp 12], .inp 13, .inp 14, .inp 15], .nils])))))
        (.dead 6 []))))))))
theorem run10 : runF E2 10 [.agg [.inp 0, .inp 1, .inp 2, .inp 3, .inp 4, .inp 5, .inp 6, .inp 7, .inp 8, .inp 9, .inp 10], .agg [.inp 11, .inp 12, .inp 13, .inp 14, .inp 15], .agg [.inp 16, .inp 17, .inp 18]] 19 = rt10 := by kernel_rfl

noncomputable def rt11 : RT :=
 .seg [.chk [] (.isAgg 11) [.agg [.inp 0, .inp 1, .inp 2, .inp 3, .inp 4, .inp 5, .inp 6, .inp 7, .inp 8, .inp 9, .inp 10]]] <|
 .seg [.chk [] (.isAgg 5) [.agg [.inp 11, .inp 12, .inp 13, .inp 14, .inp 15]]] <|
 .seg [.chk [] (.isAgg 3) [.agg [.inp 16, .inp 17, .inp 18]]] <|
 .seg [.chk [] (.isAgg 5) [.agg [.inp 11, .inp 12, .inp 13, .inp 14, .inp 15]]] <|
 .seg [.chk [] (.szs 1) [.inp 12],
 .chk [] .app [.app .lst [], .inp 12]] <|
 .seg [.chk [] (.isAgg 5) [.agg [.inp 11, .row 22, .inp 13, .inp 14, .inp 15]]] <|
 .seg [.chk [] (.isAgg 5) [.agg [.inp 11, .row 22, .inp 13, .inp 14, .inp 15]]] <|
 .seg [.call 19 [] 30 [.agg [.inp 0, .inp 1, .inp 2, .inp 3, .inp 4, .inp 5, .inp 6, .inp 7, .inp 8, .inp 9, .inp 10]] false] <|
 .seg [.chk [] (.un .not) [.inp 19]] <|
 .seg [.call 20 [(.app (.un .not) [.inp 19], false)] 19 [.agg [.inp 0, .inp 1, .inp 2, .inp 3, .inp 4, .inp 5, .inp 6, .inp 7, .inp 8, .inp 9, .inp 10], .agg [.inp 11, .app .app [.app .lst [], .inp 12], .inp 13, .inp 14, .inp 15]] true] <|
 .seg [.chk [(.app (.un .not) [.inp 19], false)] (.un .not) [.inp 20]] <|
 .seg [.chk [] .pick [.app (.un .not) [.inp 19], .bool true, .app (.un .not) [.inp 20]]] <|
 .seg [.call 21 [(.app .pick [.app (.un .not) [.inp 19], .bool true, .app (.un .not) [.inp 20]], false)] 25 [.agg [.inp 0, .inp 1, .inp 2, .inp 3, .inp 4, .inp 5, .inp 6, .inp 7, .inp 8, .inp 9, .inp 10], .agg [.inp 16, .inp 17, .inp 18]] false] <|
 .seg [.chk [(.app .pick [.app (.un .not) [.inp 19], .bool true, .app (.un .not) [.inp 20]], false)] (.un .not) [.inp 21]] <|
 .seg [.chk [] .pick [.app .pick [.app (.un .not) [.inp 19], .bool true, .app (.un .not) [.inp 20]], .bool true, .app (.un .not) [.inp 21]]] <|
 .cond (.app .pick [.app .pick [.app (.un .not) [.inp 19], .bool true, .app (.un .not) [.inp 20]], .bool true, .app (.un .not) [.inp 21]])
 (.seg [.chk [] (.isAgg 5) [.agg [.inp 11, .row 22, .inp 13, .inp 14, .inp 15]]] <|
  .ret (.tup [.agg [.inp 11, .app .app [.app .lst [], .inp 12], .inp 13, .inp 14, .inp 15], .nils]))
 (.seg [.chk [] (.bin .eql) [.inp 16, .int .u8 1]] <|
  .seg [.chk [(.app (.bin .eql) [.inp 16, .int .u8 1], false)] (.bin .eql) [.inp 16, .int .u8 2]] <|
  .seg [.chk [] .pick [.app (.bin .eql) [.inp 16, .int .u8 1], .bool true, .app (.bin .eql) [.inp 16, .int .u8 2]]] <|
  .cond (.app .pick [.app (.bin .eql) [.inp 16, .int .u8 1], .bool true, .app (.bin .eql) [.inp 16, .int .u8 2]])
  (.seg [.chk [] .isOne [.inp 16],
   .chk [] .isOne [.inp 9]] <|
   .seg [.chk [] (.isAgg 5) [.agg [.int .i64 (-1), .enil, .int .i64 0, .inp 16, .inp 9]]] <|
   .ret (.tup [.agg [.int .i64 (-1), .nils, .int .i64 0, .inp 16, .inp 9], .nils]))
  (.seg [.chk [] (.bin .eql) [.inp 16, .int .u8 3]] <|
   .seg [.chk [(.app (.bin .eql) [.inp 16, .int .u8 3], true)] (.bin .eql) [.inp 14, .int .u8 1]] <|
   .seg [.chk [] .pick [.app (.bin .eql) [.inp 16, .int .u8 3], .app (.bin .eql) [.inp 14, .int .u8 1], .bool false]] <|
   .cond (.app .pick [.app (.bin .eql) [.inp 16, .int .u8 3], .app (.bin .eql) [.inp 14, .int .u8 1], .bool false])
   (.seg [.call 22 [] 23 [] false,
    .chk [] .isOne [.inp 17],
    .chk [] (.isAgg 6) [.agg [.int .u8 1, .inp 17, .int .i64 0, .int .i64 0, .int .i64 0, .nils]],
    .chk [] (.isAgg 5) [.inp 22]] <|
    .ret (.tup [.agg [.app (.part 0 1 false) [.inp 22], .app (.part 1 1 false) [.inp 22], .app (.part 2 1 false) [.inp 22], .app (.part 3 1 false) [.inp 22], .app (.part 4 1 false) [.inp 22]], .app .lst [.agg [.int .u8 1, .inp 17, .int .i64 0, .int .i64 0, .int .i64 0, .nils]]]))
   (.seg [.chk [] (.bin .eql) [.inp 16, .int .u8 3]] <|
    .seg [.chk [(.app (.bin .eql) [.inp 16, .int .u8 3], true)] (.bin .eql) [.inp 14, .int .u8 2]] <|
    .seg [.chk [] .pick [.app (.bin .eql) [.inp 16, .int .u8 3], .app (.bin .eql) [.inp 14, .int .u8 2], .bool false]] <|
    .cond (.app .pick [.app (.bin .eql) [.inp 16, .int .u8 3], .app (.bin .eql) [.inp 14, .int .u8 2], .bool false])
    (.seg [.call 22 [] 23 [] false,
     .chk [] .isOne [.inp 17],
     .chk [] (.isAgg 6) [.agg [.int .u8 2, .inp 17, .int .i64 0, .int .i64 0, .int .i64 0, .nils]],
     .chk [] (.isAgg 5) [.inp 22]] <|
     .ret (.tup [.agg [.app (.part 0 1 false) [.inp 22], .app (.part 1 1 false) [.inp 22], .app (.part 2 1 false) [.inp 22], .app (.part 3 1 false) [.inp 22], .app (.part 4 1 false) [.inp 22]], .app .lst [.agg [.int .u8 2, .inp 17, .int .i64 0, .int .i64 0, .int .i64 0, .nils]]]))
    (.seg [.chk [] (.bin .eql) [.inp 16, .int .u8 3]] <|
     .cond (.app (.bin .eql) [.inp 16, .int .u8 3])
     (.seg [.chk [] .isOne [.inp 17],
      .chk [] .isOne [.inp 9]] <|
      .seg [.chk [] (.isAgg 5) [.agg [.inp 17, .enil, .inp 9, .int .u8 0, .int .i64 0]]] <|
      .ret (.tup [.agg [.inp 17, .nils, .inp 9, .int .u8 0, .int .i64 0], .nils]))
     (.seg [.chk [] (.bin .eql) [.inp 16, .int .u8 4]] <|
      .seg [.chk [(.app (.bin .eql) [.inp 16, .int .u8 4], true)] (.bin .geq) [.inp 11, .int .i64 0]] <|
      .seg [.chk [] .pick [.app (.bin .eql) [.inp 16, .int .u8 4], .app (.bin .geq) [.inp 11, .int .i64 0], .bool false]] <|
      .seg [.chk [(.app .pick [.app (.bin .eql) [.inp 16, .int .u8 4], .app (.bin .geq) [.inp 11, .int .i64 0], .bool false], true)] .len [.app .app [.app .lst [], .inp 12]]] <|
      .seg [.chk [(.app .pick [.app (.bin .eql) [.inp 16, .int .u8 4], .app (.bin .geq) [.inp 11, .int .i64 0], .bool false], true)] (.bin .lss) [.app .len [.app .app [.app .lst [], .inp 12]], .int .i64 2]] <|
      .seg [.chk [] .pick [.app .pick [.app (.bin .eql) [.inp 16, .int .u8 4], .app (.bin .geq) [.inp 11, .int .i64 0], .bool false], .app (.bin .lss) [.app .len [.app .app [.app .lst [], .inp 12]], .int .i64 2], .bool false]] <|
      .cond (.app .pick [.app .pick [.app (.bin .eql) [.inp 16, .int .u8 4], .app (.bin .geq) [.inp 11, .int .i64 0], .bool false], .app (.bin .lss) [.app .len [.app .app [.app .lst [], .inp 12]], .int .i64 2], .bool false])
      (.seg [.chk [] .isOne [.inp 17],
       .chk [] .isOne [.inp 17]] <|
       .seg [.chk [] (.szs 1) [.app .lst [.inp 17]],
       .chk [] .app [.app .app [.app .lst [], .inp 12], .app .lst [.inp 17]]] <|
       .seg [.chk [] .isOne [.inp 9]] <|
       .seg [.chk [] (.isAgg 5) [.agg [.inp 11, .row 152, .inp 9, .inp 14, .inp 15]]] <|
       .ret (.tup [.agg [.inp 11, .app .app [.app .app [.app .lst [], .inp 12], .app .lst [.inp 17]], .inp 9, .inp 14, .inp 15], .nils]))
      (.seg [.chk [] (.bin .eql) [.inp 16, .int .u8 5]] <|
       .seg [.chk [(.app (.bin .eql) [.inp 16, .int .u8 5], true)] (.bin .geq) [.inp 11, .int .i64 0]] <|
       .seg [.chk [] .pick [.app (.bin .eql) [.inp 16, .int .u8 5], .app (.bin .geq) [.inp 11, .int .i64 0], .bool false]] <|
       .cond (.app .pick [.app (.bin .eql) [.inp 16, .int .u8 5], .app (.bin .geq) [.inp 11, .int .i64 0], .bool false])
       (.seg [.call 22 [] 23 [] false,
        .chk [] .isOne [.inp 11],
        .chk [] .isOne [.inp 17],
        .chk [] (.isAgg 3) [.agg [.inp 11, .inp 17, .row 22]],
        .chk [] (.isAgg 6) [.agg [.int .u8 3, .int .i64 0, .int .i64 0, .inp 11, .inp 17, .app .app [.app .lst [], .inp 12]]],
        .chk [] (.isAgg 5) [.inp 22]] <|
        .ret (.tup [.agg [.app (.part 0 1 false) [.inp 22], .app (.part 1 1 false) [.inp 22], .app (.part 2 1 false) [.inp 22], .app (.part 3 1 false) [.inp 22], .app (.part 4 1 false) [.inp 22]], .app .lst [.agg [.int .u8 3, .int .i64 0, .int .i64 0, .inp 11, .inp 17, .app .app [.app .lst [], .inp 12]]]]))
       (.seg [.chk [] (.bin .eql) [.inp 16, .int .u8 6]] <|
        .cond (.app (.bin .eql) [.inp 16, .int .u8 6])
        (.seg [.chk [] .isOne [.inp 17],
         .chk [] .isOne [.inp 18],
         .chk [] (.isAgg 6) [.agg [.int .u8 4, .inp 17, .inp 18, .int .i64 0, .int .i64 0, .nils]],
         .chk [] (.isAgg 5) [.agg [.inp 11, .row 22, .inp 13, .inp 14, .inp 15]]] <|
         .ret (.tup [.agg [.inp 11, .app .app [.app .lst [], .inp 12], .inp 13, .inp 14, .inp 15], .app .lst [.agg [.int .u8 4, .inp 17, .inp 18, .int .i64 0, .int .i64 0, .nils]]]))
        (.seg [.chk [] (.isAgg 5) [.agg [.inp 11, .row 22, .inp 13, .inp 14, .inp 15]]] <|
         .ret (.tup [.agg [.inp 11, .app .app [.app .lst [], .inp 12], .inp 13, .inp 14, .inp 15], .nils])))))))))
theorem run11 : runF E2 11 [.agg [.inp 0, .inp 1, .inp 2, .inp 3, .inp 4, .inp 5, .inp 6, .inp 7, .inp 8, .inp 9, .inp 10], .agg [.inp 11, .inp 12, .inp 13, .inp 14, .inp 15], .agg [.inp 16, .inp 17, .inp 18]] 19 = rt11 := by kernel_rfl

noncomputable def rt27 : RT :=
 .seg [.chk [] (.isAgg 11) [.agg [.inp 0, .inp 1, .inp 2, .inp 3, .inp 4, .inp 5, .inp 6, .inp 7, .inp 8, .inp 9, .inp 10]]] <|
 .ret (.mp .u8 [1, 2, 3, 4, 5, 6] [.clo 41 [] [.ref [.inp 0, .inp 1, .inp 2, .inp 3, .inp 4, .inp 5, .inp 6, .inp 7, .inp 8, .inp 9, .inp 10] 0], .clo 41 [] [.ref [.inp 0, .inp 1, .inp 2, .inp 3, .inp 4, .inp 5, .inp 6, .inp 7, .inp 8, .inp 9, .inp 10] 0], .clo 42 [] [.ref [.inp 0, .inp 1, .inp 2, .inp 3, .inp 4, .inp 5, .inp 6, .inp 7, .inp 8, .inp 9, .inp 10] 0], .clo 43 [] [.ref [.inp 0, .inp 1, .inp 2, .inp 3, .inp 4, .inp 5, .inp 6, .inp 7, .inp 8, .inp 9, .inp 10] 0], .clo 44 [] [.ref [.inp 0, .inp 1, .inp 2, .inp 3, .inp 4, .inp 5, .inp 6, .inp 7, .inp 8, .inp 9, .inp 10] 0], .clo 45 [] [.ref [.inp 0, .inp 1, .inp 2, .inp 3, .inp 4, .inp 5, .inp 6, .inp 7, .inp 8, .inp 9, .inp 10] 0]])
theorem run27 : runF E2 27 [.agg [.inp 0, .inp 1, .inp 2, .inp 3, .inp 4, .inp 5, .inp 6, .inp 7, .inp 8, .inp 9, .inp 10]] 11 = rt27 := by kernel_rfl


end Go.Lb.C25

namespace Go.Lb.C25
open Go Go.Lb Go.Proofs Go.RowKit

theorem ctr2 {f n : Nat} {args : List SE} (vs : List AV) {rt : RT} (hrun : runF E2 f args n = rt) (hw : SE.wfs n (fun _ => false) args = true)
    (hp : AV.pureAll vs = true) {r : AV} (hr : r.pure = true) (h : RTwp Try.prog [] (fun x => x = r) rt (fun _ _ => False) (envOf vs)) {avs : List AV} (ha : dens (envOf vs) args = avs) : C f avs r :=
  contract_of EOk2 Emix2 vs hrun hw hp hr h ha

def kindsAv (l : Lay) : AV := .mp .u8 [1, 2, 3, 4, 5, 6] [.clo 41 [] [.ref l.cells 0], .clo 41 [] [.ref l.cells 0], .clo 42 [] [.ref l.cells 0], .clo 43 [] [.ref l.cells 0], .clo 44 [] [.ref l.cells 0], .clo 45 [] [.ref l.cells 0]]
theorem c27 (l : Lay) (hl : l.ok) : C 27 [l.av] (kindsAv l) := by
  refine ctr2 l.cells run27 rfl hl.1 (by simp [kindsAv, AV.pure, AV.pureAll, hl.1]) ?_ rfl
  unfold rt27
  simp [Lay.cells, kindsAv]

def press (l : Lay) (d : Desk) (p : Pr) : Desk × List Deed :=
  if (may l d && counts l p) = true then
    if p.kind = 1 ∨ p.kind = 2 then (⟨-1, [], 0, p.kind, l.press⟩, [])
    else if p.kind = 3 then (if d.mode = 0 then (⟨p.n, [], l.press, 0, 0⟩, []) else (newDesk, [⟨d.mode, p.n, 0, 0, 0, []⟩]))
    else if p.kind = 4 then (if 0 ≤ d.sig ∧ d.vias.length < 2 then ({ d with vias := d.vias ++ [p.n], tim := l.press }, []) else (d, []))
    else if p.kind = 5 then (if 0 ≤ d.sig then (newDesk, [⟨3, 0, 0, d.sig, p.n, d.vias⟩]) else (d, []))
    else (d, [⟨4, p.n, p.pos, 0, 0, []⟩])
  else (d, [])
def deedsAv (xs : List Deed) : AV := .sl (xs.map Deed.av)
def pressAv (x : Desk × List Deed) : AV := .tup [x.1.av, deedsAv x.2]

theorem press_pure (x : Desk × List Deed) : (pressAv x).pure = true := by
  have : ∀ xs : List Deed, AV.pureAll (xs.map Deed.av) = true := by
    intro xs
    induction xs with
    | nil => rfl
    | cons y ys ih => simp [AV.pureAll, AV.pure, ih]
  simp [pressAv, AV.pure, AV.pureAll, deedsAv, this]

theorem c10_1 (l : Lay) (hl : l.ok) (d : Desk) (hd : d.vias.length ≤ 4294967295) (hm : 0 ≤ d.mode) (p : Pr) (hk : p.kind = 1) : C 10 [l.av, d.av, p.av] (pressAv (press l d p)) := by
  refine ctr2 (l.cells ++ d.cells ++ p.cells) run10 rfl (by simp [pureAll_append, hl.1]) (press_pure _) ?_ rfl
  unfold rt10
  have hd' : d.vias.length ≤ 4294967296 := by omega
  simp [Lay.cells, Desk.cells, Pr.cells, hk]
  refine RTwp_call0 (c27 l hl) (by simp) ?_
  simp [kindsAv, Lay.cells, hk]
  refine ⟨⟨hd', ?_⟩, fun hnil => ?_⟩
  all_goals
    refine RTwp_call (.bool (may l d)) rfl (fun _ => ⟨c28 l hl d hd' hm, by simp⟩) ?_
    simp [hk]
    by_cases hx : may l d = true
    · simp [hx, press, counts, hk, pressAv, deedsAv, Desk.cells, Deed.cells, hd', newDesk, inR]
    · simp [hx, press, counts, hk, pressAv, deedsAv, Desk.cells, Deed.cells, hd', newDesk, inR]

theorem c10_2 (l : Lay) (hl : l.ok) (d : Desk) (hd : d.vias.length ≤ 4294967295) (hm : 0 ≤ d.mode) (p : Pr) (hk : p.kind = 2) : C 10 [l.av, d.av, p.av] (pressAv (press l d p)) := by
  refine ctr2 (l.cells ++ d.cells ++ p.cells) run10 rfl (by simp [pureAll_append, hl.1]) (press_pure _) ?_ rfl
  unfold rt10
  have hd' : d.vias.length ≤ 4294967296 := by omega
  simp [Lay.cells, Desk.cells, Pr.cells, hk]
  refine RTwp_call0 (c27 l hl) (by simp) ?_
  simp [kindsAv, Lay.cells, hk]
  refine ⟨⟨hd', ?_⟩, fun hnil => ?_⟩
  all_goals
    refine RTwp_call (.bool (may l d)) rfl (fun _ => ⟨c28 l hl d hd' hm, by simp⟩) ?_
    simp [hk]
    by_cases hx : may l d = true
    · simp [hx, press, counts, hk, pressAv, deedsAv, Desk.cells, Deed.cells, hd', newDesk, inR]
    · simp [hx, press, counts, hk, pressAv, deedsAv, Desk.cells, Deed.cells, hd', newDesk, inR]

theorem c10_3 (l : Lay) (hl : l.ok) (d : Desk) (hd : d.vias.length ≤ 4294967295) (hm : 0 ≤ d.mode) (p : Pr) (hk : p.kind = 3) : C 10 [l.av, d.av, p.av] (pressAv (press l d p)) := by
  refine ctr2 (l.cells ++ d.cells ++ p.cells) run10 rfl (by simp [pureAll_append, hl.1]) (press_pure _) ?_ rfl
  unfold rt10
  have hd' : d.vias.length ≤ 4294967296 := by omega
  simp [Lay.cells, Desk.cells, Pr.cells, hk]
  refine RTwp_call0 (c27 l hl) (by simp) ?_
  simp [kindsAv, Lay.cells, hk]
  refine ⟨⟨hd', ?_⟩, fun hnil => ?_⟩
  all_goals
    refine RTwp_call (.bool (may l d)) rfl (fun _ => ⟨c28 l hl d hd' hm, by simp⟩) ?_
    simp [hk]
    by_cases hx : may l d = true
    · have hmd := (right_iff.1 (may_iff.1 hx).2.2).2.2.2.2.2.2.1
      by_cases hr : 0 ≤ p.n ∧ p.n < ↑(l.sigs.length)
      · obtain ⟨r1, r2⟩ := hr
        rcases hmd with h | h | h
        · simp [hx, r1, r2, h, press, counts, hk, pressAv, deedsAv, Desk.cells, Deed.cells, hd', newDesk, inR]
          intro hge; omega
        · simp [hx, r1, r2, h, press, counts, hk, pressAv, deedsAv, Desk.cells, Deed.cells, hd', newDesk, inR]
          refine RTwp_call0 c22 (by simp) ?_
          simp [h, press, counts, hk, pressAv, deedsAv, Desk.cells, Deed.cells, hd', newDesk, inR]
        · simp [hx, r1, r2, h, press, counts, hk, pressAv, deedsAv, Desk.cells, Deed.cells, hd', newDesk, inR]
          refine RTwp_call0 c22 (by simp) ?_
          simp [h, press, counts, hk, pressAv, deedsAv, Desk.cells, Deed.cells, hd', newDesk, inR]
      · have hr' : ¬ 0 ≤ p.n ∨ ¬ p.n < ↑(l.sigs.length) := by omega
        rcases hr' with h | h <;> simp [hx, h, press, counts, hk, pressAv, deedsAv, Desk.cells, Deed.cells, hd', newDesk, inR]
    · simp [hx, press, counts, hk, pressAv, deedsAv, Desk.cells, Deed.cells, hd', newDesk, inR]

theorem c10_0 (l : Lay) (hl : l.ok) (d : Desk) (hd : d.vias.length ≤ 4294967295) (hm : 0 ≤ d.mode) (p : Pr) (hk : ¬ p.kind = 1 ∧ ¬ p.kind = 2 ∧ ¬ p.kind = 3 ∧ ¬ p.kind = 4 ∧ ¬ p.kind = 5 ∧ ¬ p.kind = 6) : C 10 [l.av, d.av, p.av] (pressAv (press l d p)) := by
  refine ctr2 (l.cells ++ d.cells ++ p.cells) run10 rfl (by simp [pureAll_append, hl.1]) (press_pure _) ?_ rfl
  unfold rt10
  have hd' : d.vias.length ≤ 4294967296 := by omega
  simp [Lay.cells, Desk.cells, Pr.cells, hk]
  refine RTwp_call0 (c27 l hl) (by simp) ?_
  simp [kindsAv, Lay.cells, hk]
  refine ⟨⟨hd', ?_⟩, fun hnil => ?_⟩
  all_goals
    refine RTwp_call (.bool (may l d)) rfl (fun _ => ⟨c28 l hl d hd' hm, by simp⟩) ?_
    simp [hk]
    by_cases hx : may l d = true
    · simp [hx, press, counts, hk, pressAv, deedsAv, Desk.cells, Deed.cells, hd', newDesk, inR]
    · simp [hx, press, counts, hk, pressAv, deedsAv, Desk.cells, Deed.cells, hd', newDesk, inR]

end Go.Lb.C25
