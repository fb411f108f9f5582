/- What functions come to, printed by a program, checked by the kernel. -/
/- Chapter 13: NeedOne, of pure values. -/
/- Chapter 13: NeedOne answers true. -/
import Derived.Test.YtlohmpcoffenjaaDoorCh1
import Derived.Test.YtlohmpcoffenjaaDoorCh4
set_option linter.unusedSimpArgs false
set_option linter.unusedVariables false
namespace Go.Lb.LK
open Go Go.Lb Go.Proofs
noncomputable def rt_lockbarlaw13_NeedOne : RT :=
 .seg [.chk [] (.isAgg 11) [.agg [.inp 0, .inp 1, .inp 2, .inp 3, .inp 4, .inp 5, .inp 6, .inp 7, .inp 8, .inp 9, .inp 10]]] <|
 .seg [.chk [] (.isAgg 3) [.agg [.inp 11, .inp 12, .inp 13]]] <|
 .seg [.call 14 [] 6 [.agg [.inp 0, .inp 1, .inp 2, .inp 3, .inp 4, .inp 5, .inp 6, .inp 7, .inp 8, .inp 9, .inp 10], .agg [.inp 11, .inp 12, .inp 13]] false] <|
 .seg [.call 15 [(.inp 14, false)] 7 [.agg [.inp 0, .inp 1, .inp 2, .inp 3, .inp 4, .inp 5, .inp 6, .inp 7, .inp 8, .inp 9, .inp 10]] false] <|
 .seg [.chk [(.inp 14, false)] (.un .not) [.inp 15]] <|
 .seg [.chk [] .pick [.inp 14, .bool true, .app (.un .not) [.inp 15]]] <|
 .seg [.call 16 [(.app .pick [.inp 14, .bool true, .app (.un .not) [.inp 15]], false)] 8 [.agg [.inp 0, .inp 1, .inp 2, .inp 3, .inp 4, .inp 5, .inp 6, .inp 7, .inp 8, .inp 9, .inp 10], .agg [.inp 11, .inp 12, .inp 13]] false] <|
 .seg [.chk [(.app .pick [.inp 14, .bool true, .app (.un .not) [.inp 15]], false)] (.un .not) [.inp 16]] <|
 .seg [.chk [] .pick [.app .pick [.inp 14, .bool true, .app (.un .not) [.inp 15]], .bool true, .app (.un .not) [.inp 16]]] <|
 .cond (.app .pick [.app .pick [.inp 14, .bool true, .app (.un .not) [.inp 15]], .bool true, .app (.un .not) [.inp 16]])
 (.seg [.call 17 [] 9 [] false] <|
  .ret (.inp 17))
 (.seg [.call 17 [] 10 [.agg [.inp 0, .inp 1, .inp 2, .inp 3, .inp 4, .inp 5, .inp 6, .inp 7, .inp 8, .inp 9, .inp 10], .agg [.inp 11, .inp 12, .inp 13]] false] <|
  .loop 0 18 [.int .i64 0] <|
  .seg [.chk [] .len [.inp 17]] <|
   .seg [.chk [] (.bin .lss) [.inp 18, .app .len [.inp 17]]] <|
   .cond (.app (.bin .lss) [.inp 18, .app .len [.inp 17]])
   (.seg [.chk [] (.eidx 3) [.inp 17, .inp 18]] <|
    .seg [.chk [] (.eoff 0) [.app (.eidx 3) [.inp 17, .inp 18]]] <|
    .seg [.chk [] (.eload 1 false) [.app (.eoff 0) [.app (.eidx 3) [.inp 17, .inp 18]]]] <|
    .seg [.call 19 [] 11 [.inp 17, .app (.eload 1 false) [.app (.eoff 0) [.app (.eidx 3) [.inp 17, .inp 18]]]] false] <|
    .seg [.chk [] (.tproj 0) [.inp 19]] <|
    .seg [.chk [] (.tproj 1) [.inp 19]] <|
    .seg [.chk [] (.un .not) [.app (.tproj 1) [.inp 19]],
    .chk [(.app (.un .not) [.app (.tproj 1) [.inp 19]], false)] (.eidx 3) [.inp 17, .inp 18],
    .chk [(.app (.un .not) [.app (.tproj 1) [.inp 19]], false)] (.eoff 1) [.app (.eidx 3) [.inp 17, .inp 18]],
    .chk [(.app (.un .not) [.app (.tproj 1) [.inp 19]], false)] (.eload 1 false) [.app (.eoff 1) [.app (.eidx 3) [.inp 17, .inp 18]]],
    .chk [(.app (.un .not) [.app (.tproj 1) [.inp 19]], false)] (.bin .neq) [.app (.tproj 0) [.inp 19], .app (.eload 1 false) [.app (.eoff 1) [.app (.eidx 3) [.inp 17, .inp 18]]]],
    .chk [] .pick [.app (.un .not) [.app (.tproj 1) [.inp 19]], .bool true, .app (.bin .neq) [.app (.tproj 0) [.inp 19], .app (.eload 1 false) [.app (.eoff 1) [.app (.eidx 3) [.inp 17, .inp 18]]]]],
    .chk [(.app .pick [.app (.un .not) [.app (.tproj 1) [.inp 19]], .bool true, .app (.bin .neq) [.app (.tproj 0) [.inp 19], .app (.eload 1 false) [.app (.eoff 1) [.app (.eidx 3) [.inp 17, .inp 18]]]]], false)] (.eidx 3) [.inp 17, .inp 18],
    .chk [(.app .pick [.app (.un .not) [.app (.tproj 1) [.inp 19]], .bool true, .app (.bin .neq) [.app (.tproj 0) [.inp 19], .app (.eload 1 false) [.app (.eoff 1) [.app (.eidx 3) [.inp 17, .inp 18]]]]], false)] (.eoff 0) [.app (.eidx 3) [.inp 17, .inp 18]],
    .chk [(.app .pick [.app (.un .not) [.app (.tproj 1) [.inp 19]], .bool true, .app (.bin .neq) [.app (.tproj 0) [.inp 19], .app (.eload 1 false) [.app (.eoff 1) [.app (.eidx 3) [.inp 17, .inp 18]]]]], false)] (.eload 1 false) [.app (.eoff 0) [.app (.eidx 3) [.inp 17, .inp 18]]],
    .chk [(.app .pick [.app (.un .not) [.app (.tproj 1) [.inp 19]], .bool true, .app (.bin .neq) [.app (.tproj 0) [.inp 19], .app (.eload 1 false) [.app (.eoff 1) [.app (.eidx 3) [.inp 17, .inp 18]]]]], false)] (.bin .lss) [.app (.eload 1 false) [.app (.eoff 0) [.app (.eidx 3) [.inp 17, .inp 18]]], .int .i64 0],
    .chk [] .pick [.app .pick [.app (.un .not) [.app (.tproj 1) [.inp 19]], .bool true, .app (.bin .neq) [.app (.tproj 0) [.inp 19], .app (.eload 1 false) [.app (.eoff 1) [.app (.eidx 3) [.inp 17, .inp 18]]]]], .bool true, .app (.bin .lss) [.app (.eload 1 false) [.app (.eoff 0) [.app (.eidx 3) [.inp 17, .inp 18]]], .int .i64 0]],
    .chk [(.app .pick [.app .pick [.app (.un .not) [.app (.tproj 1) [.inp 19]], .bool true, .app (.bin .neq) [.app (.tproj 0) [.inp 19], .app (.eload 1 false) [.app (.eoff 1) [.app (.eidx 3) [.inp 17, .inp 18]]]]], .bool true, .app (.bin .lss) [.app (.eload 1 false) [.app (.eoff 0) [.app (.eidx 3) [.inp 17, .inp 18]]], .int .i64 0]], false)] (.eidx 3) [.inp 17, .inp 18],
    .chk [(.app .pick [.app .pick [.app (.un .not) [.app (.tproj 1) [.inp 19]], .bool true, .app (.bin .neq) [.app (.tproj 0) [.inp 19], .app (.eload 1 false) [.app (.eoff 1) [.app (.eidx 3) [.inp 17, .inp 18]]]]], .bool true, .app (.bin .lss) [.app (.eload 1 false) [.app (.eoff 0) [.app (.eidx 3) [.inp 17, .inp 18]]], .int .i64 0]], false)] (.eoff 0) [.app (.eidx 3) [.inp 17, .inp 18]],
    .chk [(.app .pick [.app .pick [.app (.un .not) [.app (.tproj 1) [.inp 19]], .bool true, .app (.bin .neq) [.app (.tproj 0) [.inp 19], .app (.eload 1 false) [.app (.eoff 1) [.app (.eidx 3) [.inp 17, .inp 18]]]]], .bool true, .app (.bin .lss) [.app (.eload 1 false) [.app (.eoff 0) [.app (.eidx 3) [.inp 17, .inp 18]]], .int .i64 0]], false)] (.eload 1 false) [.app (.eoff 0) [.app (.eidx 3) [.inp 17, .inp 18]]],
    .chk [(.app .pick [.app .pick [.app (.un .not) [.app (.tproj 1) [.inp 19]], .bool true, .app (.bin .neq) [.app (.tproj 0) [.inp 19], .app (.eload 1 false) [.app (.eoff 1) [.app (.eidx 3) [.inp 17, .inp 18]]]]], .bool true, .app (.bin .lss) [.app (.eload 1 false) [.app (.eoff 0) [.app (.eidx 3) [.inp 17, .inp 18]]], .int .i64 0]], false)] .len [.inp 0],
    .chk [(.app .pick [.app .pick [.app (.un .not) [.app (.tproj 1) [.inp 19]], .bool true, .app (.bin .neq) [.app (.tproj 0) [.inp 19], .app (.eload 1 false) [.app (.eoff 1) [.app (.eidx 3) [.inp 17, .inp 18]]]]], .bool true, .app (.bin .lss) [.app (.eload 1 false) [.app (.eoff 0) [.app (.eidx 3) [.inp 17, .inp 18]]], .int .i64 0]], false)] (.bin .geq) [.app (.eload 1 false) [.app (.eoff 0) [.app (.eidx 3) [.inp 17, .inp 18]]], .app .len [.inp 0]],
    .chk [] .pick [.app .pick [.app .pick [.app (.un .not) [.app (.tproj 1) [.inp 19]], .bool true, .app (.bin .neq) [.app (.tproj 0) [.inp 19], .app (.eload 1 false) [.app (.eoff 1) [.app (.eidx 3) [.inp 17, .inp 18]]]]], .bool true, .app (.bin .lss) [.app (.eload 1 false) [.app (.eoff 0) [.app (.eidx 3) [.inp 17, .inp 18]]], .int .i64 0]], .bool true, .app (.bin .geq) [.app (.eload 1 false) [.app (.eoff 0) [.app (.eidx 3) [.inp 17, .inp 18]]], .app .len [.inp 0]]],
    .chk [(.app .pick [.app .pick [.app .pick [.app (.un .not) [.app (.tproj 1) [.inp 19]], .bool true, .app (.bin .neq) [.app (.tproj 0) [.inp 19], .app (.eload 1 false) [.app (.eoff 1) [.app (.eidx 3) [.inp 17, .inp 18]]]]], .bool true, .app (.bin .lss) [.app (.eload 1 false) [.app (.eoff 0) [.app (.eidx 3) [.inp 17, .inp 18]]], .int .i64 0]], .bool true, .app (.bin .geq) [.app (.eload 1 false) [.app (.eoff 0) [.app (.eidx 3) [.inp 17, .inp 18]]], .app .len [.inp 0]]], false)] (.eidx 3) [.inp 17, .inp 18],
    .chk [(.app .pick [.app .pick [.app .pick [.app (.un .not) [.app (.tproj 1) [.inp 19]], .bool true, .app (.bin .neq) [.app (.tproj 0) [.inp 19], .app (.eload 1 false) [.app (.eoff 1) [.app (.eidx 3) [.inp 17, .inp 18]]]]], .bool true, .app (.bin .lss) [.app (.eload 1 false) [.app (.eoff 0) [.app (.eidx 3) [.inp 17, .inp 18]]], .int .i64 0]], .bool true, .app (.bin .geq) [.app (.eload 1 false) [.app (.eoff 0) [.app (.eidx 3) [.inp 17, .inp 18]]], .app .len [.inp 0]]], false)] (.eoff 0) [.app (.eidx 3) [.inp 17, .inp 18]],
    .chk [(.app .pick [.app .pick [.app .pick [.app (.un .not) [.app (.tproj 1) [.inp 19]], .bool true, .app (.bin .neq) [.app (.tproj 0) [.inp 19], .app (.eload 1 false) [.app (.eoff 1) [.app (.eidx 3) [.inp 17, .inp 18]]]]], .bool true, .app (.bin .lss) [.app (.eload 1 false) [.app (.eoff 0) [.app (.eidx 3) [.inp 17, .inp 18]]], .int .i64 0]], .bool true, .app (.bin .geq) [.app (.eload 1 false) [.app (.eoff 0) [.app (.eidx 3) [.inp 17, .inp 18]]], .app .len [.inp 0]]], false)] (.eload 1 false) [.app (.eoff 0) [.app (.eidx 3) [.inp 17, .inp 18]]],
    .chk [(.app .pick [.app .pick [.app .pick [.app (.un .not) [.app (.tproj 1) [.inp 19]], .bool true, .app (.bin .neq) [.app (.tproj 0) [.inp 19], .app (.eload 1 false) [.app (.eoff 1) [.app (.eidx 3) [.inp 17, .inp 18]]]]], .bool true, .app (.bin .lss) [.app (.eload 1 false) [.app (.eoff 0) [.app (.eidx 3) [.inp 17, .inp 18]]], .int .i64 0]], .bool true, .app (.bin .geq) [.app (.eload 1 false) [.app (.eoff 0) [.app (.eidx 3) [.inp 17, .inp 18]]], .app .len [.inp 0]]], false)] (.eidx 11) [.inp 0, .app (.eload 1 false) [.app (.eoff 0) [.app (.eidx 3) [.inp 17, .inp 18]]]],
    .chk [(.app .pick [.app .pick [.app .pick [.app (.un .not) [.app (.tproj 1) [.inp 19]], .bool true, .app (.bin .neq) [.app (.tproj 0) [.inp 19], .app (.eload 1 false) [.app (.eoff 1) [.app (.eidx 3) [.inp 17, .inp 18]]]]], .bool true, .app (.bin .lss) [.app (.eload 1 false) [.app (.eoff 0) [.app (.eidx 3) [.inp 17, .inp 18]]], .int .i64 0]], .bool true, .app (.bin .geq) [.app (.eload 1 false) [.app (.eoff 0) [.app (.eidx 3) [.inp 17, .inp 18]]], .app .len [.inp 0]]], false)] (.eoff 0) [.app (.eidx 11) [.inp 0, .app (.eload 1 false) [.app (.eoff 0) [.app (.eidx 3) [.inp 17, .inp 18]]]]],
    .chk [(.app .pick [.app .pick [.app .pick [.app (.un .not) [.app (.tproj 1) [.inp 19]], .bool true, .app (.bin .neq) [.app (.tproj 0) [.inp 19], .app (.eload 1 false) [.app (.eoff 1) [.app (.eidx 3) [.inp 17, .inp 18]]]]], .bool true, .app (.bin .lss) [.app (.eload 1 false) [.app (.eoff 0) [.app (.eidx 3) [.inp 17, .inp 18]]], .int .i64 0]], .bool true, .app (.bin .geq) [.app (.eload 1 false) [.app (.eoff 0) [.app (.eidx 3) [.inp 17, .inp 18]]], .app .len [.inp 0]]], false)] (.eload 1 false) [.app (.eoff 0) [.app (.eidx 11) [.inp 0, .app (.eload 1 false) [.app (.eoff 0) [.app (.eidx 3) [.inp 17, .inp 18]]]]]],
    .chk [(.app .pick [.app .pick [.app .pick [.app (.un .not) [.app (.tproj 1) [.inp 19]], .bool true, .app (.bin .neq) [.app (.tproj 0) [.inp 19], .app (.eload 1 false) [.app (.eoff 1) [.app (.eidx 3) [.inp 17, .inp 18]]]]], .bool true, .app (.bin .lss) [.app (.eload 1 false) [.app (.eoff 0) [.app (.eidx 3) [.inp 17, .inp 18]]], .int .i64 0]], .bool true, .app (.bin .geq) [.app (.eload 1 false) [.app (.eoff 0) [.app (.eidx 3) [.inp 17, .inp 18]]], .app .len [.inp 0]]], false)] (.bin .neq) [.app (.eload 1 false) [.app (.eoff 0) [.app (.eidx 11) [.inp 0, .app (.eload 1 false) [.app (.eoff 0) [.app (.eidx 3) [.inp 17, .inp 18]]]]]], .int .u8 2],
    .chk [] .pick [.app .pick [.app .pick [.app .pick [.app (.un .not) [.app (.tproj 1) [.inp 19]], .bool true, .app (.bin .neq) [.app (.tproj 0) [.inp 19], .app (.eload 1 false) [.app (.eoff 1) [.app (.eidx 3) [.inp 17, .inp 18]]]]], .bool true, .app (.bin .lss) [.app (.eload 1 false) [.app (.eoff 0) [.app (.eidx 3) [.inp 17, .inp 18]]], .int .i64 0]], .bool true, .app (.bin .geq) [.app (.eload 1 false) [.app (.eoff 0) [.app (.eidx 3) [.inp 17, .inp 18]]], .app .len [.inp 0]]], .bool true, .app (.bin .neq) [.app (.eload 1 false) [.app (.eoff 0) [.app (.eidx 11) [.inp 0, .app (.eload 1 false) [.app (.eoff 0) [.app (.eidx 3) [.inp 17, .inp 18]]]]]], .int .u8 2]],
    .chk [(.app .pick [.app .pick [.app .pick [.app .pick [.app (.un .not) [.app (.tproj 1) [.inp 19]], .bool true, .app (.bin .neq) [.app (.tproj 0) [.inp 19], .app (.eload 1 false) [.app (.eoff 1) [.app (.eidx 3) [.inp 17, .inp 18]]]]], .bool true, .app (.bin .lss) [.app (.eload 1 false) [.app (.eoff 0) [.app (.eidx 3) [.inp 17, .inp 18]]], .int .i64 0]], .bool true, .app (.bin .geq) [.app (.eload 1 false) [.app (.eoff 0) [.app (.eidx 3) [.inp 17, .inp 18]]], .app .len [.inp 0]]], .bool true, .app (.bin .neq) [.app (.eload 1 false) [.app (.eoff 0) [.app (.eidx 11) [.inp 0, .app (.eload 1 false) [.app (.eoff 0) [.app (.eidx 3) [.inp 17, .inp 18]]]]]], .int .u8 2]], false)] (.eidx 3) [.inp 17, .inp 18],
    .chk [(.app .pick [.app .pick [.app .pick [.app .pick [.app (.un .not) [.app (.tproj 1) [.inp 19]], .bool true, .app (.bin .neq) [.app (.tproj 0) [.inp 19], .app (.eload 1 false) [.app (.eoff 1) [.app (.eidx 3) [.inp 17, .inp 18]]]]], .bool true, .app (.bin .lss) [.app (.eload 1 false) [.app (.eoff 0) [.app (.eidx 3) [.inp 17, .inp 18]]], .int .i64 0]], .bool true, .app (.bin .geq) [.app (.eload 1 false) [.app (.eoff 0) [.app (.eidx 3) [.inp 17, .inp 18]]], .app .len [.inp 0]]], .bool true, .app (.bin .neq) [.app (.eload 1 false) [.app (.eoff 0) [.app (.eidx 11) [.inp 0, .app (.eload 1 false) [.app (.eoff 0) [.app (.eidx 3) [.inp 17, .inp 18]]]]]], .int .u8 2]], false)] (.eoff 2) [.app (.eidx 3) [.inp 17, .inp 18]],
    .chk [(.app .pick [.app .pick [.app .pick [.app .pick [.app (.un .not) [.app (.tproj 1) [.inp 19]], .bool true, .app (.bin .neq) [.app (.tproj 0) [.inp 19], .app (.eload 1 false) [.app (.eoff 1) [.app (.eidx 3) [.inp 17, .inp 18]]]]], .bool true, .app (.bin .lss) [.app (.eload 1 false) [.app (.eoff 0) [.app (.eidx 3) [.inp 17, .inp 18]]], .int .i64 0]], .bool true, .app (.bin .geq) [.app (.eload 1 false) [.app (.eoff 0) [.app (.eidx 3) [.inp 17, .inp 18]]], .app .len [.inp 0]]], .bool true, .app (.bin .neq) [.app (.eload 1 false) [.app (.eoff 0) [.app (.eidx 11) [.inp 0, .app (.eload 1 false) [.app (.eoff 0) [.app (.eidx 3) [.inp 17, .inp 18]]]]]], .int .u8 2]], false)] (.eload 1 false) [.app (.eoff 2) [.app (.eidx 3) [.inp 17, .inp 18]]],
    .chk [(.app .pick [.app .pick [.app .pick [.app .pick [.app (.un .not) [.app (.tproj 1) [.inp 19]], .bool true, .app (.bin .neq) [.app (.tproj 0) [.inp 19], .app (.eload 1 false) [.app (.eoff 1) [.app (.eidx 3) [.inp 17, .inp 18]]]]], .bool true, .app (.bin .lss) [.app (.eload 1 false) [.app (.eoff 0) [.app (.eidx 3) [.inp 17, .inp 18]]], .int .i64 0]], .bool true, .app (.bin .geq) [.app (.eload 1 false) [.app (.eoff 0) [.app (.eidx 3) [.inp 17, .inp 18]]], .app .len [.inp 0]]], .bool true, .app (.bin .neq) [.app (.eload 1 false) [.app (.eoff 0) [.app (.eidx 11) [.inp 0, .app (.eload 1 false) [.app (.eoff 0) [.app (.eidx 3) [.inp 17, .inp 18]]]]]], .int .u8 2]], false)] (.bin .lss) [.app (.eload 1 false) [.app (.eoff 2) [.app (.eidx 3) [.inp 17, .inp 18]]], .int .i64 0],
    .chk [] .pick [.app .pick [.app .pick [.app .pick [.app .pick [.app (.un .not) [.app (.tproj 1) [.inp 19]], .bool true, .app (.bin .neq) [.app (.tproj 0) [.inp 19], .app (.eload 1 false) [.app (.eoff 1) [.app (.eidx 3) [.inp 17, .inp 18]]]]], .bool true, .app (.bin .lss) [.app (.eload 1 false) [.app (.eoff 0) [.app (.eidx 3) [.inp 17, .inp 18]]], .int .i64 0]], .bool true, .app (.bin .geq) [.app (.eload 1 false) [.app (.eoff 0) [.app (.eidx 3) [.inp 17, .inp 18]]], .app .len [.inp 0]]], .bool true, .app (.bin .neq) [.app (.eload 1 false) [.app (.eoff 0) [.app (.eidx 11) [.inp 0, .app (.eload 1 false) [.app (.eoff 0) [.app (.eidx 3) [.inp 17, .inp 18]]]]]], .int .u8 2]], .bool true, .app (.bin .lss) [.app (.eload 1 false) [.app (.eoff 2) [.app (.eidx 3) [.inp 17, .inp 18]]], .int .i64 0]],
    .chk [(.app .pick [.app .pick [.app .pick [.app .pick [.app .pick [.app (.un .not) [.app (.tproj 1) [.inp 19]], .bool true, .app (.bin .neq) [.app (.tproj 0) [.inp 19], .app (.eload 1 false) [.app (.eoff 1) [.app (.eidx 3) [.inp 17, .inp 18]]]]], .bool true, .app (.bin .lss) [.app (.eload 1 false) [.app (.eoff 0) [.app (.eidx 3) [.inp 17, .inp 18]]], .int .i64 0]], .bool true, .app (.bin .geq) [.app (.eload 1 false) [.app (.eoff 0) [.app (.eidx 3) [.inp 17, .inp 18]]], .app .len [.inp 0]]], .bool true, .app (.bin .neq) [.app (.eload 1 false) [.app (.eoff 0) [.app (.eidx 11) [.inp 0, .app (.eload 1 false) [.app (.eoff 0) [.app (.eidx 3) [.inp 17, .inp 18]]]]]], .int .u8 2]], .bool true, .app (.bin .lss) [.app (.eload 1 false) [.app (.eoff 2) [.app (.eidx 3) [.inp 17, .inp 18]]], .int .i64 0]], false)] (.eidx 3) [.inp 17, .inp 18],
    .chk [(.app .pick [.app .pick [.app .pick [.app .pick [.app .pick [.app (.un .not) [.app (.tproj 1) [.inp 19]], .bool true, .app (.bin .neq) [.app (.tproj 0) [.inp 19], .app (.eload 1 false) [.app (.eoff 1) [.app (.eidx 3) [.inp 17, .inp 18]]]]], .bool true, .app (.bin .lss) [.app (.eload 1 false) [.app (.eoff 0) [.app (.eidx 3) [.inp 17, .inp 18]]], .int .i64 0]], .bool true, .app (.bin .geq) [.app (.eload 1 false) [.app (.eoff 0) [.app (.eidx 3) [.inp 17, .inp 18]]], .app .len [.inp 0]]], .bool true, .app (.bin .neq) [.app (.eload 1 false) [.app (.eoff 0) [.app (.eidx 11) [.inp 0, .app (.eload 1 false) [.app (.eoff 0) [.app (.eidx 3) [.inp 17, .inp 18]]]]]], .int .u8 2]], .bool true, .app (.bin .lss) [.app (.eload 1 false) [.app (.eoff 2) [.app (.eidx 3) [.inp 17, .inp 18]]], .int .i64 0]], false)] (.eoff 2) [.app (.eidx 3) [.inp 17, .inp 18]],
    .chk [(.app .pick [.app .pick [.app .pick [.app .pick [.app .pick [.app (.un .not) [.app (.tproj 1) [.inp 19]], .bool true, .app (.bin .neq) [.app (.tproj 0) [.inp 19], .app (.eload 1 false) [.app (.eoff 1) [.app (.eidx 3) [.inp 17, .inp 18]]]]], .bool true, .app (.bin .lss) [.app (.eload 1 false) [.app (.eoff 0) [.app (.eidx 3) [.inp 17, .inp 18]]], .int .i64 0]], .bool true, .app (.bin .geq) [.app (.eload 1 false) [.app (.eoff 0) [.app (.eidx 3) [.inp 17, .inp 18]]], .app .len [.inp 0]]], .bool true, .app (.bin .neq) [.app (.eload 1 false) [.app (.eoff 0) [.app (.eidx 11) [.inp 0, .app (.eload 1 false) [.app (.eoff 0) [.app (.eidx 3) [.inp 17, .inp 18]]]]]], .int .u8 2]], .bool true, .app (.bin .lss) [.app (.eload 1 false) [.app (.eoff 2) [.app (.eidx 3) [.inp 17, .inp 18]]], .int .i64 0]], false)] (.eload 1 false) [.app (.eoff 2) [.app (.eidx 3) [.inp 17, .inp 18]]],
    .chk [(.app .pick [.app .pick [.app .pick [.app .pick [.app .pick [.app (.un .not) [.app (.tproj 1) [.inp 19]], .bool true, .app (.bin .neq) [.app (.tproj 0) [.inp 19], .app (.eload 1 false) [.app (.eoff 1) [.app (.eidx 3) [.inp 17, .inp 18]]]]], .bool true, .app (.bin .lss) [.app (.eload 1 false) [.app (.eoff 0) [.app (.eidx 3) [.inp 17, .inp 18]]], .int .i64 0]], .bool true, .app (.bin .geq) [.app (.eload 1 false) [.app (.eoff 0) [.app (.eidx 3) [.inp 17, .inp 18]]], .app .len [.inp 0]]], .bool true, .app (.bin .neq) [.app (.eload 1 false) [.app (.eoff 0) [.app (.eidx 11) [.inp 0, .app (.eload 1 false) [.app (.eoff 0) [.app (.eidx 3) [.inp 17, .inp 18]]]]]], .int .u8 2]], .bool true, .app (.bin .lss) [.app (.eload 1 false) [.app (.eoff 2) [.app (.eidx 3) [.inp 17, .inp 18]]], .int .i64 0]], false)] .len [.inp 13],
    .chk [(.app .pick [.app .pick [.app .pick [.app .pick [.app .pick [.app (.un .not) [.app (.tproj 1) [.inp 19]], .bool true, .app (.bin .neq) [.app (.tproj 0) [.inp 19], .app (.eload 1 false) [.app (.eoff 1) [.app (.eidx 3) [.inp 17, .inp 18]]]]], .bool true, .app (.bin .lss) [.app (.eload 1 false) [.app (.eoff 0) [.app (.eidx 3) [.inp 17, .inp 18]]], .int .i64 0]], .bool true, .app (.bin .geq) [.app (.eload 1 false) [.app (.eoff 0) [.app (.eidx 3) [.inp 17, .inp 18]]], .app .len [.inp 0]]], .bool true, .app (.bin .neq) [.app (.eload 1 false) [.app (.eoff 0) [.app (.eidx 11) [.inp 0, .app (.eload 1 false) [.app (.eoff 0) [.app (.eidx 3) [.inp 17, .inp 18]]]]]], .int .u8 2]], .bool true, .app (.bin .lss) [.app (.eload 1 false) [.app (.eoff 2) [.app (.eidx 3) [.inp 17, .inp 18]]], .int .i64 0]], false)] (.bin .gtr) [.app (.eload 1 false) [.app (.eoff 2) [.app (.eidx 3) [.inp 17, .inp 18]]], .app .len [.inp 13]],
    .chk [] .pick [.app .pick [.app .pick [.app .pick [.app .pick [.app .pick [.app (.un .not) [.app (.tproj 1) [.inp 19]], .bool true, .app (.bin .neq) [.app (.tproj 0) [.inp 19], .app (.eload 1 false) [.app (.eoff 1) [.app (.eidx 3) [.inp 17, .inp 18]]]]], .bool true, .app (.bin .lss) [.app (.eload 1 false) [.app (.eoff 0) [.app (.eidx 3) [.inp 17, .inp 18]]], .int .i64 0]], .bool true, .app (.bin .geq) [.app (.eload 1 false) [.app (.eoff 0) [.app (.eidx 3) [.inp 17, .inp 18]]], .app .len [.inp 0]]], .bool true, .app (.bin .neq) [.app (.eload 1 false) [.app (.eoff 0) [.app (.eidx 11) [.inp 0, .app (.eload 1 false) [.app (.eoff 0) [.app (.eidx 3) [.inp 17, .inp 18]]]]]], .int .u8 2]], .bool true, .app (.bin .lss) [.app (.eload 1 false) [.app (.eoff 2) [.app (.eidx 3) [.inp 17, .inp 18]]], .int .i64 0]], .bool true, .app (.bin .gtr) [.app (.eload 1 false) [.app (.eoff 2) [.app (.eidx 3) [.inp 17, .inp 18]]], .app .len [.inp 13]]],
    .chk [(.app .pick [.app .pick [.app .pick [.app .pick [.app .pick [.app .pick [.app (.un .not) [.app (.tproj 1) [.inp 19]], .bool true, .app (.bin .neq) [.app (.tproj 0) [.inp 19], .app (.eload 1 false) [.app (.eoff 1) [.app (.eidx 3) [.inp 17, .inp 18]]]]], .bool true, .app (.bin .lss) [.app (.eload 1 false) [.app (.eoff 0) [.app (.eidx 3) [.inp 17, .inp 18]]], .int .i64 0]], .bool true, .app (.bin .geq) [.app (.eload 1 false) [.app (.eoff 0) [.app (.eidx 3) [.inp 17, .inp 18]]], .app .len [.inp 0]]], .bool true, .app (.bin .neq) [.app (.eload 1 false) [.app (.eoff 0) [.app (.eidx 11) [.inp 0, .app (.eload 1 false) [.app (.eoff 0) [.app (.eidx 3) [.inp 17, .inp 18]]]]]], .int .u8 2]], .bool true, .app (.bin .lss) [.app (.eload 1 false) [.app (.eoff 2) [.app (.eidx 3) [.inp 17, .inp 18]]], .int .i64 0]], .bool true, .app (.bin .gtr) [.app (.eload 1 false) [.app (.eoff 2) [.app (.eidx 3) [.inp 17, .inp 18]]], .app .len [.inp 13]]], false)] (.bin .gtr) [.inp 18, .int .i64 0],
    .chk [(.app (.bin .gtr) [.inp 18, .int .i64 0], true), (.app .pick [.app .pick [.app .pick [.app .pick [.app .pick [.app .pick [.app (.un .not) [.app (.tproj 1) [.inp 19]], .bool true, .app (.bin .neq) [.app (.tproj 0) [.inp 19], .app (.eload 1 false) [.app (.eoff 1) [.app (.eidx 3) [.inp 17, .inp 18]]]]], .bool true, .app (.bin .lss) [.app (.eload 1 false) [.app (.eoff 0) [.app (.eidx 3) [.inp 17, .inp 18]]], .int .i64 0]], .bool true, .app (.bin .geq) [.app (.eload 1 false) [.app (.eoff 0) [.app (.eidx 3) [.inp 17, .inp 18]]], .app .len [.inp 0]]], .bool true, .app (.bin .neq) [.app (.eload 1 false) [.app (.eoff 0) [.app (.eidx 11) [.inp 0, .app (.eload 1 false) [.app (.eoff 0) [.app (.eidx 3) [.inp 17, .inp 18]]]]]], .int .u8 2]], .bool true, .app (.bin .lss) [.app (.eload 1 false) [.app (.eoff 2) [.app (.eidx 3) [.inp 17, .inp 18]]], .int .i64 0]], .bool true, .app (.bin .gtr) [.app (.eload 1 false) [.app (.eoff 2) [.app (.eidx 3) [.inp 17, .inp 18]]], .app .len [.inp 13]]], false)] (.eidx 3) [.inp 17, .inp 18],
    .chk [(.app (.bin .gtr) [.inp 18, .int .i64 0], true), (.app .pick [.app .pick [.app .pick [.app .pick [.app .pick [.app .pick [.app (.un .not) [.app (.tproj 1) [.inp 19]], .bool true, .app (.bin .neq) [.app (.tproj 0) [.inp 19], .app (.eload 1 false) [.app (.eoff 1) [.app (.eidx 3) [.inp 17, .inp 18]]]]], .bool true, .app (.bin .lss) [.app (.eload 1 false) [.app (.eoff 0) [.app (.eidx 3) [.inp 17, .inp 18]]], .int .i64 0]], .bool true, .app (.bin .geq) [.app (.eload 1 false) [.app (.eoff 0) [.app (.eidx 3) [.inp 17, .inp 18]]], .app .len [.inp 0]]], .bool true, .app (.bin .neq) [.app (.eload 1 false) [.app (.eoff 0) [.app (.eidx 11) [.inp 0, .app (.eload 1 false) [.app (.eoff 0) [.app (.eidx 3) [.inp 17, .inp 18]]]]]], .int .u8 2]], .bool true, .app (.bin .lss) [.app (.eload 1 false) [.app (.eoff 2) [.app (.eidx 3) [.inp 17, .inp 18]]], .int .i64 0]], .bool true, .app (.bin .gtr) [.app (.eload 1 false) [.app (.eoff 2) [.app (.eidx 3) [.inp 17, .inp 18]]], .app .len [.inp 13]]], false)] (.eoff 2) [.app (.eidx 3) [.inp 17, .inp 18]],
    .chk [(.app (.bin .gtr) [.inp 18, .int .i64 0], true), (.app .pick [.app .pick [.app .pick [.app .pick [.app .pick [.app .pick [.app (.un .not) [.app (.tproj 1) [.inp 19]], .bool true, .app (.bin .neq) [.app (.tproj 0) [.inp 19], .app (.eload 1 false) [.app (.eoff 1) [.app (.eidx 3) [.inp 17, .inp 18]]]]], .bool true, .app (.bin .lss) [.app (.eload 1 false) [.app (.eoff 0) [.app (.eidx 3) [.inp 17, .inp 18]]], .int .i64 0]], .bool true, .app (.bin .geq) [.app (.eload 1 false) [.app (.eoff 0) [.app (.eidx 3) [.inp 17, .inp 18]]], .app .len [.inp 0]]], .bool true, .app (.bin .neq) [.app (.eload 1 false) [.app (.eoff 0) [.app (.eidx 11) [.inp 0, .app (.eload 1 false) [.app (.eoff 0) [.app (.eidx 3) [.inp 17, .inp 18]]]]]], .int .u8 2]], .bool true, .app (.bin .lss) [.app (.eload 1 false) [.app (.eoff 2) [.app (.eidx 3) [.inp 17, .inp 18]]], .int .i64 0]], .bool true, .app (.bin .gtr) [.app (.eload 1 false) [.app (.eoff 2) [.app (.eidx 3) [.inp 17, .inp 18]]], .app .len [.inp 13]]], false)] (.eload 1 false) [.app (.eoff 2) [.app (.eidx 3) [.inp 17, .inp 18]]],
    .chk [(.app (.bin .gtr) [.inp 18, .int .i64 0], true), (.app .pick [.app .pick [.app .pick [.app .pick [.app .pick [.app .pick [.app (.un .not) [.app (.tproj 1) [.inp 19]], .bool true, .app (.bin .neq) [.app (.tproj 0) [.inp 19], .app (.eload 1 false) [.app (.eoff 1) [.app (.eidx 3) [.inp 17, .inp 18]]]]], .bool true, .app (.bin .lss) [.app (.eload 1 false) [.app (.eoff 0) [.app (.eidx 3) [.inp 17, .inp 18]]], .int .i64 0]], .bool true, .app (.bin .geq) [.app (.eload 1 false) [.app (.eoff 0) [.app (.eidx 3) [.inp 17, .inp 18]]], .app .len [.inp 0]]], .bool true, .app (.bin .neq) [.app (.eload 1 false) [.app (.eoff 0) [.app (.eidx 11) [.inp 0, .app (.eload 1 false) [.app (.eoff 0) [.app (.eidx 3) [.inp 17, .inp 18]]]]]], .int .u8 2]], .bool true, .app (.bin .lss) [.app (.eload 1 false) [.app (.eoff 2) [.app (.eidx 3) [.inp 17, .inp 18]]], .int .i64 0]], .bool true, .app (.bin .gtr) [.app (.eload 1 false) [.app (.eoff 2) [.app (.eidx 3) [.inp 17, .inp 18]]], .app .len [.inp 13]]], false)] (.bin .sub) [.inp 18, .int .i64 1],
    .chk [(.app (.bin .gtr) [.inp 18, .int .i64 0], true), (.app .pick [.app .pick [.app .pick [.app .pick [.app .pick [.app .pick [.app (.un .not) [.app (.tproj 1) [.inp 19]], .bool true, .app (.bin .neq) [.app (.tproj 0) [.inp 19], .app (.eload 1 false) [.app (.eoff 1) [.app (.eidx 3) [.inp 17, .inp 18]]]]], .bool true, .app (.bin .lss) [.app (.eload 1 false) [.app (.eoff 0) [.app (.eidx 3) [.inp 17, .inp 18]]], .int .i64 0]], .bool true, .app (.bin .geq) [.app (.eload 1 false) [.app (.eoff 0) [.app (.eidx 3) [.inp 17, .inp 18]]], .app .len [.inp 0]]], .bool true, .app (.bin .neq) [.app (.eload 1 false) [.app (.eoff 0) [.app (.eidx 11) [.inp 0, .app (.eload 1 false) [.app (.eoff 0) [.app (.eidx 3) [.inp 17, .inp 18]]]]]], .int .u8 2]], .bool true, .app (.bin .lss) [.app (.eload 1 false) [.app (.eoff 2) [.app (.eidx 3) [.inp 17, .inp 18]]], .int .i64 0]], .bool true, .app (.bin .gtr) [.app (.eload 1 false) [.app (.eoff 2) [.app (.eidx 3) [.inp 17, .inp 18]]], .app .len [.inp 13]]], false)] (.eidx 3) [.inp 17, .app (.bin .sub) [.inp 18, .int .i64 1]],
    .chk [(.app (.bin .gtr) [.inp 18, .int .i64 0], true), (.app .pick [.app .pick [.app .pick [.app .pick [.app .pick [.app .pick [.app (.un .not) [.app (.tproj 1) [.inp 19]], .bool true, .app (.bin .neq) [.app (.tproj 0) [.inp 19], .app (.eload 1 false) [.app (.eoff 1) [.app (.eidx 3) [.inp 17, .inp 18]]]]], .bool true, .app (.bin .lss) [.app (.eload 1 false) [.app (.eoff 0) [.app (.eidx 3) [.inp 17, .inp 18]]], .int .i64 0]], .bool true, .app (.bin .geq) [.app (.eload 1 false) [.app (.eoff 0) [.app (.eidx 3) [.inp 17, .inp 18]]], .app .len [.inp 0]]], .bool true, .app (.bin .neq) [.app (.eload 1 false) [.app (.eoff 0) [.app (.eidx 11) [.inp 0, .app (.eload 1 false) [.app (.eoff 0) [.app (.eidx 3) [.inp 17, .inp 18]]]]]], .int .u8 2]], .bool true, .app (.bin .lss) [.app (.eload 1 false) [.app (.eoff 2) [.app (.eidx 3) [.inp 17, .inp 18]]], .int .i64 0]], .bool true, .app (.bin .gtr) [.app (.eload 1 false) [.app (.eoff 2) [.app (.eidx 3) [.inp 17, .inp 18]]], .app .len [.inp 13]]], false)] (.eoff 2) [.app (.eidx 3) [.inp 17, .app (.bin .sub) [.inp 18, .int .i64 1]]],
    .chk [(.app (.bin .gtr) [.inp 18, .int .i64 0], true), (.app .pick [.app .pick [.app .pick [.app .pick [.app .pick [.app .pick [.app (.un .not) [.app (.tproj 1) [.inp 19]], .bool true, .app (.bin .neq) [.app (.tproj 0) [.inp 19], .app (.eload 1 false) [.app (.eoff 1) [.app (.eidx 3) [.inp 17, .inp 18]]]]], .bool true, .app (.bin .lss) [.app (.eload 1 false) [.app (.eoff 0) [.app (.eidx 3) [.inp 17, .inp 18]]], .int .i64 0]], .bool true, .app (.bin .geq) [.app (.eload 1 false) [.app (.eoff 0) [.app (.eidx 3) [.inp 17, .inp 18]]], .app .len [.inp 0]]], .bool true, .app (.bin .neq) [.app (.eload 1 false) [.app (.eoff 0) [.app (.eidx 11) [.inp 0, .app (.eload 1 false) [.app (.eoff 0) [.app (.eidx 3) [.inp 17, .inp 18]]]]]], .int .u8 2]], .bool true, .app (.bin .lss) [.app (.eload 1 false) [.app (.eoff 2) [.app (.eidx 3) [.inp 17, .inp 18]]], .int .i64 0]], .bool true, .app (.bin .gtr) [.app (.eload 1 false) [.app (.eoff 2) [.app (.eidx 3) [.inp 17, .inp 18]]], .app .len [.inp 13]]], false)] (.eload 1 false) [.app (.eoff 2) [.app (.eidx 3) [.inp 17, .app (.bin .sub) [.inp 18, .int .i64 1]]]],
    .chk [(.app (.bin .gtr) [.inp 18, .int .i64 0], true), (.app .pick [.app .pick [.app .pick [.app .pick [.app .pick [.app .pick [.app (.un .not) [.app (.tproj 1) [.inp 19]], .bool true, .app (.bin .neq) [.app (.tproj 0) [.inp 19], .app (.eload 1 false) [.app (.eoff 1) [.app (.eidx 3) [.inp 17, .inp 18]]]]], .bool true, .app (.bin .lss) [.app (.eload 1 false) [.app (.eoff 0) [.app (.eidx 3) [.inp 17, .inp 18]]], .int .i64 0]], .bool true, .app (.bin .geq) [.app (.eload 1 false) [.app (.eoff 0) [.app (.eidx 3) [.inp 17, .inp 18]]], .app .len [.inp 0]]], .bool true, .app (.bin .neq) [.app (.eload 1 false) [.app (.eoff 0) [.app (.eidx 11) [.inp 0, .app (.eload 1 false) [.app (.eoff 0) [.app (.eidx 3) [.inp 17, .inp 18]]]]]], .int .u8 2]], .bool true, .app (.bin .lss) [.app (.eload 1 false) [.app (.eoff 2) [.app (.eidx 3) [.inp 17, .inp 18]]], .int .i64 0]], .bool true, .app (.bin .gtr) [.app (.eload 1 false) [.app (.eoff 2) [.app (.eidx 3) [.inp 17, .inp 18]]], .app .len [.inp 13]]], false)] (.bin .lss) [.app (.eload 1 false) [.app (.eoff 2) [.app (.eidx 3) [.inp 17, .inp 18]]], .app (.eload 1 false) [.app (.eoff 2) [.app (.eidx 3) [.inp 17, .app (.bin .sub) [.inp 18, .int .i64 1]]]]],
    .chk [(.app .pick [.app .pick [.app .pick [.app .pick [.app .pick [.app .pick [.app (.un .not) [.app (.tproj 1) [.inp 19]], .bool true, .app (.bin .neq) [.app (.tproj 0) [.inp 19], .app (.eload 1 false) [.app (.eoff 1) [.app (.eidx 3) [.inp 17, .inp 18]]]]], .bool true, .app (.bin .lss) [.app (.eload 1 false) [.app (.eoff 0) [.app (.eidx 3) [.inp 17, .inp 18]]], .int .i64 0]], .bool true, .app (.bin .geq) [.app (.eload 1 false) [.app (.eoff 0) [.app (.eidx 3) [.inp 17, .inp 18]]], .app .len [.inp 0]]], .bool true, .app (.bin .neq) [.app (.eload 1 false) [.app (.eoff 0) [.app (.eidx 11) [.inp 0, .app (.eload 1 false) [.app (.eoff 0) [.app (.eidx 3) [.inp 17, .inp 18]]]]]], .int .u8 2]], .bool true, .app (.bin .lss) [.app (.eload 1 false) [.app (.eoff 2) [.app (.eidx 3) [.inp 17, .inp 18]]], .int .i64 0]], .bool true, .app (.bin .gtr) [.app (.eload 1 false) [.app (.eoff 2) [.app (.eidx 3) [.inp 17, .inp 18]]], .app .len [.inp 13]]], false)] .pick [.app (.bin .gtr) [.inp 18, .int .i64 0], .app (.bin .lss) [.app (.eload 1 false) [.app (.eoff 2) [.app (.eidx 3) [.inp 17, .inp 18]]], .app (.eload 1 false) [.app (.eoff 2) [.app (.eidx 3) [.inp 17, .app (.bin .sub) [.inp 18, .int .i64 1]]]]], .bool false],
    .chk [] .pick [.app .pick [.app .pick [.app .pick [.app .pick [.app .pick [.app .pick [.app (.un .not) [.app (.tproj 1) [.inp 19]], .bool true, .app (.bin .neq) [.app (.tproj 0) [.inp 19], .app (.eload 1 false) [.app (.eoff 1) [.app (.eidx 3) [.inp 17, .inp 18]]]]], .bool true, .app (.bin .lss) [.app (.eload 1 false) [.app (.eoff 0) [.app (.eidx 3) [.inp 17, .inp 18]]], .int .i64 0]], .bool true, .app (.bin .geq) [.app (.eload 1 false) [.app (.eoff 0) [.app (.eidx 3) [.inp 17, .inp 18]]], .app .len [.inp 0]]], .bool true, .app (.bin .neq) [.app (.eload 1 false) [.app (.eoff 0) [.app (.eidx 11) [.inp 0, .app (.eload 1 false) [.app (.eoff 0) [.app (.eidx 3) [.inp 17, .inp 18]]]]]], .int .u8 2]], .bool true, .app (.bin .lss) [.app (.eload 1 false) [.app (.eoff 2) [.app (.eidx 3) [.inp 17, .inp 18]]], .int .i64 0]], .bool true, .app (.bin .gtr) [.app (.eload 1 false) [.app (.eoff 2) [.app (.eidx 3) [.inp 17, .inp 18]]], .app .len [.inp 13]]], .bool true, .app .pick [.app (.bin .gtr) [.inp 18, .int .i64 0], .app (.bin .lss) [.app (.eload 1 false) [.app (.eoff 2) [.app (.eidx 3) [.inp 17, .inp 18]]], .app (.eload 1 false) [.app (.eoff 2) [.app (.eidx 3) [.inp 17, .app (.bin .sub) [.inp 18, .int .i64 1]]]]], .bool false]]] <|
    .cond (.app .pick [.app .pick [.app .pick [.app .pick [.app .pick [.app .pick [.app .pick [.app (.un .not) [.app (.tproj 1) [.inp 19]], .bool true, .app (.bin .neq) [.app (.tproj 0) [.inp 19], .app (.eload 1 false) [.app (.eoff 1) [.app (.eidx 3) [.inp 17, .inp 18]]]]], .bool true, .app (.bin .lss) [.app (.eload 1 false) [.app (.eoff 0) [.app (.eidx 3) [.inp 17, .inp 18]]], .int .i64 0]], .bool true, .app (.bin .geq) [.app (.eload 1 false) [.app (.eoff 0) [.app (.eidx 3) [.inp 17, .inp 18]]], .app .len [.inp 0]]], .bool true, .app (.bin .neq) [.app (.eload 1 false) [.app (.eoff 0) [.app (.eidx 11) [.inp 0, .app (.eload 1 false) [.app (.eoff 0) [.app (.eidx 3) [.inp 17, .inp 18]]]]]], .int .u8 2]], .bool true, .app (.bin .lss) [.app (.eload 1 false) [.app (.eoff 2) [.app (.eidx 3) [.inp 17, .inp 18]]], .int .i64 0]], .bool true, .app (.bin .gtr) [.app (.eload 1 false) [.app (.eoff 2) [.app (.eidx 3) [.inp 17, .inp 18]]], .app .len [.inp 13]]], .bool true, .app .pick [.app (.bin .gtr) [.inp 18, .int .i64 0], .app (.bin .lss) [.app (.eload 1 false) [.app (.eoff 2) [.app (.eidx 3) [.inp 17, .inp 18]]], .app (.eload 1 false) [.app (.eoff 2) [.app (.eidx 3) [.inp 17, .app (.bin .sub) [.inp 18, .int .i64 1]]]]], .bool false]])
    (.ret (.bool false))
    (.seg [.chk [] (.bin .add) [.inp 18, .int .i64 1]] <|
     .again 0 [.app (.bin .add) [.inp 18, .int .i64 1]]))
   (.seg [.chk [] (.szs 3) [.inp 13],
    .chk [] .app [.app .lst [], .inp 13]] <|
    .seg [.chk [] (.bin .geq) [.inp 12, .int .i64 0]] <|
    .seg [.chk [(.app (.bin .geq) [.inp 12, .int .i64 0], true)] .len [.inp 2]] <|
    .seg [.chk [(.app (.bin .geq) [.inp 12, .int .i64 0], true)] (.bin .lss) [.inp 12, .app .len [.inp 2]]] <|
    .seg [.chk [] .pick [.app (.bin .geq) [.inp 12, .int .i64 0], .app (.bin .lss) [.inp 12, .app .len [.inp 2]], .bool false]] <|
    .cond (.app .pick [.app (.bin .geq) [.inp 12, .int .i64 0], .app (.bin .lss) [.inp 12, .app .len [.inp 2]], .bool false])
    (.seg [.chk [] (.eidx 3) [.inp 2, .inp 12]] <|
     .seg [.chk [] (.eoff 2) [.app (.eidx 3) [.inp 2, .inp 12]]] <|
     .seg [.chk [] (.eload 1 false) [.app (.eoff 2) [.app (.eidx 3) [.inp 2, .inp 12]]]] <|
     .seg [.chk [] (.szs 3) [.app (.eload 1 false) [.app (.eoff 2) [.app (.eidx 3) [.inp 2, .inp 12]]]],
     .chk [] .app [.app .app [.app .lst [], .inp 13], .app (.eload 1 false) [.app (.eoff 2) [.app (.eidx 3) [.inp 2, .inp 12]]]]] <|
     .loop 0 19 [.int .i64 0] <|
     .seg [.chk [] .len [.app .app [.app .app [.app .lst [], .inp 13], .app (.eload 1 false) [.app (.eoff 2) [.app (.eidx 3) [.inp 2, .inp 12]]]]]] <|
      .seg [.chk [] (.bin .lss) [.inp 19, .app .len [.app .app [.app .app [.app .lst [], .inp 13], .app (.eload 1 false) [.app (.eoff 2) [.app (.eidx 3) [.inp 2, .inp 12]]]]]]] <|
      .cond (.app (.bin .lss) [.inp 19, .app .len [.app .app [.app .app [.app .lst [], .inp 13], .app (.eload 1 false) [.app (.eoff 2) [.app (.eidx 3) [.inp 2, .inp 12]]]]]])
      (.seg [.chk [] (.eidx 3) [.app .app [.app .app [.app .lst [], .inp 13], .app (.eload 1 false) [.app (.eoff 2) [.app (.eidx 3) [.inp 2, .inp 12]]]], .inp 19]] <|
       .seg [.chk [] (.rowget 3 0 3 true) [.app .app [.app .app [.app .lst [], .inp 13], .app (.eload 1 false) [.app (.eoff 2) [.app (.eidx 3) [.inp 2, .inp 12]]]], .inp 19]] <|
       .seg [.chk [] (.isAgg 3) [.app (.rowget 3 0 3 true) [.app .app [.app .app [.app .lst [], .inp 13], .app (.eload 1 false) [.app (.eoff 2) [.app (.eidx 3) [.inp 2, .inp 12]]]], .inp 19]]] <|
       .seg [.call 20 [] 12 [.agg [.inp 0, .inp 1, .inp 2, .inp 3, .inp 4, .inp 5, .inp 6, .inp 7, .inp 8, .inp 9, .inp 10], .agg [.app (.part 0 1 false) [.app (.rowget 3 0 3 true) [.app .app [.app .app [.app .lst [], .inp 13], .app (.eload 1 false) [.app (.eoff 2) [.app (.eidx 3) [.inp 2, .inp 12]]]], .inp 19]], .app (.part 1 1 false) [.app (.rowget 3 0 3 true) [.app .app [.app .app [.app .lst [], .inp 13], .app (.eload 1 false) [.app (.eoff 2) [.app (.eidx 3) [.inp 2, .inp 12]]]], .inp 19]], .app (.part 2 1 false) [.app (.rowget 3 0 3 true) [.app .app [.app .app [.app .lst [], .inp 13], .app (.eload 1 false) [.app (.eoff 2) [.app (.eidx 3) [.inp 2, .inp 12]]]], .inp 19]]]] false] <|
       .seg [.chk [] (.tproj 0) [.inp 20]] <|
       .seg [.chk [] (.tproj 1) [.inp 20]] <|
       .seg [.chk [] (.un .not) [.app (.tproj 1) [.inp 20]]] <|
       .cond (.app (.tproj 1) [.inp 20])
       (.seg [.call 21 [] 11 [.inp 17, .app (.part 0 1 false) [.app (.rowget 3 0 3 true) [.app .app [.app .app [.app .lst [], .inp 13], .app (.eload 1 false) [.app (.eoff 2) [.app (.eidx 3) [.inp 2, .inp 12]]]], .inp 19]]] false] <|
        .seg [.chk [] (.tproj 0) [.inp 21]] <|
        .seg [.chk [] (.tproj 1) [.inp 21]] <|
        .seg [.chk [] (.eidx 11) [.inp 0, .app (.part 0 1 false) [.app (.rowget 3 0 3 true) [.app .app [.app .app [.app .lst [], .inp 13], .app (.eload 1 false) [.app (.eoff 2) [.app (.eidx 3) [.inp 2, .inp 12]]]], .inp 19]]]] <|
        .seg [.chk [] (.eoff 0) [.app (.eidx 11) [.inp 0, .app (.part 0 1 false) [.app (.rowget 3 0 3 true) [.app .app [.app .app [.app .lst [], .inp 13], .app (.eload 1 false) [.app (.eoff 2) [.app (.eidx 3) [.inp 2, .inp 12]]]], .inp 19]]]]] <|
        .seg [.chk [] (.eload 1 false) [.app (.eoff 0) [.app (.eidx 11) [.inp 0, .app (.part 0 1 false) [.app (.rowget 3 0 3 true) [.app .app [.app .app [.app .lst [], .inp 13], .app (.eload 1 false) [.app (.eoff 2) [.app (.eidx 3) [.inp 2, .inp 12]]]], .inp 19]]]]]] <|
        .seg [.chk [] (.bin .eql) [.app (.eload 1 false) [.app (.eoff 0) [.app (.eidx 11) [.inp 0, .app (.part 0 1 false) [.app (.rowget 3 0 3 true) [.app .app [.app .app [.app .lst [], .inp 13], .app (.eload 1 false) [.app (.eoff 2) [.app (.eidx 3) [.inp 2, .inp 12]]]], .inp 19]]]]], .int .u8 2]] <|
        .seg [.chk [(.app (.bin .eql) [.app (.eload 1 false) [.app (.eoff 0) [.app (.eidx 11) [.inp 0, .app (.part 0 1 false) [.app (.rowget 3 0 3 true) [.app .app [.app .app [.app .lst [], .inp 13], .app (.eload 1 false) [.app (.eoff 2) [.app (.eidx 3) [.inp 2, .inp 12]]]], .inp 19]]]]], .int .u8 2], true)] (.un .not) [.app (.tproj 1) [.inp 21]]] <|
        .seg [.chk [(.app (.un .not) [.app (.tproj 1) [.inp 21]], false), (.app (.bin .eql) [.app (.eload 1 false) [.app (.eoff 0) [.app (.eidx 11) [.inp 0, .app (.part 0 1 false) [.app (.rowget 3 0 3 true) [.app .app [.app .app [.app .lst [], .inp 13], .app (.eload 1 false) [.app (.eoff 2) [.app (.eidx 3) [.inp 2, .inp 12]]]], .inp 19]]]]], .int .u8 2], true)] (.bin .neq) [.app (.tproj 0) [.inp 21], .app (.tproj 0) [.inp 20]]] <|
        .seg [.chk [(.app (.bin .eql) [.app (.eload 1 false) [.app (.eoff 0) [.app (.eidx 11) [.inp 0, .app (.part 0 1 false) [.app (.rowget 3 0 3 true) [.app .app [.app .app [.app .lst [], .inp 13], .app (.eload 1 false) [.app (.eoff 2) [.app (.eidx 3) [.inp 2, .inp 12]]]], .inp 19]]]]], .int .u8 2], true)] .pick [.app (.un .not) [.app (.tproj 1) [.inp 21]], .bool true, .app (.bin .neq) [.app (.tproj 0) [.inp 21], .app (.tproj 0) [.inp 20]]]] <|
        .seg [.chk [] .pick [.app (.bin .eql) [.app (.eload 1 false) [.app (.eoff 0) [.app (.eidx 11) [.inp 0, .app (.part 0 1 false) [.app (.rowget 3 0 3 true) [.app .app [.app .app [.app .lst [], .inp 13], .app (.eload 1 false) [.app (.eoff 2) [.app (.eidx 3) [.inp 2, .inp 12]]]], .inp 19]]]]], .int .u8 2], .app .pick [.app (.un .not) [.app (.tproj 1) [.inp 21]], .bool true, .app (.bin .neq) [.app (.tproj 0) [.inp 21], .app (.tproj 0) [.inp 20]]], .bool false]] <|
        .cond (.app .pick [.app (.bin .eql) [.app (.eload 1 false) [.app (.eoff 0) [.app (.eidx 11) [.inp 0, .app (.part 0 1 false) [.app (.rowget 3 0 3 true) [.app .app [.app .app [.app .lst [], .inp 13], .app (.eload 1 false) [.app (.eoff 2) [.app (.eidx 3) [.inp 2, .inp 12]]]], .inp 19]]]]], .int .u8 2], .app .pick [.app (.un .not) [.app (.tproj 1) [.inp 21]], .bool true, .app (.bin .neq) [.app (.tproj 0) [.inp 21], .app (.tproj 0) [.inp 20]]], .bool false])
        (.ret (.bool false))
        (.loop 1 22 [.int .i64 0] <|
         .seg [.chk [] .len [.inp 3]] <|
          .seg [.chk [] (.bin .lss) [.inp 22, .app .len [.inp 3]]] <|
          .cond (.app (.bin .lss) [.inp 22, .app .len [.inp 3]])
          (.seg [.chk [] (.eidx 4) [.inp 3, .inp 22]] <|
           .seg [.chk [] (.eload 4 true) [.app (.eidx 4) [.inp 3, .inp 22]]] <|
           .seg [.chk [] (.isAgg 4) [.app (.eload 4 true) [.app (.eidx 4) [.inp 3, .inp 22]]]] <|
           .seg [.call 23 [] 11 [.inp 17, .app (.part 2 1 false) [.app (.eload 4 true) [.app (.eidx 4) [.inp 3, .inp 22]]]] false] <|
           .seg [.chk [] (.tproj 0) [.inp 23]] <|
           .seg [.chk [] (.tproj 1) [.inp 23]] <|
           .seg [.chk [] (.bin .eql) [.app (.part 0 1 false) [.app (.eload 4 true) [.app (.eidx 4) [.inp 3, .inp 22]]], .app (.part 0 1 false) [.app (.rowget 3 0 3 true) [.app .app [.app .app [.app .lst [], .inp 13], .app (.eload 1 false) [.app (.eoff 2) [.app (.eidx 3) [.inp 2, .inp 12]]]], .inp 19]]]] <|
           .seg [.chk [(.app (.bin .eql) [.app (.part 0 1 false) [.app (.eload 4 true) [.app (.eidx 4) [.inp 3, .inp 22]]], .app (.part 0 1 false) [.app (.rowget 3 0 3 true) [.app .app [.app .app [.app .lst [], .inp 13], .app (.eload 1 false) [.app (.eoff 2) [.app (.eidx 3) [.inp 2, .inp 12]]]], .inp 19]]], true)] (.bin .eql) [.app (.part 1 1 false) [.app (.eload 4 true) [.app (.eidx 4) [.inp 3, .inp 22]]], .app (.tproj 0) [.inp 20]]] <|
           .seg [.chk [] .pick [.app (.bin .eql) [.app (.part 0 1 false) [.app (.eload 4 true) [.app (.eidx 4) [.inp 3, .inp 22]]], .app (.part 0 1 false) [.app (.rowget 3 0 3 true) [.app .app [.app .app [.app .lst [], .inp 13], .app (.eload 1 false) [.app (.eoff 2) [.app (.eidx 3) [.inp 2, .inp 12]]]], .inp 19]]], .app (.bin .eql) [.app (.part 1 1 false) [.app (.eload 4 true) [.app (.eidx 4) [.inp 3, .inp 22]]], .app (.tproj 0) [.inp 20]], .bool false]] <|
           .seg [.chk [(.app .pick [.app (.bin .eql) [.app (.part 0 1 false) [.app (.eload 4 true) [.app (.eidx 4) [.inp 3, .inp 22]]], .app (.part 0 1 false) [.app (.rowget 3 0 3 true) [.app .app [.app .app [.app .lst [], .inp 13], .app (.eload 1 false) [.app (.eoff 2) [.app (.eidx 3) [.inp 2, .inp 12]]]], .inp 19]]], .app (.bin .eql) [.app (.part 1 1 false) [.app (.eload 4 true) [.app (.eidx 4) [.inp 3, .inp 22]]], .app (.tproj 0) [.inp 20]], .bool false], true)] (.un .not) [.app (.tproj 1) [.inp 23]]] <|
           .seg [.chk [(.app (.un .not) [.app (.tproj 1) [.inp 23]], false), (.app .pick [.app (.bin .eql) [.app (.part 0 1 false) [.app (.eload 4 true) [.app (.eidx 4) [.inp 3, .inp 22]]], .app (.part 0 1 false) [.app (.rowget 3 0 3 true) [.app .app [.app .app [.app .lst [], .inp 13], .app (.eload 1 false) [.app (.eoff 2) [.app (.eidx 3) [.inp 2, .inp 12]]]], .inp 19]]], .app (.bin .eql) [.app (.part 1 1 false) [.app (.eload 4 true) [.app (.eidx 4) [.inp 3, .inp 22]]], .app (.tproj 0) [.inp 20]], .bool false], true)] (.bin .neq) [.app (.tproj 0) [.inp 23], .app (.part 3 1 false) [.app (.eload 4 true) [.app (.eidx 4) [.inp 3, .inp 22]]]]] <|
           .seg [.chk [(.app .pick [.app (.bin .eql) [.app (.part 0 1 false) [.app (.eload 4 true) [.app (.eidx 4) [.inp 3, .inp 22]]], .app (.part 0 1 false) [.app (.rowget 3 0 3 true) [.app .app [.app .app [.app .lst [], .inp 13], .app (.eload 1 false) [.app (.eoff 2) [.app (.eidx 3) [.inp 2, .inp 12]]]], .inp 19]]], .app (.bin .eql) [.app (.part 1 1 false) [.app (.eload 4 true) [.app (.eidx 4) [.inp 3, .inp 22]]], .app (.tproj 0) [.inp 20]], .bool false], true)] .pick [.app (.un .not) [.app (.tproj 1) [.inp 23]], .bool true, .app (.bin .neq) [.app (.tproj 0) [.inp 23], .app (.part 3 1 false) [.app (.eload 4 true) [.app (.eidx 4) [.inp 3, .inp 22]]]]]] <|
           .seg [.chk [] .pick [.app .pick [.app (.bin .eql) [.app (.part 0 1 false) [.app (.eload 4 true) [.app (.eidx 4) [.inp 3, .inp 22]]], .app (.part 0 1 false) [.app (.rowget 3 0 3 true) [.app .app [.app .app [.app .lst [], .inp 13], .app (.eload 1 false) [.app (.eoff 2) [.app (.eidx 3) [.inp 2, .inp 12]]]], .inp 19]]], .app (.bin .eql) [.app (.part 1 1 false) [.app (.eload 4 true) [.app (.eidx 4) [.inp 3, .inp 22]]], .app (.tproj 0) [.inp 20]], .bool false], .app .pick [.app (.un .not) [.app (.tproj 1) [.inp 23]], .bool true, .app (.bin .neq) [.app (.tproj 0) [.inp 23], .app (.part 3 1 false) [.app (.eload 4 true) [.app (.eidx 4) [.inp 3, .inp 22]]]]], .bool false]] <|
           .cond (.app .pick [.app .pick [.app (.bin .eql) [.app (.part 0 1 false) [.app (.eload 4 true) [.app (.eidx 4) [.inp 3, .inp 22]]], .app (.part 0 1 false) [.app (.rowget 3 0 3 true) [.app .app [.app .app [.app .lst [], .inp 13], .app (.eload 1 false) [.app (.eoff 2) [.app (.eidx 3) [.inp 2, .inp 12]]]], .inp 19]]], .app (.bin .eql) [.app (.part 1 1 false) [.app (.eload 4 true) [.app (.eidx 4) [.inp 3, .inp 22]]], .app (.tproj 0) [.inp 20]], .bool false], .app .pick [.app (.un .not) [.app (.tproj 1) [.inp 23]], .bool true, .app (.bin .neq) [.app (.tproj 0) [.inp 23], .app (.part 3 1 false) [.app (.eload 4 true) [.app (.eidx 4) [.inp 3, .inp 22]]]]], .bool false])
           (.ret (.bool false))
           (.seg [.chk [] (.bin .add) [.inp 22, .int .i64 1]] <|
            .again 1 [.app (.bin .add) [.inp 22, .int .i64 1]]))
          (.seg [.chk [] (.bin .add) [.inp 19, .int .i64 1]] <|
           .again 0 [.app (.bin .add) [.inp 19, .int .i64 1]])))
       (.seg [.chk [] (.bin .add) [.inp 19, .int .i64 1]] <|
        .again 0 [.app (.bin .add) [.inp 19, .int .i64 1]]))
      (.seg [.call 20 [] 9 [] false] <|
       .ret (.inp 20)))
    (.loop 0 19 [.int .i64 0] <|
     .seg [.chk [] .len [.app .app [.app .lst [], .inp 13]]] <|
      .seg [.chk [] (.bin .lss) [.inp 19, .app .len [.app .app [.app .lst [], .inp 13]]]] <|
      .cond (.app (.bin .lss) [.inp 19, .app .len [.app .app [.app .lst [], .inp 13]]])
      (.seg [.chk [] (.eidx 3) [.app .app [.app .lst [], .inp 13], .inp 19]] <|
       .seg [.chk [] (.rowget 3 0 3 true) [.app .app [.app .lst [], .inp 13], .inp 19]] <|
       .seg [.chk [] (.isAgg 3) [.app (.rowget 3 0 3 true) [.app .app [.app .lst [], .inp 13], .inp 19]]] <|
       .seg [.call 20 [] 12 [.agg [.inp 0, .inp 1, .inp 2, .inp 3, .inp 4, .inp 5, .inp 6, .inp 7, .inp 8, .inp 9, .inp 10], .agg [.app (.part 0 1 false) [.app (.rowget 3 0 3 true) [.app .app [.app .lst [], .inp 13], .inp 19]], .app (.part 1 1 false) [.app (.rowget 3 0 3 true) [.app .app [.app .lst [], .inp 13], .inp 19]], .app (.part 2 1 false) [.app (.rowget 3 0 3 true) [.app .app [.app .lst [], .inp 13], .inp 19]]]] false] <|
       .seg [.chk [] (.tproj 0) [.inp 20]] <|
       .seg [.chk [] (.tproj 1) [.inp 20]] <|
       .seg [.chk [] (.un .not) [.app (.tproj 1) [.inp 20]]] <|
       .cond (.app (.tproj 1) [.inp 20])
       (.seg [.call 21 [] 11 [.inp 17, .app (.part 0 1 false) [.app (.rowget 3 0 3 true) [.app .app [.app .lst [], .inp 13], .inp 19]]] false] <|
        .seg [.chk [] (.tproj 0) [.inp 21]] <|
        .seg [.chk [] (.tproj 1) [.inp 21]] <|
        .seg [.chk [] (.eidx 11) [.inp 0, .app (.part 0 1 false) [.app (.rowget 3 0 3 true) [.app .app [.app .lst [], .inp 13], .inp 19]]]] <|
        .seg [.chk [] (.eoff 0) [.app (.eidx 11) [.inp 0, .app (.part 0 1 false) [.app (.rowget 3 0 3 true) [.app .app [.app .lst [], .inp 13], .inp 19]]]]] <|
        .seg [.chk [] (.eload 1 false) [.app (.eoff 0) [.app (.eidx 11) [.inp 0, .app (.part 0 1 false) [.app (.rowget 3 0 3 true) [.app .app [.app .lst [], .inp 13], .inp 19]]]]]] <|
        .seg [.chk [] (.bin .eql) [.app (.eload 1 false) [.app (.eoff 0) [.app (.eidx 11) [.inp 0, .app (.part 0 1 false) [.app (.rowget 3 0 3 true) [.app .app [.app .lst [], .inp 13], .inp 19]]]]], .int .u8 2]] <|
        .seg [.chk [(.app (.bin .eql) [.app (.eload 1 false) [.app (.eoff 0) [.app (.eidx 11) [.inp 0, .app (.part 0 1 false) [.app (.rowget 3 0 3 true) [.app .app [.app .lst [], .inp 13], .inp 19]]]]], .int .u8 2], true)] (.un .not) [.app (.tproj 1) [.inp 21]]] <|
        .seg [.chk [(.app (.un .not) [.app (.tproj 1) [.inp 21]], false), (.app (.bin .eql) [.app (.eload 1 false) [.app (.eoff 0) [.app (.eidx 11) [.inp 0, .app (.part 0 1 false) [.app (.rowget 3 0 3 true) [.app .app [.app .lst [], .inp 13], .inp 19]]]]], .int .u8 2], true)] (.bin .neq) [.app (.tproj 0) [.inp 21], .app (.tproj 0) [.inp 20]]] <|
        .seg [.chk [(.app (.bin .eql) [.app (.eload 1 false) [.app (.eoff 0) [.app (.eidx 11) [.inp 0, .app (.part 0 1 false) [.app (.rowget 3 0 3 true) [.app .app [.app .lst [], .inp 13], .inp 19]]]]], .int .u8 2], true)] .pick [.app (.un .not) [.app (.tproj 1) [.inp 21]], .bool true, .app (.bin .neq) [.app (.tproj 0) [.inp 21], .app (.tproj 0) [.inp 20]]]] <|
        .seg [.chk [] .pick [.app (.bin .eql) [.app (.eload 1 false) [.app (.eoff 0) [.app (.eidx 11) [.inp 0, .app (.part 0 1 false) [.app (.rowget 3 0 3 true) [.app .app [.app .lst [], .inp 13], .inp 19]]]]], .int .u8 2], .app .pick [.app (.un .not) [.app (.tproj 1) [.inp 21]], .bool true, .app (.bin .neq) [.app (.tproj 0) [.inp 21], .app (.tproj 0) [.inp 20]]], .bool false]] <|
        .cond (.app .pick [.app (.bin .eql) [.app (.eload 1 false) [.app (.eoff 0) [.app (.eidx 11) [.inp 0, .app (.part 0 1 false) [.app (.rowget 3 0 3 true) [.app .app [.app .lst [], .inp 13], .inp 19]]]]], .int .u8 2], .app .pick [.app (.un .not) [.app (.tproj 1) [.inp 21]], .bool true, .app (.bin .neq) [.app (.tproj 0) [.inp 21], .app (.tproj 0) [.inp 20]]], .bool false])
        (.ret (.bool false))
        (.loop 1 22 [.int .i64 0] <|
         .seg [.chk [] .len [.inp 3]] <|
          .seg [.chk [] (.bin .lss) [.inp 22, .app .len [.inp 3]]] <|
          .cond (.app (.bin .lss) [.inp 22, .app .len [.inp 3]])
          (.seg [.chk [] (.eidx 4) [.inp 3, .inp 22]] <|
           .seg [.chk [] (.eload 4 true) [.app (.eidx 4) [.inp 3, .inp 22]]] <|
           .seg [.chk [] (.isAgg 4) [.app (.eload 4 true) [.app (.eidx 4) [.inp 3, .inp 22]]]] <|
           .seg [.call 23 [] 11 [.inp 17, .app (.part 2 1 false) [.app (.eload 4 true) [.app (.eidx 4) [.inp 3, .inp 22]]]] false] <|
           .seg [.chk [] (.tproj 0) [.inp 23]] <|
           .seg [.chk [] (.tproj 1) [.inp 23]] <|
           .seg [.chk [] (.bin .eql) [.app (.part 0 1 false) [.app (.eload 4 true) [.app (.eidx 4) [.inp 3, .inp 22]]], .app (.part 0 1 false) [.app (.rowget 3 0 3 true) [.app .app [.app .lst [], .inp 13], .inp 19]]]] <|
           .seg [.chk [(.app (.bin .eql) [.app (.part 0 1 false) [.app (.eload 4 true) [.app (.eidx 4) [.inp 3, .inp 22]]], .app (.part 0 1 false) [.app (.rowget 3 0 3 true) [.app .app [.app .lst [], .inp 13], .inp 19]]], true)] (.bin .eql) [.app (.part 1 1 false) [.app (.eload 4 true) [.app (.eidx 4) [.inp 3, .inp 22]]], .app (.tproj 0) [.inp 20]]] <|
           .seg [.chk [] .pick [.app (.bin .eql) [.app (.part 0 1 false) [.app (.eload 4 true) [.app (.eidx 4) [.inp 3, .inp 22]]], .app (.part 0 1 false) [.app (.rowget 3 0 3 true) [.app .app [.app .lst [], .inp 13], .inp 19]]], .app (.bin .eql) [.app (.part 1 1 false) [.app (.eload 4 true) [.app (.eidx 4) [.inp 3, .inp 22]]], .app (.tproj 0) [.inp 20]], .bool false]] <|
           .seg [.chk [(.app .pick [.app (.bin .eql) [.app (.part 0 1 false) [.app (.eload 4 true) [.app (.eidx 4) [.inp 3, .inp 22]]], .app (.part 0 1 false) [.app (.rowget 3 0 3 true) [.app .app [.app .lst [], .inp 13], .inp 19]]], .app (.bin .eql) [.app (.part 1 1 false) [.app (.eload 4 true) [.app (.eidx 4) [.inp 3, .inp 22]]], .app (.tproj 0) [.inp 20]], .bool false], true)] (.un .not) [.app (.tproj 1) [.inp 23]]] <|
           .seg [.chk [(.app (.un .not) [.app (.tproj 1) [.inp 23]], false), (.app .pick [.app (.bin .eql) [.app (.part 0 1 false) [.app (.eload 4 true) [.app (.eidx 4) [.inp 3, .inp 22]]], .app (.part 0 1 false) [.app (.rowget 3 0 3 true) [.app .app [.app .lst [], .inp 13], .inp 19]]], .app (.bin .eql) [.app (.part 1 1 false) [.app (.eload 4 true) [.app (.eidx 4) [.inp 3, .inp 22]]], .app (.tproj 0) [.inp 20]], .bool false], true)] (.bin .neq) [.app (.tproj 0) [.inp 23], .app (.part 3 1 false) [.app (.eload 4 true) [.app (.eidx 4) [.inp 3, .inp 22]]]]] <|
           .seg [.chk [(.app .pick [.app (.bin .eql) [.app (.part 0 1 false) [.app (.eload 4 true) [.app (.eidx 4) [.inp 3, .inp 22]]], .app (.part 0 1 false) [.app (.rowget 3 0 3 true) [.app .app [.app .lst [], .inp 13], .inp 19]]], .app (.bin .eql) [.app (.part 1 1 false) [.app (.eload 4 true) [.app (.eidx 4) [.inp 3, .inp 22]]], .app (.tproj 0) [.inp 20]], .bool false], true)] .pick [.app (.un .not) [.app (.tproj 1) [.inp 23]], .bool true, .app (.bin .neq) [.app (.tproj 0) [.inp 23], .app (.part 3 1 false) [.app (.eload 4 true) [.app (.eidx 4) [.inp 3, .inp 22]]]]]] <|
           .seg [.chk [] .pick [.app .pick [.app (.bin .eql) [.app (.part 0 1 false) [.app (.eload 4 true) [.app (.eidx 4) [.inp 3, .inp 22]]], .app (.part 0 1 false) [.app (.rowget 3 0 3 true) [.app .app [.app .lst [], .inp 13], .inp 19]]], .app (.bin .eql) [.app (.part 1 1 false) [.app (.eload 4 true) [.app (.eidx 4) [.inp 3, .inp 22]]], .app (.tproj 0) [.inp 20]], .bool false], .app .pick [.app (.un .not) [.app (.tproj 1) [.inp 23]], .bool true, .app (.bin .neq) [.app (.tproj 0) [.inp 23], .app (.part 3 1 false) [.app (.eload 4 true) [.app (.eidx 4) [.inp 3, .inp 22]]]]], .bool false]] <|
           .cond (.app .pick [.app .pick [.app (.bin .eql) [.app (.part 0 1 false) [.app (.eload 4 true) [.app (.eidx 4) [.inp 3, .inp 22]]], .app (.part 0 1 false) [.app (.rowget 3 0 3 true) [.app .app [.app .lst [], .inp 13], .inp 19]]], .app (.bin .eql) [.app (.part 1 1 false) [.app (.eload 4 true) [.app (.eidx 4) [.inp 3, .inp 22]]], .app (.tproj 0) [.inp 20]], .bool false], .app .pick [.app (.un .not) [.app (.tproj 1) [.inp 23]], .bool true, .app (.bin .neq) [.app (.tproj 0) [.inp 23], .app (.part 3 1 false) [.app (.eload 4 true) [.app (.eidx 4) [.inp 3, .inp 22]]]]], .bool false])
           (.ret (.bool false))
           (.seg [.chk [] (.bin .add) [.inp 22, .int .i64 1]] <|
            .again 1 [.app (.bin .add) [.inp 22, .int .i64 1]]))
          (.seg [.chk [] (.bin .add) [.inp 19, .int .i64 1]] <|
           .again 0 [.app (.bin .add) [.inp 19, .int .i64 1]])))
       (.seg [.chk [] (.bin .add) [.inp 19, .int .i64 1]] <|
        .again 0 [.app (.bin .add) [.inp 19, .int .i64 1]]))
      (.seg [.call 20 [] 9 [] false] <|
       .ret (.inp 20)))))
theorem run_lockbarlaw13_NeedOne : runF E 3 [.agg [.inp 0, .inp 1, .inp 2, .inp 3, .inp 4, .inp 5, .inp 6, .inp 7, .inp 8, .inp 9, .inp 10], .agg [.inp 11, .inp 12, .inp 13]] 14 = rt_lockbarlaw13_NeedOne := by kernel_rfl


end Go.Lb.LK

namespace Go.Lb.LK
open Go Go.Lb Go.Proofs Go.RowKit

theorem wants_k {l : Lay} {s : Step} {k : Int} {x : Need} (h : x ∈ wants l s k) : x.k = k := by
  unfold wants at h
  rcases List.mem_append.1 h with h | h
  · split at h
    · simp at h; subst h; rfl
    · cases h
  · obtain ⟨f, _, rfl⟩ := List.mem_map.1 h; rfl
theorem numbered_k (l : Lay) (p : Path) : (∀ x ∈ numbered l p, 0 ≤ x.1 ∧ x.1 ≤ p.steps.length) ∧ (numbered l p).Pairwise (fun x y => x.1 ≤ y.1) := by
  have hA : ∀ x ∈ p.steps.mapIdx (fun k s => ((k : Int), s)), 0 ≤ x.1 ∧ x.1 < p.steps.length := by
    intro x hx
    obtain ⟨i, hi, rfl⟩ := List.mem_mapIdx.1 hx
    simp; omega
  have hB : ∀ x ∈ (over l p.exit).map (fun s => ((p.steps.length : Int), s)), x.1 = p.steps.length := by
    intro x hx
    obtain ⟨s, _, rfl⟩ := List.mem_map.1 hx; rfl
  refine ⟨fun x hx => ?_, ?_⟩
  · rcases List.mem_append.1 hx with h | h
    · have := hA x h; omega
    · have := hB x h; omega
  · unfold numbered
    rw [List.pairwise_append]
    refine ⟨?_, ?_, fun x hx y hy => ?_⟩
    · rw [List.pairwise_iff_getElem]
      intro i j hi hj hij
      simp; omega
    · rw [List.pairwise_map]
      exact List.pairwise_of_forall (fun _ _ => Int.le_refl _)
    · have := hA x hx; have := hB y hy; omega
theorem needOf_k (l : Lay) (p : Path) : (∀ x ∈ needOf l p, 0 ≤ x.k ∧ x.k ≤ p.steps.length) ∧ (needOf l p).Pairwise (fun x y => x.k ≤ y.k) := by
  obtain ⟨h1, h2⟩ := numbered_k l p
  refine ⟨fun x hx => ?_, ?_⟩
  · obtain ⟨y, hy, hx⟩ := List.mem_flatMap.1 hx
    rw [wants_k hx]; exact h1 y hy
  · unfold needOf
    rw [List.pairwise_flatMap]
    refine ⟨fun y hy => ?_, h2.imp fun {a b} hab x hx y hy => by rw [wants_k hx, wants_k hy]; exact hab⟩
    rw [List.pairwise_iff_forall_sublist]
    intro x z hxz
    have hx := hxz.subset (List.mem_cons_self ..)
    have hz := hxz.subset (List.mem_cons_of_mem _ (List.mem_cons_self ..))
    rw [wants_k hx, wants_k hz]; exact Int.le_refl _
theorem point_spec {l : Lay} {s : Step} (h : (point l s).2.2 = true) : (point l s).1 = s.s ∧ ∃ b, secAt l s.s = some b ∧ b.kind = 2 := by
  unfold point at h ⊢
  cases hy : secAt l s.s with
  | none => rw [hy] at h; cases h
  | some y =>
    rw [hy] at h
    simp only at h ⊢
    by_cases hc : (way y.kind s.i s.o).2 = true ∧ y.kind = 2
    · rw [if_pos hc]; exact ⟨rfl, y, rfl, hc.2⟩
    · rw [if_neg hc] at h; cases h
theorem wants_point {l : Lay} (hf : ∀ f ∈ l.flanks, flank6 l f = true) {s : Step} {k : Int} {x : Need} (h : x ∈ wants l s k) : ∃ b, secAt l x.p = some b ∧ b.kind = 2 := by
  unfold wants at h
  rcases List.mem_append.1 h with h | h
  · split at h
    · rename_i hp
      simp at h; subst h
      obtain ⟨h1, h2⟩ := point_spec hp
      rw [h1]; exact h2
    · cases h
  · obtain ⟨f, hm, rfl⟩ := List.mem_map.1 h
    exact flank6_spec (hf f (List.mem_filter.1 hm).1)
theorem fine_at {l : Lay} {p : Path} (h : fine l p = true) {x : Need} (hx : x ∈ needOf l p) : at' (needOf l p) x.p = (x.pos, true) := by
  have hc : clash (needOf l p) [] = false := by simpa [fine] using h
  unfold clash at hc
  rw [List.append_nil] at hc
  have h1 := List.any_eq_false.1 hc x hx
  have h2 : (at' (needOf l p) x.p).2 = true := at_iff.2 ⟨x, hx, rfl⟩
  have h1 : (at' (needOf l p) x.p).1 = x.pos := by simpa using h1
  exact Prod.ext h1 h2
theorem step_needs {l : Lay} {p : Path} {k : Int} {s : Step} (hs : (k, s) ∈ numbered l p) {x : Need} (hx : x ∈ wants l s k) : x ∈ needOf l p := List.mem_flatMap.2 ⟨(k, s), hs, hx⟩
theorem fine_step {l : Lay} {p : Path} (h : fine l p = true) {k : Int} {s : Step} (hs : (k, s) ∈ numbered l p) {b : Sec} (hb : secAt l s.s = some b) (hk : b.kind = 2) (hw : (lstep l s).2 = true) : at' (needOf l p) s.s = ((lstep l s).1, true) := by
  have hls : lstep l s = way 2 s.i s.o := by simp [lstep, hb, hk]
  have hpt : point l s = (s.s, (way 2 s.i s.o).1, true) := by
    rw [hls] at hw
    simp [point, hb, hk, hw]
  have hx : (⟨s.s, (way 2 s.i s.o).1, k⟩ : Need) ∈ wants l s k := by
    unfold wants
    rw [hpt]
    exact List.mem_append_left _ (by simp)
  have := fine_at h (step_needs hs hx)
  rw [hls]; exact this
theorem fine_flank {l : Lay} {p : Path} (h : fine l p = true) {k : Int} {s : Step} (hs : (k, s) ∈ numbered l p) (hw : (lstep l s).2 = true) {f : Flank} (hf : f ∈ l.flanks) (h1 : f.s = s.s) (h2 : f.way = (lstep l s).1) : at' (needOf l p) f.point = (f.pos, true) := by
  have hx : (⟨f.point, f.pos, k⟩ : Need) ∈ wants l s k := by
    unfold wants
    refine List.mem_append_right _ (List.mem_map.2 ⟨f, List.mem_filter.2 ⟨hf, ?_⟩, rfl⟩)
    simp [flankOn, hw, h1, h2]
  exact fine_at h (step_needs hs hx)
theorem all_steps {l : Lay} {p : Path} {s : Step} (h : s ∈ p.steps ++ over l p.exit) : ∃ k, (k, s) ∈ numbered l p := by
  rcases List.mem_append.1 h with h | h
  · obtain ⟨i, hi, rfl⟩ := List.mem_iff_getElem.1 h
    exact ⟨i, List.mem_append_left _ (List.mem_mapIdx.2 ⟨i, hi, rfl⟩)⟩
  · exact ⟨p.steps.length, List.mem_append_right _ (List.mem_map.2 ⟨s, h, rfl⟩)⟩
end Go.Lb.LK

namespace Go.Lb.LK
open Go Go.Lb Go.Proofs Go.RowKit

theorem c_NeedOne (l : Lay) (hl : l.ok) (p : Path) : C f_lockbarlaw13_NeedOne [l.av, p.av] (.bool true) := by
  refine ctr (l.cells ++ p.cells) run_lockbarlaw13_NeedOne rfl (by simp [pureAll_append]) rfl ?_ rfl
  unfold rt_lockbarlaw13_NeedOne
  simp [Lay.cells, Path.cells]
  refine call (c_great13 l p) (by simp [Lay.cells, Path.cells]) (by simp) ?_
  simp
  have hb : great13 l p = false → l.small ∧ l.flanks.length ≤ 30 ∧ p.steps.length ≤ 30 ∧ l.ovOk ∧ (over l p.exit).length ≤ 20 := by
    intro h
    simp only [great13, Bool.or_eq_false_iff, decide_eq_false_iff_not] at h
    have hs := small_of h.1
    have h4 := great7_small h.1
    refine ⟨hs, h4.2.2.2.1, by omega, fun e he => by have := h4.2.2.2.2 e he; omega, ?_⟩
    unfold over
    split
    · rename_i e he
      by_cases hc : 0 ≤ p.exit ∧ p.exit < l.exits.length
      · obtain ⟨n, hn, hlt, h2⟩ := exitAt_in hc.1 hc.2
        rw [h2] at he
        simp only [Option.some.injEq] at he; subst he
        exact h4.2.2.2.2 _ (List.getElem_mem hlt)
      · rw [exitAt_out hc] at he; cases he
    · simp
  generalize great13 l p = g at hb
  refine callIf (avs := [l.av]) (.bool (right6 l)) rfl (fun h => ⟨by simp [Lay.cells], c_r06_Right l (hb (by simpa using h)).1⟩) (by simp) ?_
  simp
  refine callIf (avs := [l.av, p.av]) (.bool (fine l p)) rfl (fun h => ?_) (by simp) ?_
  · have hg : g = false := by simp at h; exact h.1
    obtain ⟨h1, h2, h3, h4, h5⟩ := hb hg
    exact ⟨by simp [Lay.cells, Path.cells], c_need_Fine l hl h4 h2 p (by omega) (by omega)⟩
  simp
  refine ⟨fun _ => ?_, fun hg hr hf => ?_⟩
  · refine call c_lockbarlaw13_wakes (by simp) (by simp) ?_
    simp
  obtain ⟨h1, h2, h3, h4, h5⟩ := hb hg
  have hfl : ∀ f ∈ l.flanks, flank6 l f = true := by
    have : l.flanks.all (flank6 l) = true := by
      simp only [right6, Bool.and_eq_true] at hr
      exact hr.1.1.1.1.1.2
    exact List.all_eq_true.1 this
  refine call (c_need_Of l hl h4 (by omega) p (by omega) (by omega)) (by simp [Lay.cells, Path.cells]) (by simp) ?_
  simp
  have hA : ∀ x ∈ needOf l p, at' (needOf l p) x.p = (x.pos, true) := fun x hx => fine_at hf hx
  have hP : ∀ x ∈ needOf l p, ∃ b, secAt l x.p = some b ∧ b.kind = 2 := fun x hx => by
    obtain ⟨y, _, hx⟩ := List.mem_flatMap.1 hx
    exact wants_point hfl hx
  obtain ⟨hK, hM⟩ := needOf_k l p
  have hlen := needOf_len l h2 p (by omega) (by omega)
  have hS : ∀ s ∈ p.steps ++ over l p.exit, (lstep l s).2 = true → (∀ b, secAt l s.s = some b → b.kind = 2 → at' (needOf l p) s.s = ((lstep l s).1, true)) ∧ ∀ f ∈ l.flanks, f.s = s.s → f.way = (lstep l s).1 → at' (needOf l p) f.point = (f.pos, true) := fun s hs hw => by
    obtain ⟨k, hk⟩ := all_steps hs
    exact ⟨fun b hb hb2 => fine_step hf hk hb hb2 hw, fun f hff e1 e2 => fine_flank hf hk hw hff e1 e2⟩
  generalize needOf l p = a at hA hP hK hM hlen hS ⊢
  refine RTwp_loop rfl (fun vs => ∃ i : Nat, i ≤ a.length ∧ vs = [I i]) (fun vs => match vs with | [.int _ j] => a.length - j.toNat | _ => 0) ⟨0, by simp, by simp⟩ ?_
  rintro vs - ⟨i, hi, rfl⟩
  simp
  refine ⟨fun hlt => ?_, fun hge => ?_⟩
  · have hw := wrap_succ (i := i) (by omega)
    have hmem := List.getElem_mem hlt
    simp [hlt, Need.cells]
    refine call (c_need_At a (by omega) a[i].p) (by simp [hlt, Need.cells]) (by simp) ?_
    rw [hA _ hmem]
    obtain ⟨b, hb1, hb2⟩ := hP _ hmem
    obtain ⟨q0, q1, _⟩ := secAt_some hb1
    obtain ⟨n, hn, hnl, hsb⟩ := secAt_in q0 q1
    rw [hb1] at hsb
    simp only [Option.some.injEq] at hsb
    have hk2 : l.secs[n].kind = 2 := by rw [← hsb]; exact hb2
    obtain ⟨k0, k1⟩ := hK _ hmem
    cases i with
    | zero =>
      simp [hlt, Need.cells, hn, hnl, Sec.cells, hk2]
      exact ⟨⟨k0, k1⟩, fun _ _ => ⟨⟨1, by omega, w1⟩, by rw [w1]; omega⟩⟩
    | succ j =>
      have hj : j < a.length := by omega
      have wj : IntKind.i64.wrap (j : Int) = j := by rw [wrap_i] <;> omega
      have hw' : IntKind.i64.wrap ((j : Int) + 1 + 1) = ((j + 1 + 1 : Nat) : Int) := by rw [wrap_i] <;> omega
      have hkk := List.pairwise_iff_getElem.1 hM j (j + 1) hj hlt (by omega)
      simp [hlt, hj, Need.cells, hn, hnl, Sec.cells, hk2, wj]
      exact ⟨by omega, fun _ => by omega, fun _ _ => by omega, ⟨⟨k0, k1⟩, hkk⟩, fun _ _ _ => ⟨⟨j + 1 + 1, by omega, hw'⟩, by rw [hw']; omega⟩⟩
  · clear hA hP hK hM
    simp [Step.cells]
    refine ⟨by omega, ?_⟩
    have hc : List.map Step.av p.steps ++ List.map Step.av (over l p.exit) = List.map Step.av (p.steps ++ over l p.exit) := by simp
    have hcl : (p.steps ++ over l p.exit).length ≤ 50 := by simp; omega
    by_cases hx : 0 ≤ p.exit ∧ p.exit < l.exits.length
    · obtain ⟨m, hm, hml, he⟩ := exitAt_in hx.1 hx.2
      have hov : over l p.exit = l.exits[m].over := by simp [over, he]
      rw [hov] at hc hcl hS h5
      have hle : p.steps.length + l.exits[m].over.length ≤ 4294967296 := by omega
      generalize p.steps ++ l.exits[m].over = c at hc hcl hS
      simp [hm, hml, Exi.cells, Step.cells]
      refine ⟨⟨hle, ?_⟩, fun h => absurd h (by omega)⟩
      refine RTwp_loop rfl (fun vs => ∃ k : Nat, k ≤ c.length ∧ vs = [I k]) (fun vs => match vs with | [.int _ j] => c.length - j.toNat | _ => 0) ⟨0, by simp, by simp⟩ ?_
      rintro vs - ⟨k, hk, rfl⟩
      simp [hc, hml, Exi.cells]
      refine ⟨fun hlt => ?_, fun hge => ?_⟩
      · have hw := wrap_succ (i := k) (by omega)
        have hs := hS _ (List.getElem_mem hlt)
        simp [hlt, hc, hml, Exi.cells, Step.cells]
        refine call (c_r06_Step l c[k]) (by simp [hlt, hc, hml, Exi.cells, Step.cells, Lay.cells]) (by simp) ?_
        simp
        refine ⟨fun hon => ?_, fun hon => ⟨⟨k + 1, by omega, hw⟩, by rw [hw]; omega⟩⟩
        obtain ⟨hs1, hs2⟩ := hs hon
        obtain ⟨b, hb1⟩ : ∃ b, secAt l c[k].s = some b := by
          cases hb1 : secAt l c[k].s with
          | none => simp [lstep, hb1] at hon
          | some b => exact ⟨b, rfl⟩
        obtain ⟨q0, q1, _⟩ := secAt_some hb1
        obtain ⟨n, hn, hnl, hsb⟩ := secAt_in q0 q1
        have hk2 : l.secs[n].kind = 2 → at' a c[k].s = ((lstep l c[k]).1, true) := fun h => hs1 _ hsb h
        refine call (c_need_At a (by omega) c[k].s) (by simp [hlt, hc, hml, Exi.cells, Step.cells]) (by simp) ?_
        generalize at' a c[k].s = ab at hk2
        simp [hlt, hc, hml, Exi.cells, Step.cells, hn, hnl, Sec.cells]
        refine ⟨fun h => by rw [hk2 h]; exact ⟨rfl, rfl⟩, fun _ => ?_⟩
        refine RTwp_loop rfl (fun vs => ∃ j : Nat, j ≤ l.flanks.length ∧ vs = [I j]) (fun vs => match vs with | [.int _ j] => l.flanks.length - j.toNat | _ => 0) ⟨0, by simp, by simp⟩ ?_
        rintro vs - ⟨j, hj, rfl⟩
        simp
        refine ⟨fun hjl => ?_, fun hjl => ⟨⟨k + 1, by omega, hw⟩, by rw [hw]; omega⟩⟩
        have hwj := wrap_succ (i := j) (by omega)
        have hfj := hs2 _ (List.getElem_mem hjl)
        simp [hlt, hc, hml, Exi.cells, Step.cells, hjl, Flank.cells]
        refine call (c_need_At a (by omega) l.flanks[j].point) (by simp [hjl, Flank.cells]) (by simp) ?_
        generalize at' a l.flanks[j].point = af at hfj
        simp [hlt, hc, hml, Exi.cells, Step.cells, hjl, Flank.cells]
        exact ⟨fun e1 e2 => by rw [hfj e1 e2]; exact ⟨rfl, rfl⟩, fun _ => ⟨⟨j + 1, by omega, hwj⟩, by rw [hwj]; omega⟩⟩
      · refine call c_lockbarlaw13_wakes (by simp) (by simp) ?_
        simp
    · have hov : over l p.exit = [] := by simp [over, exitAt_out hx]
      rw [hov, List.append_nil] at hcl hS
      refine ⟨fun a b => absurd ⟨a, b⟩ hx, fun _ => ?_⟩
      generalize p.steps = c at hcl hS ⊢
      refine RTwp_loop rfl (fun vs => ∃ k : Nat, k ≤ c.length ∧ vs = [I k]) (fun vs => match vs with | [.int _ j] => c.length - j.toNat | _ => 0) ⟨0, by simp, by simp⟩ ?_
      rintro vs - ⟨k, hk, rfl⟩
      simp
      refine ⟨fun hlt => ?_, fun hge => ?_⟩
      · have hw := wrap_succ (i := k) (by omega)
        have hs := hS _ (List.getElem_mem hlt)
        simp [hlt, Step.cells]
        refine call (c_r06_Step l c[k]) (by simp [hlt, Step.cells, Lay.cells]) (by simp) ?_
        simp
        refine ⟨fun hon => ?_, fun hon => ⟨⟨k + 1, by omega, hw⟩, by rw [hw]; omega⟩⟩
        obtain ⟨hs1, hs2⟩ := hs hon
        obtain ⟨b, hb1⟩ : ∃ b, secAt l c[k].s = some b := by
          cases hb1 : secAt l c[k].s with
          | none => simp [lstep, hb1] at hon
          | some b => exact ⟨b, rfl⟩
        obtain ⟨q0, q1, _⟩ := secAt_some hb1
        obtain ⟨n, hn, hnl, hsb⟩ := secAt_in q0 q1
        have hk2 : l.secs[n].kind = 2 → at' a c[k].s = ((lstep l c[k]).1, true) := fun h => hs1 _ hsb h
        refine call (c_need_At a (by omega) c[k].s) (by simp [hlt, Step.cells]) (by simp) ?_
        generalize at' a c[k].s = ab at hk2
        simp [hlt, Step.cells, hn, hnl, Sec.cells]
        refine ⟨fun h => by rw [hk2 h]; exact ⟨rfl, rfl⟩, fun _ => ?_⟩
        refine RTwp_loop rfl (fun vs => ∃ j : Nat, j ≤ l.flanks.length ∧ vs = [I j]) (fun vs => match vs with | [.int _ j] => l.flanks.length - j.toNat | _ => 0) ⟨0, by simp, by simp⟩ ?_
        rintro vs - ⟨j, hj, rfl⟩
        simp
        refine ⟨fun hjl => ?_, fun hjl => ⟨⟨k + 1, by omega, hw⟩, by rw [hw]; omega⟩⟩
        have hwj := wrap_succ (i := j) (by omega)
        have hfj := hs2 _ (List.getElem_mem hjl)
        simp [hlt, Step.cells, hjl, Flank.cells]
        refine call (c_need_At a (by omega) l.flanks[j].point) (by simp [hjl, Flank.cells]) (by simp) ?_
        generalize at' a l.flanks[j].point = af at hfj
        simp [hlt, Step.cells, hjl, Flank.cells]
        exact ⟨fun e1 e2 => by rw [hfj e1 e2]; exact ⟨rfl, rfl⟩, fun _ => ⟨⟨j + 1, by omega, hwj⟩, by rw [hwj]; omega⟩⟩
      · refine call c_lockbarlaw13_wakes (by simp) (by simp) ?_
        simp
end Go.Lb.LK
