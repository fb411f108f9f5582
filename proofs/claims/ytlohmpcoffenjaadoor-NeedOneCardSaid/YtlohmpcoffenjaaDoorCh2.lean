/- What functions come to, printed by a program, checked by the kernel. -/
import Derived.Test.YtlohmpcoffenjaaDoorCh1
set_option linter.unusedSimpArgs false
set_option linter.unusedVariables false
namespace Go.Lb.LK
open Go Go.Lb Go.Proofs
noncomputable def rt_slices_Sort_int : RT :=
 .seg [.chk [] .len [.nils]] <|
 .seg [.chk [] (.conv .u64) [.int .i64 0]] <|
 .seg [.call 0 [] 43 [.int .u64 0] false] <|
 .loop 0 1 [] <|
 .seg [.chk [] (.bin .sub) [.int .i64 0, .int .i64 0]] <|
  .seg [.chk [] (.bin .leq) [.int .i64 0, .int .i64 12]] <|
  .seg [.chk [] (.bin .add) [.int .i64 0, .int .i64 1]] <|
  .loop 1 1 [] <|
  .seg [.chk [] (.bin .lss) [.int .i64 1, .int .i64 0]] <|
   .ret (.tup [])
theorem run_slices_Sort_int : runF ES 29 [.nils] 0 = rt_slices_Sort_int := by kernel_rfl

noncomputable def rt_port_of : RT :=
 .seg [.chk [] (.conv .i64) [.inp 0]] <|
 .seg [.chk [] (.bin .lss) [.app (.conv .i64) [.inp 0], .int .i64 4]] <|
 .cond (.app (.bin .lss) [.app (.conv .i64) [.inp 0], .int .i64 4])
 (.seg [.chk [] (.eaidx 4 7) [.ref [.int .i64 0, .int .i64 0, .int .i64 0, .int .i64 0, .int .i64 0, .int .i64 0, .bool false, .int .i64 2, .int .i64 0, .int .i64 1, .int .i64 0, .int .i64 0, .int .i64 1, .bool false, .int .i64 3, .int .i64 0, .int .i64 1, .int .i64 0, .int .i64 2, .int .i64 2, .bool true, .int .i64 4, .int .i64 0, .int .i64 1, .int .i64 2, .int .i64 3, .int .i64 2, .bool false] 0, .inp 0]] <|
  .seg [.chk [] (.eload 7 true) [.app (.eaidx 4 7) [.ref [.int .i64 0, .int .i64 0, .int .i64 0, .int .i64 0, .int .i64 0, .int .i64 0, .bool false, .int .i64 2, .int .i64 0, .int .i64 1, .int .i64 0, .int .i64 0, .int .i64 1, .bool false, .int .i64 3, .int .i64 0, .int .i64 1, .int .i64 0, .int .i64 2, .int .i64 2, .bool true, .int .i64 4, .int .i64 0, .int .i64 1, .int .i64 2, .int .i64 3, .int .i64 2, .bool false] 0, .inp 0]]] <|
  .seg [.chk [] (.isAgg 7) [.app (.eload 7 true) [.app (.eaidx 4 7) [.ref [.int .i64 0, .int .i64 0, .int .i64 0, .int .i64 0, .int .i64 0, .int .i64 0, .bool false, .int .i64 2, .int .i64 0, .int .i64 1, .int .i64 0, .int .i64 0, .int .i64 1, .bool false, .int .i64 3, .int .i64 0, .int .i64 1, .int .i64 0, .int .i64 2, .int .i64 2, .bool true, .int .i64 4, .int .i64 0, .int .i64 1, .int .i64 2, .int .i64 3, .int .i64 2, .bool false] 0, .inp 0]]]] <|
  .ret (.agg [.app (.part 0 1 false) [.app (.eload 7 true) [.app (.eaidx 4 7) [.ref [.int .i64 0, .int .i64 0, .int .i64 0, .int .i64 0, .int .i64 0, .int .i64 0, .bool false, .int .i64 2, .int .i64 0, .int .i64 1, .int .i64 0, .int .i64 0, .int .i64 1, .bool false, .int .i64 3, .int .i64 0, .int .i64 1, .int .i64 0, .int .i64 2, .int .i64 2, .bool true, .int .i64 4, .int .i64 0, .int .i64 1, .int .i64 2, .int .i64 3, .int .i64 2, .bool false] 0, .inp 0]]], .app (.part 1 1 false) [.app (.eload 7 true) [.app (.eaidx 4 7) [.ref [.int .i64 0, .int .i64 0, .int .i64 0, .int .i64 0, .int .i64 0, .int .i64 0, .bool false, .int .i64 2, .int .i64 0, .int .i64 1, .int .i64 0, .int .i64 0, .int .i64 1, .bool false, .int .i64 3, .int .i64 0, .int .i64 1, .int .i64 0, .int .i64 2, .int .i64 2, .bool true, .int .i64 4, .int .i64 0, .int .i64 1, .int .i64 2, .int .i64 3, .int .i64 2, .bool false] 0, .inp 0]]], .app (.part 2 1 false) [.app (.eload 7 true) [.app (.eaidx 4 7) [.ref [.int .i64 0, .int .i64 0, .int .i64 0, .int .i64 0, .int .i64 0, .int .i64 0, .bool false, .int .i64 2, .int .i64 0, .int .i64 1, .int .i64 0, .int .i64 0, .int .i64 1, .bool false, .int .i64 3, .int .i64 0, .int .i64 1, .int .i64 0, .int .i64 2, .int .i64 2, .bool true, .int .i64 4, .int .i64 0, .int .i64 1, .int .i64 2, .int .i64 3, .int .i64 2, .bool false] 0, .inp 0]]], .app (.part 3 1 false) [.app (.eload 7 true) [.app (.eaidx 4 7) [.ref [.int .i64 0, .int .i64 0, .int .i64 0, .int .i64 0, .int .i64 0, .int .i64 0, .bool false, .int .i64 2, .int .i64 0, .int .i64 1, .int .i64 0, .int .i64 0, .int .i64 1, .bool false, .int .i64 3, .int .i64 0, .int .i64 1, .int .i64 0, .int .i64 2, .int .i64 2, .bool true, .int .i64 4, .int .i64 0, .int .i64 1, .int .i64 2, .int .i64 3, .int .i64 2, .bool false] 0, .inp 0]]], .app (.part 4 1 false) [.app (.eload 7 true) [.app (.eaidx 4 7) [.ref [.int .i64 0, .int .i64 0, .int .i64 0, .int .i64 0, .int .i64 0, .int .i64 0, .bool false, .int .i64 2, .int .i64 0, .int .i64 1, .int .i64 0, .int .i64 0, .int .i64 1, .bool false, .int .i64 3, .int .i64 0, .int .i64 1, .int .i64 0, .int .i64 2, .int .i64 2, .bool true, .int .i64 4, .int .i64 0, .int .i64 1, .int .i64 2, .int .i64 3, .int .i64 2, .bool false] 0, .inp 0]]], .app (.part 5 1 false) [.app (.eload 7 true) [.app (.eaidx 4 7) [.ref [.int .i64 0, .int .i64 0, .int .i64 0, .int .i64 0, .int .i64 0, .int .i64 0, .bool false, .int .i64 2, .int .i64 0, .int .i64 1, .int .i64 0, .int .i64 0, .int .i64 1, .bool false, .int .i64 3, .int .i64 0, .int .i64 1, .int .i64 0, .int .i64 2, .int .i64 2, .bool true, .int .i64 4, .int .i64 0, .int .i64 1, .int .i64 2, .int .i64 3, .int .i64 2, .bool false] 0, .inp 0]]], .app (.part 6 1 false) [.app (.eload 7 true) [.app (.eaidx 4 7) [.ref [.int .i64 0, .int .i64 0, .int .i64 0, .int .i64 0, .int .i64 0, .int .i64 0, .bool false, .int .i64 2, .int .i64 0, .int .i64 1, .int .i64 0, .int .i64 0, .int .i64 1, .bool false, .int .i64 3, .int .i64 0, .int .i64 1, .int .i64 0, .int .i64 2, .int .i64 2, .bool true, .int .i64 4, .int .i64 0, .int .i64 1, .int .i64 2, .int .i64 3, .int .i64 2, .bool false] 0, .inp 0]]]]))
 (.ret (.agg [.int .i64 0, .int .i64 0, .int .i64 0, .int .i64 0, .int .i64 0, .int .i64 0, .bool false]))
theorem run_port_of : runF E 63 [.inp 0] 1 = rt_port_of := by kernel_rfl

noncomputable def rt_port_Way : RT :=
 .seg [.chk [] .isOne [.inp 2]] <|
 .seg [.chk [] .isOne [.inp 0]] <|
 .seg [.chk [] .isOne [.inp 1]] <|
 .seg [.call 3 [] 63 [.inp 0] false] <|
 .seg [.chk [] (.isAgg 7) [.inp 3]] <|
 .seg [.chk [] (.slice false true) [.app .lst [.agg [.app (.part 1 1 false) [.inp 3], .app (.part 2 1 false) [.inp 3]], .agg [.app (.part 3 1 false) [.inp 3], .app (.part 4 1 false) [.inp 3]]], .app (.part 5 1 false) [.inp 3]]] <|
 .seg [.chk [] .len [.app (.slice false true) [.app .lst [.agg [.app (.part 1 1 false) [.inp 3], .app (.part 2 1 false) [.inp 3]], .agg [.app (.part 3 1 false) [.inp 3], .app (.part 4 1 false) [.inp 3]]], .app (.part 5 1 false) [.inp 3]]]] <|
 .loop 0 4 [.int .i64 0] <|
 .seg [.chk [] (.bin .lss) [.inp 4, .app .len [.app (.slice false true) [.app .lst [.agg [.app (.part 1 1 false) [.inp 3], .app (.part 2 1 false) [.inp 3]], .agg [.app (.part 3 1 false) [.inp 3], .app (.part 4 1 false) [.inp 3]]], .app (.part 5 1 false) [.inp 3]]]]] <|
  .cond (.app (.bin .lss) [.inp 4, .app .len [.app (.slice false true) [.app .lst [.agg [.app (.part 1 1 false) [.inp 3], .app (.part 2 1 false) [.inp 3]], .agg [.app (.part 3 1 false) [.inp 3], .app (.part 4 1 false) [.inp 3]]], .app (.part 5 1 false) [.inp 3]]]])
  (.seg [.chk [] (.eidx 2) [.app (.slice false true) [.app .lst [.agg [.app (.part 1 1 false) [.inp 3], .app (.part 2 1 false) [.inp 3]], .agg [.app (.part 3 1 false) [.inp 3], .app (.part 4 1 false) [.inp 3]]], .app (.part 5 1 false) [.inp 3]], .inp 4]] <|
   .seg [.chk [] (.eload 2 true) [.app (.eidx 2) [.app (.slice false true) [.app .lst [.agg [.app (.part 1 1 false) [.inp 3], .app (.part 2 1 false) [.inp 3]], .agg [.app (.part 3 1 false) [.inp 3], .app (.part 4 1 false) [.inp 3]]], .app (.part 5 1 false) [.inp 3]], .inp 4]]] <|
   .seg [.chk [] (.isAgg 2) [.app (.eload 2 true) [.app (.eidx 2) [.app (.slice false true) [.app .lst [.agg [.app (.part 1 1 false) [.inp 3], .app (.part 2 1 false) [.inp 3]], .agg [.app (.part 3 1 false) [.inp 3], .app (.part 4 1 false) [.inp 3]]], .app (.part 5 1 false) [.inp 3]], .inp 4]]]] <|
   .seg [.chk [] (.bin .eql) [.app (.part 0 1 false) [.app (.eload 2 true) [.app (.eidx 2) [.app (.slice false true) [.app .lst [.agg [.app (.part 1 1 false) [.inp 3], .app (.part 2 1 false) [.inp 3]], .agg [.app (.part 3 1 false) [.inp 3], .app (.part 4 1 false) [.inp 3]]], .app (.part 5 1 false) [.inp 3]], .inp 4]]], .inp 1]] <|
   .cond (.app (.bin .eql) [.app (.part 0 1 false) [.app (.eload 2 true) [.app (.eidx 2) [.app (.slice false true) [.app .lst [.agg [.app (.part 1 1 false) [.inp 3], .app (.part 2 1 false) [.inp 3]], .agg [.app (.part 3 1 false) [.inp 3], .app (.part 4 1 false) [.inp 3]]], .app (.part 5 1 false) [.inp 3]], .inp 4]]], .inp 1])
   (.seg [.chk [] (.bin .eql) [.app (.part 1 1 false) [.app (.eload 2 true) [.app (.eidx 2) [.app (.slice false true) [.app .lst [.agg [.app (.part 1 1 false) [.inp 3], .app (.part 2 1 false) [.inp 3]], .agg [.app (.part 3 1 false) [.inp 3], .app (.part 4 1 false) [.inp 3]]], .app (.part 5 1 false) [.inp 3]], .inp 4]]], .inp 2]] <|
    .cond (.app (.bin .eql) [.app (.part 1 1 false) [.app (.eload 2 true) [.app (.eidx 2) [.app (.slice false true) [.app .lst [.agg [.app (.part 1 1 false) [.inp 3], .app (.part 2 1 false) [.inp 3]], .agg [.app (.part 3 1 false) [.inp 3], .app (.part 4 1 false) [.inp 3]]], .app (.part 5 1 false) [.inp 3]], .inp 4]]], .inp 2])
    (.seg [.chk [] .isOne [.inp 4]] <|
     .seg [.chk [] (.un .not) [.bool false]] <|
     .seg [.chk [] .isOne [.inp 4]] <|
     .ret (.tup [.inp 4, .bool true]))
    (.seg [.chk [] (.un .not) [.bool true]] <|
     .seg [.chk [] (.bin .eql) [.app (.part 1 1 false) [.app (.eload 2 true) [.app (.eidx 2) [.app (.slice false true) [.app .lst [.agg [.app (.part 1 1 false) [.inp 3], .app (.part 2 1 false) [.inp 3]], .agg [.app (.part 3 1 false) [.inp 3], .app (.part 4 1 false) [.inp 3]]], .app (.part 5 1 false) [.inp 3]], .inp 4]]], .inp 1]] <|
     .cond (.app (.bin .eql) [.app (.part 1 1 false) [.app (.eload 2 true) [.app (.eidx 2) [.app (.slice false true) [.app .lst [.agg [.app (.part 1 1 false) [.inp 3], .app (.part 2 1 false) [.inp 3]], .agg [.app (.part 3 1 false) [.inp 3], .app (.part 4 1 false) [.inp 3]]], .app (.part 5 1 false) [.inp 3]], .inp 4]]], .inp 1])
     (.seg [.chk [] (.bin .eql) [.app (.part 0 1 false) [.app (.eload 2 true) [.app (.eidx 2) [.app (.slice false true) [.app .lst [.agg [.app (.part 1 1 false) [.inp 3], .app (.part 2 1 false) [.inp 3]], .agg [.app (.part 3 1 false) [.inp 3], .app (.part 4 1 false) [.inp 3]]], .app (.part 5 1 false) [.inp 3]], .inp 4]]], .inp 2]] <|
      .cond (.app (.bin .eql) [.app (.part 0 1 false) [.app (.eload 2 true) [.app (.eidx 2) [.app (.slice false true) [.app .lst [.agg [.app (.part 1 1 false) [.inp 3], .app (.part 2 1 false) [.inp 3]], .agg [.app (.part 3 1 false) [.inp 3], .app (.part 4 1 false) [.inp 3]]], .app (.part 5 1 false) [.inp 3]], .inp 4]]], .inp 2])
      (.seg [.chk [] .isOne [.inp 4]] <|
       .seg [.chk [] (.un .not) [.bool false]] <|
       .seg [.chk [] .isOne [.inp 4]] <|
       .ret (.tup [.inp 4, .bool true]))
      (.seg [.chk [] (.un .not) [.bool true]] <|
       .seg [.chk [] (.bin .add) [.inp 4, .int .i64 1]] <|
       .again 0 [.app (.bin .add) [.inp 4, .int .i64 1]]))
     (.seg [.chk [] (.bin .add) [.inp 4, .int .i64 1]] <|
      .again 0 [.app (.bin .add) [.inp 4, .int .i64 1]])))
   (.seg [.chk [] (.bin .eql) [.app (.part 1 1 false) [.app (.eload 2 true) [.app (.eidx 2) [.app (.slice false true) [.app .lst [.agg [.app (.part 1 1 false) [.inp 3], .app (.part 2 1 false) [.inp 3]], .agg [.app (.part 3 1 false) [.inp 3], .app (.part 4 1 false) [.inp 3]]], .app (.part 5 1 false) [.inp 3]], .inp 4]]], .inp 1]] <|
    .cond (.app (.bin .eql) [.app (.part 1 1 false) [.app (.eload 2 true) [.app (.eidx 2) [.app (.slice false true) [.app .lst [.agg [.app (.part 1 1 false) [.inp 3], .app (.part 2 1 false) [.inp 3]], .agg [.app (.part 3 1 false) [.inp 3], .app (.part 4 1 false) [.inp 3]]], .app (.part 5 1 false) [.inp 3]], .inp 4]]], .inp 1])
    (.seg [.chk [] (.bin .eql) [.app (.part 0 1 false) [.app (.eload 2 true) [.app (.eidx 2) [.app (.slice false true) [.app .lst [.agg [.app (.part 1 1 false) [.inp 3], .app (.part 2 1 false) [.inp 3]], .agg [.app (.part 3 1 false) [.inp 3], .app (.part 4 1 false) [.inp 3]]], .app (.part 5 1 false) [.inp 3]], .inp 4]]], .inp 2]] <|
     .cond (.app (.bin .eql) [.app (.part 0 1 false) [.app (.eload 2 true) [.app (.eidx 2) [.app (.slice false true) [.app .lst [.agg [.app (.part 1 1 false) [.inp 3], .app (.part 2 1 false) [.inp 3]], .agg [.app (.part 3 1 false) [.inp 3], .app (.part 4 1 false) [.inp 3]]], .app (.part 5 1 false) [.inp 3]], .inp 4]]], .inp 2])
     (.seg [.chk [] .isOne [.inp 4]] <|
      .seg [.chk [] (.un .not) [.bool false]] <|
      .seg [.chk [] .isOne [.inp 4]] <|
      .ret (.tup [.inp 4, .bool true]))
     (.seg [.chk [] (.un .not) [.bool true]] <|
      .seg [.chk [] (.bin .add) [.inp 4, .int .i64 1]] <|
      .again 0 [.app (.bin .add) [.inp 4, .int .i64 1]]))
    (.seg [.chk [] (.bin .add) [.inp 4, .int .i64 1]] <|
     .again 0 [.app (.bin .add) [.inp 4, .int .i64 1]])))
  (.ret (.tup [.int .i64 0, .bool false]))
theorem run_port_Way : runF E 62 [.inp 0, .inp 1, .inp 2] 3 = rt_port_Way := by kernel_rfl

noncomputable def rt_port_Pos : RT :=
 .seg [.call 3 [] 62 [.inp 0, .inp 1, .inp 2] false] <|
 .seg [.chk [] (.tproj 0) [.inp 3]] <|
 .seg [.chk [] (.tproj 1) [.inp 3]] <|
 .seg [.call 4 [(.app (.tproj 1) [.inp 3], true)] 63 [.inp 0] false] <|
 .seg [.chk [(.app (.tproj 1) [.inp 3], true)] (.part 6 1 false) [.inp 4]] <|
 .seg [.chk [(.app (.tproj 1) [.inp 3], true)] (.un .not) [.app (.part 6 1 false) [.inp 4]]] <|
 .seg [.chk [] .pick [.app (.tproj 1) [.inp 3], .app (.un .not) [.app (.part 6 1 false) [.inp 4]], .bool false]] <|
 .cond (.app .pick [.app (.tproj 1) [.inp 3], .app (.un .not) [.app (.part 6 1 false) [.inp 4]], .bool false])
 (.ret (.tup [.int .i64 (-1), .app (.tproj 1) [.inp 3]]))
 (.ret (.tup [.app (.tproj 0) [.inp 3], .app (.tproj 1) [.inp 3]]))
theorem run_port_Pos : runF E 48 [.inp 0, .inp 1, .inp 2] 3 = rt_port_Pos := by kernel_rfl

noncomputable def rt_layout_Step : RT :=
 .seg [.chk [] (.isAgg 11) [.agg [.inp 0, .inp 1, .inp 2, .inp 3, .inp 4, .inp 5, .inp 6, .inp 7, .inp 8, .inp 9, .inp 10]]] <|
 .seg [.chk [] (.isAgg 3) [.agg [.inp 11, .inp 12, .inp 13]]] <|
 .seg [.chk [] (.isAgg 11) [.agg [.inp 0, .inp 1, .inp 2, .inp 3, .inp 4, .inp 5, .inp 6, .inp 7, .inp 8, .inp 9, .inp 10]]] <|
 .seg [.chk [] (.bin .geq) [.inp 11, .int .i64 0]] <|
 .seg [.chk [(.app (.bin .geq) [.inp 11, .int .i64 0], true)] .len [.inp 0]] <|
 .seg [.chk [(.app (.bin .geq) [.inp 11, .int .i64 0], true)] (.bin .lss) [.inp 11, .app .len [.inp 0]]] <|
 .seg [.chk [] .pick [.app (.bin .geq) [.inp 11, .int .i64 0], .app (.bin .lss) [.inp 11, .app .len [.inp 0]], .bool false]] <|
 .seg [.chk [] (.un .not) [.app .pick [.app (.bin .geq) [.inp 11, .int .i64 0], .app (.bin .lss) [.inp 11, .app .len [.inp 0]], .bool false]]] <|
 .cond (.app .pick [.app (.bin .geq) [.inp 11, .int .i64 0], .app (.bin .lss) [.inp 11, .app .len [.inp 0]], .bool false])
 (.seg [.chk [] (.eidx 11) [.inp 0, .inp 11],
  .chk [] (.eoff 0) [.app (.eidx 11) [.inp 0, .inp 11]],
  .chk [] (.eload 1 false) [.app (.eoff 0) [.app (.eidx 11) [.inp 0, .inp 11]]],
  .call 14 [] 62 [.app (.eload 1 false) [.app (.eoff 0) [.app (.eidx 11) [.inp 0, .inp 11]]], .inp 12, .inp 13] false,
  .chk [] (.tproj 0) [.inp 14],
  .chk [] (.tproj 1) [.inp 14]] <|
  .ret (.tup [.app (.tproj 0) [.inp 14], .app (.tproj 1) [.inp 14]]))
 (.ret (.tup [.int .i64 0, .bool false]))
theorem run_layout_Step : runF E 47 [.agg [.inp 0, .inp 1, .inp 2, .inp 3, .inp 4, .inp 5, .inp 6, .inp 7, .inp 8, .inp 9, .inp 10], .agg [.inp 11, .inp 12, .inp 13]] 14 = rt_layout_Step := by kernel_rfl

noncomputable def rt_slices_Clone_Step : RT :=
 .seg [.chk [] .len [.inp 0],
 .isNil 1 [] (.inp 0)] <|
 .cond (.inp 1)
 (.ret (.nils))
 (.seg [.chk [] (.szs 3) [.inp 0],
  .chk [] .app [.app .lst [], .inp 0]] <|
  .ret (.app .app [.app .lst [], .inp 0]))
theorem run_slices_Clone_Step : runF E 46 [.inp 0] 1 = rt_slices_Clone_Step := by kernel_rfl

noncomputable def rt_beyond_Over : RT :=
 .seg [.chk [] (.isAgg 11) [.agg [.inp 0, .inp 1, .inp 2, .inp 3, .inp 4, .inp 5, .inp 6, .inp 7, .inp 8, .inp 9, .inp 10]]] <|
 .seg [.chk [] (.bin .lss) [.inp 11, .int .i64 0]] <|
 .seg [.chk [(.app (.bin .lss) [.inp 11, .int .i64 0], false)] .len [.inp 2]] <|
 .seg [.chk [(.app (.bin .lss) [.inp 11, .int .i64 0], false)] (.bin .geq) [.inp 11, .app .len [.inp 2]]] <|
 .seg [.chk [] .pick [.app (.bin .lss) [.inp 11, .int .i64 0], .bool true, .app (.bin .geq) [.inp 11, .app .len [.inp 2]]]] <|
 .cond (.app .pick [.app (.bin .lss) [.inp 11, .int .i64 0], .bool true, .app (.bin .geq) [.inp 11, .app .len [.inp 2]]])
 (.ret (.nils))
 (.seg [.chk [] (.eidx 3) [.inp 2, .inp 11]] <|
  .seg [.chk [] (.eoff 2) [.app (.eidx 3) [.inp 2, .inp 11]]] <|
  .seg [.chk [] (.eload 1 false) [.app (.eoff 2) [.app (.eidx 3) [.inp 2, .inp 11]]]] <|
  .seg [.call 12 [] 46 [.app (.eload 1 false) [.app (.eoff 2) [.app (.eidx 3) [.inp 2, .inp 11]]]] false] <|
  .ret (.inp 12))
theorem run_beyond_Over : runF E 36 [.agg [.inp 0, .inp 1, .inp 2, .inp 3, .inp 4, .inp 5, .inp 6, .inp 7, .inp 8, .inp 9, .inp 10], .inp 11] 12 = rt_beyond_Over := by kernel_rfl

noncomputable def rt_beyond_Point : RT :=
 .seg [.chk [] (.isAgg 11) [.agg [.inp 0, .inp 1, .inp 2, .inp 3, .inp 4, .inp 5, .inp 6, .inp 7, .inp 8, .inp 9, .inp 10]]] <|
 .seg [.chk [] (.isAgg 3) [.agg [.inp 11, .inp 12, .inp 13]]] <|
 .seg [.call 14 [] 47 [.agg [.inp 0, .inp 1, .inp 2, .inp 3, .inp 4, .inp 5, .inp 6, .inp 7, .inp 8, .inp 9, .inp 10], .agg [.inp 11, .inp 12, .inp 13]] false] <|
 .seg [.chk [] (.tproj 0) [.inp 14]] <|
 .seg [.chk [] (.tproj 1) [.inp 14]] <|
 .seg [.chk [] (.un .not) [.app (.tproj 1) [.inp 14]]] <|
 .seg [.chk [(.app (.un .not) [.app (.tproj 1) [.inp 14]], false)] (.eidx 11) [.inp 0, .inp 11]] <|
 .seg [.chk [(.app (.un .not) [.app (.tproj 1) [.inp 14]], false)] (.eoff 0) [.app (.eidx 11) [.inp 0, .inp 11]]] <|
 .seg [.chk [(.app (.un .not) [.app (.tproj 1) [.inp 14]], false)] (.eload 1 false) [.app (.eoff 0) [.app (.eidx 11) [.inp 0, .inp 11]]]] <|
 .seg [.chk [(.app (.un .not) [.app (.tproj 1) [.inp 14]], false)] (.bin .neq) [.app (.eload 1 false) [.app (.eoff 0) [.app (.eidx 11) [.inp 0, .inp 11]]], .int .u8 2]] <|
 .seg [.chk [] .pick [.app (.un .not) [.app (.tproj 1) [.inp 14]], .bool true, .app (.bin .neq) [.app (.eload 1 false) [.app (.eoff 0) [.app (.eidx 11) [.inp 0, .inp 11]]], .int .u8 2]]] <|
 .cond (.app .pick [.app (.un .not) [.app (.tproj 1) [.inp 14]], .bool true, .app (.bin .neq) [.app (.eload 1 false) [.app (.eoff 0) [.app (.eidx 11) [.inp 0, .inp 11]]], .int .u8 2]])
 (.ret (.tup [.int .i64 0, .int .i64 0, .bool false]))
 (.seg [.call 15 [] 48 [.int .u8 2, .inp 12, .inp 13] false] <|
  .seg [.chk [] (.tproj 0) [.inp 15]] <|
  .seg [.chk [] (.tproj 1) [.inp 15]] <|
  .ret (.tup [.inp 11, .app (.tproj 0) [.inp 15], .bool true]))
theorem run_beyond_Point : runF E 37 [.agg [.inp 0, .inp 1, .inp 2, .inp 3, .inp 4, .inp 5, .inp 6, .inp 7, .inp 8, .inp 9, .inp 10], .agg [.inp 11, .inp 12, .inp 13]] 14 = rt_beyond_Point := by kernel_rfl

noncomputable def rt_beyond_Wants : RT :=
 .seg [.chk [] (.isAgg 11) [.agg [.inp 0, .inp 1, .inp 2, .inp 3, .inp 4, .inp 5, .inp 6, .inp 7, .inp 8, .inp 9, .inp 10]]] <|
 .seg [.chk [] (.isAgg 3) [.agg [.inp 11, .inp 12, .inp 13]]] <|
 .seg [.chk [] .isOne [.inp 14]] <|
 .seg [.call 15 [] 37 [.agg [.inp 0, .inp 1, .inp 2, .inp 3, .inp 4, .inp 5, .inp 6, .inp 7, .inp 8, .inp 9, .inp 10], .agg [.inp 11, .inp 12, .inp 13]] false] <|
 .seg [.chk [] (.tproj 0) [.inp 15]] <|
 .seg [.chk [] (.tproj 1) [.inp 15]] <|
 .seg [.chk [] (.tproj 2) [.inp 15]] <|
 .cond (.app (.tproj 2) [.inp 15])
 (.seg [.chk [] .isOne [.app (.tproj 0) [.inp 15]],
  .chk [] .isOne [.app (.tproj 1) [.inp 15]],
  .chk [] .isOne [.inp 14]] <|
  .seg [.chk [] (.isAgg 3) [.agg [.app (.tproj 0) [.inp 15], .app (.tproj 1) [.inp 15], .inp 14]]] <|
  .seg [.chk [] (.szs 3) [.app .lst [.agg [.app (.tproj 0) [.inp 15], .app (.tproj 1) [.inp 15], .inp 14]]],
  .chk [] .app [.nils, .app .lst [.agg [.app (.tproj 0) [.inp 15], .app (.tproj 1) [.inp 15], .inp 14]]]] <|
  .seg [.chk [] (.isAgg 11) [.agg [.inp 0, .inp 1, .inp 2, .inp 3, .inp 4, .inp 5, .inp 6, .inp 7, .inp 8, .inp 9, .inp 10]]] <|
  .seg [.chk [] (.isAgg 3) [.agg [.inp 11, .inp 12, .inp 13]]] <|
  .seg [.call 16 [] 47 [.agg [.inp 0, .inp 1, .inp 2, .inp 3, .inp 4, .inp 5, .inp 6, .inp 7, .inp 8, .inp 9, .inp 10], .agg [.inp 11, .inp 12, .inp 13]] false] <|
  .seg [.chk [] (.tproj 0) [.inp 16]] <|
  .seg [.chk [] (.tproj 1) [.inp 16]] <|
  .seg [.chk [] .len [.inp 3]] <|
  .loop 0 17 [.int .i64 0, .app .app [.nils, .app .lst [.agg [.app (.tproj 0) [.inp 15], .app (.tproj 1) [.inp 15], .inp 14]]]] <|
  .seg [.chk [] (.bin .lss) [.inp 17, .app .len [.inp 3]]] <|
   .cond (.app (.bin .lss) [.inp 17, .app .len [.inp 3]])
   (.seg [.chk [] (.eidx 4) [.inp 3, .inp 17]] <|
    .seg [.chk [] (.eload 4 true) [.app (.eidx 4) [.inp 3, .inp 17]]] <|
    .seg [.chk [] (.isAgg 4) [.app (.eload 4 true) [.app (.eidx 4) [.inp 3, .inp 17]]]] <|
    .seg [.chk [(.app (.tproj 1) [.inp 16], true)] (.bin .eql) [.app (.part 0 1 false) [.app (.eload 4 true) [.app (.eidx 4) [.inp 3, .inp 17]]], .inp 11]] <|
    .seg [.chk [] .pick [.app (.tproj 1) [.inp 16], .app (.bin .eql) [.app (.part 0 1 false) [.app (.eload 4 true) [.app (.eidx 4) [.inp 3, .inp 17]]], .inp 11], .bool false]] <|
    .seg [.chk [(.app .pick [.app (.tproj 1) [.inp 16], .app (.bin .eql) [.app (.part 0 1 false) [.app (.eload 4 true) [.app (.eidx 4) [.inp 3, .inp 17]]], .inp 11], .bool false], true)] (.bin .eql) [.app (.part 1 1 false) [.app (.eload 4 true) [.app (.eidx 4) [.inp 3, .inp 17]]], .app (.tproj 0) [.inp 16]]] <|
    .seg [.chk [] .pick [.app .pick [.app (.tproj 1) [.inp 16], .app (.bin .eql) [.app (.part 0 1 false) [.app (.eload 4 true) [.app (.eidx 4) [.inp 3, .inp 17]]], .inp 11], .bool false], .app (.bin .eql) [.app (.part 1 1 false) [.app (.eload 4 true) [.app (.eidx 4) [.inp 3, .inp 17]]], .app (.tproj 0) [.inp 16]], .bool false]] <|
    .cond (.app .pick [.app .pick [.app (.tproj 1) [.inp 16], .app (.bin .eql) [.app (.part 0 1 false) [.app (.eload 4 true) [.app (.eidx 4) [.inp 3, .inp 17]]], .inp 11], .bool false], .app (.bin .eql) [.app (.part 1 1 false) [.app (.eload 4 true) [.app (.eidx 4) [.inp 3, .inp 17]]], .app (.tproj 0) [.inp 16]], .bool false])
    (.seg [.chk [] (.isAgg 4) [.agg [.app (.part 0 1 false) [.app (.eload 4 true) [.app (.eidx 4) [.inp 3, .inp 17]]], .app (.part 1 1 false) [.app (.eload 4 true) [.app (.eidx 4) [.inp 3, .inp 17]]], .app (.part 2 1 false) [.app (.eload 4 true) [.app (.eidx 4) [.inp 3, .inp 17]]], .app (.part 3 1 false) [.app (.eload 4 true) [.app (.eidx 4) [.inp 3, .inp 17]]]]]] <|
     .seg [.chk [] .isOne [.app (.part 2 1 false) [.app (.eload 4 true) [.app (.eidx 4) [.inp 3, .inp 17]]]],
     .chk [] .isOne [.app (.part 3 1 false) [.app (.eload 4 true) [.app (.eidx 4) [.inp 3, .inp 17]]]],
     .chk [] .isOne [.inp 14]] <|
     .seg [.chk [] (.isAgg 3) [.agg [.app (.part 2 1 false) [.app (.eload 4 true) [.app (.eidx 4) [.inp 3, .inp 17]]], .app (.part 3 1 false) [.app (.eload 4 true) [.app (.eidx 4) [.inp 3, .inp 17]]], .inp 14]]] <|
     .seg [.chk [] (.szs 3) [.app .lst [.agg [.app (.part 2 1 false) [.app (.eload 4 true) [.app (.eidx 4) [.inp 3, .inp 17]]], .app (.part 3 1 false) [.app (.eload 4 true) [.app (.eidx 4) [.inp 3, .inp 17]]], .inp 14]]],
     .chk [] .app [.inp 18, .app .lst [.agg [.app (.part 2 1 false) [.app (.eload 4 true) [.app (.eidx 4) [.inp 3, .inp 17]]], .app (.part 3 1 false) [.app (.eload 4 true) [.app (.eidx 4) [.inp 3, .inp 17]]], .inp 14]]]] <|
     .seg [.chk [] (.un .not) [.bool true]] <|
     .seg [.chk [] (.bin .add) [.inp 17, .int .i64 1]] <|
     .again 0 [.app (.bin .add) [.inp 17, .int .i64 1], .app .app [.inp 18, .app .lst [.agg [.app (.part 2 1 false) [.app (.eload 4 true) [.app (.eidx 4) [.inp 3, .inp 17]]], .app (.part 3 1 false) [.app (.eload 4 true) [.app (.eidx 4) [.inp 3, .inp 17]]], .inp 14]]]])
    (.seg [.chk [] (.bin .add) [.inp 17, .int .i64 1]] <|
     .again 0 [.app (.bin .add) [.inp 17, .int .i64 1], .inp 18]))
   (.ret (.inp 18)))
 (.seg [.chk [] (.isAgg 11) [.agg [.inp 0, .inp 1, .inp 2, .inp 3, .inp 4, .inp 5, .inp 6, .inp 7, .inp 8, .inp 9, .inp 10]]] <|
  .seg [.chk [] (.isAgg 3) [.agg [.inp 11, .inp 12, .inp 13]]] <|
  .seg [.call 16 [] 47 [.agg [.inp 0, .inp 1, .inp 2, .inp 3, .inp 4, .inp 5, .inp 6, .inp 7, .inp 8, .inp 9, .inp 10], .agg [.inp 11, .inp 12, .inp 13]] false] <|
  .seg [.chk [] (.tproj 0) [.inp 16]] <|
  .seg [.chk [] (.tproj 1) [.inp 16]] <|
  .seg [.chk [] .len [.inp 3]] <|
  .loop 0 17 [.int .i64 0, .nils] <|
  .seg [.chk [] (.bin .lss) [.inp 17, .app .len [.inp 3]]] <|
   .cond (.app (.bin .lss) [.inp 17, .app .len [.inp 3]])
   (.seg [.chk [] (.eidx 4) [.inp 3, .inp 17]] <|
    .seg [.chk [] (.eload 4 true) [.app (.eidx 4) [.inp 3, .inp 17]]] <|
    .seg [.chk [] (.isAgg 4) [.app (.eload 4 true) [.app (.eidx 4) [.inp 3, .inp 17]]]] <|
    .seg [.chk [(.app (.tproj 1) [.inp 16], true)] (.bin .eql) [.app (.part 0 1 false) [.app (.eload 4 true) [.app (.eidx 4) [.inp 3, .inp 17]]], .inp 11]] <|
    .seg [.chk [] .pick [.app (.tproj 1) [.inp 16], .app (.bin .eql) [.app (.part 0 1 false) [.app (.eload 4 true) [.app (.eidx 4) [.inp 3, .inp 17]]], .inp 11], .bool false]] <|
    .seg [.chk [(.app .pick [.app (.tproj 1) [.inp 16], .app (.bin .eql) [.app (.part 0 1 false) [.app (.eload 4 true) [.app (.eidx 4) [.inp 3, .inp 17]]], .inp 11], .bool false], true)] (.bin .eql) [.app (.part 1 1 false) [.app (.eload 4 true) [.app (.eidx 4) [.inp 3, .inp 17]]], .app (.tproj 0) [.inp 16]]] <|
    .seg [.chk [] .pick [.app .pick [.app (.tproj 1) [.inp 16], .app (.bin .eql) [.app (.part 0 1 false) [.app (.eload 4 true) [.app (.eidx 4) [.inp 3, .inp 17]]], .inp 11], .bool false], .app (.bin .eql) [.app (.part 1 1 false) [.app (.eload 4 true) [.app (.eidx 4) [.inp 3, .inp 17]]], .app (.tproj 0) [.inp 16]], .bool false]] <|
    .cond (.app .pick [.app .pick [.app (.tproj 1) [.inp 16], .app (.bin .eql) [.app (.part 0 1 false) [.app (.eload 4 true) [.app (.eidx 4) [.inp 3, .inp 17]]], .inp 11], .bool false], .app (.bin .eql) [.app (.part 1 1 false) [.app (.eload 4 true) [.app (.eidx 4) [.inp 3, .inp 17]]], .app (.tproj 0) [.inp 16]], .bool false])
    (.seg [.chk [] (.isAgg 4) [.agg [.app (.part 0 1 false) [.app (.eload 4 true) [.app (.eidx 4) [.inp 3, .inp 17]]], .app (.part 1 1 false) [.app (.eload 4 true) [.app (.eidx 4) [.inp 3, .inp 17]]], .app (.part 2 1 false) [.app (.eload 4 true) [.app (.eidx 4) [.inp 3, .inp 17]]], .app (.part 3 1 false) [.app (.eload 4 true) [.app (.eidx 4) [.inp 3, .inp 17]]]]]] <|
     .seg [.chk [] .isOne [.app (.part 2 1 false) [.app (.eload 4 true) [.app (.eidx 4) [.inp 3, .inp 17]]]],
     .chk [] .isOne [.app (.part 3 1 false) [.app (.eload 4 true) [.app (.eidx 4) [.inp 3, .inp 17]]]],
     .chk [] .isOne [.inp 14]] <|
     .seg [.chk [] (.isAgg 3) [.agg [.app (.part 2 1 false) [.app (.eload 4 true) [.app (.eidx 4) [.inp 3, .inp 17]]], .app (.part 3 1 false) [.app (.eload 4 true) [.app (.eidx 4) [.inp 3, .inp 17]]], .inp 14]]] <|
     .seg [.chk [] (.szs 3) [.app .lst [.agg [.app (.part 2 1 false) [.app (.eload 4 true) [.app (.eidx 4) [.inp 3, .inp 17]]], .app (.part 3 1 false) [.app (.eload 4 true) [.app (.eidx 4) [.inp 3, .inp 17]]], .inp 14]]],
     .chk [] .app [.inp 18, .app .lst [.agg [.app (.part 2 1 false) [.app (.eload 4 true) [.app (.eidx 4) [.inp 3, .inp 17]]], .app (.part 3 1 false) [.app (.eload 4 true) [.app (.eidx 4) [.inp 3, .inp 17]]], .inp 14]]]] <|
     .seg [.chk [] (.un .not) [.bool true]] <|
     .seg [.chk [] (.bin .add) [.inp 17, .int .i64 1]] <|
     .again 0 [.app (.bin .add) [.inp 17, .int .i64 1], .app .app [.inp 18, .app .lst [.agg [.app (.part 2 1 false) [.app (.eload 4 true) [.app (.eidx 4) [.inp 3, .inp 17]]], .app (.part 3 1 false) [.app (.eload 4 true) [.app (.eidx 4) [.inp 3, .inp 17]]], .inp 14]]]])
    (.seg [.chk [] (.bin .add) [.inp 17, .int .i64 1]] <|
     .again 0 [.app (.bin .add) [.inp 17, .int .i64 1], .inp 18]))
   (.ret (.inp 18)))
theorem run_beyond_Wants : runF E 24 [.agg [.inp 0, .inp 1, .inp 2, .inp 3, .inp 4, .inp 5, .inp 6, .inp 7, .inp 8, .inp 9, .inp 10], .agg [.inp 11, .inp 12, .inp 13], .inp 14] 15 = rt_beyond_Wants := by kernel_rfl

noncomputable def rt_need_Of : RT :=
 .seg [.chk [] (.isAgg 11) [.agg [.inp 0, .inp 1, .inp 2, .inp 3, .inp 4, .inp 5, .inp 6, .inp 7, .inp 8, .inp 9, .inp 10]]] <|
 .seg [.chk [] (.isAgg 3) [.agg [.inp 11, .inp 12, .inp 13]]] <|
 .seg [.chk [] (.isAgg 11) [.agg [.inp 0, .inp 1, .inp 2, .inp 3, .inp 4, .inp 5, .inp 6, .inp 7, .inp 8, .inp 9, .inp 10]]] <|
 .seg [.chk [] (.isAgg 3) [.agg [.inp 11, .inp 12, .inp 13]]] <|
 .seg [.chk [] .len [.inp 13]] <|
 .loop 0 14 [.int .i64 0, .nils] <|
 .seg [.chk [] (.bin .lss) [.inp 14, .app .len [.inp 13]]] <|
  .cond (.app (.bin .lss) [.inp 14, .app .len [.inp 13]])
  (.seg [.chk [] (.eidx 3) [.inp 13, .inp 14]] <|
   .seg [.chk [] (.eload 3 true) [.app (.eidx 3) [.inp 13, .inp 14]]] <|
   .seg [.chk [] (.isAgg 3) [.app (.eload 3 true) [.app (.eidx 3) [.inp 13, .inp 14]]]] <|
   .seg [.chk [] (.isAgg 3) [.agg [.app (.part 0 1 false) [.app (.eload 3 true) [.app (.eidx 3) [.inp 13, .inp 14]]], .app (.part 1 1 false) [.app (.eload 3 true) [.app (.eidx 3) [.inp 13, .inp 14]]], .app (.part 2 1 false) [.app (.eload 3 true) [.app (.eidx 3) [.inp 13, .inp 14]]]]]] <|
   .seg [.call 16 [] 24 [.agg [.inp 0, .inp 1, .inp 2, .inp 3, .inp 4, .inp 5, .inp 6, .inp 7, .inp 8, .inp 9, .inp 10], .agg [.app (.part 0 1 false) [.app (.eload 3 true) [.app (.eidx 3) [.inp 13, .inp 14]]], .app (.part 1 1 false) [.app (.eload 3 true) [.app (.eidx 3) [.inp 13, .inp 14]]], .app (.part 2 1 false) [.app (.eload 3 true) [.app (.eidx 3) [.inp 13, .inp 14]]]], .inp 14] false,
   .chk [] (.szs 3) [.inp 16],
   .chk [] .app [.inp 15, .inp 16]] <|
   .seg [.chk [] (.un .not) [.bool true]] <|
   .seg [.chk [] (.bin .add) [.inp 14, .int .i64 1]] <|
   .again 0 [.app (.bin .add) [.inp 14, .int .i64 1], .app .app [.inp 15, .inp 16]])
  (.seg [.call 16 [] 36 [.agg [.inp 0, .inp 1, .inp 2, .inp 3, .inp 4, .inp 5, .inp 6, .inp 7, .inp 8, .inp 9, .inp 10], .inp 12] false] <|
   .seg [.chk [] .len [.inp 16]] <|
   .loop 0 17 [.int .i64 0, .inp 15] <|
   .seg [.chk [] (.bin .lss) [.inp 17, .app .len [.inp 16]]] <|
    .cond (.app (.bin .lss) [.inp 17, .app .len [.inp 16]])
    (.seg [.chk [] (.eidx 3) [.inp 16, .inp 17]] <|
     .seg [.chk [] (.eload 3 true) [.app (.eidx 3) [.inp 16, .inp 17]]] <|
     .seg [.chk [] (.isAgg 3) [.app (.eload 3 true) [.app (.eidx 3) [.inp 16, .inp 17]]]] <|
     .seg [.chk [] .len [.inp 13]] <|
     .seg [.chk [] (.isAgg 3) [.agg [.app (.part 0 1 false) [.app (.eload 3 true) [.app (.eidx 3) [.inp 16, .inp 17]]], .app (.part 1 1 false) [.app (.eload 3 true) [.app (.eidx 3) [.inp 16, .inp 17]]], .app (.part 2 1 false) [.app (.eload 3 true) [.app (.eidx 3) [.inp 16, .inp 17]]]]]] <|
     .seg [.call 19 [] 24 [.agg [.inp 0, .inp 1, .inp 2, .inp 3, .inp 4, .inp 5, .inp 6, .inp 7, .inp 8, .inp 9, .inp 10], .agg [.app (.part 0 1 false) [.app (.eload 3 true) [.app (.eidx 3) [.inp 16, .inp 17]]], .app (.part 1 1 false) [.app (.eload 3 true) [.app (.eidx 3) [.inp 16, .inp 17]]], .app (.part 2 1 false) [.app (.eload 3 true) [.app (.eidx 3) [.inp 16, .inp 17]]]], .app .len [.inp 13]] false,
     .chk [] (.szs 3) [.inp 19],
     .chk [] .app [.inp 18, .inp 19]] <|
     .seg [.chk [] (.un .not) [.bool true]] <|
     .seg [.chk [] (.bin .add) [.inp 17, .int .i64 1]] <|
     .again 0 [.app (.bin .add) [.inp 17, .int .i64 1], .app .app [.inp 18, .inp 19]])
    (.ret (.inp 18)))
theorem run_need_Of : runF E 10 [.agg [.inp 0, .inp 1, .inp 2, .inp 3, .inp 4, .inp 5, .inp 6, .inp 7, .inp 8, .inp 9, .inp 10], .agg [.inp 11, .inp 12, .inp 13]] 14 = rt_need_Of := by kernel_rfl

noncomputable def rt_slices_Concat_Need : RT :=
 .seg [.chk [] .len [.inp 0]] <|
 .loop 0 1 [.int .i64 0, .int .i64 0] <|
 .seg [.chk [] (.bin .lss) [.inp 2, .app .len [.inp 0]]] <|
  .cond (.app (.bin .lss) [.inp 2, .app .len [.inp 0]])
  (.seg [.chk [] (.eidx 1) [.inp 0, .inp 2]] <|
   .seg [.chk [] (.eload 1 false) [.app (.eidx 1) [.inp 0, .inp 2]]] <|
   .seg [.chk [] .len [.app (.eload 1 false) [.app (.eidx 1) [.inp 0, .inp 2]]]] <|
   .seg [.chk [] (.bin .add) [.inp 1, .app .len [.app (.eload 1 false) [.app (.eidx 1) [.inp 0, .inp 2]]]]] <|
   .seg [.chk [] (.bin .lss) [.app (.bin .add) [.inp 1, .app .len [.app (.eload 1 false) [.app (.eidx 1) [.inp 0, .inp 2]]]], .int .i64 0]] <|
   .cond (.app (.bin .lss) [.app (.bin .add) [.inp 1, .app .len [.app (.eload 1 false) [.app (.eidx 1) [.inp 0, .inp 2]]]], .int .i64 0])
   (.dead 6 [])
   (.seg [.chk [] (.bin .add) [.inp 2, .int .i64 1]] <|
    .again 0 [.app (.bin .add) [.inp 1, .app .len [.app (.eload 1 false) [.app (.eidx 1) [.inp 0, .inp 2]]]], .app (.bin .add) [.inp 2, .int .i64 1]]))
  (.seg [.chk [] (.bin .lss) [.inp 1, .int .i64 0]] <|
   .cond (.app (.bin .lss) [.inp 1, .int .i64 0])
   (.dead 6 [])
   (.seg [.chk [] .len [.nils]] <|
    .seg [.chk [] (.bin .sub) [.int .i64 0, .int .i64 0]] <|
    .seg [.chk [] (.bin .sub) [.inp 1, .int .i64 0]] <|
    .seg [.chk [] (.bin .gtr) [.app (.bin .sub) [.inp 1, .int .i64 0], .int .i64 0]] <|
    .cond (.app (.bin .gtr) [.app (.bin .sub) [.inp 1, .int .i64 0], .int .i64 0])
    (.seg [.chk [] .rep [.app (.bin .sub) [.inp 1, .int .i64 0], .agg [.int .i64 0, .int .i64 0, .int .i64 0]]] <|
     .seg [.chk [] .len [.nils]] <|
     .seg [.chk [] (.slice false true) [.app .rep [.app (.bin .sub) [.inp 1, .int .i64 0], .agg [.int .i64 0, .int .i64 0, .int .i64 0]], .int .i64 0]] <|
     .seg [.chk [] .len [.inp 0]] <|
     .loop 0 3 [.app (.slice false true) [.app .rep [.app (.bin .sub) [.inp 1, .int .i64 0], .agg [.int .i64 0, .int .i64 0, .int .i64 0]], .int .i64 0], .int .i64 0] <|
     .seg [.chk [] (.bin .lss) [.inp 4, .app .len [.inp 0]]] <|
      .cond (.app (.bin .lss) [.inp 4, .app .len [.inp 0]])
      (.seg [.chk [] (.eidx 1) [.inp 0, .inp 4]] <|
       .seg [.chk [] (.eload 1 false) [.app (.eidx 1) [.inp 0, .inp 4]]] <|
       .seg [.chk [] (.szs 3) [.app (.eload 1 false) [.app (.eidx 1) [.inp 0, .inp 4]]],
       .chk [] .app [.inp 3, .app (.eload 1 false) [.app (.eidx 1) [.inp 0, .inp 4]]]] <|
       .seg [.chk [] (.bin .add) [.inp 4, .int .i64 1]] <|
       .again 0 [.app .app [.inp 3, .app (.eload 1 false) [.app (.eidx 1) [.inp 0, .inp 4]]], .app (.bin .add) [.inp 4, .int .i64 1]])
      (.ret (.inp 3)))
    (.seg [.chk [] .len [.inp 0]] <|
     .loop 0 3 [.nils, .int .i64 0] <|
     .seg [.chk [] (.bin .lss) [.inp 4, .app .len [.inp 0]]] <|
      .cond (.app (.bin .lss) [.inp 4, .app .len [.inp 0]])
      (.seg [.chk [] (.eidx 1) [.inp 0, .inp 4]] <|
       .seg [.chk [] (.eload 1 false) [.app (.eidx 1) [.inp 0, .inp 4]]] <|
       .seg [.chk [] (.szs 3) [.app (.eload 1 false) [.app (.eidx 1) [.inp 0, .inp 4]]],
       .chk [] .app [.inp 3, .app (.eload 1 false) [.app (.eidx 1) [.inp 0, .inp 4]]]] <|
       .seg [.chk [] (.bin .add) [.inp 4, .int .i64 1]] <|
       .again 0 [.app .app [.inp 3, .app (.eload 1 false) [.app (.eidx 1) [.inp 0, .inp 4]]], .app (.bin .add) [.inp 4, .int .i64 1]])
      (.ret (.inp 3)))))
theorem run_slices_Concat_Need : runF E 26 [.inp 0] 1 = rt_slices_Concat_Need := by kernel_rfl

noncomputable def rt_need_At : RT :=
 .seg [.chk [] .len [.inp 0]] <|
 .loop 0 2 [.int .i64 0] <|
 .seg [.chk [] (.bin .lss) [.inp 2, .app .len [.inp 0]]] <|
  .cond (.app (.bin .lss) [.inp 2, .app .len [.inp 0]])
  (.seg [.chk [] (.eidx 3) [.inp 0, .inp 2]] <|
   .seg [.chk [] (.eload 3 true) [.app (.eidx 3) [.inp 0, .inp 2]]] <|
   .seg [.chk [] (.isAgg 3) [.app (.eload 3 true) [.app (.eidx 3) [.inp 0, .inp 2]]]] <|
   .seg [.chk [] (.bin .eql) [.app (.part 0 1 false) [.app (.eload 3 true) [.app (.eidx 3) [.inp 0, .inp 2]]], .inp 1]] <|
   .cond (.app (.bin .eql) [.app (.part 0 1 false) [.app (.eload 3 true) [.app (.eidx 3) [.inp 0, .inp 2]]], .inp 1])
   (.ret (.tup [.app (.part 1 1 false) [.app (.eload 3 true) [.app (.eidx 3) [.inp 0, .inp 2]]], .bool true]))
   (.seg [.chk [] (.bin .add) [.inp 2, .int .i64 1]] <|
    .again 0 [.app (.bin .add) [.inp 2, .int .i64 1]]))
  (.ret (.tup [.int .i64 0, .bool false]))
theorem run_need_At : runF E 11 [.inp 0, .inp 1] 2 = rt_need_At := by kernel_rfl

noncomputable def rt_need_Clash : RT :=
 .seg [.chk [] .isOne [.inp 0],
 .chk [] .isOne [.inp 1],
 .chk [] .isOne [.inp 0],
 .chk [] .isOne [.inp 1]] <|
 .seg [.call 2 [] 26 [.app .lst [.inp 0, .inp 1]] false] <|
 .seg [.chk [] .isOne [.inp 2]] <|
 .seg [.chk [] .len [.inp 2]] <|
 .loop 0 3 [.int .i64 0] <|
 .seg [.chk [] (.bin .lss) [.inp 3, .app .len [.inp 2]]] <|
  .cond (.app (.bin .lss) [.inp 3, .app .len [.inp 2]])
  (.seg [.chk [] (.eidx 3) [.inp 2, .inp 3]] <|
   .seg [.chk [] (.eload 3 true) [.app (.eidx 3) [.inp 2, .inp 3]]] <|
   .seg [.chk [] (.isAgg 3) [.app (.eload 3 true) [.app (.eidx 3) [.inp 2, .inp 3]]]] <|
   .seg [.call 4 [] 11 [.inp 2, .app (.part 0 1 false) [.app (.eload 3 true) [.app (.eidx 3) [.inp 2, .inp 3]]]] false] <|
   .seg [.chk [] (.tproj 0) [.inp 4]] <|
   .seg [.chk [] (.tproj 1) [.inp 4]] <|
   .seg [.chk [] (.bin .neq) [.app (.tproj 0) [.inp 4], .app (.part 1 1 false) [.app (.eload 3 true) [.app (.eidx 3) [.inp 2, .inp 3]]]]] <|
   .cond (.app (.bin .neq) [.app (.tproj 0) [.inp 4], .app (.part 1 1 false) [.app (.eload 3 true) [.app (.eidx 3) [.inp 2, .inp 3]]]])
   (.seg [.chk [] (.bin .geq) [.inp 3, .int .i64 0]] <|
    .ret (.app (.bin .geq) [.inp 3, .int .i64 0]))
   (.seg [.chk [] (.bin .add) [.inp 3, .int .i64 1]] <|
    .again 0 [.app (.bin .add) [.inp 3, .int .i64 1]]))
  (.seg [.chk [] (.bin .geq) [.int .i64 (-1), .int .i64 0]] <|
   .ret (.bool false))
theorem run_need_Clash : runF E 13 [.inp 0, .inp 1] 2 = rt_need_Clash := by kernel_rfl

noncomputable def rt_need_Fine : RT :=
 .seg [.chk [] (.isAgg 11) [.agg [.inp 0, .inp 1, .inp 2, .inp 3, .inp 4, .inp 5, .inp 6, .inp 7, .inp 8, .inp 9, .inp 10]]] <|
 .seg [.chk [] (.isAgg 3) [.agg [.inp 11, .inp 12, .inp 13]]] <|
 .seg [.call 14 [] 10 [.agg [.inp 0, .inp 1, .inp 2, .inp 3, .inp 4, .inp 5, .inp 6, .inp 7, .inp 8, .inp 9, .inp 10], .agg [.inp 11, .inp 12, .inp 13]] false] <|
 .seg [.call 15 [] 13 [.inp 14, .nils] false] <|
 .seg [.chk [] (.un .not) [.inp 15]] <|
 .ret (.app (.un .not) [.inp 15])
theorem run_need_Fine : runF E 8 [.agg [.inp 0, .inp 1, .inp 2, .inp 3, .inp 4, .inp 5, .inp 6, .inp 7, .inp 8, .inp 9, .inp 10], .agg [.inp 11, .inp 12, .inp 13]] 14 = rt_need_Fine := by kernel_rfl

noncomputable def rt_need_Points : RT :=
 .seg [.chk [] .len [.inp 0]] <|
 .loop 0 1 [.nils, .int .i64 0] <|
 .seg [.chk [] (.bin .lss) [.inp 2, .app .len [.inp 0]]] <|
  .cond (.app (.bin .lss) [.inp 2, .app .len [.inp 0]])
  (.seg [.chk [] (.eidx 3) [.inp 0, .inp 2]] <|
   .seg [.chk [] (.eload 3 true) [.app (.eidx 3) [.inp 0, .inp 2]]] <|
   .seg [.chk [] (.isAgg 3) [.app (.eload 3 true) [.app (.eidx 3) [.inp 0, .inp 2]]]] <|
   .seg [.chk [] .isOne [.app (.part 0 1 false) [.app (.eload 3 true) [.app (.eidx 3) [.inp 0, .inp 2]]]],
   .chk [] .isOne [.app (.part 0 1 false) [.app (.eload 3 true) [.app (.eidx 3) [.inp 0, .inp 2]]]]] <|
   .seg [.chk [] (.szs 1) [.app .lst [.app (.part 0 1 false) [.app (.eload 3 true) [.app (.eidx 3) [.inp 0, .inp 2]]]]],
   .chk [] .app [.inp 1, .app .lst [.app (.part 0 1 false) [.app (.eload 3 true) [.app (.eidx 3) [.inp 0, .inp 2]]]]]] <|
   .seg [.chk [] (.bin .add) [.inp 2, .int .i64 1]] <|
   .again 0 [.app .app [.inp 1, .app .lst [.app (.part 0 1 false) [.app (.eload 3 true) [.app (.eidx 3) [.inp 0, .inp 2]]]]], .app (.bin .add) [.inp 2, .int .i64 1]])
  (.seg [.srt 3 (.inp 1)] <|
   .seg [.cmp 4 (.inp 3)] <|
   .ret (.inp 4))
theorem run_need_Points : runF E 14 [.inp 0] 1 = rt_need_Points := by kernel_rfl

noncomputable def rt_slices_Equal_Need : RT :=
 .seg [.chk [] .len [.inp 0]] <|
 .seg [.chk [] .len [.inp 1]] <|
 .seg [.chk [] (.bin .neq) [.app .len [.inp 0], .app .len [.inp 1]]] <|
 .cond (.app (.bin .neq) [.app .len [.inp 0], .app .len [.inp 1]])
 (.ret (.bool false))
 (.seg [.chk [] .len [.inp 0]] <|
  .loop 0 2 [.int .i64 0] <|
  .seg [.chk [] (.bin .lss) [.inp 2, .app .len [.inp 0]]] <|
   .cond (.app (.bin .lss) [.inp 2, .app .len [.inp 0]])
   (.seg [.chk [] (.eidx 3) [.inp 0, .inp 2],
    .chk [] (.eload 3 true) [.app (.eidx 3) [.inp 0, .inp 2]],
    .chk [] (.eidx 3) [.inp 1, .inp 2],
    .chk [] (.eload 3 true) [.app (.eidx 3) [.inp 1, .inp 2]],
    .chk [] (.eqa [some .i64, some .i64, some .i64] true) [.app (.eload 3 true) [.app (.eidx 3) [.inp 0, .inp 2]], .app (.eload 3 true) [.app (.eidx 3) [.inp 1, .inp 2]]]] <|
    .cond (.app (.eqa [some .i64, some .i64, some .i64] true) [.app (.eload 3 true) [.app (.eidx 3) [.inp 0, .inp 2]], .app (.eload 3 true) [.app (.eidx 3) [.inp 1, .inp 2]]])
    (.ret (.bool false))
    (.seg [.chk [] (.bin .add) [.inp 2, .int .i64 1]] <|
     .again 0 [.app (.bin .add) [.inp 2, .int .i64 1]]))
   (.ret (.bool true)))
theorem run_slices_Equal_Need : runF E 34 [.inp 0, .inp 1] 2 = rt_slices_Equal_Need := by kernel_rfl

noncomputable def rt_need_Same : RT :=
 .seg [.call 2 [] 34 [.inp 0, .inp 1] false] <|
 .ret (.inp 2)
theorem run_need_Same : runF E 22 [.inp 0, .inp 1] 2 = rt_need_Same := by kernel_rfl

noncomputable def rt_lockbarlaw13_point : RT :=
 .ret (.agg [.app .lst [.agg [.int .u8 2, .int .i64 (-1), .int .i64 0, .int .i64 (-1), .int .i64 0, .int .i64 (-1), .int .i64 0, .int .i64 (-1), .int .i64 0, .int .i64 0, .int .i64 0]], .app .lst [.agg [.int .i64 0, .int .i64 0]], .app .lst [.agg [.int .i64 0, .int .i64 2, .nils]], .nils, .int .i64 1, .int .i64 1, .int .i64 1, .int .i64 1, .int .i64 1, .int .i64 1, .int .i64 1])
theorem run_lockbarlaw13_point : runF E 21 [] 0 = rt_lockbarlaw13_point := by kernel_rfl

noncomputable def rt_lockbarlaw13_wakes : RT :=
 .seg [.call 0 [] 21 [] false] <|
 .seg [.call 1 [] 10 [.inp 0, .agg [.int .i64 0, .int .i64 0, .app .lst [.agg [.int .i64 0, .int .i64 0, .int .i64 2]]]] false] <|
 .seg [.call 2 [] 11 [.app .lst [.agg [.int .i64 3, .int .i64 0, .int .i64 0], .agg [.int .i64 1, .int .i64 1, .int .i64 2]], .int .i64 1] true] <|
 .seg [.chk [] (.tproj 0) [.inp 2]] <|
 .seg [.chk [] (.tproj 1) [.inp 2]] <|
 .seg [.call 3 [] 11 [.app .lst [.agg [.int .i64 3, .int .i64 0, .int .i64 0], .agg [.int .i64 1, .int .i64 1, .int .i64 2]], .int .i64 2] true] <|
 .seg [.chk [] (.tproj 0) [.inp 3]] <|
 .seg [.chk [] (.tproj 1) [.inp 3]] <|
 .seg [.chk [] (.eidx 3) [.app .lst [.agg [.int .i64 3, .int .i64 0, .int .i64 0], .agg [.int .i64 1, .int .i64 1, .int .i64 2]], .int .i64 0],
 .chk [] (.rowget 3 0 3 true) [.app .lst [.agg [.int .i64 3, .int .i64 0, .int .i64 0], .agg [.int .i64 1, .int .i64 1, .int .i64 2]], .int .i64 0],
 .chk [] (.eidx 3) [.app .lst [.agg [.int .i64 3, .int .i64 0, .int .i64 0], .agg [.int .i64 1, .int .i64 1, .int .i64 2]], .int .i64 1],
 .chk [] (.rowget 3 0 3 true) [.app .lst [.agg [.int .i64 3, .int .i64 0, .int .i64 0], .agg [.int .i64 1, .int .i64 1, .int .i64 2]], .int .i64 1],
 .chk [] (.eidx 3) [.app .lst [.agg [.int .i64 3, .int .i64 0, .int .i64 0], .agg [.int .i64 1, .int .i64 1, .int .i64 2]], .int .i64 0],
 .chk [] (.rowget 3 0 3 true) [.app .lst [.agg [.int .i64 3, .int .i64 0, .int .i64 0], .agg [.int .i64 1, .int .i64 1, .int .i64 2]], .int .i64 0],
 .chk [] (.isAgg 3) [.app (.rowget 3 0 3 true) [.app .lst [.agg [.int .i64 3, .int .i64 0, .int .i64 0], .agg [.int .i64 1, .int .i64 1, .int .i64 2]], .int .i64 0]],
 .chk [] (.isAgg 3) [.app (.rowget 3 0 3 true) [.app .lst [.agg [.int .i64 3, .int .i64 0, .int .i64 0], .agg [.int .i64 1, .int .i64 1, .int .i64 2]], .int .i64 1]],
 .chk [] (.isAgg 3) [.app (.rowget 3 0 3 true) [.app .lst [.agg [.int .i64 3, .int .i64 0, .int .i64 0], .agg [.int .i64 1, .int .i64 1, .int .i64 2]], .int .i64 0]],
 .call 4 [] 14 [.app .lst [.agg [.app (.part 0 1 false) [.app (.rowget 3 0 3 true) [.app .lst [.agg [.int .i64 3, .int .i64 0, .int .i64 0], .agg [.int .i64 1, .int .i64 1, .int .i64 2]], .int .i64 0]], .app (.part 1 1 false) [.app (.rowget 3 0 3 true) [.app .lst [.agg [.int .i64 3, .int .i64 0, .int .i64 0], .agg [.int .i64 1, .int .i64 1, .int .i64 2]], .int .i64 0]], .app (.part 2 1 false) [.app (.rowget 3 0 3 true) [.app .lst [.agg [.int .i64 3, .int .i64 0, .int .i64 0], .agg [.int .i64 1, .int .i64 1, .int .i64 2]], .int .i64 0]]], .agg [.app (.part 0 1 false) [.app (.rowget 3 0 3 true) [.app .lst [.agg [.int .i64 3, .int .i64 0, .int .i64 0], .agg [.int .i64 1, .int .i64 1, .int .i64 2]], .int .i64 1]], .app (.part 1 1 false) [.app (.rowget 3 0 3 true) [.app .lst [.agg [.int .i64 3, .int .i64 0, .int .i64 0], .agg [.int .i64 1, .int .i64 1, .int .i64 2]], .int .i64 1]], .app (.part 2 1 false) [.app (.rowget 3 0 3 true) [.app .lst [.agg [.int .i64 3, .int .i64 0, .int .i64 0], .agg [.int .i64 1, .int .i64 1, .int .i64 2]], .int .i64 1]]], .agg [.app (.part 0 1 false) [.app (.rowget 3 0 3 true) [.app .lst [.agg [.int .i64 3, .int .i64 0, .int .i64 0], .agg [.int .i64 1, .int .i64 1, .int .i64 2]], .int .i64 0]], .app (.part 1 1 false) [.app (.rowget 3 0 3 true) [.app .lst [.agg [.int .i64 3, .int .i64 0, .int .i64 0], .agg [.int .i64 1, .int .i64 1, .int .i64 2]], .int .i64 0]], .app (.part 2 1 false) [.app (.rowget 3 0 3 true) [.app .lst [.agg [.int .i64 3, .int .i64 0, .int .i64 0], .agg [.int .i64 1, .int .i64 1, .int .i64 2]], .int .i64 0]]]]] false] <|
 .seg [.chk [] .len [.inp 1]] <|
 .seg [.chk [] (.bin .neq) [.app .len [.inp 1], .int .i64 1]] <|
 .seg [.chk [(.app (.bin .neq) [.app .len [.inp 1], .int .i64 1], false)] .len [.inp 4]] <|
 .seg [.chk [(.app (.bin .neq) [.app .len [.inp 1], .int .i64 1], false)] (.bin .neq) [.app .len [.inp 4], .int .i64 2]] <|
 .seg [.chk [] .pick [.app (.bin .neq) [.app .len [.inp 1], .int .i64 1], .bool true, .app (.bin .neq) [.app .len [.inp 4], .int .i64 2]]] <|
 .cond (.app .pick [.app (.bin .neq) [.app .len [.inp 1], .int .i64 1], .bool true, .app (.bin .neq) [.app .len [.inp 4], .int .i64 2]])
 (.ret (.bool false))
 (.seg [.call 5 [] 13 [.app .lst [.agg [.int .i64 3, .int .i64 0, .int .i64 0], .agg [.int .i64 1, .int .i64 1, .int .i64 2]], .app .lst [.agg [.int .i64 3, .int .i64 1, .int .i64 0]]] true] <|
  .seg [.call 6 [(.inp 5, true)] 13 [.app .lst [.agg [.int .i64 3, .int .i64 0, .int .i64 0], .agg [.int .i64 1, .int .i64 1, .int .i64 2]], .app .lst [.agg [.int .i64 3, .int .i64 0, .int .i64 0], .agg [.int .i64 1, .int .i64 1, .int .i64 2]]] true] <|
  .seg [.chk [(.inp 5, true)] (.un .not) [.inp 6]] <|
  .seg [.chk [] .pick [.inp 5, .app (.un .not) [.inp 6], .bool false]] <|
  .seg [.chk [(.app .pick [.inp 5, .app (.un .not) [.inp 6], .bool false], true)] (.eidx 3) [.inp 1, .int .i64 0]] <|
  .seg [.chk [(.app .pick [.inp 5, .app (.un .not) [.inp 6], .bool false], true)] (.eload 3 true) [.app (.eidx 3) [.inp 1, .int .i64 0]]] <|
  .seg [.chk [(.app .pick [.inp 5, .app (.un .not) [.inp 6], .bool false], true)] (.eqa [some .i64, some .i64, some .i64] false) [.app (.eload 3 true) [.app (.eidx 3) [.inp 1, .int .i64 0]], .agg [.int .i64 0, .int .i64 1, .int .i64 0]]] <|
  .seg [.chk [] .pick [.app .pick [.inp 5, .app (.un .not) [.inp 6], .bool false], .app (.eqa [some .i64, some .i64, some .i64] false) [.app (.eload 3 true) [.app (.eidx 3) [.inp 1, .int .i64 0]], .agg [.int .i64 0, .int .i64 1, .int .i64 0]], .bool false]] <|
  .seg [.call 7 [(.app .pick [.app .pick [.inp 5, .app (.un .not) [.inp 6], .bool false], .app (.eqa [some .i64, some .i64, some .i64] false) [.app (.eload 3 true) [.app (.eidx 3) [.inp 1, .int .i64 0]], .agg [.int .i64 0, .int .i64 1, .int .i64 0]], .bool false], true)] 21 [] false] <|
  .seg [.call 8 [(.app .pick [.app .pick [.inp 5, .app (.un .not) [.inp 6], .bool false], .app (.eqa [some .i64, some .i64, some .i64] false) [.app (.eload 3 true) [.app (.eidx 3) [.inp 1, .int .i64 0]], .agg [.int .i64 0, .int .i64 1, .int .i64 0]], .bool false], true)] 8 [.inp 7, .agg [.int .i64 0, .int .i64 0, .nils]] false] <|
  .seg [.chk [] .pick [.app .pick [.app .pick [.inp 5, .app (.un .not) [.inp 6], .bool false], .app (.eqa [some .i64, some .i64, some .i64] false) [.app (.eload 3 true) [.app (.eidx 3) [.inp 1, .int .i64 0]], .agg [.int .i64 0, .int .i64 1, .int .i64 0]], .bool false], .inp 8, .bool false]] <|
  .seg [.chk [(.app .pick [.app .pick [.app .pick [.inp 5, .app (.un .not) [.inp 6], .bool false], .app (.eqa [some .i64, some .i64, some .i64] false) [.app (.eload 3 true) [.app (.eidx 3) [.inp 1, .int .i64 0]], .agg [.int .i64 0, .int .i64 1, .int .i64 0]], .bool false], .inp 8, .bool false], true)] (.bin .eql) [.app (.tproj 0) [.inp 2], .int .i64 1]] <|
  .seg [.chk [] .pick [.app .pick [.app .pick [.app .pick [.inp 5, .app (.un .not) [.inp 6], .bool false], .app (.eqa [some .i64, some .i64, some .i64] false) [.app (.eload 3 true) [.app (.eidx 3) [.inp 1, .int .i64 0]], .agg [.int .i64 0, .int .i64 1, .int .i64 0]], .bool false], .inp 8, .bool false], .app (.bin .eql) [.app (.tproj 0) [.inp 2], .int .i64 1], .bool false]] <|
  .seg [.chk [] .pick [.app .pick [.app .pick [.app .pick [.app .pick [.inp 5, .app (.un .not) [.inp 6], .bool false], .app (.eqa [some .i64, some .i64, some .i64] false) [.app (.eload 3 true) [.app (.eidx 3) [.inp 1, .int .i64 0]], .agg [.int .i64 0, .int .i64 1, .int .i64 0]], .bool false], .inp 8, .bool false], .app (.bin .eql) [.app (.tproj 0) [.inp 2], .int .i64 1], .bool false], .app (.tproj 1) [.inp 2], .bool false]] <|
  .seg [.chk [(.app .pick [.app .pick [.app .pick [.app .pick [.app .pick [.inp 5, .app (.un .not) [.inp 6], .bool false], .app (.eqa [some .i64, some .i64, some .i64] false) [.app (.eload 3 true) [.app (.eidx 3) [.inp 1, .int .i64 0]], .agg [.int .i64 0, .int .i64 1, .int .i64 0]], .bool false], .inp 8, .bool false], .app (.bin .eql) [.app (.tproj 0) [.inp 2], .int .i64 1], .bool false], .app (.tproj 1) [.inp 2], .bool false], true)] (.un .not) [.app (.tproj 1) [.inp 3]]] <|
  .seg [.chk [] .pick [.app .pick [.app .pick [.app .pick [.app .pick [.app .pick [.inp 5, .app (.un .not) [.inp 6], .bool false], .app (.eqa [some .i64, some .i64, some .i64] false) [.app (.eload 3 true) [.app (.eidx 3) [.inp 1, .int .i64 0]], .agg [.int .i64 0, .int .i64 1, .int .i64 0]], .bool false], .inp 8, .bool false], .app (.bin .eql) [.app (.tproj 0) [.inp 2], .int .i64 1], .bool false], .app (.tproj 1) [.inp 2], .bool false], .app (.un .not) [.app (.tproj 1) [.inp 3]], .bool false]] <|
  .seg [.chk [(.app .pick [.app .pick [.app .pick [.app .pick [.app .pick [.app .pick [.inp 5, .app (.un .not) [.inp 6], .bool false], .app (.eqa [some .i64, some .i64, some .i64] false) [.app (.eload 3 true) [.app (.eidx 3) [.inp 1, .int .i64 0]], .agg [.int .i64 0, .int .i64 1, .int .i64 0]], .bool false], .inp 8, .bool false], .app (.bin .eql) [.app (.tproj 0) [.inp 2], .int .i64 1], .bool false], .app (.tproj 1) [.inp 2], .bool false], .app (.un .not) [.app (.tproj 1) [.inp 3]], .bool false], true)] (.eidx 1) [.inp 4, .int .i64 0]] <|
  .seg [.chk [(.app .pick [.app .pick [.app .pick [.app .pick [.app .pick [.app .pick [.inp 5, .app (.un .not) [.inp 6], .bool false], .app (.eqa [some .i64, some .i64, some .i64] false) [.app (.eload 3 true) [.app (.eidx 3) [.inp 1, .int .i64 0]], .agg [.int .i64 0, .int .i64 1, .int .i64 0]], .bool false], .inp 8, .bool false], .app (.bin .eql) [.app (.tproj 0) [.inp 2], .int .i64 1], .bool false], .app (.tproj 1) [.inp 2], .bool false], .app (.un .not) [.app (.tproj 1) [.inp 3]], .bool false], true)] (.eload 1 false) [.app (.eidx 1) [.inp 4, .int .i64 0]]] <|
  .seg [.chk [(.app .pick [.app .pick [.app .pick [.app .pick [.app .pick [.app .pick [.inp 5, .app (.un .not) [.inp 6], .bool false], .app (.eqa [some .i64, some .i64, some .i64] false) [.app (.eload 3 true) [.app (.eidx 3) [.inp 1, .int .i64 0]], .agg [.int .i64 0, .int .i64 1, .int .i64 0]], .bool false], .inp 8, .bool false], .app (.bin .eql) [.app (.tproj 0) [.inp 2], .int .i64 1], .bool false], .app (.tproj 1) [.inp 2], .bool false], .app (.un .not) [.app (.tproj 1) [.inp 3]], .bool false], true)] (.bin .eql) [.app (.eload 1 false) [.app (.eidx 1) [.inp 4, .int .i64 0]], .int .i64 1]] <|
  .seg [.chk [] .pick [.app .pick [.app .pick [.app .pick [.app .pick [.app .pick [.app .pick [.inp 5, .app (.un .not) [.inp 6], .bool false], .app (.eqa [some .i64, some .i64, some .i64] false) [.app (.eload 3 true) [.app (.eidx 3) [.inp 1, .int .i64 0]], .agg [.int .i64 0, .int .i64 1, .int .i64 0]], .bool false], .inp 8, .bool false], .app (.bin .eql) [.app (.tproj 0) [.inp 2], .int .i64 1], .bool false], .app (.tproj 1) [.inp 2], .bool false], .app (.un .not) [.app (.tproj 1) [.inp 3]], .bool false], .app (.bin .eql) [.app (.eload 1 false) [.app (.eidx 1) [.inp 4, .int .i64 0]], .int .i64 1], .bool false]] <|
  .seg [.chk [(.app .pick [.app .pick [.app .pick [.app .pick [.app .pick [.app .pick [.app .pick [.inp 5, .app (.un .not) [.inp 6], .bool false], .app (.eqa [some .i64, some .i64, some .i64] false) [.app (.eload 3 true) [.app (.eidx 3) [.inp 1, .int .i64 0]], .agg [.int .i64 0, .int .i64 1, .int .i64 0]], .bool false], .inp 8, .bool false], .app (.bin .eql) [.app (.tproj 0) [.inp 2], .int .i64 1], .bool false], .app (.tproj 1) [.inp 2], .bool false], .app (.un .not) [.app (.tproj 1) [.inp 3]], .bool false], .app (.bin .eql) [.app (.eload 1 false) [.app (.eidx 1) [.inp 4, .int .i64 0]], .int .i64 1], .bool false], true)] (.eidx 1) [.inp 4, .int .i64 1]] <|
  .seg [.chk [(.app .pick [.app .pick [.app .pick [.app .pick [.app .pick [.app .pick [.app .pick [.inp 5, .app (.un .not) [.inp 6], .bool false], .app (.eqa [some .i64, some .i64, some .i64] false) [.app (.eload 3 true) [.app (.eidx 3) [.inp 1, .int .i64 0]], .agg [.int .i64 0, .int .i64 1, .int .i64 0]], .bool false], .inp 8, .bool false], .app (.bin .eql) [.app (.tproj 0) [.inp 2], .int .i64 1], .bool false], .app (.tproj 1) [.inp 2], .bool false], .app (.un .not) [.app (.tproj 1) [.inp 3]], .bool false], .app (.bin .eql) [.app (.eload 1 false) [.app (.eidx 1) [.inp 4, .int .i64 0]], .int .i64 1], .bool false], true)] (.eload 1 false) [.app (.eidx 1) [.inp 4, .int .i64 1]]] <|
  .seg [.chk [(.app .pick [.app .pick [.app .pick [.app .pick [.app .pick [.app .pick [.app .pick [.inp 5, .app (.un .not) [.inp 6], .bool false], .app (.eqa [some .i64, some .i64, some .i64] false) [.app (.eload 3 true) [.app (.eidx 3) [.inp 1, .int .i64 0]], .agg [.int .i64 0, .int .i64 1, .int .i64 0]], .bool false], .inp 8, .bool false], .app (.bin .eql) [.app (.tproj 0) [.inp 2], .int .i64 1], .bool false], .app (.tproj 1) [.inp 2], .bool false], .app (.un .not) [.app (.tproj 1) [.inp 3]], .bool false], .app (.bin .eql) [.app (.eload 1 false) [.app (.eidx 1) [.inp 4, .int .i64 0]], .int .i64 1], .bool false], true)] (.bin .eql) [.app (.eload 1 false) [.app (.eidx 1) [.inp 4, .int .i64 1]], .int .i64 3]] <|
  .seg [.chk [] .pick [.app .pick [.app .pick [.app .pick [.app .pick [.app .pick [.app .pick [.app .pick [.inp 5, .app (.un .not) [.inp 6], .bool false], .app (.eqa [some .i64, some .i64, some .i64] false) [.app (.eload 3 true) [.app (.eidx 3) [.inp 1, .int .i64 0]], .agg [.int .i64 0, .int .i64 1, .int .i64 0]], .bool false], .inp 8, .bool false], .app (.bin .eql) [.app (.tproj 0) [.inp 2], .int .i64 1], .bool false], .app (.tproj 1) [.inp 2], .bool false], .app (.un .not) [.app (.tproj 1) [.inp 3]], .bool false], .app (.bin .eql) [.app (.eload 1 false) [.app (.eidx 1) [.inp 4, .int .i64 0]], .int .i64 1], .bool false], .app (.bin .eql) [.app (.eload 1 false) [.app (.eidx 1) [.inp 4, .int .i64 1]], .int .i64 3], .bool false]] <|
  .seg [.call 9 [(.app .pick [.app .pick [.app .pick [.app .pick [.app .pick [.app .pick [.app .pick [.app .pick [.inp 5, .app (.un .not) [.inp 6], .bool false], .app (.eqa [some .i64, some .i64, some .i64] false) [.app (.eload 3 true) [.app (.eidx 3) [.inp 1, .int .i64 0]], .agg [.int .i64 0, .int .i64 1, .int .i64 0]], .bool false], .inp 8, .bool false], .app (.bin .eql) [.app (.tproj 0) [.inp 2], .int .i64 1], .bool false], .app (.tproj 1) [.inp 2], .bool false], .app (.un .not) [.app (.tproj 1) [.inp 3]], .bool false], .app (.bin .eql) [.app (.eload 1 false) [.app (.eidx 1) [.inp 4, .int .i64 0]], .int .i64 1], .bool false], .app (.bin .eql) [.app (.eload 1 false) [.app (.eidx 1) [.inp 4, .int .i64 1]], .int .i64 3], .bool false], true)] 22 [.app .lst [.agg [.int .i64 3, .int .i64 0, .int .i64 0], .agg [.int .i64 1, .int .i64 1, .int .i64 2]], .app .lst [.agg [.int .i64 3, .int .i64 0, .int .i64 0], .agg [.int .i64 1, .int .i64 1, .int .i64 2]]] true] <|
  .seg [.chk [] .pick [.app .pick [.app .pick [.app .pick [.app .pick [.app .pick [.app .pick [.app .pick [.app .pick [.inp 5, .app (.un .not) [.inp 6], .bool false], .app (.eqa [some .i64, some .i64, some .i64] false) [.app (.eload 3 true) [.app (.eidx 3) [.inp 1, .int .i64 0]], .agg [.int .i64 0, .int .i64 1, .int .i64 0]], .bool false], .inp 8, .bool false], .app (.bin .eql) [.app (.tproj 0) [.inp 2], .int .i64 1], .bool false], .app (.tproj 1) [.inp 2], .bool false], .app (.un .not) [.app (.tproj 1) [.inp 3]], .bool false], .app (.bin .eql) [.app (.eload 1 false) [.app (.eidx 1) [.inp 4, .int .i64 0]], .int .i64 1], .bool false], .app (.bin .eql) [.app (.eload 1 false) [.app (.eidx 1) [.inp 4, .int .i64 1]], .int .i64 3], .bool false], .inp 9, .bool false]] <|
  .seg [.call 10 [(.app .pick [.app .pick [.app .pick [.app .pick [.app .pick [.app .pick [.app .pick [.app .pick [.app .pick [.inp 5, .app (.un .not) [.inp 6], .bool false], .app (.eqa [some .i64, some .i64, some .i64] false) [.app (.eload 3 true) [.app (.eidx 3) [.inp 1, .int .i64 0]], .agg [.int .i64 0, .int .i64 1, .int .i64 0]], .bool false], .inp 8, .bool false], .app (.bin .eql) [.app (.tproj 0) [.inp 2], .int .i64 1], .bool false], .app (.tproj 1) [.inp 2], .bool false], .app (.un .not) [.app (.tproj 1) [.inp 3]], .bool false], .app (.bin .eql) [.app (.eload 1 false) [.app (.eidx 1) [.inp 4, .int .i64 0]], .int .i64 1], .bool false], .app (.bin .eql) [.app (.eload 1 false) [.app (.eidx 1) [.inp 4, .int .i64 1]], .int .i64 3], .bool false], .inp 9, .bool false], true)] 22 [.app .lst [.agg [.int .i64 3, .int .i64 0, .int .i64 0], .agg [.int .i64 1, .int .i64 1, .int .i64 2]], .nils] true] <|
  .seg [.chk [(.app .pick [.app .pick [.app .pick [.app .pick [.app .pick [.app .pick [.app .pick [.app .pick [.app .pick [.inp 5, .app (.un .not) [.inp 6], .bool false], .app (.eqa [some .i64, some .i64, some .i64] false) [.app (.eload 3 true) [.app (.eidx 3) [.inp 1, .int .i64 0]], .agg [.int .i64 0, .int .i64 1, .int .i64 0]], .bool false], .inp 8, .bool false], .app (.bin .eql) [.app (.tproj 0) [.inp 2], .int .i64 1], .bool false], .app (.tproj 1) [.inp 2], .bool false], .app (.un .not) [.app (.tproj 1) [.inp 3]], .bool false], .app (.bin .eql) [.app (.eload 1 false) [.app (.eidx 1) [.inp 4, .int .i64 0]], .int .i64 1], .bool false], .app (.bin .eql) [.app (.eload 1 false) [.app (.eidx 1) [.inp 4, .int .i64 1]], .int .i64 3], .bool false], .inp 9, .bool false], true)] (.un .not) [.inp 10]] <|
  .seg [.chk [] .pick [.app .pick [.app .pick [.app .pick [.app .pick [.app .pick [.app .pick [.app .pick [.app .pick [.app .pick [.inp 5, .app (.un .not) [.inp 6], .bool false], .app (.eqa [some .i64, some .i64, some .i64] false) [.app (.eload 3 true) [.app (.eidx 3) [.inp 1, .int .i64 0]], .agg [.int .i64 0, .int .i64 1, .int .i64 0]], .bool false], .inp 8, .bool false], .app (.bin .eql) [.app (.tproj 0) [.inp 2], .int .i64 1], .bool false], .app (.tproj 1) [.inp 2], .bool false], .app (.un .not) [.app (.tproj 1) [.inp 3]], .bool false], .app (.bin .eql) [.app (.eload 1 false) [.app (.eidx 1) [.inp 4, .int .i64 0]], .int .i64 1], .bool false], .app (.bin .eql) [.app (.eload 1 false) [.app (.eidx 1) [.inp 4, .int .i64 1]], .int .i64 3], .bool false], .inp 9, .bool false], .app (.un .not) [.inp 10], .bool false]] <|
  .ret (.app .pick [.app .pick [.app .pick [.app .pick [.app .pick [.app .pick [.app .pick [.app .pick [.app .pick [.app .pick [.inp 5, .app (.un .not) [.inp 6], .bool false], .app (.eqa [some .i64, some .i64, some .i64] false) [.app (.eload 3 true) [.app (.eidx 3) [.inp 1, .int .i64 0]], .agg [.int .i64 0, .int .i64 1, .int .i64 0]], .bool false], .inp 8, .bool false], .app (.bin .eql) [.app (.tproj 0) [.inp 2], .int .i64 1], .bool false], .app (.tproj 1) [.inp 2], .bool false], .app (.un .not) [.app (.tproj 1) [.inp 3]], .bool false], .app (.bin .eql) [.app (.eload 1 false) [.app (.eidx 1) [.inp 4, .int .i64 0]], .int .i64 1], .bool false], .app (.bin .eql) [.app (.eload 1 false) [.app (.eidx 1) [.inp 4, .int .i64 1]], .int .i64 3], .bool false], .inp 9, .bool false], .app (.un .not) [.inp 10], .bool false]))
theorem run_lockbarlaw13_wakes : runF E 9 [] 0 = rt_lockbarlaw13_wakes := by kernel_rfl

noncomputable def rt_lockbarlaw13_NeedClash : RT :=
 .seg [.chk [] .len [.inp 0]] <|
 .seg [.chk [] (.bin .gtr) [.app .len [.inp 0], .int .i64 60]] <|
 .seg [.chk [(.app (.bin .gtr) [.app .len [.inp 0], .int .i64 60], false)] .len [.inp 1]] <|
 .seg [.chk [(.app (.bin .gtr) [.app .len [.inp 0], .int .i64 60], false)] (.bin .gtr) [.app .len [.inp 1], .int .i64 60]] <|
 .seg [.chk [] .pick [.app (.bin .gtr) [.app .len [.inp 0], .int .i64 60], .bool true, .app (.bin .gtr) [.app .len [.inp 1], .int .i64 60]]] <|
 .cond (.app .pick [.app (.bin .gtr) [.app .len [.inp 0], .int .i64 60], .bool true, .app (.bin .gtr) [.app .len [.inp 1], .int .i64 60]])
 (.seg [.call 2 [] 9 [] false] <|
  .ret (.inp 2))
 (.seg [.chk [] (.szs 3) [.inp 0],
  .chk [] .app [.app .lst [], .inp 0]] <|
  .seg [.chk [] (.szs 3) [.inp 1],
  .chk [] .app [.app .app [.app .lst [], .inp 0], .inp 1]] <|
  .loop 0 2 [.bool false, .int .i64 0] <|
  .seg [.chk [] .len [.app .app [.app .app [.app .lst [], .inp 0], .inp 1]]] <|
   .seg [.chk [] (.bin .lss) [.inp 3, .app .len [.app .app [.app .app [.app .lst [], .inp 0], .inp 1]]]] <|
   .cond (.app (.bin .lss) [.inp 3, .app .len [.app .app [.app .app [.app .lst [], .inp 0], .inp 1]]])
   (.loop 1 4 [.inp 2, .int .i64 0] <|
    .seg [.chk [] .len [.app .app [.app .app [.app .lst [], .inp 0], .inp 1]]] <|
     .seg [.chk [] (.bin .lss) [.inp 5, .app .len [.app .app [.app .app [.app .lst [], .inp 0], .inp 1]]]] <|
     .cond (.app (.bin .lss) [.inp 5, .app .len [.app .app [.app .app [.app .lst [], .inp 0], .inp 1]]])
     (.seg [.chk [(.inp 4, false)] (.eidx 3) [.app .app [.app .app [.app .lst [], .inp 0], .inp 1], .inp 3],
      .chk [(.inp 4, false)] (.inr 4294967296) [.inp 3],
      .chk [(.inp 4, false)] (.rowget 3 0 1 false) [.app .app [.app .app [.app .lst [], .inp 0], .inp 1], .inp 3],
      .chk [(.inp 4, false)] (.eidx 3) [.app .app [.app .app [.app .lst [], .inp 0], .inp 1], .inp 5],
      .chk [(.inp 4, false)] (.inr 4294967296) [.inp 5],
      .chk [(.inp 4, false)] (.rowget 3 0 1 false) [.app .app [.app .app [.app .lst [], .inp 0], .inp 1], .inp 5],
      .chk [(.inp 4, false)] (.bin .eql) [.app (.rowget 3 0 1 false) [.app .app [.app .app [.app .lst [], .inp 0], .inp 1], .inp 3], .app (.rowget 3 0 1 false) [.app .app [.app .app [.app .lst [], .inp 0], .inp 1], .inp 5]],
      .chk [(.app (.bin .eql) [.app (.rowget 3 0 1 false) [.app .app [.app .app [.app .lst [], .inp 0], .inp 1], .inp 3], .app (.rowget 3 0 1 false) [.app .app [.app .app [.app .lst [], .inp 0], .inp 1], .inp 5]], true), (.inp 4, false)] (.eidx 3) [.app .app [.app .app [.app .lst [], .inp 0], .inp 1], .inp 3],
      .chk [(.app (.bin .eql) [.app (.rowget 3 0 1 false) [.app .app [.app .app [.app .lst [], .inp 0], .inp 1], .inp 3], .app (.rowget 3 0 1 false) [.app .app [.app .app [.app .lst [], .inp 0], .inp 1], .inp 5]], true), (.inp 4, false)] (.inr 4294967296) [.inp 3],
      .chk [(.app (.bin .eql) [.app (.rowget 3 0 1 false) [.app .app [.app .app [.app .lst [], .inp 0], .inp 1], .inp 3], .app (.rowget 3 0 1 false) [.app .app [.app .app [.app .lst [], .inp 0], .inp 1], .inp 5]], true), (.inp 4, false)] (.rowget 3 1 1 false) [.app .app [.app .app [.app .lst [], .inp 0], .inp 1], .inp 3],
      .chk [(.app (.bin .eql) [.app (.rowget 3 0 1 false) [.app .app [.app .app [.app .lst [], .inp 0], .inp 1], .inp 3], .app (.rowget 3 0 1 false) [.app .app [.app .app [.app .lst [], .inp 0], .inp 1], .inp 5]], true), (.inp 4, false)] (.eidx 3) [.app .app [.app .app [.app .lst [], .inp 0], .inp 1], .inp 5],
      .chk [(.app (.bin .eql) [.app (.rowget 3 0 1 false) [.app .app [.app .app [.app .lst [], .inp 0], .inp 1], .inp 3], .app (.rowget 3 0 1 false) [.app .app [.app .app [.app .lst [], .inp 0], .inp 1], .inp 5]], true), (.inp 4, false)] (.inr 4294967296) [.inp 5],
      .chk [(.app (.bin .eql) [.app (.rowget 3 0 1 false) [.app .app [.app .app [.app .lst [], .inp 0], .inp 1], .inp 3], .app (.rowget 3 0 1 false) [.app .app [.app .app [.app .lst [], .inp 0], .inp 1], .inp 5]], true), (.inp 4, false)] (.rowget 3 1 1 false) [.app .app [.app .app [.app .lst [], .inp 0], .inp 1], .inp 5],
      .chk [(.app (.bin .eql) [.app (.rowget 3 0 1 false) [.app .app [.app .app [.app .lst [], .inp 0], .inp 1], .inp 3], .app (.rowget 3 0 1 false) [.app .app [.app .app [.app .lst [], .inp 0], .inp 1], .inp 5]], true), (.inp 4, false)] (.bin .neq) [.app (.rowget 3 1 1 false) [.app .app [.app .app [.app .lst [], .inp 0], .inp 1], .inp 3], .app (.rowget 3 1 1 false) [.app .app [.app .app [.app .lst [], .inp 0], .inp 1], .inp 5]],
      .chk [(.inp 4, false)] .pick [.app (.bin .eql) [.app (.rowget 3 0 1 false) [.app .app [.app .app [.app .lst [], .inp 0], .inp 1], .inp 3], .app (.rowget 3 0 1 false) [.app .app [.app .app [.app .lst [], .inp 0], .inp 1], .inp 5]], .app (.bin .neq) [.app (.rowget 3 1 1 false) [.app .app [.app .app [.app .lst [], .inp 0], .inp 1], .inp 3], .app (.rowget 3 1 1 false) [.app .app [.app .app [.app .lst [], .inp 0], .inp 1], .inp 5]], .bool false],
      .chk [] .pick [.inp 4, .bool true, .app .pick [.app (.bin .eql) [.app (.rowget 3 0 1 false) [.app .app [.app .app [.app .lst [], .inp 0], .inp 1], .inp 3], .app (.rowget 3 0 1 false) [.app .app [.app .app [.app .lst [], .inp 0], .inp 1], .inp 5]], .app (.bin .neq) [.app (.rowget 3 1 1 false) [.app .app [.app .app [.app .lst [], .inp 0], .inp 1], .inp 3], .app (.rowget 3 1 1 false) [.app .app [.app .app [.app .lst [], .inp 0], .inp 1], .inp 5]], .bool false]]] <|
      .seg [.chk [] (.bin .add) [.inp 5, .int .i64 1]] <|
      .again 1 [.app .pick [.inp 4, .bool true, .app .pick [.app (.bin .eql) [.app (.rowget 3 0 1 false) [.app .app [.app .app [.app .lst [], .inp 0], .inp 1], .inp 3], .app (.rowget 3 0 1 false) [.app .app [.app .app [.app .lst [], .inp 0], .inp 1], .inp 5]], .app (.bin .neq) [.app (.rowget 3 1 1 false) [.app .app [.app .app [.app .lst [], .inp 0], .inp 1], .inp 3], .app (.rowget 3 1 1 false) [.app .app [.app .app [.app .lst [], .inp 0], .inp 1], .inp 5]], .bool false]], .app (.bin .add) [.inp 5, .int .i64 1]])
     (.seg [.chk [] (.bin .add) [.inp 3, .int .i64 1]] <|
      .again 0 [.inp 4, .app (.bin .add) [.inp 3, .int .i64 1]]))
   (.seg [.call 4 [] 13 [.inp 0, .inp 1] false] <|
    .seg [.chk [] (.eqb false) [.inp 4, .inp 2]] <|
    .seg [.call 5 [(.app (.eqb false) [.inp 4, .inp 2], true)] 13 [.inp 1, .inp 0] false] <|
    .seg [.chk [(.app (.eqb false) [.inp 4, .inp 2], true)] (.eqb false) [.inp 5, .inp 2]] <|
    .seg [.chk [] .pick [.app (.eqb false) [.inp 4, .inp 2], .app (.eqb false) [.inp 5, .inp 2], .bool false]] <|
    .seg [.call 6 [(.app .pick [.app (.eqb false) [.inp 4, .inp 2], .app (.eqb false) [.inp 5, .inp 2], .bool false], true)] 13 [.inp 0, .nils] false] <|
    .seg [.chk [(.app .pick [.app (.eqb false) [.inp 4, .inp 2], .app (.eqb false) [.inp 5, .inp 2], .bool false], true)] (.un .not) [.inp 6]] <|
    .seg [.chk [(.app .pick [.app (.eqb false) [.inp 4, .inp 2], .app (.eqb false) [.inp 5, .inp 2], .bool false], true)] .pick [.app (.un .not) [.inp 6], .bool true, .inp 2]] <|
    .seg [.chk [] .pick [.app .pick [.app (.eqb false) [.inp 4, .inp 2], .app (.eqb false) [.inp 5, .inp 2], .bool false], .app .pick [.app (.un .not) [.inp 6], .bool true, .inp 2], .bool false]] <|
    .seg [.call 7 [(.app .pick [.app .pick [.app (.eqb false) [.inp 4, .inp 2], .app (.eqb false) [.inp 5, .inp 2], .bool false], .app .pick [.app (.un .not) [.inp 6], .bool true, .inp 2], .bool false], true)] 13 [.app .app [.app .app [.app .lst [], .inp 0], .inp 1], .nils] true] <|
    .seg [.chk [(.app .pick [.app .pick [.app (.eqb false) [.inp 4, .inp 2], .app (.eqb false) [.inp 5, .inp 2], .bool false], .app .pick [.app (.un .not) [.inp 6], .bool true, .inp 2], .bool false], true)] (.eqb false) [.inp 7, .inp 2]] <|
    .seg [.chk [] .pick [.app .pick [.app .pick [.app (.eqb false) [.inp 4, .inp 2], .app (.eqb false) [.inp 5, .inp 2], .bool false], .app .pick [.app (.un .not) [.inp 6], .bool true, .inp 2], .bool false], .app (.eqb false) [.inp 7, .inp 2], .bool false]] <|
    .seg [.call 8 [(.app .pick [.app .pick [.app .pick [.app (.eqb false) [.inp 4, .inp 2], .app (.eqb false) [.inp 5, .inp 2], .bool false], .app .pick [.app (.un .not) [.inp 6], .bool true, .inp 2], .bool false], .app (.eqb false) [.inp 7, .inp 2], .bool false], true)] 9 [] false] <|
    .seg [.chk [] .pick [.app .pick [.app .pick [.app .pick [.app (.eqb false) [.inp 4, .inp 2], .app (.eqb false) [.inp 5, .inp 2], .bool false], .app .pick [.app (.un .not) [.inp 6], .bool true, .inp 2], .bool false], .app (.eqb false) [.inp 7, .inp 2], .bool false], .inp 8, .bool false]] <|
    .ret (.app .pick [.app .pick [.app .pick [.app .pick [.app (.eqb false) [.inp 4, .inp 2], .app (.eqb false) [.inp 5, .inp 2], .bool false], .app .pick [.app (.un .not) [.inp 6], .bool true, .inp 2], .bool false], .app (.eqb false) [.inp 7, .inp 2], .bool false], .inp 8, .bool false])))
theorem run_lockbarlaw13_NeedClash : runF E 4 [.inp 0, .inp 1] 2 = rt_lockbarlaw13_NeedClash := by kernel_rfl

noncomputable def rt_lockbarlaw13_NeedPoints : RT :=
 .seg [.chk [] .len [.inp 0]] <|
 .seg [.chk [] (.bin .gtr) [.app .len [.inp 0], .int .i64 60]] <|
 .cond (.app (.bin .gtr) [.app .len [.inp 0], .int .i64 60])
 (.seg [.call 2 [] 9 [] false] <|
  .ret (.inp 2))
 (.seg [.call 2 [] 14 [.inp 0] false] <|
  .loop 0 3 [.bool false, .int .i64 0] <|
  .seg [.chk [] .len [.inp 2]] <|
   .seg [.chk [] (.bin .lss) [.inp 4, .app .len [.inp 2]]] <|
   .cond (.app (.bin .lss) [.inp 4, .app .len [.inp 2]])
   (.seg [.chk [] (.eidx 1) [.inp 2, .inp 4]] <|
    .seg [.chk [] (.eload 1 false) [.app (.eidx 1) [.inp 2, .inp 4]]] <|
    .seg [.call 5 [] 11 [.inp 0, .app (.eload 1 false) [.app (.eidx 1) [.inp 2, .inp 4]]] false] <|
    .seg [.chk [] (.tproj 0) [.inp 5]] <|
    .seg [.chk [] (.tproj 1) [.inp 5]] <|
    .seg [.chk [] (.un .not) [.app (.tproj 1) [.inp 5]],
    .chk [(.app (.un .not) [.app (.tproj 1) [.inp 5]], false)] (.bin .gtr) [.inp 4, .int .i64 0],
    .chk [(.app (.bin .gtr) [.inp 4, .int .i64 0], true), (.app (.un .not) [.app (.tproj 1) [.inp 5]], false)] (.eidx 1) [.inp 2, .inp 4],
    .chk [(.app (.bin .gtr) [.inp 4, .int .i64 0], true), (.app (.un .not) [.app (.tproj 1) [.inp 5]], false)] (.eload 1 false) [.app (.eidx 1) [.inp 2, .inp 4]],
    .chk [(.app (.bin .gtr) [.inp 4, .int .i64 0], true), (.app (.un .not) [.app (.tproj 1) [.inp 5]], false)] (.bin .sub) [.inp 4, .int .i64 1],
    .chk [(.app (.bin .gtr) [.inp 4, .int .i64 0], true), (.app (.un .not) [.app (.tproj 1) [.inp 5]], false)] (.eidx 1) [.inp 2, .app (.bin .sub) [.inp 4, .int .i64 1]],
    .chk [(.app (.bin .gtr) [.inp 4, .int .i64 0], true), (.app (.un .not) [.app (.tproj 1) [.inp 5]], false)] (.eload 1 false) [.app (.eidx 1) [.inp 2, .app (.bin .sub) [.inp 4, .int .i64 1]]],
    .chk [(.app (.bin .gtr) [.inp 4, .int .i64 0], true), (.app (.un .not) [.app (.tproj 1) [.inp 5]], false)] (.bin .leq) [.app (.eload 1 false) [.app (.eidx 1) [.inp 2, .inp 4]], .app (.eload 1 false) [.app (.eidx 1) [.inp 2, .app (.bin .sub) [.inp 4, .int .i64 1]]]],
    .chk [(.app (.un .not) [.app (.tproj 1) [.inp 5]], false)] .pick [.app (.bin .gtr) [.inp 4, .int .i64 0], .app (.bin .leq) [.app (.eload 1 false) [.app (.eidx 1) [.inp 2, .inp 4]], .app (.eload 1 false) [.app (.eidx 1) [.inp 2, .app (.bin .sub) [.inp 4, .int .i64 1]]]], .bool false],
    .chk [] .pick [.app (.un .not) [.app (.tproj 1) [.inp 5]], .bool true, .app .pick [.app (.bin .gtr) [.inp 4, .int .i64 0], .app (.bin .leq) [.app (.eload 1 false) [.app (.eidx 1) [.inp 2, .inp 4]], .app (.eload 1 false) [.app (.eidx 1) [.inp 2, .app (.bin .sub) [.inp 4, .int .i64 1]]]], .bool false]]] <|
    .cond (.app .pick [.app (.un .not) [.app (.tproj 1) [.inp 5]], .bool true, .app .pick [.app (.bin .gtr) [.inp 4, .int .i64 0], .app (.bin .leq) [.app (.eload 1 false) [.app (.eidx 1) [.inp 2, .inp 4]], .app (.eload 1 false) [.app (.eidx 1) [.inp 2, .app (.bin .sub) [.inp 4, .int .i64 1]]]], .bool false]])
    (.ret (.bool false))
    (.seg [.chk [(.inp 3, false)] (.eidx 1) [.inp 2, .inp 4]] <|
     .seg [.chk [(.inp 3, false)] (.eload 1 false) [.app (.eidx 1) [.inp 2, .inp 4]]] <|
     .seg [.chk [(.inp 3, false)] (.bin .eql) [.app (.eload 1 false) [.app (.eidx 1) [.inp 2, .inp 4]], .inp 1]] <|
     .seg [.chk [] .pick [.inp 3, .bool true, .app (.bin .eql) [.app (.eload 1 false) [.app (.eidx 1) [.inp 2, .inp 4]], .inp 1]]] <|
     .seg [.chk [] (.bin .add) [.inp 4, .int .i64 1]] <|
     .again 0 [.app .pick [.inp 3, .bool true, .app (.bin .eql) [.app (.eload 1 false) [.app (.eidx 1) [.inp 2, .inp 4]], .inp 1]], .app (.bin .add) [.inp 4, .int .i64 1]]))
   (.seg [.call 5 [] 11 [.inp 0, .inp 1] false] <|
    .seg [.chk [] (.tproj 0) [.inp 5]] <|
    .seg [.chk [] (.tproj 1) [.inp 5]] <|
    .loop 0 6 [.int .i64 0] <|
    .seg [.chk [] .len [.inp 0]] <|
     .seg [.chk [] (.bin .lss) [.inp 6, .app .len [.inp 0]]] <|
     .cond (.app (.bin .lss) [.inp 6, .app .len [.inp 0]])
     (.loop 1 7 [.bool false, .int .i64 0] <|
      .seg [.chk [] .len [.inp 2]] <|
       .seg [.chk [] (.bin .lss) [.inp 8, .app .len [.inp 2]]] <|
       .cond (.app (.bin .lss) [.inp 8, .app .len [.inp 2]])
       (.seg [.chk [(.inp 7, false)] (.eidx 1) [.inp 2, .inp 8],
        .chk [(.inp 7, false)] (.eload 1 false) [.app (.eidx 1) [.inp 2, .inp 8]],
        .chk [(.inp 7, false)] (.eidx 3) [.inp 0, .inp 6],
        .chk [(.inp 7, false)] (.eoff 0) [.app (.eidx 3) [.inp 0, .inp 6]],
        .chk [(.inp 7, false)] (.eload 1 false) [.app (.eoff 0) [.app (.eidx 3) [.inp 0, .inp 6]]],
        .chk [(.inp 7, false)] (.bin .eql) [.app (.eload 1 false) [.app (.eidx 1) [.inp 2, .inp 8]], .app (.eload 1 false) [.app (.eoff 0) [.app (.eidx 3) [.inp 0, .inp 6]]]],
        .chk [] .pick [.inp 7, .bool true, .app (.bin .eql) [.app (.eload 1 false) [.app (.eidx 1) [.inp 2, .inp 8]], .app (.eload 1 false) [.app (.eoff 0) [.app (.eidx 3) [.inp 0, .inp 6]]]]]] <|
        .seg [.chk [] (.bin .add) [.inp 8, .int .i64 1]] <|
        .again 1 [.app .pick [.inp 7, .bool true, .app (.bin .eql) [.app (.eload 1 false) [.app (.eidx 1) [.inp 2, .inp 8]], .app (.eload 1 false) [.app (.eoff 0) [.app (.eidx 3) [.inp 0, .inp 6]]]]], .app (.bin .add) [.inp 8, .int .i64 1]])
       (.seg [.chk [] (.un .not) [.inp 7]] <|
        .cond (.inp 7)
        (.seg [.chk [] (.bin .add) [.inp 6, .int .i64 1]] <|
         .again 0 [.app (.bin .add) [.inp 6, .int .i64 1]])
        (.ret (.bool false))))
     (.seg [.chk [] (.eqb false) [.inp 3, .app (.tproj 1) [.inp 5]]] <|
      .seg [.call 7 [(.app (.eqb false) [.inp 3, .app (.tproj 1) [.inp 5]], true)] 9 [] false] <|
      .seg [.chk [] .pick [.app (.eqb false) [.inp 3, .app (.tproj 1) [.inp 5]], .inp 7, .bool false]] <|
      .ret (.app .pick [.app (.eqb false) [.inp 3, .app (.tproj 1) [.inp 5]], .inp 7, .bool false]))))
theorem run_lockbarlaw13_NeedPoints : runF E 5 [.inp 0, .inp 1] 2 = rt_lockbarlaw13_NeedPoints := by kernel_rfl

noncomputable def rt_lockbarref05_Ways : RT :=
 .seg [.chk [] (.bin .eql) [.inp 0, .int .u8 1]] <|
 .cond (.app (.bin .eql) [.inp 0, .int .u8 1])
 (.ret (.int .i64 1))
 (.seg [.chk [] (.bin .eql) [.inp 0, .int .u8 2]] <|
  .cond (.app (.bin .eql) [.inp 0, .int .u8 2])
  (.ret (.int .i64 2))
  (.seg [.chk [] (.bin .eql) [.inp 0, .int .u8 3]] <|
   .cond (.app (.bin .eql) [.inp 0, .int .u8 3])
   (.ret (.int .i64 2))
   (.ret (.int .i64 0))))
theorem run_lockbarref05_Ways : runF E 33 [.inp 0] 1 = rt_lockbarref05_Ways := by kernel_rfl

noncomputable def rt_lockbarref05_Ports : RT :=
 .seg [.chk [] (.bin .eql) [.inp 0, .int .u8 1]] <|
 .cond (.app (.bin .eql) [.inp 0, .int .u8 1])
 (.ret (.int .i64 2))
 (.seg [.chk [] (.bin .eql) [.inp 0, .int .u8 2]] <|
  .cond (.app (.bin .eql) [.inp 0, .int .u8 2])
  (.ret (.int .i64 3))
  (.seg [.chk [] (.bin .eql) [.inp 0, .int .u8 3]] <|
   .cond (.app (.bin .eql) [.inp 0, .int .u8 3])
   (.ret (.int .i64 4))
   (.ret (.int .i64 0))))
theorem run_lockbarref05_Ports : runF E 44 [.inp 0] 1 = rt_lockbarref05_Ports := by kernel_rfl

noncomputable def rt_lockbarref05_Ends : RT :=
 .seg [.chk [] (.bin .lss) [.inp 1, .int .i64 0]] <|
 .seg [.call 2 [(.app (.bin .lss) [.inp 1, .int .i64 0], false)] 33 [.inp 0] false] <|
 .seg [.chk [(.app (.bin .lss) [.inp 1, .int .i64 0], false)] (.bin .geq) [.inp 1, .inp 2]] <|
 .seg [.chk [] .pick [.app (.bin .lss) [.inp 1, .int .i64 0], .bool true, .app (.bin .geq) [.inp 1, .inp 2]]] <|
 .cond (.app .pick [.app (.bin .lss) [.inp 1, .int .i64 0], .bool true, .app (.bin .geq) [.inp 1, .inp 2]])
 (.ret (.tup [.int .i64 0, .int .i64 0, .bool false]))
 (.seg [.chk [] (.bin .eql) [.inp 1, .int .i64 0]] <|
  .cond (.app (.bin .eql) [.inp 1, .int .i64 0])
  (.ret (.tup [.int .i64 0, .int .i64 1, .bool true]))
  (.seg [.chk [] (.bin .eql) [.inp 0, .int .u8 2]] <|
   .cond (.app (.bin .eql) [.inp 0, .int .u8 2])
   (.ret (.tup [.int .i64 0, .int .i64 2, .bool true]))
   (.ret (.tup [.int .i64 2, .int .i64 3, .bool true]))))
theorem run_lockbarref05_Ends : runF E 39 [.inp 0, .inp 1] 2 = rt_lockbarref05_Ends := by kernel_rfl

noncomputable def rt_lockbarref05_Way : RT :=
 .loop 0 3 [.int .i64 0] <|
 .seg [.call 4 [] 33 [.inp 0] false] <|
  .seg [.chk [] (.bin .lss) [.inp 3, .inp 4]] <|
  .cond (.app (.bin .lss) [.inp 3, .inp 4])
  (.seg [.call 5 [] 39 [.inp 0, .inp 3] false] <|
   .seg [.chk [] (.tproj 0) [.inp 5]] <|
   .seg [.chk [] (.tproj 1) [.inp 5]] <|
   .seg [.chk [] (.tproj 2) [.inp 5]] <|
   .seg [.chk [] (.bin .eql) [.inp 1, .app (.tproj 0) [.inp 5]]] <|
   .seg [.chk [(.app (.bin .eql) [.inp 1, .app (.tproj 0) [.inp 5]], true)] (.bin .eql) [.inp 2, .app (.tproj 1) [.inp 5]]] <|
   .seg [.chk [] .pick [.app (.bin .eql) [.inp 1, .app (.tproj 0) [.inp 5]], .app (.bin .eql) [.inp 2, .app (.tproj 1) [.inp 5]], .bool false]] <|
   .seg [.chk [(.app .pick [.app (.bin .eql) [.inp 1, .app (.tproj 0) [.inp 5]], .app (.bin .eql) [.inp 2, .app (.tproj 1) [.inp 5]], .bool false], false)] (.bin .eql) [.inp 1, .app (.tproj 1) [.inp 5]]] <|
   .seg [.chk [(.app (.bin .eql) [.inp 1, .app (.tproj 1) [.inp 5]], true), (.app .pick [.app (.bin .eql) [.inp 1, .app (.tproj 0) [.inp 5]], .app (.bin .eql) [.inp 2, .app (.tproj 1) [.inp 5]], .bool false], false)] (.bin .eql) [.inp 2, .app (.tproj 0) [.inp 5]]] <|
   .seg [.chk [(.app .pick [.app (.bin .eql) [.inp 1, .app (.tproj 0) [.inp 5]], .app (.bin .eql) [.inp 2, .app (.tproj 1) [.inp 5]], .bool false], false)] .pick [.app (.bin .eql) [.inp 1, .app (.tproj 1) [.inp 5]], .app (.bin .eql) [.inp 2, .app (.tproj 0) [.inp 5]], .bool false]] <|
   .seg [.chk [] .pick [.app .pick [.app (.bin .eql) [.inp 1, .app (.tproj 0) [.inp 5]], .app (.bin .eql) [.inp 2, .app (.tproj 1) [.inp 5]], .bool false], .bool true, .app .pick [.app (.bin .eql) [.inp 1, .app (.tproj 1) [.inp 5]], .app (.bin .eql) [.inp 2, .app (.tproj 0) [.inp 5]], .bool false]]] <|
   .cond (.app .pick [.app .pick [.app (.bin .eql) [.inp 1, .app (.tproj 0) [.inp 5]], .app (.bin .eql) [.inp 2, .app (.tproj 1) [.inp 5]], .bool false], .bool true, .app .pick [.app (.bin .eql) [.inp 1, .app (.tproj 1) [.inp 5]], .app (.bin .eql) [.inp 2, .app (.tproj 0) [.inp 5]], .bool false]])
   (.ret (.tup [.inp 3, .bool true]))
   (.seg [.chk [] (.bin .add) [.inp 3, .int .i64 1]] <|
    .again 0 [.app (.bin .add) [.inp 3, .int .i64 1]]))
  (.ret (.tup [.int .i64 0, .bool false]))
theorem run_lockbarref05_Way : runF E 25 [.inp 0, .inp 1, .inp 2] 3 = rt_lockbarref05_Way := by kernel_rfl

noncomputable def rt_lockbarref05_May : RT :=
 .seg [.chk [] (.isAgg 2) [.agg [.inp 0, .inp 1]]] <|
 .seg [.chk [] (.eqa [some .i64, some .i64] false) [.agg [.inp 0, .inp 1], .agg [.int .i64 (-1), .int .i64 0]]] <|
 .seg [.chk [(.app (.eqa [some .i64, some .i64] false) [.agg [.inp 0, .inp 1], .agg [.int .i64 (-1), .int .i64 0]], false)] (.bin .geq) [.inp 0, .int .i64 0]] <|
 .seg [.chk [(.app (.bin .geq) [.inp 0, .int .i64 0], true), (.app (.eqa [some .i64, some .i64] false) [.agg [.inp 0, .inp 1], .agg [.int .i64 (-1), .int .i64 0]], false)] (.bin .lss) [.inp 0, .int .i64 24]] <|
 .seg [.chk [(.app (.eqa [some .i64, some .i64] false) [.agg [.inp 0, .inp 1], .agg [.int .i64 (-1), .int .i64 0]], false)] .pick [.app (.bin .geq) [.inp 0, .int .i64 0], .app (.bin .lss) [.inp 0, .int .i64 24], .bool false]] <|
 .seg [.chk [(.app .pick [.app (.bin .geq) [.inp 0, .int .i64 0], .app (.bin .lss) [.inp 0, .int .i64 24], .bool false], true), (.app (.eqa [some .i64, some .i64] false) [.agg [.inp 0, .inp 1], .agg [.int .i64 (-1), .int .i64 0]], false)] (.bin .geq) [.inp 1, .int .i64 0]] <|
 .seg [.chk [(.app (.eqa [some .i64, some .i64] false) [.agg [.inp 0, .inp 1], .agg [.int .i64 (-1), .int .i64 0]], false)] .pick [.app .pick [.app (.bin .geq) [.inp 0, .int .i64 0], .app (.bin .lss) [.inp 0, .int .i64 24], .bool false], .app (.bin .geq) [.inp 1, .int .i64 0], .bool false]] <|
 .seg [.chk [(.app .pick [.app .pick [.app (.bin .geq) [.inp 0, .int .i64 0], .app (.bin .lss) [.inp 0, .int .i64 24], .bool false], .app (.bin .geq) [.inp 1, .int .i64 0], .bool false], true), (.app (.eqa [some .i64, some .i64] false) [.agg [.inp 0, .inp 1], .agg [.int .i64 (-1), .int .i64 0]], false)] (.bin .lss) [.inp 1, .int .i64 4]] <|
 .seg [.chk [(.app (.eqa [some .i64, some .i64] false) [.agg [.inp 0, .inp 1], .agg [.int .i64 (-1), .int .i64 0]], false)] .pick [.app .pick [.app .pick [.app (.bin .geq) [.inp 0, .int .i64 0], .app (.bin .lss) [.inp 0, .int .i64 24], .bool false], .app (.bin .geq) [.inp 1, .int .i64 0], .bool false], .app (.bin .lss) [.inp 1, .int .i64 4], .bool false]] <|
 .seg [.chk [] .pick [.app (.eqa [some .i64, some .i64] false) [.agg [.inp 0, .inp 1], .agg [.int .i64 (-1), .int .i64 0]], .bool true, .app .pick [.app .pick [.app .pick [.app (.bin .geq) [.inp 0, .int .i64 0], .app (.bin .lss) [.inp 0, .int .i64 24], .bool false], .app (.bin .geq) [.inp 1, .int .i64 0], .bool false], .app (.bin .lss) [.inp 1, .int .i64 4], .bool false]]] <|
 .ret (.app .pick [.app (.eqa [some .i64, some .i64] false) [.agg [.inp 0, .inp 1], .agg [.int .i64 (-1), .int .i64 0]], .bool true, .app .pick [.app .pick [.app .pick [.app (.bin .geq) [.inp 0, .int .i64 0], .app (.bin .lss) [.inp 0, .int .i64 24], .bool false], .app (.bin .geq) [.inp 1, .int .i64 0], .bool false], .app (.bin .lss) [.inp 1, .int .i64 4], .bool false]])
theorem run_lockbarref05_May : runF E 45 [.agg [.inp 0, .inp 1]] 2 = rt_lockbarref05_May := by kernel_rfl


end Go.Lb.LK
