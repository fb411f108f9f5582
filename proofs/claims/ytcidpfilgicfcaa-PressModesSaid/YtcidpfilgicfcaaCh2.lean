/- Chapter 25: what functions come to, printed by a program, checked by the kernel. -/
import Derived.Test.YtcidpfilgicfcaaCh1
set_option linter.unusedSimpArgs false
set_option linter.unusedVariables false
namespace Go.Lb.C25
open Go Go.Lb Go.Proofs
noncomputable def rt39 : RT :=
 .seg [.chk [] .len [.inp 0]] <|
 .seg [.chk [] .len [.inp 1]] <|
 .seg [.chk [] (.bin .neq) [.app .len [.inp 0], .app .len [.inp 1]]] <|
 .cond (.app (.bin .neq) [.app .len [.inp 0], .app .len [.inp 1]])
 (.ret (.bool false))
 (.seg [.chk [] .len [.inp 0]] <|
  .loop 0 2 [.int .i64 0] <|
  .seg [.chk [] (.bin .lss) [.inp 2, .app .len [.inp 0]]] <|
   .cond (.app (.bin .lss) [.inp 2, .app .len [.inp 0]])
   (.seg [.chk [] (.eidx 1) [.inp 0, .inp 2],
    .chk [] (.eload 1 false) [.app (.eidx 1) [.inp 0, .inp 2]],
    .chk [] (.eidx 1) [.inp 1, .inp 2],
    .chk [] (.eload 1 false) [.app (.eidx 1) [.inp 1, .inp 2]],
    .chk [] (.bin .neq) [.app (.eload 1 false) [.app (.eidx 1) [.inp 0, .inp 2]], .app (.eload 1 false) [.app (.eidx 1) [.inp 1, .inp 2]]]] <|
    .cond (.app (.bin .neq) [.app (.eload 1 false) [.app (.eidx 1) [.inp 0, .inp 2]], .app (.eload 1 false) [.app (.eidx 1) [.inp 1, .inp 2]]])
    (.ret (.bool false))
    (.seg [.chk [] (.bin .add) [.inp 2, .int .i64 1]] <|
     .again 0 [.app (.bin .add) [.inp 2, .int .i64 1]]))
   (.ret (.bool true)))
theorem run39 : runF E 39 [.inp 0, .inp 1] 2 = rt39 := by kernel_rfl

noncomputable def rt31 : RT :=
 .seg [.chk [] .len [.inp 0]] <|
 .seg [.chk [] .len [.inp 1]] <|
 .seg [.chk [] (.bin .neq) [.app .len [.inp 0], .app .len [.inp 1]]] <|
 .cond (.app (.bin .neq) [.app .len [.inp 0], .app .len [.inp 1]])
 (.ret (.bool false))
 (.loop 0 2 [.int .i64 0] <|
  .seg [.chk [] .len [.inp 0]] <|
   .seg [.chk [] (.bin .lss) [.inp 2, .app .len [.inp 0]]] <|
   .cond (.app (.bin .lss) [.inp 2, .app .len [.inp 0]])
   (.seg [.chk [] (.eidx 1) [.inp 0, .inp 2],
    .chk [] (.eload 1 false) [.app (.eidx 1) [.inp 0, .inp 2]],
    .chk [] (.eidx 1) [.inp 1, .inp 2],
    .chk [] (.eload 1 false) [.app (.eidx 1) [.inp 1, .inp 2]],
    .chk [] (.bin .neq) [.app (.eload 1 false) [.app (.eidx 1) [.inp 0, .inp 2]], .app (.eload 1 false) [.app (.eidx 1) [.inp 1, .inp 2]]]] <|
    .cond (.app (.bin .neq) [.app (.eload 1 false) [.app (.eidx 1) [.inp 0, .inp 2]], .app (.eload 1 false) [.app (.eidx 1) [.inp 1, .inp 2]]])
    (.ret (.bool false))
    (.seg [.chk [] (.bin .add) [.inp 2, .int .i64 1]] <|
     .again 0 [.app (.bin .add) [.inp 2, .int .i64 1]]))
   (.ret (.bool true)))
theorem run31 : runF E 31 [.inp 0, .inp 1] 2 = rt31 := by kernel_rfl

noncomputable def rt20 : RT :=
 .seg [.chk [] (.isAgg 5) [.agg [.inp 0, .inp 1, .inp 2, .inp 3, .inp 4]]] <|
 .seg [.chk [] (.isAgg 5) [.agg [.inp 5, .inp 6, .inp 7, .inp 8, .inp 9]]] <|
 .seg [.chk [] (.bin .eql) [.inp 0, .inp 5]] <|
 .seg [.chk [(.app (.bin .eql) [.inp 0, .inp 5], true)] (.bin .eql) [.inp 2, .inp 7]] <|
 .seg [.chk [] .pick [.app (.bin .eql) [.inp 0, .inp 5], .app (.bin .eql) [.inp 2, .inp 7], .bool false]] <|
 .seg [.chk [(.app .pick [.app (.bin .eql) [.inp 0, .inp 5], .app (.bin .eql) [.inp 2, .inp 7], .bool false], true)] (.bin .eql) [.inp 3, .inp 8]] <|
 .seg [.chk [] .pick [.app .pick [.app (.bin .eql) [.inp 0, .inp 5], .app (.bin .eql) [.inp 2, .inp 7], .bool false], .app (.bin .eql) [.inp 3, .inp 8], .bool false]] <|
 .seg [.chk [(.app .pick [.app .pick [.app (.bin .eql) [.inp 0, .inp 5], .app (.bin .eql) [.inp 2, .inp 7], .bool false], .app (.bin .eql) [.inp 3, .inp 8], .bool false], true)] (.bin .eql) [.inp 4, .inp 9]] <|
 .seg [.chk [] .pick [.app .pick [.app .pick [.app (.bin .eql) [.inp 0, .inp 5], .app (.bin .eql) [.inp 2, .inp 7], .bool false], .app (.bin .eql) [.inp 3, .inp 8], .bool false], .app (.bin .eql) [.inp 4, .inp 9], .bool false]] <|
 .seg [.call 10 [(.app .pick [.app .pick [.app .pick [.app (.bin .eql) [.inp 0, .inp 5], .app (.bin .eql) [.inp 2, .inp 7], .bool false], .app (.bin .eql) [.inp 3, .inp 8], .bool false], .app (.bin .eql) [.inp 4, .inp 9], .bool false], true)] 39 [.inp 1, .inp 6] false] <|
 .seg [.chk [] .pick [.app .pick [.app .pick [.app .pick [.app (.bin .eql) [.inp 0, .inp 5], .app (.bin .eql) [.inp 2, .inp 7], .bool false], .app (.bin .eql) [.inp 3, .inp 8], .bool false], .app (.bin .eql) [.inp 4, .inp 9], .bool false], .inp 10, .bool false]] <|
 .ret (.app .pick [.app .pick [.app .pick [.app .pick [.app (.bin .eql) [.inp 0, .inp 5], .app (.bin .eql) [.inp 2, .inp 7], .bool false], .app (.bin .eql) [.inp 3, .inp 8], .bool false], .app (.bin .eql) [.inp 4, .inp 9], .bool false], .inp 10, .bool false])
theorem run20 : runF E 20 [.agg [.inp 0, .inp 1, .inp 2, .inp 3, .inp 4], .agg [.inp 5, .inp 6, .inp 7, .inp 8, .inp 9]] 10 = rt20 := by kernel_rfl

noncomputable def rt12 : RT :=
 .seg [.chk [] (.isAgg 5) [.agg [.inp 0, .inp 1, .inp 2, .inp 3, .inp 4]]] <|
 .seg [.chk [] (.isAgg 5) [.agg [.inp 5, .inp 6, .inp 7, .inp 8, .inp 9]]] <|
 .seg [.chk [] (.bin .eql) [.inp 0, .inp 5]] <|
 .seg [.call 10 [(.app (.bin .eql) [.inp 0, .inp 5], true)] 31 [.inp 1, .inp 6] false] <|
 .seg [.chk [] .pick [.app (.bin .eql) [.inp 0, .inp 5], .inp 10, .bool false]] <|
 .seg [.chk [(.app .pick [.app (.bin .eql) [.inp 0, .inp 5], .inp 10, .bool false], true)] (.bin .eql) [.inp 2, .inp 7]] <|
 .seg [.chk [] .pick [.app .pick [.app (.bin .eql) [.inp 0, .inp 5], .inp 10, .bool false], .app (.bin .eql) [.inp 2, .inp 7], .bool false]] <|
 .seg [.chk [(.app .pick [.app .pick [.app (.bin .eql) [.inp 0, .inp 5], .inp 10, .bool false], .app (.bin .eql) [.inp 2, .inp 7], .bool false], true)] (.bin .eql) [.inp 3, .inp 8]] <|
 .seg [.chk [] .pick [.app .pick [.app .pick [.app (.bin .eql) [.inp 0, .inp 5], .inp 10, .bool false], .app (.bin .eql) [.inp 2, .inp 7], .bool false], .app (.bin .eql) [.inp 3, .inp 8], .bool false]] <|
 .seg [.chk [(.app .pick [.app .pick [.app .pick [.app (.bin .eql) [.inp 0, .inp 5], .inp 10, .bool false], .app (.bin .eql) [.inp 2, .inp 7], .bool false], .app (.bin .eql) [.inp 3, .inp 8], .bool false], true)] (.bin .eql) [.inp 4, .inp 9]] <|
 .seg [.chk [] .pick [.app .pick [.app .pick [.app .pick [.app (.bin .eql) [.inp 0, .inp 5], .inp 10, .bool false], .app (.bin .eql) [.inp 2, .inp 7], .bool false], .app (.bin .eql) [.inp 3, .inp 8], .bool false], .app (.bin .eql) [.inp 4, .inp 9], .bool false]] <|
 .ret (.app .pick [.app .pick [.app .pick [.app .pick [.app (.bin .eql) [.inp 0, .inp 5], .inp 10, .bool false], .app (.bin .eql) [.inp 2, .inp 7], .bool false], .app (.bin .eql) [.inp 3, .inp 8], .bool false], .app (.bin .eql) [.inp 4, .inp 9], .bool false])
theorem run12 : runF E 12 [.agg [.inp 0, .inp 1, .inp 2, .inp 3, .inp 4], .agg [.inp 5, .inp 6, .inp 7, .inp 8, .inp 9]] 10 = rt12 := by kernel_rfl

noncomputable def rt22 : RT :=
 .ret (.agg [.int .i64 (-1), .nils, .int .i64 0, .int .u8 0, .int .i64 0])
theorem run22 : runF E 22 [] 0 = rt22 := by kernel_rfl

noncomputable def rt23 : RT :=
 .ret (.agg [.int .i64 (-1), .nils, .int .i64 0, .int .u8 0, .int .i64 0])
theorem run23 : runF E 23 [] 0 = rt23 := by kernel_rfl

noncomputable def rt21 : RT :=
 .seg [.chk [] (.isAgg 5) [.agg [.inp 0, .inp 1, .inp 2, .inp 3, .inp 4]]] <|
 .seg [.chk [] .len [.inp 1],
 .isNil 5 [] (.inp 1)] <|
 .cond (.inp 5)
 (.seg [.chk [] (.isAgg 5) [.agg [.inp 0, .enil, .inp 2, .inp 3, .inp 4]]] <|
  .ret (.agg [.inp 0, .nils, .inp 2, .inp 3, .inp 4]))
 (.seg [.chk [] (.szs 1) [.inp 1],
  .chk [] .app [.app .lst [], .inp 1]] <|
  .seg [.chk [] (.isAgg 5) [.agg [.inp 0, .row 18, .inp 2, .inp 3, .inp 4]]] <|
  .ret (.agg [.inp 0, .app .app [.app .lst [], .inp 1], .inp 2, .inp 3, .inp 4]))
theorem run21 : runF E 21 [.agg [.inp 0, .inp 1, .inp 2, .inp 3, .inp 4]] 5 = rt21 := by kernel_rfl

noncomputable def rt29 : RT :=
 .seg [.chk [] (.isAgg 5) [.agg [.inp 0, .inp 1, .inp 2, .inp 3, .inp 4]]] <|
 .seg [.chk [] (.szs 1) [.inp 1],
 .chk [] .app [.app .lst [], .inp 1]] <|
 .seg [.chk [] (.isAgg 5) [.agg [.inp 0, .row 10, .inp 2, .inp 3, .inp 4]]] <|
 .ret (.agg [.inp 0, .app .app [.app .lst [], .inp 1], .inp 2, .inp 3, .inp 4])
theorem run29 : runF E 29 [.agg [.inp 0, .inp 1, .inp 2, .inp 3, .inp 4]] 5 = rt29 := by kernel_rfl

noncomputable def rt28 : RT :=
 .seg [.chk [] (.isAgg 11) [.agg [.inp 0, .inp 1, .inp 2, .inp 3, .inp 4, .inp 5, .inp 6, .inp 7, .inp 8, .inp 9, .inp 10]]] <|
 .seg [.chk [] (.isAgg 5) [.agg [.inp 11, .inp 12, .inp 13, .inp 14, .inp 15]]] <|
 .seg [.chk [] (.bin .gtr) [.inp 9, .int .i64 0]] <|
 .seg [.chk [(.app (.bin .gtr) [.inp 9, .int .i64 0], true)] (.bin .leq) [.inp 9, .int .i64 1000]] <|
 .seg [.chk [] .pick [.app (.bin .gtr) [.inp 9, .int .i64 0], .app (.bin .leq) [.inp 9, .int .i64 1000], .bool false]] <|
 .seg [.call 16 [(.app .pick [.app (.bin .gtr) [.inp 9, .int .i64 0], .app (.bin .leq) [.inp 9, .int .i64 1000], .bool false], true)] 18 [.agg [.inp 0, .inp 1, .inp 2, .inp 3, .inp 4, .inp 5, .inp 6, .inp 7, .inp 8, .inp 9, .inp 10], .agg [.inp 11, .inp 12, .inp 13, .inp 14, .inp 15]] false] <|
 .seg [.chk [] .pick [.app .pick [.app (.bin .gtr) [.inp 9, .int .i64 0], .app (.bin .leq) [.inp 9, .int .i64 1000], .bool false], .inp 16, .bool false]] <|
 .ret (.app .pick [.app .pick [.app (.bin .gtr) [.inp 9, .int .i64 0], .app (.bin .leq) [.inp 9, .int .i64 1000], .bool false], .inp 16, .bool false])
theorem run28 : runF E 28 [.agg [.inp 0, .inp 1, .inp 2, .inp 3, .inp 4, .inp 5, .inp 6, .inp 7, .inp 8, .inp 9, .inp 10], .agg [.inp 11, .inp 12, .inp 13, .inp 14, .inp 15]] 16 = rt28 := by kernel_rfl

noncomputable def rt30 : RT :=
 .seg [.chk [] (.isAgg 11) [.agg [.inp 0, .inp 1, .inp 2, .inp 3, .inp 4, .inp 5, .inp 6, .inp 7, .inp 8, .inp 9, .inp 10]]] <|
 .seg [.chk [] (.bin .geq) [.inp 9, .int .i64 1]] <|
 .seg [.chk [(.app (.bin .geq) [.inp 9, .int .i64 1], true)] (.bin .leq) [.inp 9, .int .i64 1000]] <|
 .seg [.chk [] .pick [.app (.bin .geq) [.inp 9, .int .i64 1], .app (.bin .leq) [.inp 9, .int .i64 1000], .bool false]] <|
 .ret (.app .pick [.app (.bin .geq) [.inp 9, .int .i64 1], .app (.bin .leq) [.inp 9, .int .i64 1000], .bool false])
theorem run30 : runF E 30 [.agg [.inp 0, .inp 1, .inp 2, .inp 3, .inp 4, .inp 5, .inp 6, .inp 7, .inp 8, .inp 9, .inp 10]] 11 = rt30 := by kernel_rfl

noncomputable def rt38 : RT :=
 .seg [.chk [] (.bin .geq) [.inp 0, .int .i64 0]] <|
 .seg [.chk [(.app (.bin .geq) [.inp 0, .int .i64 0], true)] (.bin .leq) [.inp 0, .int .i64 1000]] <|
 .seg [.chk [] .pick [.app (.bin .geq) [.inp 0, .int .i64 0], .app (.bin .leq) [.inp 0, .int .i64 1000], .bool false]] <|
 .ret (.app .pick [.app (.bin .geq) [.inp 0, .int .i64 0], .app (.bin .leq) [.inp 0, .int .i64 1000], .bool false])
theorem run38 : runF E 38 [.inp 0] 1 = rt38 := by kernel_rfl

noncomputable def rt25 : RT :=
 .seg [.chk [] (.isAgg 11) [.agg [.inp 0, .inp 1, .inp 2, .inp 3, .inp 4, .inp 5, .inp 6, .inp 7, .inp 8, .inp 9, .inp 10]]] <|
 .seg [.chk [] (.isAgg 3) [.agg [.inp 11, .inp 12, .inp 13]]] <|
 .seg [.chk [] (.bin .eql) [.inp 11, .int .u8 1]] <|
 .cond (.app (.bin .eql) [.inp 11, .int .u8 1])
 (.ret (.bool true))
 (.seg [.chk [] (.bin .eql) [.inp 11, .int .u8 2]] <|
  .cond (.app (.bin .eql) [.inp 11, .int .u8 2])
  (.ret (.bool true))
  (.seg [.chk [] (.bin .eql) [.inp 11, .int .u8 3]] <|
   .cond (.app (.bin .eql) [.inp 11, .int .u8 3])
   (.seg [.chk [] (.bin .geq) [.inp 12, .int .i64 0]] <|
    .seg [.chk [(.app (.bin .geq) [.inp 12, .int .i64 0], true)] .len [.inp 1]] <|
    .seg [.chk [(.app (.bin .geq) [.inp 12, .int .i64 0], true)] (.bin .lss) [.inp 12, .app .len [.inp 1]]] <|
    .seg [.chk [] .pick [.app (.bin .geq) [.inp 12, .int .i64 0], .app (.bin .lss) [.inp 12, .app .len [.inp 1]], .bool false]] <|
    .ret (.app .pick [.app (.bin .geq) [.inp 12, .int .i64 0], .app (.bin .lss) [.inp 12, .app .len [.inp 1]], .bool false]))
   (.seg [.chk [] (.bin .eql) [.inp 11, .int .u8 4]] <|
    .cond (.app (.bin .eql) [.inp 11, .int .u8 4])
    (.seg [.chk [] (.bin .geq) [.inp 12, .int .i64 0]] <|
     .seg [.chk [(.app (.bin .geq) [.inp 12, .int .i64 0], true)] .len [.inp 0]] <|
     .seg [.chk [(.app (.bin .geq) [.inp 12, .int .i64 0], true)] (.bin .lss) [.inp 12, .app .len [.inp 0]]] <|
     .seg [.chk [] .pick [.app (.bin .geq) [.inp 12, .int .i64 0], .app (.bin .lss) [.inp 12, .app .len [.inp 0]], .bool false]] <|
     .ret (.app .pick [.app (.bin .geq) [.inp 12, .int .i64 0], .app (.bin .lss) [.inp 12, .app .len [.inp 0]], .bool false]))
    (.seg [.chk [] (.bin .eql) [.inp 11, .int .u8 5]] <|
     .cond (.app (.bin .eql) [.inp 11, .int .u8 5])
     (.seg [.chk [] (.bin .geq) [.inp 12, .int .i64 0]] <|
      .seg [.chk [(.app (.bin .geq) [.inp 12, .int .i64 0], true)] .len [.inp 2]] <|
      .seg [.chk [(.app (.bin .geq) [.inp 12, .int .i64 0], true)] (.bin .lss) [.inp 12, .app .len [.inp 2]]] <|
      .seg [.chk [] .pick [.app (.bin .geq) [.inp 12, .int .i64 0], .app (.bin .lss) [.inp 12, .app .len [.inp 2]], .bool false]] <|
      .ret (.app .pick [.app (.bin .geq) [.inp 12, .int .i64 0], .app (.bin .lss) [.inp 12, .app .len [.inp 2]], .bool false]))
     (.seg [.chk [] (.bin .eql) [.inp 11, .int .u8 6]] <|
      .cond (.app (.bin .eql) [.inp 11, .int .u8 6])
      (.seg [.chk [] (.bin .geq) [.inp 12, .int .i64 0]] <|
       .seg [.chk [(.app (.bin .geq) [.inp 12, .int .i64 0], true)] .len [.inp 0]] <|
       .seg [.chk [(.app (.bin .geq) [.inp 12, .int .i64 0], true)] (.bin .lss) [.inp 12, .app .len [.inp 0]]] <|
       .seg [.chk [] .pick [.app (.bin .geq) [.inp 12, .int .i64 0], .app (.bin .lss) [.inp 12, .app .len [.inp 0]], .bool false]] <|
       .seg [.chk [(.app .pick [.app (.bin .geq) [.inp 12, .int .i64 0], .app (.bin .lss) [.inp 12, .app .len [.inp 0]], .bool false], true)] (.eidx 11) [.inp 0, .inp 12]] <|
       .seg [.chk [(.app .pick [.app (.bin .geq) [.inp 12, .int .i64 0], .app (.bin .lss) [.inp 12, .app .len [.inp 0]], .bool false], true)] (.eoff 0) [.app (.eidx 11) [.inp 0, .inp 12]]] <|
       .seg [.chk [(.app .pick [.app (.bin .geq) [.inp 12, .int .i64 0], .app (.bin .lss) [.inp 12, .app .len [.inp 0]], .bool false], true)] (.eload 1 false) [.app (.eoff 0) [.app (.eidx 11) [.inp 0, .inp 12]]]] <|
       .seg [.chk [(.app .pick [.app (.bin .geq) [.inp 12, .int .i64 0], .app (.bin .lss) [.inp 12, .app .len [.inp 0]], .bool false], true)] (.bin .eql) [.app (.eload 1 false) [.app (.eoff 0) [.app (.eidx 11) [.inp 0, .inp 12]]], .int .u8 2]] <|
       .seg [.chk [] .pick [.app .pick [.app (.bin .geq) [.inp 12, .int .i64 0], .app (.bin .lss) [.inp 12, .app .len [.inp 0]], .bool false], .app (.bin .eql) [.app (.eload 1 false) [.app (.eoff 0) [.app (.eidx 11) [.inp 0, .inp 12]]], .int .u8 2], .bool false]] <|
       .seg [.chk [(.app .pick [.app .pick [.app (.bin .geq) [.inp 12, .int .i64 0], .app (.bin .lss) [.inp 12, .app .len [.inp 0]], .bool false], .app (.bin .eql) [.app (.eload 1 false) [.app (.eoff 0) [.app (.eidx 11) [.inp 0, .inp 12]]], .int .u8 2], .bool false], true)] (.bin .eql) [.inp 13, .int .i64 0]] <|
       .seg [.chk [(.app (.bin .eql) [.inp 13, .int .i64 0], false), (.app .pick [.app .pick [.app (.bin .geq) [.inp 12, .int .i64 0], .app (.bin .lss) [.inp 12, .app .len [.inp 0]], .bool false], .app (.bin .eql) [.app (.eload 1 false) [.app (.eoff 0) [.app (.eidx 11) [.inp 0, .inp 12]]], .int .u8 2], .bool false], true)] (.bin .eql) [.inp 13, .int .i64 1]] <|
       .seg [.chk [(.app .pick [.app .pick [.app (.bin .geq) [.inp 12, .int .i64 0], .app (.bin .lss) [.inp 12, .app .len [.inp 0]], .bool false], .app (.bin .eql) [.app (.eload 1 false) [.app (.eoff 0) [.app (.eidx 11) [.inp 0, .inp 12]]], .int .u8 2], .bool false], true)] .pick [.app (.bin .eql) [.inp 13, .int .i64 0], .bool true, .app (.bin .eql) [.inp 13, .int .i64 1]]] <|
       .seg [.chk [] .pick [.app .pick [.app .pick [.app (.bin .geq) [.inp 12, .int .i64 0], .app (.bin .lss) [.inp 12, .app .len [.inp 0]], .bool false], .app (.bin .eql) [.app (.eload 1 false) [.app (.eoff 0) [.app (.eidx 11) [.inp 0, .inp 12]]], .int .u8 2], .bool false], .app .pick [.app (.bin .eql) [.inp 13, .int .i64 0], .bool true, .app (.bin .eql) [.inp 13, .int .i64 1]], .bool false]] <|
       .ret (.app .pick [.app .pick [.app .pick [.app (.bin .geq) [.inp 12, .int .i64 0], .app (.bin .lss) [.inp 12, .app .len [.inp 0]], .bool false], .app (.bin .eql) [.app (.eload 1 false) [.app (.eoff 0) [.app (.eidx 11) [.inp 0, .inp 12]]], .int .u8 2], .bool false], .app .pick [.app (.bin .eql) [.inp 13, .int .i64 0], .bool true, .app (.bin .eql) [.inp 13, .int .i64 1]], .bool false]))
      (.ret (.bool false)))))))
theorem run25 : runF E 25 [.agg [.inp 0, .inp 1, .inp 2, .inp 3, .inp 4, .inp 5, .inp 6, .inp 7, .inp 8, .inp 9, .inp 10], .agg [.inp 11, .inp 12, .inp 13]] 14 = rt25 := by kernel_rfl

noncomputable def rt24 : RT :=
 .seg [.chk [] (.isAgg 11) [.agg [.inp 0, .inp 1, .inp 2, .inp 3, .inp 4, .inp 5, .inp 6, .inp 7, .inp 8, .inp 9, .inp 10]]] <|
 .loop 0 11 [.int .i64 0] <|
 .seg [.chk [] .len [.inp 2]] <|
  .seg [.chk [] (.bin .lss) [.inp 11, .app .len [.inp 2]]] <|
  .seg [.chk [(.app (.bin .lss) [.inp 11, .app .len [.inp 2]], true)] (.bin .leq) [.inp 11, .int .i64 20]] <|
  .seg [.chk [] .pick [.app (.bin .lss) [.inp 11, .app .len [.inp 2]], .app (.bin .leq) [.inp 11, .int .i64 20], .bool false]] <|
  .cond (.app .pick [.app (.bin .lss) [.inp 11, .app .len [.inp 2]], .app (.bin .leq) [.inp 11, .int .i64 20], .bool false])
  (.seg [.chk [] (.eidx 3) [.inp 2, .inp 11]] <|
   .seg [.chk [] (.eoff 2) [.app (.eidx 3) [.inp 2, .inp 11]]] <|
   .seg [.chk [] (.eload 1 false) [.app (.eoff 2) [.app (.eidx 3) [.inp 2, .inp 11]]]] <|
   .seg [.chk [] .len [.app (.eload 1 false) [.app (.eoff 2) [.app (.eidx 3) [.inp 2, .inp 11]]]]] <|
   .seg [.chk [] (.bin .gtr) [.app .len [.app (.eload 1 false) [.app (.eoff 2) [.app (.eidx 3) [.inp 2, .inp 11]]]], .int .i64 20]] <|
   .cond (.app (.bin .gtr) [.app .len [.app (.eload 1 false) [.app (.eoff 2) [.app (.eidx 3) [.inp 2, .inp 11]]]], .int .i64 20])
   (.ret (.bool true))
   (.seg [.chk [] (.bin .add) [.inp 11, .int .i64 1]] <|
    .again 0 [.app (.bin .add) [.inp 11, .int .i64 1]]))
  (.seg [.chk [] .len [.inp 0]] <|
   .seg [.chk [] (.bin .gtr) [.app .len [.inp 0], .int .i64 30]] <|
   .seg [.chk [(.app (.bin .gtr) [.app .len [.inp 0], .int .i64 30], false)] .len [.inp 1]] <|
   .seg [.chk [(.app (.bin .gtr) [.app .len [.inp 0], .int .i64 30], false)] (.bin .gtr) [.app .len [.inp 1], .int .i64 20]] <|
   .seg [.chk [] .pick [.app (.bin .gtr) [.app .len [.inp 0], .int .i64 30], .bool true, .app (.bin .gtr) [.app .len [.inp 1], .int .i64 20]]] <|
   .seg [.chk [(.app .pick [.app (.bin .gtr) [.app .len [.inp 0], .int .i64 30], .bool true, .app (.bin .gtr) [.app .len [.inp 1], .int .i64 20]], false)] .len [.inp 2]] <|
   .seg [.chk [(.app .pick [.app (.bin .gtr) [.app .len [.inp 0], .int .i64 30], .bool true, .app (.bin .gtr) [.app .len [.inp 1], .int .i64 20]], false)] (.bin .gtr) [.app .len [.inp 2], .int .i64 20]] <|
   .seg [.chk [] .pick [.app .pick [.app (.bin .gtr) [.app .len [.inp 0], .int .i64 30], .bool true, .app (.bin .gtr) [.app .len [.inp 1], .int .i64 20]], .bool true, .app (.bin .gtr) [.app .len [.inp 2], .int .i64 20]]] <|
   .seg [.chk [(.app .pick [.app .pick [.app (.bin .gtr) [.app .len [.inp 0], .int .i64 30], .bool true, .app (.bin .gtr) [.app .len [.inp 1], .int .i64 20]], .bool true, .app (.bin .gtr) [.app .len [.inp 2], .int .i64 20]], false)] .len [.inp 3]] <|
   .seg [.chk [(.app .pick [.app .pick [.app (.bin .gtr) [.app .len [.inp 0], .int .i64 30], .bool true, .app (.bin .gtr) [.app .len [.inp 1], .int .i64 20]], .bool true, .app (.bin .gtr) [.app .len [.inp 2], .int .i64 20]], false)] (.bin .gtr) [.app .len [.inp 3], .int .i64 30]] <|
   .seg [.chk [] .pick [.app .pick [.app .pick [.app (.bin .gtr) [.app .len [.inp 0], .int .i64 30], .bool true, .app (.bin .gtr) [.app .len [.inp 1], .int .i64 20]], .bool true, .app (.bin .gtr) [.app .len [.inp 2], .int .i64 20]], .bool true, .app (.bin .gtr) [.app .len [.inp 3], .int .i64 30]]] <|
   .ret (.app .pick [.app .pick [.app .pick [.app (.bin .gtr) [.app .len [.inp 0], .int .i64 30], .bool true, .app (.bin .gtr) [.app .len [.inp 1], .int .i64 20]], .bool true, .app (.bin .gtr) [.app .len [.inp 2], .int .i64 20]], .bool true, .app (.bin .gtr) [.app .len [.inp 3], .int .i64 30]]))
theorem run24 : runF E 24 [.agg [.inp 0, .inp 1, .inp 2, .inp 3, .inp 4, .inp 5, .inp 6, .inp 7, .inp 8, .inp 9, .inp 10]] 11 = rt24 := by kernel_rfl

noncomputable def rt18 : RT :=
 .seg [.chk [] (.isAgg 11) [.agg [.inp 0, .inp 1, .inp 2, .inp 3, .inp 4, .inp 5, .inp 6, .inp 7, .inp 8, .inp 9, .inp 10]]] <|
 .seg [.chk [] (.isAgg 5) [.agg [.inp 11, .inp 12, .inp 13, .inp 14, .inp 15]]] <|
 .seg [.chk [] (.bin .neq) [.inp 11, .int .i64 (-1)]] <|
 .seg [.chk [(.app (.bin .neq) [.inp 11, .int .i64 (-1)], true)] .len [.inp 1]] <|
 .cond (.app (.bin .neq) [.inp 11, .int .i64 (-1)])
 (.seg [.chk [] (.bin .geq) [.inp 11, .int .i64 0]] <|
  .seg [.chk [(.app (.bin .geq) [.inp 11, .int .i64 0], true)] (.bin .lss) [.inp 11, .app .len [.inp 1]]] <|
  .seg [.chk [] .pick [.app (.bin .geq) [.inp 11, .int .i64 0], .app (.bin .lss) [.inp 11, .app .len [.inp 1]], .bool false]] <|
  .seg [.chk [] (.un .not) [.app .pick [.app (.bin .geq) [.inp 11, .int .i64 0], .app (.bin .lss) [.inp 11, .app .len [.inp 1]], .bool false]]] <|
  .seg [.chk [(.app (.un .not) [.app .pick [.app (.bin .geq) [.inp 11, .int .i64 0], .app (.bin .lss) [.inp 11, .app .len [.inp 1]], .bool false]], false)] .len [.inp 12]] <|
  .seg [.chk [(.app (.un .not) [.app .pick [.app (.bin .geq) [.inp 11, .int .i64 0], .app (.bin .lss) [.inp 11, .app .len [.inp 1]], .bool false]], false)] (.bin .gtr) [.app .len [.inp 12], .int .i64 2]] <|
  .seg [.chk [] .pick [.app (.un .not) [.app .pick [.app (.bin .geq) [.inp 11, .int .i64 0], .app (.bin .lss) [.inp 11, .app .len [.inp 1]], .bool false]], .bool true, .app (.bin .gtr) [.app .len [.inp 12], .int .i64 2]]] <|
  .cond (.app .pick [.app (.un .not) [.app .pick [.app (.bin .geq) [.inp 11, .int .i64 0], .app (.bin .lss) [.inp 11, .app .len [.inp 1]], .bool false]], .bool true, .app (.bin .gtr) [.app .len [.inp 12], .int .i64 2]])
  (.ret (.bool false))
  (.seg [.chk [] .len [.inp 12]] <|
   .loop 0 16 [.int .i64 0] <|
   .seg [.chk [] (.bin .lss) [.inp 16, .app .len [.inp 12]]] <|
    .cond (.app (.bin .lss) [.inp 16, .app .len [.inp 12]])
    (.seg [.chk [] (.eidx 1) [.inp 12, .inp 16]] <|
     .seg [.chk [] (.eload 1 false) [.app (.eidx 1) [.inp 12, .inp 16]]] <|
     .seg [.chk [] .len [.inp 0]] <|
     .seg [.chk [] (.bin .geq) [.app (.eload 1 false) [.app (.eidx 1) [.inp 12, .inp 16]], .int .i64 0]] <|
     .seg [.chk [(.app (.bin .geq) [.app (.eload 1 false) [.app (.eidx 1) [.inp 12, .inp 16]], .int .i64 0], true)] (.bin .lss) [.app (.eload 1 false) [.app (.eidx 1) [.inp 12, .inp 16]], .app .len [.inp 0]]] <|
     .seg [.chk [] .pick [.app (.bin .geq) [.app (.eload 1 false) [.app (.eidx 1) [.inp 12, .inp 16]], .int .i64 0], .app (.bin .lss) [.app (.eload 1 false) [.app (.eidx 1) [.inp 12, .inp 16]], .app .len [.inp 0]], .bool false]] <|
     .seg [.chk [] (.un .not) [.app .pick [.app (.bin .geq) [.app (.eload 1 false) [.app (.eidx 1) [.inp 12, .inp 16]], .int .i64 0], .app (.bin .lss) [.app (.eload 1 false) [.app (.eidx 1) [.inp 12, .inp 16]], .app .len [.inp 0]], .bool false]]] <|
     .cond (.app .pick [.app (.bin .geq) [.app (.eload 1 false) [.app (.eidx 1) [.inp 12, .inp 16]], .int .i64 0], .app (.bin .lss) [.app (.eload 1 false) [.app (.eidx 1) [.inp 12, .inp 16]], .app .len [.inp 0]], .bool false])
     (.seg [.chk [] (.bin .add) [.inp 16, .int .i64 1]] <|
      .again 0 [.app (.bin .add) [.inp 16, .int .i64 1]])
     (.seg [.chk [] (.bin .geq) [.inp 16, .int .i64 0]] <|
      .cond (.app (.bin .geq) [.inp 16, .int .i64 0])
      (.ret (.bool false))
      (.seg [.chk [] (.bin .geq) [.inp 13, .int .i64 0]] <|
       .seg [.chk [(.app (.bin .geq) [.inp 13, .int .i64 0], true)] (.bin .lss) [.inp 13, .int .i64 1001]] <|
       .seg [.chk [] .pick [.app (.bin .geq) [.inp 13, .int .i64 0], .app (.bin .lss) [.inp 13, .int .i64 1001], .bool false]] <|
       .seg [.chk [] (.un .not) [.app .pick [.app (.bin .geq) [.inp 13, .int .i64 0], .app (.bin .lss) [.inp 13, .int .i64 1001], .bool false]]] <|
       .cond (.app .pick [.app (.bin .geq) [.inp 13, .int .i64 0], .app (.bin .lss) [.inp 13, .int .i64 1001], .bool false])
       (.seg [.chk [] (.bin .geq) [.inp 15, .int .i64 0]] <|
        .seg [.chk [(.app (.bin .geq) [.inp 15, .int .i64 0], true)] (.bin .lss) [.inp 15, .int .i64 1001]] <|
        .seg [.chk [] .pick [.app (.bin .geq) [.inp 15, .int .i64 0], .app (.bin .lss) [.inp 15, .int .i64 1001], .bool false]] <|
        .seg [.chk [] (.un .not) [.app .pick [.app (.bin .geq) [.inp 15, .int .i64 0], .app (.bin .lss) [.inp 15, .int .i64 1001], .bool false]]] <|
        .seg [.chk [(.app (.un .not) [.app .pick [.app (.bin .geq) [.inp 15, .int .i64 0], .app (.bin .lss) [.inp 15, .int .i64 1001], .bool false]], false)] (.bin .gtr) [.inp 13, .int .i64 0]] <|
        .seg [.chk [(.app (.un .not) [.app .pick [.app (.bin .geq) [.inp 15, .int .i64 0], .app (.bin .lss) [.inp 15, .int .i64 1001], .bool false]], false)] (.eqb true) [.bool true, .app (.bin .gtr) [.inp 13, .int .i64 0]]] <|
        .seg [.chk [] .pick [.app (.un .not) [.app .pick [.app (.bin .geq) [.inp 15, .int .i64 0], .app (.bin .lss) [.inp 15, .int .i64 1001], .bool false]], .bool true, .app (.eqb true) [.bool true, .app (.bin .gtr) [.inp 13, .int .i64 0]]]] <|
        .seg [.chk [(.app .pick [.app (.un .not) [.app .pick [.app (.bin .geq) [.inp 15, .int .i64 0], .app (.bin .lss) [.inp 15, .int .i64 1001], .bool false]], .bool true, .app (.eqb true) [.bool true, .app (.bin .gtr) [.inp 13, .int .i64 0]]], false)] (.bin .gtr) [.inp 14, .int .u8 0]] <|
        .seg [.chk [(.app .pick [.app (.un .not) [.app .pick [.app (.bin .geq) [.inp 15, .int .i64 0], .app (.bin .lss) [.inp 15, .int .i64 1001], .bool false]], .bool true, .app (.eqb true) [.bool true, .app (.bin .gtr) [.inp 13, .int .i64 0]]], false)] (.bin .gtr) [.inp 15, .int .i64 0]] <|
        .seg [.chk [(.app .pick [.app (.un .not) [.app .pick [.app (.bin .geq) [.inp 15, .int .i64 0], .app (.bin .lss) [.inp 15, .int .i64 1001], .bool false]], .bool true, .app (.eqb true) [.bool true, .app (.bin .gtr) [.inp 13, .int .i64 0]]], false)] (.eqb true) [.app (.bin .gtr) [.inp 14, .int .u8 0], .app (.bin .gtr) [.inp 15, .int .i64 0]]] <|
        .seg [.chk [] .pick [.app .pick [.app (.un .not) [.app .pick [.app (.bin .geq) [.inp 15, .int .i64 0], .app (.bin .lss) [.inp 15, .int .i64 1001], .bool false]], .bool true, .app (.eqb true) [.bool true, .app (.bin .gtr) [.inp 13, .int .i64 0]]], .bool true, .app (.eqb true) [.app (.bin .gtr) [.inp 14, .int .u8 0], .app (.bin .gtr) [.inp 15, .int .i64 0]]]] <|
        .cond (.app .pick [.app .pick [.app (.un .not) [.app .pick [.app (.bin .geq) [.inp 15, .int .i64 0], .app (.bin .lss) [.inp 15, .int .i64 1001], .bool false]], .bool true, .app (.eqb true) [.bool true, .app (.bin .gtr) [.inp 13, .int .i64 0]]], .bool true, .app (.eqb true) [.app (.bin .gtr) [.inp 14, .int .u8 0], .app (.bin .gtr) [.inp 15, .int .i64 0]]])
        (.ret (.bool false))
        (.seg [.chk [] (.bin .leq) [.inp 14, .int .u8 2]] <|
         .seg [.chk [(.app (.bin .leq) [.inp 14, .int .u8 2], true)] (.bin .gtr) [.inp 14, .int .u8 0]] <|
         .seg [.chk [(.app (.bin .leq) [.inp 14, .int .u8 2], true)] (.un .not) [.app (.bin .gtr) [.inp 14, .int .u8 0]]] <|
         .seg [.chk [] .pick [.app (.bin .leq) [.inp 14, .int .u8 2], .app (.un .not) [.app (.bin .gtr) [.inp 14, .int .u8 0]], .bool false]] <|
         .seg [.chk [] .pick [.app .pick [.app (.bin .leq) [.inp 14, .int .u8 2], .app (.un .not) [.app (.bin .gtr) [.inp 14, .int .u8 0]], .bool false], .bool true, .bool false]] <|
         .ret (.app .pick [.app .pick [.app (.bin .leq) [.inp 14, .int .u8 2], .app (.un .not) [.app (.bin .gtr) [.inp 14, .int .u8 0]], .bool false], .bool true, .bool false])))
       (.ret (.bool false)))))
    (.seg [.chk [] (.bin .geq) [.int .i64 (-1), .int .i64 0]] <|
     .cond (.app (.bin .geq) [.int .i64 (-1), .int .i64 0])
     (.ret (.bool false))
     (.seg [.chk [] (.bin .geq) [.inp 13, .int .i64 0]] <|
      .seg [.chk [(.app (.bin .geq) [.inp 13, .int .i64 0], true)] (.bin .lss) [.inp 13, .int .i64 1001]] <|
      .seg [.chk [] .pick [.app (.bin .geq) [.inp 13, .int .i64 0], .app (.bin .lss) [.inp 13, .int .i64 1001], .bool false]] <|
      .seg [.chk [] (.un .not) [.app .pick [.app (.bin .geq) [.inp 13, .int .i64 0], .app (.bin .lss) [.inp 13, .int .i64 1001], .bool false]]] <|
      .cond (.app .pick [.app (.bin .geq) [.inp 13, .int .i64 0], .app (.bin .lss) [.inp 13, .int .i64 1001], .bool false])
      (.seg [.chk [] (.bin .geq) [.inp 15, .int .i64 0]] <|
       .seg [.chk [(.app (.bin .geq) [.inp 15, .int .i64 0], true)] (.bin .lss) [.inp 15, .int .i64 1001]] <|
       .seg [.chk [] .pick [.app (.bin .geq) [.inp 15, .int .i64 0], .app (.bin .lss) [.inp 15, .int .i64 1001], .bool false]] <|
       .seg [.chk [] (.un .not) [.app .pick [.app (.bin .geq) [.inp 15, .int .i64 0], .app (.bin .lss) [.inp 15, .int .i64 1001], .bool false]]] <|
       .seg [.chk [(.app (.un .not) [.app .pick [.app (.bin .geq) [.inp 15, .int .i64 0], .app (.bin .lss) [.inp 15, .int .i64 1001], .bool false]], false)] (.bin .gtr) [.inp 13, .int .i64 0]] <|
       .seg [.chk [(.app (.un .not) [.app .pick [.app (.bin .geq) [.inp 15, .int .i64 0], .app (.bin .lss) [.inp 15, .int .i64 1001], .bool false]], false)] (.eqb true) [.bool true, .app (.bin .gtr) [.inp 13, .int .i64 0]]] <|
       .seg [.chk [] .pick [.app (.un .not) [.app .pick [.app (.bin .geq) [.inp 15, .int .i64 0], .app (.bin .lss) [.inp 15, .int .i64 1001], .bool false]], .bool true, .app (.eqb true) [.bool true, .app (.bin .gtr) [.inp 13, .int .i64 0]]]] <|
       .seg [.chk [(.app .pick [.app (.un .not) [.app .pick [.app (.bin .geq) [.inp 15, .int .i64 0], .app (.bin .lss) [.inp 15, .int .i64 1001], .bool false]], .bool true, .app (.eqb true) [.bool true, .app (.bin .gtr) [.inp 13, .int .i64 0]]], false)] (.bin .gtr) [.inp 14, .int .u8 0]] <|
       .seg [.chk [(.app .pick [.app (.un .not) [.app .pick [.app (.bin .geq) [.inp 15, .int .i64 0], .app (.bin .lss) [.inp 15, .int .i64 1001], .bool false]], .bool true, .app (.eqb true) [.bool true, .app (.bin .gtr) [.inp 13, .int .i64 0]]], false)] (.bin .gtr) [.inp 15, .int .i64 0]] <|
       .seg [.chk [(.app .pick [.app (.un .not) [.app .pick [.app (.bin .geq) [.inp 15, .int .i64 0], .app (.bin .lss) [.inp 15, .int .i64 1001], .bool false]], .bool true, .app (.eqb true) [.bool true, .app (.bin .gtr) [.inp 13, .int .i64 0]]], false)] (.eqb true) [.app (.bin .gtr) [.inp 14, .int .u8 0], .app (.bin .gtr) [.inp 15, .int .i64 0]]] <|
       .seg [.chk [] .pick [.app .pick [.app (.un .not) [.app .pick [.app (.bin .geq) [.inp 15, .int .i64 0], .app (.bin .lss) [.inp 15, .int .i64 1001], .bool false]], .bool true, .app (.eqb true) [.bool true, .app (.bin .gtr) [.inp 13, .int .i64 0]]], .bool true, .app (.eqb true) [.app (.bin .gtr) [.inp 14, .int .u8 0], .app (.bin .gtr) [.inp 15, .int .i64 0]]]] <|
       .cond (.app .pick [.app .pick [.app (.un .not) [.app .pick [.app (.bin .geq) [.inp 15, .int .i64 0], .app (.bin .lss) [.inp 15, .int .i64 1001], .bool false]], .bool true, .app (.eqb true) [.bool true, .app (.bin .gtr) [.inp 13, .int .i64 0]]], .bool true, .app (.eqb true) [.app (.bin .gtr) [.inp 14, .int .u8 0], .app (.bin .gtr) [.inp 15, .int .i64 0]]])
       (.ret (.bool false))
       (.seg [.chk [] (.bin .leq) [.inp 14, .int .u8 2]] <|
        .seg [.chk [(.app (.bin .leq) [.inp 14, .int .u8 2], true)] (.bin .gtr) [.inp 14, .int .u8 0]] <|
        .seg [.chk [(.app (.bin .leq) [.inp 14, .int .u8 2], true)] (.un .not) [.app (.bin .gtr) [.inp 14, .int .u8 0]]] <|
        .seg [.chk [] .pick [.app (.bin .leq) [.inp 14, .int .u8 2], .app (.un .not) [.app (.bin .gtr) [.inp 14, .int .u8 0]], .bool false]] <|
        .seg [.chk [] .pick [.app .pick [.app (.bin .leq) [.inp 14, .int .u8 2], .app (.un .not) [.app (.bin .gtr) [.inp 14, .int .u8 0]], .bool false], .bool true, .bool false]] <|
        .ret (.app .pick [.app .pick [.app (.bin .leq) [.inp 14, .int .u8 2], .app (.un .not) [.app (.bin .gtr) [.inp 14, .int .u8 0]], .bool false], .bool true, .bool false])))
      (.ret (.bool false))))))
 (.seg [.chk [] .len [.inp 12]] <|
  .seg [.chk [] (.bin .gtr) [.app .len [.inp 12], .int .i64 2]] <|
  .cond (.app (.bin .gtr) [.app .len [.inp 12], .int .i64 2])
  (.ret (.bool false))
  (.seg [.chk [] .len [.inp 12]] <|
   .loop 0 16 [.int .i64 0] <|
   .seg [.chk [] (.bin .lss) [.inp 16, .app .len [.inp 12]]] <|
    .cond (.app (.bin .lss) [.inp 16, .app .len [.inp 12]])
    (.seg [.chk [] (.eidx 1) [.inp 12, .inp 16]] <|
     .seg [.chk [] (.eload 1 false) [.app (.eidx 1) [.inp 12, .inp 16]]] <|
     .seg [.chk [] .len [.inp 0]] <|
     .seg [.chk [] (.bin .geq) [.app (.eload 1 false) [.app (.eidx 1) [.inp 12, .inp 16]], .int .i64 0]] <|
     .seg [.chk [(.app (.bin .geq) [.app (.eload 1 false) [.app (.eidx 1) [.inp 12, .inp 16]], .int .i64 0], true)] (.bin .lss) [.app (.eload 1 false) [.app (.eidx 1) [.inp 12, .inp 16]], .app .len [.inp 0]]] <|
     .seg [.chk [] .pick [.app (.bin .geq) [.app (.eload 1 false) [.app (.eidx 1) [.inp 12, .inp 16]], .int .i64 0], .app (.bin .lss) [.app (.eload 1 false) [.app (.eidx 1) [.inp 12, .inp 16]], .app .len [.inp 0]], .bool false]] <|
     .seg [.chk [] (.un .not) [.app .pick [.app (.bin .geq) [.app (.eload 1 false) [.app (.eidx 1) [.inp 12, .inp 16]], .int .i64 0], .app (.bin .lss) [.app (.eload 1 false) [.app (.eidx 1) [.inp 12, .inp 16]], .app .len [.inp 0]], .bool false]]] <|
     .cond (.app .pick [.app (.bin .geq) [.app (.eload 1 false) [.app (.eidx 1) [.inp 12, .inp 16]], .int .i64 0], .app (.bin .lss) [.app (.eload 1 false) [.app (.eidx 1) [.inp 12, .inp 16]], .app .len [.inp 0]], .bool false])
     (.seg [.chk [] (.bin .add) [.inp 16, .int .i64 1]] <|
      .again 0 [.app (.bin .add) [.inp 16, .int .i64 1]])
     (.seg [.chk [] (.bin .geq) [.inp 16, .int .i64 0]] <|
      .cond (.app (.bin .geq) [.inp 16, .int .i64 0])
      (.ret (.bool false))
      (.seg [.chk [] (.bin .geq) [.inp 13, .int .i64 0]] <|
       .seg [.chk [(.app (.bin .geq) [.inp 13, .int .i64 0], true)] (.bin .lss) [.inp 13, .int .i64 1001]] <|
       .seg [.chk [] .pick [.app (.bin .geq) [.inp 13, .int .i64 0], .app (.bin .lss) [.inp 13, .int .i64 1001], .bool false]] <|
       .seg [.chk [] (.un .not) [.app .pick [.app (.bin .geq) [.inp 13, .int .i64 0], .app (.bin .lss) [.inp 13, .int .i64 1001], .bool false]]] <|
       .cond (.app .pick [.app (.bin .geq) [.inp 13, .int .i64 0], .app (.bin .lss) [.inp 13, .int .i64 1001], .bool false])
       (.seg [.chk [] (.bin .geq) [.inp 15, .int .i64 0]] <|
        .seg [.chk [(.app (.bin .geq) [.inp 15, .int .i64 0], true)] (.bin .lss) [.inp 15, .int .i64 1001]] <|
        .seg [.chk [] .pick [.app (.bin .geq) [.inp 15, .int .i64 0], .app (.bin .lss) [.inp 15, .int .i64 1001], .bool false]] <|
        .seg [.chk [] (.un .not) [.app .pick [.app (.bin .geq) [.inp 15, .int .i64 0], .app (.bin .lss) [.inp 15, .int .i64 1001], .bool false]]] <|
        .seg [.chk [(.app (.un .not) [.app .pick [.app (.bin .geq) [.inp 15, .int .i64 0], .app (.bin .lss) [.inp 15, .int .i64 1001], .bool false]], false)] (.bin .gtr) [.inp 13, .int .i64 0]] <|
        .seg [.chk [(.app (.un .not) [.app .pick [.app (.bin .geq) [.inp 15, .int .i64 0], .app (.bin .lss) [.inp 15, .int .i64 1001], .bool false]], false)] (.eqb true) [.bool false, .app (.bin .gtr) [.inp 13, .int .i64 0]]] <|
        .seg [.chk [] .pick [.app (.un .not) [.app .pick [.app (.bin .geq) [.inp 15, .int .i64 0], .app (.bin .lss) [.inp 15, .int .i64 1001], .bool false]], .bool true, .app (.eqb true) [.bool false, .app (.bin .gtr) [.inp 13, .int .i64 0]]]] <|
        .seg [.chk [(.app .pick [.app (.un .not) [.app .pick [.app (.bin .geq) [.inp 15, .int .i64 0], .app (.bin .lss) [.inp 15, .int .i64 1001], .bool false]], .bool true, .app (.eqb true) [.bool false, .app (.bin .gtr) [.inp 13, .int .i64 0]]], false)] (.bin .gtr) [.inp 14, .int .u8 0]] <|
        .seg [.chk [(.app .pick [.app (.un .not) [.app .pick [.app (.bin .geq) [.inp 15, .int .i64 0], .app (.bin .lss) [.inp 15, .int .i64 1001], .bool false]], .bool true, .app (.eqb true) [.bool false, .app (.bin .gtr) [.inp 13, .int .i64 0]]], false)] (.bin .gtr) [.inp 15, .int .i64 0]] <|
        .seg [.chk [(.app .pick [.app (.un .not) [.app .pick [.app (.bin .geq) [.inp 15, .int .i64 0], .app (.bin .lss) [.inp 15, .int .i64 1001], .bool false]], .bool true, .app (.eqb true) [.bool false, .app (.bin .gtr) [.inp 13, .int .i64 0]]], false)] (.eqb true) [.app (.bin .gtr) [.inp 14, .int .u8 0], .app (.bin .gtr) [.inp 15, .int .i64 0]]] <|
        .seg [.chk [] .pick [.app .pick [.app (.un .not) [.app .pick [.app (.bin .geq) [.inp 15, .int .i64 0], .app (.bin .lss) [.inp 15, .int .i64 1001], .bool false]], .bool true, .app (.eqb true) [.bool false, .app (.bin .gtr) [.inp 13, .int .i64 0]]], .bool true, .app (.eqb true) [.app (.bin .gtr) [.inp 14, .int .u8 0], .app (.bin .gtr) [.inp 15, .int .i64 0]]]] <|
        .cond (.app .pick [.app .pick [.app (.un .not) [.app .pick [.app (.bin .geq) [.inp 15, .int .i64 0], .app (.bin .lss) [.inp 15, .int .i64 1001], .bool false]], .bool true, .app (.eqb true) [.bool false, .app (.bin .gtr) [.inp 13, .int .i64 0]]], .bool true, .app (.eqb true) [.app (.bin .gtr) [.inp 14, .int .u8 0], .app (.bin .gtr) [.inp 15, .int .i64 0]]])
        (.ret (.bool false))
        (.seg [.chk [] (.bin .leq) [.inp 14, .int .u8 2]] <|
         .seg [.chk [(.app (.bin .leq) [.inp 14, .int .u8 2], true)] (.un .not) [.bool false]] <|
         .seg [.chk [] .pick [.app (.bin .leq) [.inp 14, .int .u8 2], .app (.un .not) [.bool false], .bool false]] <|
         .seg [.chk [(.app .pick [.app (.bin .leq) [.inp 14, .int .u8 2], .app (.un .not) [.bool false], .bool false], true)] .len [.inp 12]] <|
         .seg [.chk [(.app .pick [.app (.bin .leq) [.inp 14, .int .u8 2], .app (.un .not) [.bool false], .bool false], true)] (.bin .eql) [.app .len [.inp 12], .int .i64 0]] <|
         .seg [.chk [] .pick [.app .pick [.app (.bin .leq) [.inp 14, .int .u8 2], .app (.un .not) [.bool false], .bool false], .app (.bin .eql) [.app .len [.inp 12], .int .i64 0], .bool false]] <|
         .ret (.app .pick [.app .pick [.app (.bin .leq) [.inp 14, .int .u8 2], .app (.un .not) [.bool false], .bool false], .app (.bin .eql) [.app .len [.inp 12], .int .i64 0], .bool false])))
       (.ret (.bool false)))))
    (.seg [.chk [] (.bin .geq) [.int .i64 (-1), .int .i64 0]] <|
     .cond (.app (.bin .geq) [.int .i64 (-1), .int .i64 0])
     (.ret (.bool false))
     (.seg [.chk [] (.bin .geq) [.inp 13, .int .i64 0]] <|
      .seg [.chk [(.app (.bin .geq) [.inp 13, .int .i64 0], true)] (.bin .lss) [.inp 13, .int .i64 1001]] <|
      .seg [.chk [] .pick [.app (.bin .geq) [.inp 13, .int .i64 0], .app (.bin .lss) [.inp 13, .int .i64 1001], .bool false]] <|
      .seg [.chk [] (.un .not) [.app .pick [.app (.bin .geq) [.inp 13, .int .i64 0], .app (.bin .lss) [.inp 13, .int .i64 1001], .bool false]]] <|
      .cond (.app .pick [.app (.bin .geq) [.inp 13, .int .i64 0], .app (.bin .lss) [.inp 13, .int .i64 1001], .bool false])
      (.seg [.chk [] (.bin .geq) [.inp 15, .int .i64 0]] <|
       .seg [.chk [(.app (.bin .geq) [.inp 15, .int .i64 0], true)] (.bin .lss) [.inp 15, .int .i64 1001]] <|
       .seg [.chk [] .pick [.app (.bin .geq) [.inp 15, .int .i64 0], .app (.bin .lss) [.inp 15, .int .i64 1001], .bool false]] <|
       .seg [.chk [] (.un .not) [.app .pick [.app (.bin .geq) [.inp 15, .int .i64 0], .app (.bin .lss) [.inp 15, .int .i64 1001], .bool false]]] <|
       .seg [.chk [(.app (.un .not) [.app .pick [.app (.bin .geq) [.inp 15, .int .i64 0], .app (.bin .lss) [.inp 15, .int .i64 1001], .bool false]], false)] (.bin .gtr) [.inp 13, .int .i64 0]] <|
       .seg [.chk [(.app (.un .not) [.app .pick [.app (.bin .geq) [.inp 15, .int .i64 0], .app (.bin .lss) [.inp 15, .int .i64 1001], .bool false]], false)] (.eqb true) [.bool false, .app (.bin .gtr) [.inp 13, .int .i64 0]]] <|
       .seg [.chk [] .pick [.app (.un .not) [.app .pick [.app (.bin .geq) [.inp 15, .int .i64 0], .app (.bin .lss) [.inp 15, .int .i64 1001], .bool false]], .bool true, .app (.eqb true) [.bool false, .app (.bin .gtr) [.inp 13, .int .i64 0]]]] <|
       .seg [.chk [(.app .pick [.app (.un .not) [.app .pick [.app (.bin .geq) [.inp 15, .int .i64 0], .app (.bin .lss) [.inp 15, .int .i64 1001], .bool false]], .bool true, .app (.eqb true) [.bool false, .app (.bin .gtr) [.inp 13, .int .i64 0]]], false)] (.bin .gtr) [.inp 14, .int .u8 0]] <|
       .seg [.chk [(.app .pick [.app (.un .not) [.app .pick [.app (.bin .geq) [.inp 15, .int .i64 0], .app (.bin .lss) [.inp 15, .int .i64 1001], .bool false]], .bool true, .app (.eqb true) [.bool false, .app (.bin .gtr) [.inp 13, .int .i64 0]]], false)] (.bin .gtr) [.inp 15, .int .i64 0]] <|
       .seg [.chk [(.app .pick [.app (.un .not) [.app .pick [.app (.bin .geq) [.inp 15, .int .i64 0], .app (.bin .lss) [.inp 15, .int .i64 1001], .bool false]], .bool true, .app (.eqb true) [.bool false, .app (.bin .gtr) [.inp 13, .int .i64 0]]], false)] (.eqb true) [.app (.bin .gtr) [.inp 14, .int .u8 0], .app (.bin .gtr) [.inp 15, .int .i64 0]]] <|
       .seg [.chk [] .pick [.app .pick [.app (.un .not) [.app .pick [.app (.bin .geq) [.inp 15, .int .i64 0], .app (.bin .lss) [.inp 15, .int .i64 1001], .bool false]], .bool true, .app (.eqb true) [.bool false, .app (.bin .gtr) [.inp 13, .int .i64 0]]], .bool true, .app (.eqb true) [.app (.bin .gtr) [.inp 14, .int .u8 0], .app (.bin .gtr) [.inp 15, .int .i64 0]]]] <|
       .cond (.app .pick [.app .pick [.app (.un .not) [.app .pick [.app (.bin .geq) [.inp 15, .int .i64 0], .app (.bin .lss) [.inp 15, .int .i64 1001], .bool false]], .bool true, .app (.eqb true) [.bool false, .app (.bin .gtr) [.inp 13, .int .i64 0]]], .bool true, .app (.eqb true) [.app (.bin .gtr) [.inp 14, .int .u8 0], .app (.bin .gtr) [.inp 15, .int .i64 0]]])
       (.ret (.bool false))
       (.seg [.chk [] (.bin .leq) [.inp 14, .int .u8 2]] <|
        .seg [.chk [(.app (.bin .leq) [.inp 14, .int .u8 2], true)] (.un .not) [.bool false]] <|
        .seg [.chk [] .pick [.app (.bin .leq) [.inp 14, .int .u8 2], .app (.un .not) [.bool false], .bool false]] <|
        .seg [.chk [(.app .pick [.app (.bin .leq) [.inp 14, .int .u8 2], .app (.un .not) [.bool false], .bool false], true)] .len [.inp 12]] <|
        .seg [.chk [(.app .pick [.app (.bin .leq) [.inp 14, .int .u8 2], .app (.un .not) [.bool false], .bool false], true)] (.bin .eql) [.app .len [.inp 12], .int .i64 0]] <|
        .seg [.chk [] .pick [.app .pick [.app (.bin .leq) [.inp 14, .int .u8 2], .app (.un .not) [.bool false], .bool false], .app (.bin .eql) [.app .len [.inp 12], .int .i64 0], .bool false]] <|
        .ret (.app .pick [.app .pick [.app (.bin .leq) [.inp 14, .int .u8 2], .app (.un .not) [.bool false], .bool false], .app (.bin .eql) [.app .len [.inp 12], .int .i64 0], .bool false])))
      (.ret (.bool false))))))
theorem run18 : runF E 18 [.agg [.inp 0, .inp 1, .inp 2, .inp 3, .inp 4, .inp 5, .inp 6, .inp 7, .inp 8, .inp 9, .inp 10], .agg [.inp 11, .inp 12, .inp 13, .inp 14, .inp 15]] 16 = rt18 := by kernel_rfl

noncomputable def rt19 : RT :=
 .seg [.chk [] (.isAgg 11) [.agg [.inp 0, .inp 1, .inp 2, .inp 3, .inp 4, .inp 5, .inp 6, .inp 7, .inp 8, .inp 9, .inp 10]]] <|
 .seg [.chk [] (.isAgg 5) [.agg [.inp 11, .inp 12, .inp 13, .inp 14, .inp 15]]] <|
 .seg [.chk [] (.bin .lss) [.inp 11, .int .i64 (-1)]] <|
 .seg [.chk [(.app (.bin .lss) [.inp 11, .int .i64 (-1)], false)] .len [.inp 1]] <|
 .seg [.chk [(.app (.bin .lss) [.inp 11, .int .i64 (-1)], false)] (.bin .geq) [.inp 11, .app .len [.inp 1]]] <|
 .seg [.chk [] .pick [.app (.bin .lss) [.inp 11, .int .i64 (-1)], .bool true, .app (.bin .geq) [.inp 11, .app .len [.inp 1]]]] <|
 .seg [.chk [(.app .pick [.app (.bin .lss) [.inp 11, .int .i64 (-1)], .bool true, .app (.bin .geq) [.inp 11, .app .len [.inp 1]]], false)] .len [.inp 12]] <|
 .seg [.chk [(.app .pick [.app (.bin .lss) [.inp 11, .int .i64 (-1)], .bool true, .app (.bin .geq) [.inp 11, .app .len [.inp 1]]], false)] (.bin .gtr) [.app .len [.inp 12], .int .i64 2]] <|
 .seg [.chk [] .pick [.app .pick [.app (.bin .lss) [.inp 11, .int .i64 (-1)], .bool true, .app (.bin .geq) [.inp 11, .app .len [.inp 1]]], .bool true, .app (.bin .gtr) [.app .len [.inp 12], .int .i64 2]]] <|
 .seg [.call 16 [(.app .pick [.app .pick [.app (.bin .lss) [.inp 11, .int .i64 (-1)], .bool true, .app (.bin .geq) [.inp 11, .app .len [.inp 1]]], .bool true, .app (.bin .gtr) [.app .len [.inp 12], .int .i64 2]], false)] 38 [.inp 13] false] <|
 .seg [.chk [(.app .pick [.app .pick [.app (.bin .lss) [.inp 11, .int .i64 (-1)], .bool true, .app (.bin .geq) [.inp 11, .app .len [.inp 1]]], .bool true, .app (.bin .gtr) [.app .len [.inp 12], .int .i64 2]], false)] (.un .not) [.inp 16]] <|
 .seg [.chk [] .pick [.app .pick [.app .pick [.app (.bin .lss) [.inp 11, .int .i64 (-1)], .bool true, .app (.bin .geq) [.inp 11, .app .len [.inp 1]]], .bool true, .app (.bin .gtr) [.app .len [.inp 12], .int .i64 2]], .bool true, .app (.un .not) [.inp 16]]] <|
 .seg [.call 17 [(.app .pick [.app .pick [.app .pick [.app (.bin .lss) [.inp 11, .int .i64 (-1)], .bool true, .app (.bin .geq) [.inp 11, .app .len [.inp 1]]], .bool true, .app (.bin .gtr) [.app .len [.inp 12], .int .i64 2]], .bool true, .app (.un .not) [.inp 16]], false)] 38 [.inp 15] false] <|
 .seg [.chk [(.app .pick [.app .pick [.app .pick [.app (.bin .lss) [.inp 11, .int .i64 (-1)], .bool true, .app (.bin .geq) [.inp 11, .app .len [.inp 1]]], .bool true, .app (.bin .gtr) [.app .len [.inp 12], .int .i64 2]], .bool true, .app (.un .not) [.inp 16]], false)] (.un .not) [.inp 17]] <|
 .seg [.chk [] .pick [.app .pick [.app .pick [.app .pick [.app (.bin .lss) [.inp 11, .int .i64 (-1)], .bool true, .app (.bin .geq) [.inp 11, .app .len [.inp 1]]], .bool true, .app (.bin .gtr) [.app .len [.inp 12], .int .i64 2]], .bool true, .app (.un .not) [.inp 16]], .bool true, .app (.un .not) [.inp 17]]] <|
 .cond (.app .pick [.app .pick [.app .pick [.app .pick [.app (.bin .lss) [.inp 11, .int .i64 (-1)], .bool true, .app (.bin .geq) [.inp 11, .app .len [.inp 1]]], .bool true, .app (.bin .gtr) [.app .len [.inp 12], .int .i64 2]], .bool true, .app (.un .not) [.inp 16]], .bool true, .app (.un .not) [.inp 17]])
 (.ret (.bool false))
 (.loop 0 18 [.int .i64 0] <|
  .seg [.chk [] .len [.inp 12]] <|
   .seg [.chk [] (.bin .lss) [.inp 18, .app .len [.inp 12]]] <|
   .cond (.app (.bin .lss) [.inp 18, .app .len [.inp 12]])
   (.seg [.chk [] (.eidx 1) [.inp 12, .inp 18],
    .chk [] (.eload 1 false) [.app (.eidx 1) [.inp 12, .inp 18]],
    .chk [] (.bin .lss) [.app (.eload 1 false) [.app (.eidx 1) [.inp 12, .inp 18]], .int .i64 0],
    .chk [(.app (.bin .lss) [.app (.eload 1 false) [.app (.eidx 1) [.inp 12, .inp 18]], .int .i64 0], false)] (.eidx 1) [.inp 12, .inp 18],
    .chk [(.app (.bin .lss) [.app (.eload 1 false) [.app (.eidx 1) [.inp 12, .inp 18]], .int .i64 0], false)] (.eload 1 false) [.app (.eidx 1) [.inp 12, .inp 18]],
    .chk [(.app (.bin .lss) [.app (.eload 1 false) [.app (.eidx 1) [.inp 12, .inp 18]], .int .i64 0], false)] .len [.inp 0],
    .chk [(.app (.bin .lss) [.app (.eload 1 false) [.app (.eidx 1) [.inp 12, .inp 18]], .int .i64 0], false)] (.bin .geq) [.app (.eload 1 false) [.app (.eidx 1) [.inp 12, .inp 18]], .app .len [.inp 0]],
    .chk [] .pick [.app (.bin .lss) [.app (.eload 1 false) [.app (.eidx 1) [.inp 12, .inp 18]], .int .i64 0], .bool true, .app (.bin .geq) [.app (.eload 1 false) [.app (.eidx 1) [.inp 12, .inp 18]], .app .len [.inp 0]]]] <|
    .cond (.app .pick [.app (.bin .lss) [.app (.eload 1 false) [.app (.eidx 1) [.inp 12, .inp 18]], .int .i64 0], .bool true, .app (.bin .geq) [.app (.eload 1 false) [.app (.eidx 1) [.inp 12, .inp 18]], .app .len [.inp 0]]])
    (.ret (.bool false))
    (.seg [.chk [] (.bin .add) [.inp 18, .int .i64 1]] <|
     .again 0 [.app (.bin .add) [.inp 18, .int .i64 1]]))
   (.seg [.chk [] (.bin .neq) [.inp 14, .int .u8 0]] <|
    .seg [.chk [(.app (.bin .neq) [.inp 14, .int .u8 0], true)] (.bin .neq) [.inp 14, .int .u8 1]] <|
    .seg [.chk [] .pick [.app (.bin .neq) [.inp 14, .int .u8 0], .app (.bin .neq) [.inp 14, .int .u8 1], .bool false]] <|
    .seg [.chk [(.app .pick [.app (.bin .neq) [.inp 14, .int .u8 0], .app (.bin .neq) [.inp 14, .int .u8 1], .bool false], true)] (.bin .neq) [.inp 14, .int .u8 2]] <|
    .seg [.chk [] .pick [.app .pick [.app (.bin .neq) [.inp 14, .int .u8 0], .app (.bin .neq) [.inp 14, .int .u8 1], .bool false], .app (.bin .neq) [.inp 14, .int .u8 2], .bool false]] <|
    .seg [.chk [(.app .pick [.app .pick [.app (.bin .neq) [.inp 14, .int .u8 0], .app (.bin .neq) [.inp 14, .int .u8 1], .bool false], .app (.bin .neq) [.inp 14, .int .u8 2], .bool false], false)] (.bin .eql) [.inp 13, .int .i64 0]] <|
    .seg [.chk [(.app .pick [.app .pick [.app (.bin .neq) [.inp 14, .int .u8 0], .app (.bin .neq) [.inp 14, .int .u8 1], .bool false], .app (.bin .neq) [.inp 14, .int .u8 2], .bool false], false)] (.bin .eql) [.inp 11, .int .i64 (-1)]] <|
    .seg [.chk [(.app .pick [.app .pick [.app (.bin .neq) [.inp 14, .int .u8 0], .app (.bin .neq) [.inp 14, .int .u8 1], .bool false], .app (.bin .neq) [.inp 14, .int .u8 2], .bool false], false)] (.eqb true) [.app (.bin .eql) [.inp 13, .int .i64 0], .app (.bin .eql) [.inp 11, .int .i64 (-1)]]] <|
    .seg [.chk [] .pick [.app .pick [.app .pick [.app (.bin .neq) [.inp 14, .int .u8 0], .app (.bin .neq) [.inp 14, .int .u8 1], .bool false], .app (.bin .neq) [.inp 14, .int .u8 2], .bool false], .bool true, .app (.eqb true) [.app (.bin .eql) [.inp 13, .int .i64 0], .app (.bin .eql) [.inp 11, .int .i64 (-1)]]]] <|
    .seg [.chk [(.app .pick [.app .pick [.app .pick [.app (.bin .neq) [.inp 14, .int .u8 0], .app (.bin .neq) [.inp 14, .int .u8 1], .bool false], .app (.bin .neq) [.inp 14, .int .u8 2], .bool false], .bool true, .app (.eqb true) [.app (.bin .eql) [.inp 13, .int .i64 0], .app (.bin .eql) [.inp 11, .int .i64 (-1)]]], false)] (.bin .eql) [.inp 15, .int .i64 0]] <|
    .seg [.chk [(.app .pick [.app .pick [.app .pick [.app (.bin .neq) [.inp 14, .int .u8 0], .app (.bin .neq) [.inp 14, .int .u8 1], .bool false], .app (.bin .neq) [.inp 14, .int .u8 2], .bool false], .bool true, .app (.eqb true) [.app (.bin .eql) [.inp 13, .int .i64 0], .app (.bin .eql) [.inp 11, .int .i64 (-1)]]], false)] (.bin .eql) [.inp 14, .int .u8 0]] <|
    .seg [.chk [(.app .pick [.app .pick [.app .pick [.app (.bin .neq) [.inp 14, .int .u8 0], .app (.bin .neq) [.inp 14, .int .u8 1], .bool false], .app (.bin .neq) [.inp 14, .int .u8 2], .bool false], .bool true, .app (.eqb true) [.app (.bin .eql) [.inp 13, .int .i64 0], .app (.bin .eql) [.inp 11, .int .i64 (-1)]]], false)] (.eqb true) [.app (.bin .eql) [.inp 15, .int .i64 0], .app (.bin .eql) [.inp 14, .int .u8 0]]] <|
    .seg [.chk [] .pick [.app .pick [.app .pick [.app .pick [.app (.bin .neq) [.inp 14, .int .u8 0], .app (.bin .neq) [.inp 14, .int .u8 1], .bool false], .app (.bin .neq) [.inp 14, .int .u8 2], .bool false], .bool true, .app (.eqb true) [.app (.bin .eql) [.inp 13, .int .i64 0], .app (.bin .eql) [.inp 11, .int .i64 (-1)]]], .bool true, .app (.eqb true) [.app (.bin .eql) [.inp 15, .int .i64 0], .app (.bin .eql) [.inp 14, .int .u8 0]]]] <|
    .cond (.app .pick [.app .pick [.app .pick [.app .pick [.app (.bin .neq) [.inp 14, .int .u8 0], .app (.bin .neq) [.inp 14, .int .u8 1], .bool false], .app (.bin .neq) [.inp 14, .int .u8 2], .bool false], .bool true, .app (.eqb true) [.app (.bin .eql) [.inp 13, .int .i64 0], .app (.bin .eql) [.inp 11, .int .i64 (-1)]]], .bool true, .app (.eqb true) [.app (.bin .eql) [.inp 15, .int .i64 0], .app (.bin .eql) [.inp 14, .int .u8 0]]])
    (.ret (.bool false))
    (.seg [.chk [] (.bin .geq) [.inp 11, .int .i64 0]] <|
     .seg [.chk [(.app (.bin .geq) [.inp 11, .int .i64 0], true)] (.bin .eql) [.inp 14, .int .u8 0]] <|
     .seg [.chk [] .pick [.app (.bin .geq) [.inp 11, .int .i64 0], .app (.bin .eql) [.inp 14, .int .u8 0], .bool false]] <|
     .seg [.chk [(.app .pick [.app (.bin .geq) [.inp 11, .int .i64 0], .app (.bin .eql) [.inp 14, .int .u8 0], .bool false], false)] (.bin .eql) [.inp 11, .int .i64 (-1)]] <|
     .seg [.chk [(.app (.bin .eql) [.inp 11, .int .i64 (-1)], true), (.app .pick [.app (.bin .geq) [.inp 11, .int .i64 0], .app (.bin .eql) [.inp 14, .int .u8 0], .bool false], false)] .len [.inp 12]] <|
     .seg [.chk [(.app (.bin .eql) [.inp 11, .int .i64 (-1)], true), (.app .pick [.app (.bin .geq) [.inp 11, .int .i64 0], .app (.bin .eql) [.inp 14, .int .u8 0], .bool false], false)] (.bin .eql) [.app .len [.inp 12], .int .i64 0]] <|
     .seg [.chk [(.app .pick [.app (.bin .geq) [.inp 11, .int .i64 0], .app (.bin .eql) [.inp 14, .int .u8 0], .bool false], false)] .pick [.app (.bin .eql) [.inp 11, .int .i64 (-1)], .app (.bin .eql) [.app .len [.inp 12], .int .i64 0], .bool false]] <|
     .seg [.chk [] .pick [.app .pick [.app (.bin .geq) [.inp 11, .int .i64 0], .app (.bin .eql) [.inp 14, .int .u8 0], .bool false], .bool true, .app .pick [.app (.bin .eql) [.inp 11, .int .i64 (-1)], .app (.bin .eql) [.app .len [.inp 12], .int .i64 0], .bool false]]] <|
     .ret (.app .pick [.app .pick [.app (.bin .geq) [.inp 11, .int .i64 0], .app (.bin .eql) [.inp 14, .int .u8 0], .bool false], .bool true, .app .pick [.app (.bin .eql) [.inp 11, .int .i64 (-1)], .app (.bin .eql) [.app .len [.inp 12], .int .i64 0], .bool false]]))))
theorem run19 : runF E 19 [.agg [.inp 0, .inp 1, .inp 2, .inp 3, .inp 4, .inp 5, .inp 6, .inp 7, .inp 8, .inp 9, .inp 10], .agg [.inp 11, .inp 12, .inp 13, .inp 14, .inp 15]] 16 = rt19 := by kernel_rfl

noncomputable def rt16 : RT :=
 .seg [.chk [] (.isAgg 11) [.agg [.inp 0, .inp 1, .inp 2, .inp 3, .inp 4, .inp 5, .inp 6, .inp 7, .inp 8, .inp 9, .inp 10]]] <|
 .seg [.chk [] (.isAgg 5) [.agg [.inp 11, .inp 12, .inp 13, .inp 14, .inp 15]]] <|
 .seg [.call 16 [] 21 [.agg [.inp 11, .inp 12, .inp 13, .inp 14, .inp 15]] false] <|
 .seg [.chk [] (.isAgg 5) [.inp 16]] <|
 .seg [.call 17 [] 28 [.agg [.inp 0, .inp 1, .inp 2, .inp 3, .inp 4, .inp 5, .inp 6, .inp 7, .inp 8, .inp 9, .inp 10], .agg [.inp 11, .inp 12, .inp 13, .inp 14, .inp 15]] false] <|
 .seg [.chk [] (.un .not) [.inp 17]] <|
 .cond (.inp 17)
 (.seg [.call 18 [] 33 [.app (.part 2 1 false) [.inp 16]] false,
  .call 19 [] 33 [.app (.part 4 1 false) [.inp 16]] false,
  .chk [] .isOne [.inp 18],
  .chk [] .isOne [.inp 19]] <|
  .seg [.chk [] (.bin .eql) [.inp 13, .int .i64 1]] <|
  .seg [.chk [(.app (.bin .eql) [.inp 13, .int .i64 1], false)] (.bin .eql) [.inp 15, .int .i64 1]] <|
  .seg [.chk [] .pick [.app (.bin .eql) [.inp 13, .int .i64 1], .bool true, .app (.bin .eql) [.inp 15, .int .i64 1]]] <|
  .cond (.app .pick [.app (.bin .eql) [.inp 13, .int .i64 1], .bool true, .app (.bin .eql) [.inp 15, .int .i64 1]])
  (.seg [.call 20 [] 22 [] false] <|
   .seg [.chk [] (.isAgg 5) [.inp 20]] <|
   .seg [.chk [] (.isAgg 5) [.agg [.app (.part 0 1 false) [.inp 20], .app (.part 1 1 false) [.inp 20], .app (.part 2 1 false) [.inp 20], .app (.part 3 1 false) [.inp 20], .app (.part 4 1 false) [.inp 20]]]] <|
   .ret (.tup [.agg [.app (.part 0 1 false) [.inp 20], .app (.part 1 1 false) [.inp 20], .app (.part 2 1 false) [.inp 20], .app (.part 3 1 false) [.inp 20], .app (.part 4 1 false) [.inp 20]], .app (.bin .eql) [.inp 13, .int .i64 1]]))
  (.seg [.chk [] (.isAgg 5) [.agg [.app (.part 0 1 false) [.inp 16], .app (.part 1 1 false) [.inp 16], .inp 18, .app (.part 3 1 false) [.inp 16], .inp 19]]] <|
   .ret (.tup [.agg [.app (.part 0 1 false) [.inp 16], .app (.part 1 1 false) [.inp 16], .inp 18, .app (.part 3 1 false) [.inp 16], .inp 19], .app (.bin .eql) [.inp 13, .int .i64 1]])))
 (.seg [.chk [] (.isAgg 5) [.agg [.app (.part 0 1 false) [.inp 16], .app (.part 1 1 false) [.inp 16], .app (.part 2 1 false) [.inp 16], .app (.part 3 1 false) [.inp 16], .app (.part 4 1 false) [.inp 16]]]] <|
  .ret (.tup [.agg [.app (.part 0 1 false) [.inp 16], .app (.part 1 1 false) [.inp 16], .app (.part 2 1 false) [.inp 16], .app (.part 3 1 false) [.inp 16], .app (.part 4 1 false) [.inp 16]], .bool false]))
theorem run16 : runF E 16 [.agg [.inp 0, .inp 1, .inp 2, .inp 3, .inp 4, .inp 5, .inp 6, .inp 7, .inp 8, .inp 9, .inp 10], .agg [.inp 11, .inp 12, .inp 13, .inp 14, .inp 15]] 16 = rt16 := by kernel_rfl

noncomputable def rt17 : RT :=
 .seg [.chk [] (.isAgg 11) [.agg [.inp 0, .inp 1, .inp 2, .inp 3, .inp 4, .inp 5, .inp 6, .inp 7, .inp 8, .inp 9, .inp 10]]] <|
 .seg [.chk [] (.isAgg 5) [.agg [.inp 11, .inp 12, .inp 13, .inp 14, .inp 15]]] <|
 .seg [.call 16 [] 29 [.agg [.inp 11, .inp 12, .inp 13, .inp 14, .inp 15]] false] <|
 .seg [.chk [] (.isAgg 5) [.inp 16]] <|
 .seg [.call 17 [] 30 [.agg [.inp 0, .inp 1, .inp 2, .inp 3, .inp 4, .inp 5, .inp 6, .inp 7, .inp 8, .inp 9, .inp 10]] false] <|
 .seg [.chk [] (.un .not) [.inp 17]] <|
 .seg [.call 18 [(.app (.un .not) [.inp 17], false)] 19 [.agg [.inp 0, .inp 1, .inp 2, .inp 3, .inp 4, .inp 5, .inp 6, .inp 7, .inp 8, .inp 9, .inp 10], .agg [.app (.part 0 1 false) [.inp 16], .app (.part 1 1 false) [.inp 16], .app (.part 2 1 false) [.inp 16], .app (.part 3 1 false) [.inp 16], .app (.part 4 1 false) [.inp 16]]] false] <|
 .seg [.chk [(.app (.un .not) [.inp 17], false)] (.un .not) [.inp 18]] <|
 .seg [.chk [] .pick [.app (.un .not) [.inp 17], .bool true, .app (.un .not) [.inp 18]]] <|
 .cond (.app .pick [.app (.un .not) [.inp 17], .bool true, .app (.un .not) [.inp 18]])
 (.seg [.chk [] (.isAgg 5) [.agg [.app (.part 0 1 false) [.inp 16], .app (.part 1 1 false) [.inp 16], .app (.part 2 1 false) [.inp 16], .app (.part 3 1 false) [.inp 16], .app (.part 4 1 false) [.inp 16]]]] <|
  .ret (.tup [.agg [.app (.part 0 1 false) [.inp 16], .app (.part 1 1 false) [.inp 16], .app (.part 2 1 false) [.inp 16], .app (.part 3 1 false) [.inp 16], .app (.part 4 1 false) [.inp 16]], .bool false]))
 (.seg [.chk [] (.bin .geq) [.app (.part 0 1 false) [.inp 16], .int .i64 0]] <|
  .cond (.app (.bin .geq) [.app (.part 0 1 false) [.inp 16], .int .i64 0])
  (.seg [.chk [] (.bin .leq) [.app (.part 2 1 false) [.inp 16], .int .i64 0]] <|
   .cond (.app (.bin .leq) [.app (.part 2 1 false) [.inp 16], .int .i64 0])
   (.seg [.chk [] (.bin .eql) [.int .i64 0, .int .i64 0]] <|
    .cond (.app (.bin .eql) [.int .i64 0, .int .i64 0])
    (.seg [.call 19 [] 23 [] false] <|
     .seg [.chk [] (.isAgg 5) [.inp 19]] <|
     .ret (.tup [.agg [.app (.part 0 1 false) [.inp 19], .app (.part 1 1 false) [.inp 19], .app (.part 2 1 false) [.inp 19], .app (.part 3 1 false) [.inp 19], .app (.part 4 1 false) [.inp 19]], .bool true]))
    (.seg [.chk [] (.bin .neq) [.app (.part 3 1 false) [.inp 16], .int .u8 0]] <|
     .cond (.app (.bin .neq) [.app (.part 3 1 false) [.inp 16], .int .u8 0])
     (.seg [.chk [] (.bin .leq) [.app (.part 4 1 false) [.inp 16], .int .i64 0]] <|
      .cond (.app (.bin .leq) [.app (.part 4 1 false) [.inp 16], .int .i64 0])
      (.seg [.chk [] (.bin .eql) [.int .i64 0, .int .i64 0]] <|
       .cond (.app (.bin .eql) [.int .i64 0, .int .i64 0])
       (.seg [.call 19 [] 23 [] false] <|
        .seg [.chk [] (.isAgg 5) [.inp 19]] <|
        .ret (.tup [.agg [.app (.part 0 1 false) [.inp 19], .app (.part 1 1 false) [.inp 19], .app (.part 2 1 false) [.inp 19], .app (.part 3 1 false) [.inp 19], .app (.part 4 1 false) [.inp 19]], .bool false]))
       (.seg [.chk [] (.isAgg 5) [.agg [.app (.part 0 1 false) [.inp 16], .app (.part 1 1 false) [.inp 16], .int .i64 0, .app (.part 3 1 false) [.inp 16], .int .i64 0]]] <|
        .ret (.tup [.agg [.app (.part 0 1 false) [.inp 16], .app (.part 1 1 false) [.inp 16], .int .i64 0, .app (.part 3 1 false) [.inp 16], .int .i64 0], .bool false])))
      (.seg [.chk [] (.bin .sub) [.app (.part 4 1 false) [.inp 16], .int .i64 1]] <|
       .seg [.chk [] .isOne [.app (.bin .sub) [.app (.part 4 1 false) [.inp 16], .int .i64 1]]] <|
       .seg [.chk [] (.bin .eql) [.app (.bin .sub) [.app (.part 4 1 false) [.inp 16], .int .i64 1], .int .i64 0]] <|
       .cond (.app (.bin .eql) [.app (.bin .sub) [.app (.part 4 1 false) [.inp 16], .int .i64 1], .int .i64 0])
       (.seg [.call 19 [] 23 [] false] <|
        .seg [.chk [] (.isAgg 5) [.inp 19]] <|
        .ret (.tup [.agg [.app (.part 0 1 false) [.inp 19], .app (.part 1 1 false) [.inp 19], .app (.part 2 1 false) [.inp 19], .app (.part 3 1 false) [.inp 19], .app (.part 4 1 false) [.inp 19]], .bool false]))
       (.seg [.chk [] (.isAgg 5) [.agg [.app (.part 0 1 false) [.inp 16], .app (.part 1 1 false) [.inp 16], .int .i64 0, .app (.part 3 1 false) [.inp 16], .app (.bin .sub) [.app (.part 4 1 false) [.inp 16], .int .i64 1]]]] <|
        .ret (.tup [.agg [.app (.part 0 1 false) [.inp 16], .app (.part 1 1 false) [.inp 16], .int .i64 0, .app (.part 3 1 false) [.inp 16], .app (.bin .sub) [.app (.part 4 1 false) [.inp 16], .int .i64 1]], .bool false]))))
     (.seg [.chk [] (.isAgg 5) [.agg [.app (.part 0 1 false) [.inp 16], .app (.part 1 1 false) [.inp 16], .int .i64 0, .app (.part 3 1 false) [.inp 16], .app (.part 4 1 false) [.inp 16]]]] <|
      .ret (.tup [.agg [.app (.part 0 1 false) [.inp 16], .app (.part 1 1 false) [.inp 16], .int .i64 0, .app (.part 3 1 false) [.inp 16], .app (.part 4 1 false) [.inp 16]], .bool false]))))
   (.seg [.chk [] (.bin .sub) [.app (.part 2 1 false) [.inp 16], .int .i64 1]] <|
    .seg [.chk [] .isOne [.app (.bin .sub) [.app (.part 2 1 false) [.inp 16], .int .i64 1]]] <|
    .seg [.chk [] (.bin .eql) [.app (.bin .sub) [.app (.part 2 1 false) [.inp 16], .int .i64 1], .int .i64 0]] <|
    .cond (.app (.bin .eql) [.app (.bin .sub) [.app (.part 2 1 false) [.inp 16], .int .i64 1], .int .i64 0])
    (.seg [.call 19 [] 23 [] false] <|
     .seg [.chk [] (.isAgg 5) [.inp 19]] <|
     .ret (.tup [.agg [.app (.part 0 1 false) [.inp 19], .app (.part 1 1 false) [.inp 19], .app (.part 2 1 false) [.inp 19], .app (.part 3 1 false) [.inp 19], .app (.part 4 1 false) [.inp 19]], .bool true]))
    (.seg [.chk [] (.bin .neq) [.app (.part 3 1 false) [.inp 16], .int .u8 0]] <|
     .cond (.app (.bin .neq) [.app (.part 3 1 false) [.inp 16], .int .u8 0])
     (.seg [.chk [] (.bin .leq) [.app (.part 4 1 false) [.inp 16], .int .i64 0]] <|
      .cond (.app (.bin .leq) [.app (.part 4 1 false) [.inp 16], .int .i64 0])
      (.seg [.chk [] (.bin .eql) [.int .i64 0, .int .i64 0]] <|
       .cond (.app (.bin .eql) [.int .i64 0, .int .i64 0])
       (.seg [.call 19 [] 23 [] false] <|
        .seg [.chk [] (.isAgg 5) [.inp 19]] <|
        .ret (.tup [.agg [.app (.part 0 1 false) [.inp 19], .app (.part 1 1 false) [.inp 19], .app (.part 2 1 false) [.inp 19], .app (.part 3 1 false) [.inp 19], .app (.part 4 1 false) [.inp 19]], .bool false]))
       (.seg [.chk [] (.isAgg 5) [.agg [.app (.part 0 1 false) [.inp 16], .app (.part 1 1 false) [.inp 16], .app (.bin .sub) [.app (.part 2 1 false) [.inp 16], .int .i64 1], .app (.part 3 1 false) [.inp 16], .int .i64 0]]] <|
        .ret (.tup [.agg [.app (.part 0 1 false) [.inp 16], .app (.part 1 1 false) [.inp 16], .app (.bin .sub) [.app (.part 2 1 false) [.inp 16], .int .i64 1], .app (.part 3 1 false) [.inp 16], .int .i64 0], .bool false])))
      (.seg [.chk [] (.bin .sub) [.app (.part 4 1 false) [.inp 16], .int .i64 1]] <|
       .seg [.chk [] .isOne [.app (.bin .sub) [.app (.part 4 1 false) [.inp 16], .int .i64 1]]] <|
       .seg [.chk [] (.bin .eql) [.app (.bin .sub) [.app (.part 4 1 false) [.inp 16], .int .i64 1], .int .i64 0]] <|
       .cond (.app (.bin .eql) [.app (.bin .sub) [.app (.part 4 1 false) [.inp 16], .int .i64 1], .int .i64 0])
       (.seg [.call 19 [] 23 [] false] <|
        .seg [.chk [] (.isAgg 5) [.inp 19]] <|
        .ret (.tup [.agg [.app (.part 0 1 false) [.inp 19], .app (.part 1 1 false) [.inp 19], .app (.part 2 1 false) [.inp 19], .app (.part 3 1 false) [.inp 19], .app (.part 4 1 false) [.inp 19]], .bool false]))
       (.seg [.chk [] (.isAgg 5) [.agg [.app (.part 0 1 false) [.inp 16], .app (.part 1 1 false) [.inp 16], .app (.bin .sub) [.app (.part 2 1 false) [.inp 16], .int .i64 1], .app (.part 3 1 false) [.inp 16], .app (.bin .sub) [.app (.part 4 1 false) [.inp 16], .int .i64 1]]]] <|
        .ret (.tup [.agg [.app (.part 0 1 false) [.inp 16], .app (.part 1 1 false) [.inp 16], .app (.bin .sub) [.app (.part 2 1 false) [.inp 16], .int .i64 1], .app (.part 3 1 false) [.inp 16], .app (.bin .sub) [.app (.part 4 1 false) [.inp 16], .int .i64 1]], .bool false]))))
     (.seg [.chk [] (.isAgg 5) [.agg [.app (.part 0 1 false) [.inp 16], .app (.part 1 1 false) [.inp 16], .app (.bin .sub) [.app (.part 2 1 false) [.inp 16], .int .i64 1], .app (.part 3 1 false) [.inp 16], .app (.part 4 1 false) [.inp 16]]]] <|
      .ret (.tup [.agg [.app (.part 0 1 false) [.inp 16], .app (.part 1 1 false) [.inp 16], .app (.bin .sub) [.app (.part 2 1 false) [.inp 16], .int .i64 1], .app (.part 3 1 false) [.inp 16], .app (.part 4 1 false) [.inp 16]], .bool false])))))
  (.seg [.chk [] (.bin .neq) [.app (.part 3 1 false) [.inp 16], .int .u8 0]] <|
   .cond (.app (.bin .neq) [.app (.part 3 1 false) [.inp 16], .int .u8 0])
   (.seg [.chk [] (.bin .leq) [.app (.part 4 1 false) [.inp 16], .int .i64 0]] <|
    .cond (.app (.bin .leq) [.app (.part 4 1 false) [.inp 16], .int .i64 0])
    (.seg [.chk [] (.bin .eql) [.int .i64 0, .int .i64 0]] <|
     .cond (.app (.bin .eql) [.int .i64 0, .int .i64 0])
     (.seg [.call 19 [] 23 [] false] <|
      .seg [.chk [] (.isAgg 5) [.inp 19]] <|
      .ret (.tup [.agg [.app (.part 0 1 false) [.inp 19], .app (.part 1 1 false) [.inp 19], .app (.part 2 1 false) [.inp 19], .app (.part 3 1 false) [.inp 19], .app (.part 4 1 false) [.inp 19]], .bool false]))
     (.seg [.chk [] (.isAgg 5) [.agg [.app (.part 0 1 false) [.inp 16], .app (.part 1 1 false) [.inp 16], .app (.part 2 1 false) [.inp 16], .app (.part 3 1 false) [.inp 16], .int .i64 0]]] <|
      .ret (.tup [.agg [.app (.part 0 1 false) [.inp 16], .app (.part 1 1 false) [.inp 16], .app (.part 2 1 false) [.inp 16], .app (.part 3 1 false) [.inp 16], .int .i64 0], .bool false])))
    (.seg [.chk [] (.bin .sub) [.app (.part 4 1 false) [.inp 16], .int .i64 1]] <|
     .seg [.chk [] .isOne [.app (.bin .sub) [.app (.part 4 1 false) [.inp 16], .int .i64 1]]] <|
     .seg [.chk [] (.bin .eql) [.app (.bin .sub) [.app (.part 4 1 false) [.inp 16], .int .i64 1], .int .i64 0]] <|
     .cond (.app (.bin .eql) [.app (.bin .sub) [.app (.part 4 1 false) [.inp 16], .int .i64 1], .int .i64 0])
     (.seg [.call 19 [] 23 [] false] <|
      .seg [.chk [] (.isAgg 5) [.inp 19]] <|
      .ret (.tup [.agg [.app (.part 0 1 false) [.inp 19], .app (.part 1 1 false) [.inp 19], .app (.part 2 1 false) [.inp 19], .app (.part 3 1 false) [.inp 19], .app (.part 4 1 false) [.inp 19]], .bool false]))
     (.seg [.chk [] (.isAgg 5) [.agg [.app (.part 0 1 false) [.inp 16], .app (.part 1 1 false) [.inp 16], .app (.part 2 1 false) [.inp 16], .app (.part 3 1 false) [.inp 16], .app (.bin .sub) [.app (.part 4 1 false) [.inp 16], .int .i64 1]]]] <|
      .ret (.tup [.agg [.app (.part 0 1 false) [.inp 16], .app (.part 1 1 false) [.inp 16], .app (.part 2 1 false) [.inp 16], .app (.part 3 1 false) [.inp 16], .app (.bin .sub) [.app (.part 4 1 false) [.inp 16], .int .i64 1]], .bool false]))))
   (.seg [.chk [] (.isAgg 5) [.agg [.app (.part 0 1 false) [.inp 16], .app (.part 1 1 false) [.inp 16], .app (.part 2 1 false) [.inp 16], .app (.part 3 1 false) [.inp 16], .app (.part 4 1 false) [.inp 16]]]] <|
    .ret (.tup [.agg [.app (.part 0 1 false) [.inp 16], .app (.part 1 1 false) [.inp 16], .app (.part 2 1 false) [.inp 16], .app (.part 3 1 false) [.inp 16], .app (.part 4 1 false) [.inp 16]], .bool false]))))
theorem run17 : runF E 17 [.agg [.inp 0, .inp 1, .inp 2, .inp 3, .inp 4, .inp 5, .inp 6, .inp 7, .inp 8, .inp 9, .inp 10], .agg [.inp 11, .inp 12, .inp 13, .inp 14, .inp 15]] 16 = rt17 := by kernel_rfl

noncomputable def rt13 : RT :=
 .seg [.chk [] .len [.inp 0]] <|
 .seg [.chk [] .len [.inp 1]] <|
 .seg [.chk [] (.bin .neq) [.app .len [.inp 0], .app .len [.inp 1]]] <|
 .cond (.app (.bin .neq) [.app .len [.inp 0], .app .len [.inp 1]])
 (.ret (.bool false))
 (.loop 0 2 [.int .i64 0] <|
  .seg [.chk [] .len [.inp 0]] <|
   .seg [.chk [] (.bin .lss) [.inp 2, .app .len [.inp 0]]] <|
   .cond (.app (.bin .lss) [.inp 2, .app .len [.inp 0]])
   (.seg [.chk [] (.eidx 6) [.inp 0, .inp 2],
    .chk [] (.eoff 0) [.app (.eidx 6) [.inp 0, .inp 2]],
    .chk [] (.eload 1 false) [.app (.eoff 0) [.app (.eidx 6) [.inp 0, .inp 2]]],
    .chk [] (.eidx 6) [.inp 1, .inp 2],
    .chk [] (.eoff 0) [.app (.eidx 6) [.inp 1, .inp 2]],
    .chk [] (.eload 1 false) [.app (.eoff 0) [.app (.eidx 6) [.inp 1, .inp 2]]],
    .chk [] (.bin .neq) [.app (.eload 1 false) [.app (.eoff 0) [.app (.eidx 6) [.inp 0, .inp 2]]], .app (.eload 1 false) [.app (.eoff 0) [.app (.eidx 6) [.inp 1, .inp 2]]]],
    .chk [(.app (.bin .neq) [.app (.eload 1 false) [.app (.eoff 0) [.app (.eidx 6) [.inp 0, .inp 2]]], .app (.eload 1 false) [.app (.eoff 0) [.app (.eidx 6) [.inp 1, .inp 2]]]], false)] (.eidx 6) [.inp 0, .inp 2],
    .chk [(.app (.bin .neq) [.app (.eload 1 false) [.app (.eoff 0) [.app (.eidx 6) [.inp 0, .inp 2]]], .app (.eload 1 false) [.app (.eoff 0) [.app (.eidx 6) [.inp 1, .inp 2]]]], false)] (.eoff 1) [.app (.eidx 6) [.inp 0, .inp 2]],
    .chk [(.app (.bin .neq) [.app (.eload 1 false) [.app (.eoff 0) [.app (.eidx 6) [.inp 0, .inp 2]]], .app (.eload 1 false) [.app (.eoff 0) [.app (.eidx 6) [.inp 1, .inp 2]]]], false)] (.eload 1 false) [.app (.eoff 1) [.app (.eidx 6) [.inp 0, .inp 2]]],
    .chk [(.app (.bin .neq) [.app (.eload 1 false) [.app (.eoff 0) [.app (.eidx 6) [.inp 0, .inp 2]]], .app (.eload 1 false) [.app (.eoff 0) [.app (.eidx 6) [.inp 1, .inp 2]]]], false)] (.eidx 6) [.inp 1, .inp 2],
    .chk [(.app (.bin .neq) [.app (.eload 1 false) [.app (.eoff 0) [.app (.eidx 6) [.inp 0, .inp 2]]], .app (.eload 1 false) [.app (.eoff 0) [.app (.eidx 6) [.inp 1, .inp 2]]]], false)] (.eoff 1) [.app (.eidx 6) [.inp 1, .inp 2]],
    .chk [(.app (.bin .neq) [.app (.eload 1 false) [.app (.eoff 0) [.app (.eidx 6) [.inp 0, .inp 2]]], .app (.eload 1 false) [.app (.eoff 0) [.app (.eidx 6) [.inp 1, .inp 2]]]], false)] (.eload 1 false) [.app (.eoff 1) [.app (.eidx 6) [.inp 1, .inp 2]]],
    .chk [(.app (.bin .neq) [.app (.eload 1 false) [.app (.eoff 0) [.app (.eidx 6) [.inp 0, .inp 2]]], .app (.eload 1 false) [.app (.eoff 0) [.app (.eidx 6) [.inp 1, .inp 2]]]], false)] (.bin .neq) [.app (.eload 1 false) [.app (.eoff 1) [.app (.eidx 6) [.inp 0, .inp 2]]], .app (.eload 1 false) [.app (.eoff 1) [.app (.eidx 6) [.inp 1, .inp 2]]]],
    .chk [] .pick [.app (.bin .neq) [.app (.eload 1 false) [.app (.eoff 0) [.app (.eidx 6) [.inp 0, .inp 2]]], .app (.eload 1 false) [.app (.eoff 0) [.app (.eidx 6) [.inp 1, .inp 2]]]], .bool true, .app (.bin .neq) [.app (.eload 1 false) [.app (.eoff 1) [.app (.eidx 6) [.inp 0, .inp 2]]], .app (.eload 1 false) [.app (.eoff 1) [.app (.eidx 6) [.inp 1, .inp 2]]]]],
    .chk [(.app .pick [.app (.bin .neq) [.app (.eload 1 false) [.app (.eoff 0) [.app (.eidx 6) [.inp 0, .inp 2]]], .app (.eload 1 false) [.app (.eoff 0) [.app (.eidx 6) [.inp 1, .inp 2]]]], .bool true, .app (.bin .neq) [.app (.eload 1 false) [.app (.eoff 1) [.app (.eidx 6) [.inp 0, .inp 2]]], .app (.eload 1 false) [.app (.eoff 1) [.app (.eidx 6) [.inp 1, .inp 2]]]]], false)] (.eidx 6) [.inp 0, .inp 2],
    .chk [(.app .pick [.app (.bin .neq) [.app (.eload 1 false) [.app (.eoff 0) [.app (.eidx 6) [.inp 0, .inp 2]]], .app (.eload 1 false) [.app (.eoff 0) [.app (.eidx 6) [.inp 1, .inp 2]]]], .bool true, .app (.bin .neq) [.app (.eload 1 false) [.app (.eoff 1) [.app (.eidx 6) [.inp 0, .inp 2]]], .app (.eload 1 false) [.app (.eoff 1) [.app (.eidx 6) [.inp 1, .inp 2]]]]], false)] (.eoff 2) [.app (.eidx 6) [.inp 0, .inp 2]],
    .chk [(.app .pick [.app (.bin .neq) [.app (.eload 1 false) [.app (.eoff 0) [.app (.eidx 6) [.inp 0, .inp 2]]], .app (.eload 1 false) [.app (.eoff 0) [.app (.eidx 6) [.inp 1, .inp 2]]]], .bool true, .app (.bin .neq) [.app (.eload 1 false) [.app (.eoff 1) [.app (.eidx 6) [.inp 0, .inp 2]]], .app (.eload 1 false) [.app (.eoff 1) [.app (.eidx 6) [.inp 1, .inp 2]]]]], false)] (.eload 1 false) [.app (.eoff 2) [.app (.eidx 6) [.inp 0, .inp 2]]],
    .chk [(.app .pick [.app (.bin .neq) [.app (.eload 1 false) [.app (.eoff 0) [.app (.eidx 6) [.inp 0, .inp 2]]], .app (.eload 1 false) [.app (.eoff 0) [.app (.eidx 6) [.inp 1, .inp 2]]]], .bool true, .app (.bin .neq) [.app (.eload 1 false) [.app (.eoff 1) [.app (.eidx 6) [.inp 0, .inp 2]]], .app (.eload 1 false) [.app (.eoff 1) [.app (.eidx 6) [.inp 1, .inp 2]]]]], false)] (.eidx 6) [.inp 1, .inp 2],
    .chk [(.app .pick [.app (.bin .neq) [.app (.eload 1 false) [.app (.eoff 0) [.app (.eidx 6) [.inp 0, .inp 2]]], .app (.eload 1 false) [.app (.eoff 0) [.app (.eidx 6) [.inp 1, .inp 2]]]], .bool true, .app (.bin .neq) [.app (.eload 1 false) [.app (.eoff 1) [.app (.eidx 6) [.inp 0, .inp 2]]], .app (.eload 1 false) [.app (.eoff 1) [.app (.eidx 6) [.inp 1, .inp 2]]]]], false)] (.eoff 2) [.app (.eidx 6) [.inp 1, .inp 2]],
    .chk [(.app .pick [.app (.bin .neq) [.app (.eload 1 false) [.app (.eoff 0) [.app (.eidx 6) [.inp 0, .inp 2]]], .app (.eload 1 false) [.app (.eoff 0) [.app (.eidx 6) [.inp 1, .inp 2]]]], .bool true, .app (.bin .neq) [.app (.eload 1 false) [.app (.eoff 1) [.app (.eidx 6) [.inp 0, .inp 2]]], .app (.eload 1 false) [.app (.eoff 1) [.app (.eidx 6) [.inp 1, .inp 2]]]]], false)] (.eload 1 false) [.app (.eoff 2) [.app (.eidx 6) [.inp 1, .inp 2]]],
    .chk [(.app .pick [.app (.bin .neq) [.app (.eload 1 false) [.app (.eoff 0) [.app (.eidx 6) [.inp 0, .inp 2]]], .app (.eload 1 false) [.app (.eoff 0) [.app (.eidx 6) [.inp 1, .inp 2]]]], .bool true, .app (.bin .neq) [.app (.eload 1 false) [.app (.eoff 1) [.app (.eidx 6) [.inp 0, .inp 2]]], .app (.eload 1 false) [.app (.eoff 1) [.app (.eidx 6) [.inp 1, .inp 2]]]]], false)] (.bin .neq) [.app (.eload 1 false) [.app (.eoff 2) [.app (.eidx 6) [.inp 0, .inp 2]]], .app (.eload 1 false) [.app (.eoff 2) [.app (.eidx 6) [.inp 1, .inp 2]]]],
    .chk [] .pick [.app .pick [.app (.bin .neq) [.app (.eload 1 false) [.app (.eoff 0) [.app (.eidx 6) [.inp 0, .inp 2]]], .app (.eload 1 false) [.app (.eoff 0) [.app (.eidx 6) [.inp 1, .inp 2]]]], .bool true, .app (.bin .neq) [.app (.eload 1 false) [.app (.eoff 1) [.app (.eidx 6) [.inp 0, .inp 2]]], .app (.eload 1 false) [.app (.eoff 1) [.app (.eidx 6) [.inp 1, .inp 2]]]]], .bool true, .app (.bin .neq) [.app (.eload 1 false) [.app (.eoff 2) [.app (.eidx 6) [.inp 0, .inp 2]]], .app (.eload 1 false) [.app (.eoff 2) [.app (.eidx 6) [.inp 1, .inp 2]]]]],
    .chk [(.app .pick [.app .pick [.app (.bin .neq) [.app (.eload 1 false) [.app (.eoff 0) [.app (.eidx 6) [.inp 0, .inp 2]]], .app (.eload 1 false) [.app (.eoff 0) [.app (.eidx 6) [.inp 1, .inp 2]]]], .bool true, .app (.bin .neq) [.app (.eload 1 false) [.app (.eoff 1) [.app (.eidx 6) [.inp 0, .inp 2]]], .app (.eload 1 false) [.app (.eoff 1) [.app (.eidx 6) [.inp 1, .inp 2]]]]], .bool true, .app (.bin .neq) [.app (.eload 1 false) [.app (.eoff 2) [.app (.eidx 6) [.inp 0, .inp 2]]], .app (.eload 1 false) [.app (.eoff 2) [.app (.eidx 6) [.inp 1, .inp 2]]]]], false)] (.eidx 6) [.inp 0, .inp 2],
    .chk [(.app .pick [.app .pick [.app (.bin .neq) [.app (.eload 1 false) [.app (.eoff 0) [.app (.eidx 6) [.inp 0, .inp 2]]], .app (.eload 1 false) [.app (.eoff 0) [.app (.eidx 6) [.inp 1, .inp 2]]]], .bool true, .app (.bin .neq) [.app (.eload 1 false) [.app (.eoff 1) [.app (.eidx 6) [.inp 0, .inp 2]]], .app (.eload 1 false) [.app (.eoff 1) [.app (.eidx 6) [.inp 1, .inp 2]]]]], .bool true, .app (.bin .neq) [.app (.eload 1 false) [.app (.eoff 2) [.app (.eidx 6) [.inp 0, .inp 2]]], .app (.eload 1 false) [.app (.eoff 2) [.app (.eidx 6) [.inp 1, .inp 2]]]]], false)] (.eoff 3) [.app (.eidx 6) [.inp 0, .inp 2]],
    .chk [(.app .pick [.app .pick [.app (.bin .neq) [.app (.eload 1 false) [.app (.eoff 0) [.app (.eidx 6) [.inp 0, .inp 2]]], .app (.eload 1 false) [.app (.eoff 0) [.app (.eidx 6) [.inp 1, .inp 2]]]], .bool true, .app (.bin .neq) [.app (.eload 1 false) [.app (.eoff 1) [.app (.eidx 6) [.inp 0, .inp 2]]], .app (.eload 1 false) [.app (.eoff 1) [.app (.eidx 6) [.inp 1, .inp 2]]]]], .bool true, .app (.bin .neq) [.app (.eload 1 false) [.app (.eoff 2) [.app (.eidx 6) [.inp 0, .inp 2]]], .app (.eload 1 false) [.app (.eoff 2) [.app (.eidx 6) [.inp 1, .inp 2]]]]], false)] (.eoff 0) [.app (.eoff 3) [.app (.eidx 6) [.inp 0, .inp 2]]],
    .chk [(.app .pick [.app .pick [.app (.bin .neq) [.app (.eload 1 false) [.app (.eoff 0) [.app (.eidx 6) [.inp 0, .inp 2]]], .app (.eload 1 false) [.app (.eoff 0) [.app (.eidx 6) [.inp 1, .inp 2]]]], .bool true, .app (.bin .neq) [.app (.eload 1 false) [.app (.eoff 1) [.app (.eidx 6) [.inp 0, .inp 2]]], .app (.eload 1 false) [.app (.eoff 1) [.app (.eidx 6) [.inp 1, .inp 2]]]]], .bool true, .app (.bin .neq) [.app (.eload 1 false) [.app (.eoff 2) [.app (.eidx 6) [.inp 0, .inp 2]]], .app (.eload 1 false) [.app (.eoff 2) [.app (.eidx 6) [.inp 1, .inp 2]]]]], false)] (.eload 1 false) [.app (.eoff 0) [.app (.eoff 3) [.app (.eidx 6) [.inp 0, .inp 2]]]],
    .chk [(.app .pick [.app .pick [.app (.bin .neq) [.app (.eload 1 false) [.app (.eoff 0) [.app (.eidx 6) [.inp 0, .inp 2]]], .app (.eload 1 false) [.app (.eoff 0) [.app (.eidx 6) [.inp 1, .inp 2]]]], .bool true, .app (.bin .neq) [.app (.eload 1 false) [.app (.eoff 1) [.app (.eidx 6) [.inp 0, .inp 2]]], .app (.eload 1 false) [.app (.eoff 1) [.app (.eidx 6) [.inp 1, .inp 2]]]]], .bool true, .app (.bin .neq) [.app (.eload 1 false) [.app (.eoff 2) [.app (.eidx 6) [.inp 0, .inp 2]]], .app (.eload 1 false) [.app (.eoff 2) [.app (.eidx 6) [.inp 1, .inp 2]]]]], false)] (.eidx 6) [.inp 1, .inp 2],
    .chk [(.app .pick [.app .pick [.app (.bin .neq) [.app (.eload 1 false) [.app (.eoff 0) [.app (.eidx 6) [.inp 0, .inp 2]]], .app (.eload 1 false) [.app (.eoff 0) [.app (.eidx 6) [.inp 1, .inp 2]]]], .bool true, .app (.bin .neq) [.app (.eload 1 false) [.app (.eoff 1) [.app (.eidx 6) [.inp 0, .inp 2]]], .app (.eload 1 false) [.app (.eoff 1) [.app (.eidx 6) [.inp 1, .inp 2]]]]], .bool true, .app (.bin .neq) [.app (.eload 1 false) [.app (.eoff 2) [.app (.eidx 6) [.inp 0, .inp 2]]], .app (.eload 1 false) [.app (.eoff 2) [.app (.eidx 6) [.inp 1, .inp 2]]]]], false)] (.eoff 3) [.app (.eidx 6) [.inp 1, .inp 2]],
    .chk [(.app .pick [.app .pick [.app (.bin .neq) [.app (.eload 1 false) [.app (.eoff 0) [.app (.eidx 6) [.inp 0, .inp 2]]], .app (.eload 1 false) [.app (.eoff 0) [.app (.eidx 6) [.inp 1, .inp 2]]]], .bool true, .app (.bin .neq) [.app (.eload 1 false) [.app (.eoff 1) [.app (.eidx 6) [.inp 0, .inp 2]]], .app (.eload 1 false) [.app (.eoff 1) [.app (.eidx 6) [.inp 1, .inp 2]]]]], .bool true, .app (.bin .neq) [.app (.eload 1 false) [.app (.eoff 2) [.app (.eidx 6) [.inp 0, .inp 2]]], .app (.eload 1 false) [.app (.eoff 2) [.app (.eidx 6) [.inp 1, .inp 2]]]]], false)] (.eoff 0) [.app (.eoff 3) [.app (.eidx 6) [.inp 1, .inp 2]]],
    .chk [(.app .pick [.app .pick [.app (.bin .neq) [.app (.eload 1 false) [.app (.eoff 0) [.app (.eidx 6) [.inp 0, .inp 2]]], .app (.eload 1 false) [.app (.eoff 0) [.app (.eidx 6) [.inp 1, .inp 2]]]], .bool true, .app (.bin .neq) [.app (.eload 1 false) [.app (.eoff 1) [.app (.eidx 6) [.inp 0, .inp 2]]], .app (.eload 1 false) [.app (.eoff 1) [.app (.eidx 6) [.inp 1, .inp 2]]]]], .bool true, .app (.bin .neq) [.app (.eload 1 false) [.app (.eoff 2) [.app (.eidx 6) [.inp 0, .inp 2]]], .app (.eload 1 false) [.app (.eoff 2) [.app (.eidx 6) [.inp 1, .inp 2]]]]], false)] (.eload 1 false) [.app (.eoff 0) [.app (.eoff 3) [.app (.eidx 6) [.inp 1, .inp 2]]]],
    .chk [(.app .pick [.app .pick [.app (.bin .neq) [.app (.eload 1 false) [.app (.eoff 0) [.app (.eidx 6) [.inp 0, .inp 2]]], .app (.eload 1 false) [.app (.eoff 0) [.app (.eidx 6) [.inp 1, .inp 2]]]], .bool true, .app (.bin .neq) [.app (.eload 1 false) [.app (.eoff 1) [.app (.eidx 6) [.inp 0, .inp 2]]], .app (.eload 1 false) [.app (.eoff 1) [.app (.eidx 6) [.inp 1, .inp 2]]]]], .bool true, .app (.bin .neq) [.app (.eload 1 false) [.app (.eoff 2) [.app (.eidx 6) [.inp 0, .inp 2]]], .app (.eload 1 false) [.app (.eoff 2) [.app (.eidx 6) [.inp 1, .inp 2]]]]], false)] (.bin .neq) [.app (.eload 1 false) [.app (.eoff 0) [.app (.eoff 3) [.app (.eidx 6) [.inp 0, .inp 2]]]], .app (.eload 1 false) [.app (.eoff 0) [.app (.eoff 3) [.app (.eidx 6) [.inp 1, .inp 2]]]]],
    .chk [] .pick [.app .pick [.app .pick [.app (.bin .neq) [.app (.eload 1 false) [.app (.eoff 0) [.app (.eidx 6) [.inp 0, .inp 2]]], .app (.eload 1 false) [.app (.eoff 0) [.app (.eidx 6) [.inp 1, .inp 2]]]], .bool true, .app (.bin .neq) [.app (.eload 1 false) [.app (.eoff 1) [.app (.eidx 6) [.inp 0, .inp 2]]], .app (.eload 1 false) [.app (.eoff 1) [.app (.eidx 6) [.inp 1, .inp 2]]]]], .bool true, .app (.bin .neq) [.app (.eload 1 false) [.app (.eoff 2) [.app (.eidx 6) [.inp 0, .inp 2]]], .app (.eload 1 false) [.app (.eoff 2) [.app (.eidx 6) [.inp 1, .inp 2]]]]], .bool true, .app (.bin .neq) [.app (.eload 1 false) [.app (.eoff 0) [.app (.eoff 3) [.app (.eidx 6) [.inp 0, .inp 2]]]], .app (.eload 1 false) [.app (.eoff 0) [.app (.eoff 3) [.app (.eidx 6) [.inp 1, .inp 2]]]]]],
    .chk [(.app .pick [.app .pick [.app .pick [.app (.bin .neq) [.app (.eload 1 false) [.app (.eoff 0) [.app (.eidx 6) [.inp 0, .inp 2]]], .app (.eload 1 false) [.app (.eoff 0) [.app (.eidx 6) [.inp 1, .inp 2]]]], .bool true, .app (.bin .neq) [.app (.eload 1 false) [.app (.eoff 1) [.app (.eidx 6) [.inp 0, .inp 2]]], .app (.eload 1 false) [.app (.eoff 1) [.app (.eidx 6) [.inp 1, .inp 2]]]]], .bool true, .app (.bin .neq) [.app (.eload 1 false) [.app (.eoff 2) [.app (.eidx 6) [.inp 0, .inp 2]]], .app (.eload 1 false) [.app (.eoff 2) [.app (.eidx 6) [.inp 1, .inp 2]]]]], .bool true, .app (.bin .neq) [.app (.eload 1 false) [.app (.eoff 0) [.app (.eoff 3) [.app (.eidx 6) [.inp 0, .inp 2]]]], .app (.eload 1 false) [.app (.eoff 0) [.app (.eoff 3) [.app (.eidx 6) [.inp 1, .inp 2]]]]]], false)] (.eidx 6) [.inp 0, .inp 2],
    .chk [(.app .pick [.app .pick [.app .pick [.app (.bin .neq) [.app (.eload 1 false) [.app (.eoff 0) [.app (.eidx 6) [.inp 0, .inp 2]]], .app (.eload 1 false) [.app (.eoff 0) [.app (.eidx 6) [.inp 1, .inp 2]]]], .bool true, .app (.bin .neq) [.app (.eload 1 false) [.app (.eoff 1) [.app (.eidx 6) [.inp 0, .inp 2]]], .app (.eload 1 false) [.app (.eoff 1) [.app (.eidx 6) [.inp 1, .inp 2]]]]], .bool true, .app (.bin .neq) [.app (.eload 1 false) [.app (.eoff 2) [.app (.eidx 6) [.inp 0, .inp 2]]], .app (.eload 1 false) [.app (.eoff 2) [.app (.eidx 6) [.inp 1, .inp 2]]]]], .bool true, .app (.bin .neq) [.app (.eload 1 false) [.app (.eoff 0) [.app (.eoff 3) [.app (.eidx 6) [.inp 0, .inp 2]]]], .app (.eload 1 false) [.app (.eoff 0) [.app (.eoff 3) [.app (.eidx 6) [.inp 1, .inp 2]]]]]], false)] (.eoff 3) [.app (.eidx 6) [.inp 0, .inp 2]],
    .chk [(.app .pick [.app .pick [.app .pick [.app (.bin .neq) [.app (.eload 1 false) [.app (.eoff 0) [.app (.eidx 6) [.inp 0, .inp 2]]], .app (.eload 1 false) [.app (.eoff 0) [.app (.eidx 6) [.inp 1, .inp 2]]]], .bool true, .app (.bin .neq) [.app (.eload 1 false) [.app (.eoff 1) [.app (.eidx 6) [.inp 0, .inp 2]]], .app (.eload 1 false) [.app (.eoff 1) [.app (.eidx 6) [.inp 1, .inp 2]]]]], .bool true, .app (.bin .neq) [.app (.eload 1 false) [.app (.eoff 2) [.app (.eidx 6) [.inp 0, .inp 2]]], .app (.eload 1 false) [.app (.eoff 2) [.app (.eidx 6) [.inp 1, .inp 2]]]]], .bool true, .app (.bin .neq) [.app (.eload 1 false) [.app (.eoff 0) [.app (.eoff 3) [.app (.eidx 6) [.inp 0, .inp 2]]]], .app (.eload 1 false) [.app (.eoff 0) [.app (.eoff 3) [.app (.eidx 6) [.inp 1, .inp 2]]]]]], false)] (.eoff 1) [.app (.eoff 3) [.app (.eidx 6) [.inp 0, .inp 2]]],
    .chk [(.app .pick [.app .pick [.app .pick [.app (.bin .neq) [.app (.eload 1 false) [.app (.eoff 0) [.app (.eidx 6) [.inp 0, .inp 2]]], .app (.eload 1 false) [.app (.eoff 0) [.app (.eidx 6) [.inp 1, .inp 2]]]], .bool true, .app (.bin .neq) [.app (.eload 1 false) [.app (.eoff 1) [.app (.eidx 6) [.inp 0, .inp 2]]], .app (.eload 1 false) [.app (.eoff 1) [.app (.eidx 6) [.inp 1, .inp 2]]]]], .bool true, .app (.bin .neq) [.app (.eload 1 false) [.app (.eoff 2) [.app (.eidx 6) [.inp 0, .inp 2]]], .app (.eload 1 false) [.app (.eoff 2) [.app (.eidx 6) [.inp 1, .inp 2]]]]], .bool true, .app (.bin .neq) [.app (.eload 1 false) [.app (.eoff 0) [.app (.eoff 3) [.app (.eidx 6) [.inp 0, .inp 2]]]], .app (.eload 1 false) [.app (.eoff 0) [.app (.eoff 3) [.app (.eidx 6) [.inp 1, .inp 2]]]]]], false)] (.eload 1 false) [.app (.eoff 1) [.app (.eoff 3) [.app (.eidx 6) [.inp 0, .inp 2]]]],
    .chk [(.app .pick [.app .pick [.app .pick [.app (.bin .neq) [.app (.eload 1 false) [.app (.eoff 0) [.app (.eidx 6) [.inp 0, .inp 2]]], .app (.eload 1 false) [.app (.eoff 0) [.app (.eidx 6) [.inp 1, .inp 2]]]], .bool true, .app (.bin .neq) [.app (.eload 1 false) [.app (.eoff 1) [.app (.eidx 6) [.inp 0, .inp 2]]], .app (.eload 1 false) [.app (.eoff 1) [.app (.eidx 6) [.inp 1, .inp 2]]]]], .bool true, .app (.bin .neq) [.app (.eload 1 false) [.app (.eoff 2) [.app (.eidx 6) [.inp 0, .inp 2]]], .app (.eload 1 false) [.app (.eoff 2) [.app (.eidx 6) [.inp 1, .inp 2]]]]], .bool true, .app (.bin .neq) [.app (.eload 1 false) [.app (.eoff 0) [.app (.eoff 3) [.app (.eidx 6) [.inp 0, .inp 2]]]], .app (.eload 1 false) [.app (.eoff 0) [.app (.eoff 3) [.app (.eidx 6) [.inp 1, .inp 2]]]]]], false)] (.eidx 6) [.inp 1, .inp 2],
    .chk [(.app .pick [.app .pick [.app .pick [.app (.bin .neq) [.app (.eload 1 false) [.app (.eoff 0) [.app (.eidx 6) [.inp 0, .inp 2]]], .app (.eload 1 false) [.app (.eoff 0) [.app (.eidx 6) [.inp 1, .inp 2]]]], .bool true, .app (.bin .neq) [.app (.eload 1 false) [.app (.eoff 1) [.app (.eidx 6) [.inp 0, .inp 2]]], .app (.eload 1 false) [.app (.eoff 1) [.app (.eidx 6) [.inp 1, .inp 2]]]]], .bool true, .app (.bin .neq) [.app (.eload 1 false) [.app (.eoff 2) [.app (.eidx 6) [.inp 0, .inp 2]]], .app (.eload 1 false) [.app (.eoff 2) [.app (.eidx 6) [.inp 1, .inp 2]]]]], .bool true, .app (.bin .neq) [.app (.eload 1 false) [.app (.eoff 0) [.app (.eoff 3) [.app (.eidx 6) [.inp 0, .inp 2]]]], .app (.eload 1 false) [.app (.eoff 0) [.app (.eoff 3) [.app (.eidx 6) [.inp 1, .inp 2]]]]]], false)] (.eoff 3) [.app (.eidx 6) [.inp 1, .inp 2]],
    .chk [(.app .pick [.app .pick [.app .pick [.app (.bin .neq) [.app (.eload 1 false) [.app (.eoff 0) [.app (.eidx 6) [.inp 0, .inp 2]]], .app (.eload 1 false) [.app (.eoff 0) [.app (.eidx 6) [.inp 1, .inp 2]]]], .bool true, .app (.bin .neq) [.app (.eload 1 false) [.app (.eoff 1) [.app (.eidx 6) [.inp 0, .inp 2]]], .app (.eload 1 false) [.app (.eoff 1) [.app (.eidx 6) [.inp 1, .inp 2]]]]], .bool true, .app (.bin .neq) [.app (.eload 1 false) [.app (.eoff 2) [.app (.eidx 6) [.inp 0, .inp 2]]], .app (.eload 1 false) [.app (.eoff 2) [.app (.eidx 6) [.inp 1, .inp 2]]]]], .bool true, .app (.bin .neq) [.app (.eload 1 false) [.app (.eoff 0) [.app (.eoff 3) [.app (.eidx 6) [.inp 0, .inp 2]]]], .app (.eload 1 false) [.app (.eoff 0) [.app (.eoff 3) [.app (.eidx 6) [.inp 1, .inp 2]]]]]], false)] (.eoff 1) [.app (.eoff 3) [.app (.eidx 6) [.inp 1, .inp 2]]],
    .chk [(.app .pick [.app .pick [.app .pick [.app (.bin .neq) [.app (.eload 1 false) [.app (.eoff 0) [.app (.eidx 6) [.inp 0, .inp 2]]], .app (.eload 1 false) [.app (.eoff 0) [.app (.eidx 6) [.inp 1, .inp 2]]]], .bool true, .app (.bin .neq) [.app (.eload 1 false) [.app (.eoff 1) [.app (.eidx 6) [.inp 0, .inp 2]]], .app (.eload 1 false) [.app (.eoff 1) [.app (.eidx 6) [.inp 1, .inp 2]]]]], .bool true, .app (.bin .neq) [.app (.eload 1 false) [.app (.eoff 2) [.app (.eidx 6) [.inp 0, .inp 2]]], .app (.eload 1 false) [.app (.eoff 2) [.app (.eidx 6) [.inp 1, .inp 2]]]]], .bool true, .app (.bin .neq) [.app (.eload 1 false) [.app (.eoff 0) [.app (.eoff 3) [.app (.eidx 6) [.inp 0, .inp 2]]]], .app (.eload 1 false) [.app (.eoff 0) [.app (.eoff 3) [.app (.eidx 6) [.inp 1, .inp 2]]]]]], false)] (.eload 1 false) [.app (.eoff 1) [.app (.eoff 3) [.app (.eidx 6) [.inp 1, .inp 2]]]],
    .chk [(.app .pick [.app .pick [.app .pick [.app (.bin .neq) [.app (.eload 1 false) [.app (.eoff 0) [.app (.eidx 6) [.inp 0, .inp 2]]], .app (.eload 1 false) [.app (.eoff 0) [.app (.eidx 6) [.inp 1, .inp 2]]]], .bool true, .app (.bin .neq) [.app (.eload 1 false) [.app (.eoff 1) [.app (.eidx 6) [.inp 0, .inp 2]]], .app (.eload 1 false) [.app (.eoff 1) [.app (.eidx 6) [.inp 1, .inp 2]]]]], .bool true, .app (.bin .neq) [.app (.eload 1 false) [.app (.eoff 2) [.app (.eidx 6) [.inp 0, .inp 2]]], .app (.eload 1 false) [.app (.eoff 2) [.app (.eidx 6) [.inp 1, .inp 2]]]]], .bool true, .app (.bin .neq) [.app (.eload 1 false) [.app (.eoff 0) [.app (.eoff 3) [.app (.eidx 6) [.inp 0, .inp 2]]]], .app (.eload 1 false) [.app (.eoff 0) [.app (.eoff 3) [.app (.eidx 6) [.inp 1, .inp 2]]]]]], false)] (.bin .neq) [.app (.eload 1 false) [.app (.eoff 1) [.app (.eoff 3) [.app (.eidx 6) [.inp 0, .inp 2]]]], .app (.eload 1 false) [.app (.eoff 1) [.app (.eoff 3) [.app (.eidx 6) [.inp 1, .inp 2]]]]],
    .chk [] .pick [.app .pick [.app .pick [.app .pick [.app (.bin .neq) [.app (.eload 1 false) [.app (.eoff 0) [.app (.eidx 6) [.inp 0, .inp 2]]], .app (.eload 1 false) [.app (.eoff 0) [.app (.eidx 6) [.inp 1, .inp 2]]]], .bool true, .app (.bin .neq) [.app (.eload 1 false) [.app (.eoff 1) [.app (.eidx 6) [.inp 0, .inp 2]]], .app (.eload 1 false) [.app (.eoff 1) [.app (.eidx 6) [.inp 1, .inp 2]]]]], .bool true, .app (.bin .neq) [.app (.eload 1 false) [.app (.eoff 2) [.app (.eidx 6) [.inp 0, .inp 2]]], .app (.eload 1 false) [.app (.eoff 2) [.app (.eidx 6) [.inp 1, .inp 2]]]]], .bool true, .app (.bin .neq) [.app (.eload 1 false) [.app (.eoff 0) [.app (.eoff 3) [.app (.eidx 6) [.inp 0, .inp 2]]]], .app (.eload 1 false) [.app (.eoff 0) [.app (.eoff 3) [.app (.eidx 6) [.inp 1, .inp 2]]]]]], .bool true, .app (.bin .neq) [.app (.eload 1 false) [.app (.eoff 1) [.app (.eoff 3) [.app (.eidx 6) [.inp 0, .inp 2]]]], .app (.eload 1 false) [.app (.eoff 1) [.app (.eoff 3) [.app (.eidx 6) [.inp 1, .inp 2]]]]]],
    .chk [(.app .pick [.app .pick [.app .pick [.app .pick [.app (.bin .neq) [.app (.eload 1 false) [.app (.eoff 0) [.app (.eidx 6) [.inp 0, .inp 2]]], .app (.eload 1 false) [.app (.eoff 0) [.app (.eidx 6) [.inp 1, .inp 2]]]], .bool true, .app (.bin .neq) [.app (.eload 1 false) [.app (.eoff 1) [.app (.eidx 6) [.inp 0, .inp 2]]], .app (.eload 1 false) [.app (.eoff 1) [.app (.eidx 6) [.inp 1, .inp 2]]]]], .bool true, .app (.bin .neq) [.app (.eload 1 false) [.app (.eoff 2) [.app (.eidx 6) [.inp 0, .inp 2]]], .app (.eload 1 false) [.app (.eoff 2) [.app (.eidx 6) [.inp 1, .inp 2]]]]], .bool true, .app (.bin .neq) [.app (.eload 1 false) [.app (.eoff 0) [.app (.eoff 3) [.app (.eidx 6) [.inp 0, .inp 2]]]], .app (.eload 1 false) [.app (.eoff 0) [.app (.eoff 3) [.app (.eidx 6) [.inp 1, .inp 2]]]]]], .bool true, .app (.bin .neq) [.app (.eload 1 false) [.app (.eoff 1) [.app (.eoff 3) [.app (.eidx 6) [.inp 0, .inp 2]]]], .app (.eload 1 false) [.app (.eoff 1) [.app (.eoff 3) [.app (.eidx 6) [.inp 1, .inp 2]]]]]], false)] (.eidx 6) [.inp 0, .inp 2],
    .chk [(.app .pick [.app .pick [.app .pick [.app .pick [.app (.bin .neq) [.app (.eload 1 false) [.app (.eoff 0) [.app (.eidx 6) [.inp 0, .inp 2]]], .app (.eload 1 false) [.app (.eoff 0) [.app (.eidx 6) [.inp 1, .inp 2]]]], .bool true, .app (.bin .neq) [.app (.eload 1 false) [.app (.eoff 1) [.app (.eidx 6) [.inp 0, .inp 2]]], .app (.eload 1 false) [.app (.eoff 1) [.app (.eidx 6) [.inp 1, .inp 2]]]]], .bool true, .app (.bin .neq) [.app (.eload 1 false) [.app (.eoff 2) [.app (.eidx 6) [.inp 0, .inp 2]]], .app (.eload 1 false) [.app (.eoff 2) [.app (.eidx 6) [.inp 1, .inp 2]]]]], .bool true, .app (.bin .neq) [.app (.eload 1 false) [.app (.eoff 0) [.app (.eoff 3) [.app (.eidx 6) [.inp 0, .inp 2]]]], .app (.eload 1 false) [.app (.eoff 0) [.app (.eoff 3) [.app (.eidx 6) [.inp 1, .inp 2]]]]]], .bool true, .app (.bin .neq) [.app (.eload 1 false) [.app (.eoff 1) [.app (.eoff 3) [.app (.eidx 6) [.inp 0, .inp 2]]]], .app (.eload 1 false) [.app (.eoff 1) [.app (.eoff 3) [.app (.eidx 6) [.inp 1, .inp 2]]]]]], false)] (.eoff 3) [.app (.eidx 6) [.inp 0, .inp 2]],
    .chk [(.app .pick [.app .pick [.app .pick [.app .pick [.app (.bin .neq) [.app (.eload 1 false) [.app (.eoff 0) [.app (.eidx 6) [.inp 0, .inp 2]]], .app (.eload 1 false) [.app (.eoff 0) [.app (.eidx 6) [.inp 1, .inp 2]]]], .bool true, .app (.bin .neq) [.app (.eload 1 false) [.app (.eoff 1) [.app (.eidx 6) [.inp 0, .inp 2]]], .app (.eload 1 false) [.app (.eoff 1) [.app (.eidx 6) [.inp 1, .inp 2]]]]], .bool true, .app (.bin .neq) [.app (.eload 1 false) [.app (.eoff 2) [.app (.eidx 6) [.inp 0, .inp 2]]], .app (.eload 1 false) [.app (.eoff 2) [.app (.eidx 6) [.inp 1, .inp 2]]]]], .bool true, .app (.bin .neq) [.app (.eload 1 false) [.app (.eoff 0) [.app (.eoff 3) [.app (.eidx 6) [.inp 0, .inp 2]]]], .app (.eload 1 false) [.app (.eoff 0) [.app (.eoff 3) [.app (.eidx 6) [.inp 1, .inp 2]]]]]], .bool true, .app (.bin .neq) [.app (.eload 1 false) [.app (.eoff 1) [.app (.eoff 3) [.app (.eidx 6) [.inp 0, .inp 2]]]], .app (.eload 1 false) [.app (.eoff 1) [.app (.eoff 3) [.app (.eidx 6) [.inp 1, .inp 2]]]]]], false)] (.eoff 2) [.app (.eoff 3) [.app (.eidx 6) [.inp 0, .inp 2]]],
    .chk [(.app .pick [.app .pick [.app .pick [.app .pick [.app (.bin .neq) [.app (.eload 1 false) [.app (.eoff 0) [.app (.eidx 6) [.inp 0, .inp 2]]], .app (.eload 1 false) [.app (.eoff 0) [.app (.eidx 6) [.inp 1, .inp 2]]]], .bool true, .app (.bin .neq) [.app (.eload 1 false) [.app (.eoff 1) [.app (.eidx 6) [.inp 0, .inp 2]]], .app (.eload 1 false) [.app (.eoff 1) [.app (.eidx 6) [.inp 1, .inp 2]]]]], .bool true, .app (.bin .neq) [.app (.eload 1 false) [.app (.eoff 2) [.app (.eidx 6) [.inp 0, .inp 2]]], .app (.eload 1 false) [.app (.eoff 2) [.app (.eidx 6) [.inp 1, .inp 2]]]]], .bool true, .app (.bin .neq) [.app (.eload 1 false) [.app (.eoff 0) [.app (.eoff 3) [.app (.eidx 6) [.inp 0, .inp 2]]]], .app (.eload 1 false) [.app (.eoff 0) [.app (.eoff 3) [.app (.eidx 6) [.inp 1, .inp 2]]]]]], .bool true, .app (.bin .neq) [.app (.eload 1 false) [.app (.eoff 1) [.app (.eoff 3) [.app (.eidx 6) [.inp 0, .inp 2]]]], .app (.eload 1 false) [.app (.eoff 1) [.app (.eoff 3) [.app (.eidx 6) [.inp 1, .inp 2]]]]]], false)] (.eload 1 false) [.app (.eoff 2) [.app (.eoff 3) [.app (.eidx 6) [.inp 0, .inp 2]]]],
    .chk [(.app .pick [.app .pick [.app .pick [.app .pick [.app (.bin .neq) [.app (.eload 1 false) [.app (.eoff 0) [.app (.eidx 6) [.inp 0, .inp 2]]], .app (.eload 1 false) [.app (.eoff 0) [.app (.eidx 6) [.inp 1, .inp 2]]]], .bool true, .app (.bin .neq) [.app (.eload 1 false) [.app (.eoff 1) [.app (.eidx 6) [.inp 0, .inp 2]]], .app (.eload 1 false) [.app (.eoff 1) [.app (.eidx 6) [.inp 1, .inp 2]]]]], .bool true, .app (.bin .neq) [.app (.eload 1 false) [.app (.eoff 2) [.app (.eidx 6) [.inp 0, .inp 2]]], .app (.eload 1 false) [.app (.eoff 2) [.app (.eidx 6) [.inp 1, .inp 2]]]]], .bool true, .app (.bin .neq) [.app (.eload 1 false) [.app (.eoff 0) [.app (.eoff 3) [.app (.eidx 6) [.inp 0, .inp 2]]]], .app (.eload 1 false) [.app (.eoff 0) [.app (.eoff 3) [.app (.eidx 6) [.inp 1, .inp 2]]]]]], .bool true, .app (.bin .neq) [.app (.eload 1 false) [.app (.eoff 1) [.app (.eoff 3) [.app (.eidx 6) [.inp 0, .inp 2]]]], .app (.eload 1 false) [.app (.eoff 1) [.app (.eoff 3) [.app (.eidx 6) [.inp 1, .inp 2]]]]]], false)] (.eidx 6) [.inp 1, .inp 2],
    .chk [(.app .pick [.app .pick [.app .pick [.app .pick [.app (.bin .neq) [.app (.eload 1 false) [.app (.eoff 0) [.app (.eidx 6) [.inp 0, .inp 2]]], .app (.eload 1 false) [.app (.eoff 0) [.app (.eidx 6) [.inp 1, .inp 2]]]], .bool true, .app (.bin .neq) [.app (.eload 1 false) [.app (.eoff 1) [.app (.eidx 6) [.inp 0, .inp 2]]], .app (.eload 1 false) [.app (.eoff 1) [.app (.eidx 6) [.inp 1, .inp 2]]]]], .bool true, .app (.bin .neq) [.app (.eload 1 false) [.app (.eoff 2) [.app (.eidx 6) [.inp 0, .inp 2]]], .app (.eload 1 false) [.app (.eoff 2) [.app (.eidx 6) [.inp 1, .inp 2]]]]], .bool true, .app (.bin .neq) [.app (.eload 1 false) [.app (.eoff 0) [.app (.eoff 3) [.app (.eidx 6) [.inp 0, .inp 2]]]], .app (.eload 1 false) [.app (.eoff 0) [.app (.eoff 3) [.app (.eidx 6) [.inp 1, .inp 2]]]]]], .bool true, .app (.bin .neq) [.app (.eload 1 false) [.app (.eoff 1) [.app (.eoff 3) [.app (.eidx 6) [.inp 0, .inp 2]]]], .app (.eload 1 false) [.app (.eoff 1) [.app (.eoff 3) [.app (.eidx 6) [.inp 1, .inp 2]]]]]], false)] (.eoff 3) [.app (.eidx 6) [.inp 1, .inp 2]],
    .chk [(.app .pick [.app .pick [.app .pick [.app .pick [.app (.bin .neq) [.app (.eload 1 false) [.app (.eoff 0) [.app (.eidx 6) [.inp 0, .inp 2]]], .app (.eload 1 false) [.app (.eoff 0) [.app (.eidx 6) [.inp 1, .inp 2]]]], .bool true, .app (.bin .neq) [.app (.eload 1 false) [.app (.eoff 1) [.app (.eidx 6) [.inp 0, .inp 2]]], .app (.eload 1 false) [.app (.eoff 1) [.app (.eidx 6) [.inp 1, .inp 2]]]]], .bool true, .app (.bin .neq) [.app (.eload 1 false) [.app (.eoff 2) [.app (.eidx 6) [.inp 0, .inp 2]]], .app (.eload 1 false) [.app (.eoff 2) [.app (.eidx 6) [.inp 1, .inp 2]]]]], .bool true, .app (.bin .neq) [.app (.eload 1 false) [.app (.eoff 0) [.app (.eoff 3) [.app (.eidx 6) [.inp 0, .inp 2]]]], .app (.eload 1 false) [.app (.eoff 0) [.app (.eoff 3) [.app (.eidx 6) [.inp 1, .inp 2]]]]]], .bool true, .app (.bin .neq) [.app (.eload 1 false) [.app (.eoff 1) [.app (.eoff 3) [.app (.eidx 6) [.inp 0, .inp 2]]]], .app (.eload 1 false) [.app (.eoff 1) [.app (.eoff 3) [.app (.eidx 6) [.inp 1, .inp 2]]]]]], false)] (.eoff 2) [.app (.eoff 3) [.app (.eidx 6) [.inp 1, .inp 2]]],
    .chk [(.app .pick [.app .pick [.app .pick [.app .pick [.app (.bin .neq) [.app (.eload 1 false) [.app (.eoff 0) [.app (.eidx 6) [.inp 0, .inp 2]]], .app (.eload 1 false) [.app (.eoff 0) [.app (.eidx 6) [.inp 1, .inp 2]]]], .bool true, .app (.bin .neq) [.app (.eload 1 false) [.app (.eoff 1) [.app (.eidx 6) [.inp 0, .inp 2]]], .app (.eload 1 false) [.app (.eoff 1) [.app (.eidx 6) [.inp 1, .inp 2]]]]], .bool true, .app (.bin .neq) [.app (.eload 1 false) [.app (.eoff 2) [.app (.eidx 6) [.inp 0, .inp 2]]], .app (.eload 1 false) [.app (.eoff 2) [.app (.eidx 6) [.inp 1, .inp 2]]]]], .bool true, .app (.bin .neq) [.app (.eload 1 false) [.app (.eoff 0) [.app (.eoff 3) [.app (.eidx 6) [.inp 0, .inp 2]]]], .app (.eload 1 false) [.app (.eoff 0) [.app (.eoff 3) [.app (.eidx 6) [.inp 1, .inp 2]]]]]], .bool true, .app (.bin .neq) [.app (.eload 1 false) [.app (.eoff 1) [.app (.eoff 3) [.app (.eidx 6) [.inp 0, .inp 2]]]], .app (.eload 1 false) [.app (.eoff 1) [.app (.eoff 3) [.app (.eidx 6) [.inp 1, .inp 2]]]]]], false)] (.eload 1 false) [.app (.eoff 2) [.app (.eoff 3) [.app (.eidx 6) [.inp 1, .inp 2]]]],
    .call 3 [(.app .pick [.app .pick [.app .pick [.app .pick [.app (.bin .neq) [.app (.eload 1 false) [.app (.eoff 0) [.app (.eidx 6) [.inp 0, .inp 2]]], .app (.eload 1 false) [.app (.eoff 0) [.app (.eidx 6) [.inp 1, .inp 2]]]], .bool true, .app (.bin .neq) [.app (.eload 1 false) [.app (.eoff 1) [.app (.eidx 6) [.inp 0, .inp 2]]], .app (.eload 1 false) [.app (.eoff 1) [.app (.eidx 6) [.inp 1, .inp 2]]]]], .bool true, .app (.bin .neq) [.app (.eload 1 false) [.app (.eoff 2) [.app (.eidx 6) [.inp 0, .inp 2]]], .app (.eload 1 false) [.app (.eoff 2) [.app (.eidx 6) [.inp 1, .inp 2]]]]], .bool true, .app (.bin .neq) [.app (.eload 1 false) [.app (.eoff 0) [.app (.eoff 3) [.app (.eidx 6) [.inp 0, .inp 2]]]], .app (.eload 1 false) [.app (.eoff 0) [.app (.eoff 3) [.app (.eidx 6) [.inp 1, .inp 2]]]]]], .bool true, .app (.bin .neq) [.app (.eload 1 false) [.app (.eoff 1) [.app (.eoff 3) [.app (.eidx 6) [.inp 0, .inp 2]]]], .app (.eload 1 false) [.app (.eoff 1) [.app (.eoff 3) [.app (.eidx 6) [.inp 1, .inp 2]]]]]], false)] 31 [.app (.eload 1 false) [.app (.eoff 2) [.app (.eoff 3) [.app (.eidx 6) [.inp 0, .inp 2]]]], .app (.eload 1 false) [.app (.eoff 2) [.app (.eoff 3) [.app (.eidx 6) [.inp 1, .inp 2]]]]] false,
    .chk [(.app .pick [.app .pick [.app .pick [.app .pick [.app (.bin .neq) [.app (.eload 1 false) [.app (.eoff 0) [.app (.eidx 6) [.inp 0, .inp 2]]], .app (.eload 1 false) [.app (.eoff 0) [.app (.eidx 6) [.inp 1, .inp 2]]]], .bool true, .app (.bin .neq) [.app (.eload 1 false) [.app (.eoff 1) [.app (.eidx 6) [.inp 0, .inp 2]]], .app (.eload 1 false) [.app (.eoff 1) [.app (.eidx 6) [.inp 1, .inp 2]]]]], .bool true, .app (.bin .neq) [.app (.eload 1 false) [.app (.eoff 2) [.app (.eidx 6) [.inp 0, .inp 2]]], .app (.eload 1 false) [.app (.eoff 2) [.app (.eidx 6) [.inp 1, .inp 2]]]]], .bool true, .app (.bin .neq) [.app (.eload 1 false) [.app (.eoff 0) [.app (.eoff 3) [.app (.eidx 6) [.inp 0, .inp 2]]]], .app (.eload 1 false) [.app (.eoff 0) [.app (.eoff 3) [.app (.eidx 6) [.inp 1, .inp 2]]]]]], .bool true, .app (.bin .neq) [.app (.eload 1 false) [.app (.eoff 1) [.app (.eoff 3) [.app (.eidx 6) [.inp 0, .inp 2]]]], .app (.eload 1 false) [.app (.eoff 1) [.app (.eoff 3) [.app (.eidx 6) [.inp 1, .inp 2]]]]]], false)] (.un .not) [.inp 3],
    .chk [] .pick [.app .pick [.app .pick [.app .pick [.app .pick [.app (.bin .neq) [.app (.eload 1 false) [.app (.eoff 0) [.app (.eidx 6) [.inp 0, .inp 2]]], .app (.eload 1 false) [.app (.eoff 0) [.app (.eidx 6) [.inp 1, .inp 2]]]], .bool true, .app (.bin .neq) [.app (.eload 1 false) [.app (.eoff 1) [.app (.eidx 6) [.inp 0, .inp 2]]], .app (.eload 1 false) [.app (.eoff 1) [.app (.eidx 6) [.inp 1, .inp 2]]]]], .bool true, .app (.bin .neq) [.app (.eload 1 false) [.app (.eoff 2) [.app (.eidx 6) [.inp 0, .inp 2]]], .app (.eload 1 false) [.app (.eoff 2) [.app (.eidx 6) [.inp 1, .inp 2]]]]], .bool true, .app (.bin .neq) [.app (.eload 1 false) [.app (.eoff 0) [.app (.eoff 3) [.app (.eidx 6) [.inp 0, .inp 2]]]], .app (.eload 1 false) [.app (.eoff 0) [.app (.eoff 3) [.app (.eidx 6) [.inp 1, .inp 2]]]]]], .bool true, .app (.bin .neq) [.app (.eload 1 false) [.app (.eoff 1) [.app (.eoff 3) [.app (.eidx 6) [.inp 0, .inp 2]]]], .app (.eload 1 false) [.app (.eoff 1) [.app (.eoff 3) [.app (.eidx 6) [.inp 1, .inp 2]]]]]], .bool true, .app (.un .not) [.inp 3]]] <|
    .cond (.app .pick [.app .pick [.app .pick [.app .pick [.app .pick [.app (.bin .neq) [.app (.eload 1 false) [.app (.eoff 0) [.app (.eidx 6) [.inp 0, .inp 2]]], .app (.eload 1 false) [.app (.eoff 0) [.app (.eidx 6) [.inp 1, .inp 2]]]], .bool true, .app (.bin .neq) [.app (.eload 1 false) [.app (.eoff 1) [.app (.eidx 6) [.inp 0, .inp 2]]], .app (.eload 1 false) [.app (.eoff 1) [.app (.eidx 6) [.inp 1, .inp 2]]]]], .bool true, .app (.bin .neq) [.app (.eload 1 false) [.app (.eoff 2) [.app (.eidx 6) [.inp 0, .inp 2]]], .app (.eload 1 false) [.app (.eoff 2) [.app (.eidx 6) [.inp 1, .inp 2]]]]], .bool true, .app (.bin .neq) [.app (.eload 1 false) [.app (.eoff 0) [.app (.eoff 3) [.app (.eidx 6) [.inp 0, .inp 2]]]], .app (.eload 1 false) [.app (.eoff 0) [.app (.eoff 3) [.app (.eidx 6) [.inp 1, .inp 2]]]]]], .bool true, .app (.bin .neq) [.app (.eload 1 false) [.app (.eoff 1) [.app (.eoff 3) [.app (.eidx 6) [.inp 0, .inp 2]]]], .app (.eload 1 false) [.app (.eoff 1) [.app (.eoff 3) [.app (.eidx 6) [.inp 1, .inp 2]]]]]], .bool true, .app (.un .not) [.inp 3]])
    (.ret (.bool false))
    (.seg [.chk [] (.bin .add) [.inp 2, .int .i64 1]] <|
     .again 0 [.app (.bin .add) [.inp 2, .int .i64 1]]))
   (.ret (.bool true)))
theorem run13 : runF E 13 [.inp 0, .inp 1] 2 = rt13 := by kernel_rfl

noncomputable def rt8 : RT :=
 .seg [.chk [] (.isAgg 11) [.agg [.inp 0, .inp 1, .inp 2, .inp 3, .inp 4, .inp 5, .inp 6, .inp 7, .inp 8, .inp 9, .inp 10]]] <|
 .seg [.chk [] (.isAgg 5) [.agg [.inp 11, .inp 12, .inp 13, .inp 14, .inp 15]]] <|
 .seg [.call 16 [] 24 [.agg [.inp 0, .inp 1, .inp 2, .inp 3, .inp 4, .inp 5, .inp 6, .inp 7, .inp 8, .inp 9, .inp 10]] false] <|
 .seg [.chk [(.inp 16, false)] .len [.inp 12]] <|
 .seg [.chk [(.inp 16, false)] (.bin .gtr) [.app .len [.inp 12], .int .i64 20]] <|
 .seg [.chk [] .pick [.inp 16, .bool true, .app (.bin .gtr) [.app .len [.inp 12], .int .i64 20]]] <|
 .ret (.app .pick [.inp 16, .bool true, .app (.bin .gtr) [.app .len [.inp 12], .int .i64 20]])
theorem run8 : runF E 8 [.agg [.inp 0, .inp 1, .inp 2, .inp 3, .inp 4, .inp 5, .inp 6, .inp 7, .inp 8, .inp 9, .inp 10], .agg [.inp 11, .inp 12, .inp 13, .inp 14, .inp 15]] 16 = rt8 := by kernel_rfl

noncomputable def rt26 : RT :=
 .seg [.chk [] .rep [.int .i64 6, .agg [.int .u8 0, .int .i64 0, .int .i64 0, .int .i64 0, .int .i64 0, .int .i64 0, .int .i64 0, .int .i64 0, .int .i64 0, .int .i64 0, .int .i64 0]],
 .chk [] .rep [.int .i64 3, .agg [.int .i64 0, .int .i64 0]],
 .chk [] .rep [.int .i64 2, .agg [.int .i64 0, .int .i64 0, .nils]]] <|
 .seg [.chk [] (.eidx 11) [.app .rep [.int .i64 6, .agg [.int .u8 0, .int .i64 0, .int .i64 0, .int .i64 0, .int .i64 0, .int .i64 0, .int .i64 0, .int .i64 0, .int .i64 0, .int .i64 0, .int .i64 0]], .int .i64 4]] <|
 .seg [.chk [] (.inr 4294967296) [.int .i64 4]] <|
 .seg [.chk [] (.rowset 11 0 1) [.app .rep [.int .i64 6, .agg [.int .u8 0, .int .i64 0, .int .i64 0, .int .i64 0, .int .i64 0, .int .i64 0, .int .i64 0, .int .i64 0, .int .i64 0, .int .i64 0, .int .i64 0]], .int .i64 4, .agg [.int .u8 2]]] <|
 .ret (.agg [.app (.rowset 11 0 1) [.app .rep [.int .i64 6, .agg [.int .u8 0, .int .i64 0, .int .i64 0, .int .i64 0, .int .i64 0, .int .i64 0, .int .i64 0, .int .i64 0, .int .i64 0, .int .i64 0, .int .i64 0]], .int .i64 4, .agg [.int .u8 2]], .app .rep [.int .i64 3, .agg [.int .i64 0, .int .i64 0]], .app .rep [.int .i64 2, .agg [.int .i64 0, .int .i64 0, .nils]], .nils, .int .i64 0, .int .i64 0, .int .i64 0, .int .i64 0, .int .i64 0, .int .i64 2, .int .i64 0])
theorem run26 : runF E 26 [] 0 = rt26 := by kernel_rfl

noncomputable def rt15 : RT :=
 .seg [.chk [] (.isAgg 11) [.agg [.inp 0, .inp 1, .inp 2, .inp 3, .inp 4, .inp 5, .inp 6, .inp 7, .inp 8, .inp 9, .inp 10]]] <|
 .seg [.chk [] (.isAgg 5) [.agg [.inp 11, .inp 12, .inp 13, .inp 14, .inp 15]]] <|
 .seg [.call 17 [] 29 [.agg [.inp 11, .inp 12, .inp 13, .inp 14, .inp 15]] false] <|
 .seg [.chk [] (.isAgg 5) [.inp 17]] <|
 .loop 0 18 [.nils, .int .i64 0, .app (.part 0 1 false) [.inp 17], .app (.part 1 1 false) [.inp 17], .app (.part 2 1 false) [.inp 17], .app (.part 3 1 false) [.inp 17], .app (.part 4 1 false) [.inp 17]] <|
 .seg [.chk [] .len [.inp 16]] <|
  .seg [.chk [] (.bin .lss) [.inp 19, .app .len [.inp 16]]] <|
  .cond (.app (.bin .lss) [.inp 19, .app .len [.inp 16]])
  (.seg [.chk [] (.eidx 3) [.inp 16, .inp 19],
   .chk [] (.eload 3 true) [.app (.eidx 3) [.inp 16, .inp 19]],
   .call 25 [] 11 [.agg [.inp 0, .inp 1, .inp 2, .inp 3, .inp 4, .inp 5, .inp 6, .inp 7, .inp 8, .inp 9, .inp 10], .agg [.inp 20, .inp 21, .inp 22, .inp 23, .inp 24], .app (.eload 3 true) [.app (.eidx 3) [.inp 16, .inp 19]]] false,
   .chk [] (.tproj 0) [.inp 25],
   .chk [] (.tproj 1) [.inp 25],
   .chk [] (.isAgg 5) [.app (.tproj 0) [.inp 25]]] <|
   .seg [.chk [] (.isAgg 5) [.agg [.app (.part 0 1 false) [.app (.tproj 0) [.inp 25]], .app (.part 1 1 false) [.app (.tproj 0) [.inp 25]], .app (.part 2 1 false) [.app (.tproj 0) [.inp 25]], .app (.part 3 1 false) [.app (.tproj 0) [.inp 25]], .app (.part 4 1 false) [.app (.tproj 0) [.inp 25]]]]] <|
   .seg [.chk [] (.szs 6) [.app (.tproj 1) [.inp 25]],
   .chk [] .app [.inp 18, .app (.tproj 1) [.inp 25]]] <|
   .seg [.chk [] (.bin .add) [.inp 19, .int .i64 1]] <|
   .again 0 [.app .app [.inp 18, .app (.tproj 1) [.inp 25]], .app (.bin .add) [.inp 19, .int .i64 1], .app (.part 0 1 false) [.app (.tproj 0) [.inp 25]], .app (.part 1 1 false) [.app (.tproj 0) [.inp 25]], .app (.part 2 1 false) [.app (.tproj 0) [.inp 25]], .app (.part 3 1 false) [.app (.tproj 0) [.inp 25]], .app (.part 4 1 false) [.app (.tproj 0) [.inp 25]]])
  (.seg [.chk [] (.isAgg 5) [.agg [.inp 20, .inp 21, .inp 22, .inp 23, .inp 24]]] <|
   .ret (.tup [.agg [.inp 20, .inp 21, .inp 22, .inp 23, .inp 24], .inp 18]))
theorem run15 : runF E 15 [.agg [.inp 0, .inp 1, .inp 2, .inp 3, .inp 4, .inp 5, .inp 6, .inp 7, .inp 8, .inp 9, .inp 10], .agg [.inp 11, .inp 12, .inp 13, .inp 14, .inp 15], .inp 16] 17 = rt15 := by kernel_rfl


end Go.Lb.C25
