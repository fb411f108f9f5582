/- What functions come to, printed by a program, checked by the kernel. -/
import Derived.Test.YtahohjgfkabacaaGreatDoorCh1
import Derived.Test.YtahohjgfkabacaaGreatDoorCh2
import Derived.Test.YtahohjgfkabacaaGreatDoorCh3
import Derived.Shelf.Small.Bits
import Derived.Shelf.Strconv.Itoa0
import Derived.Shelf.Sort.Plain
import Derived.Ground.Names2Prog
import Derived.Shelf.Slices.CompactI
import Derived.Test.YtahohjgfkabacaaGreatDoorProg
import Derived.Test.YtahohjgfkabacaaGreatDoorFw11
set_option linter.unusedSimpArgs false
set_option linter.unusedVariables false
namespace Go.Lb.LK
open Go Go.Lb Go.Proofs
noncomputable section
@[simp] def q6_0 : SE := .agg (pts (.inp 114) 0 74)
@[simp] def q6_1 : SE := .agg (pts (.inp 114) 2 72)
@[simp] def q6_2 : SE := .app (.mm false) [ln (.inp 0), zi 24]
@[simp] def q6_3 : SE := .app (.slice false true) [.inp 0, q6_2]
@[simp] def q6_4 : SE := ln q6_3
@[simp] def q6_5 : SE := ei 11 q6_3 (.inp 117)
@[simp] def q6_6 : SE := el 11 q6_5
@[simp] def q6_7 : SE := bi .eql (.inp 190) (.int .u8 2)
@[simp] def q6_8 : SE := .app (.aidx 24 3 0 3 true) [.agg (ips 118 72), .inp 117]
@[simp] def q6_9 : SE := bi .add (.inp 117) (zi 1)
@[simp] def q6_10 : SE := .agg (ap [pt 0 (.inp 114), pt 1 (.inp 114)] (ips 118 72))
@[simp] def q6_11 : SE := bi .lss (.inp 193) (ln (pt 1 (.inp 191)))
@[simp] def q6_12 : SE := ei 23 (pt 1 (.inp 191)) (.inp 193)
@[simp] def q6_13 : SE := el 23 q6_12
@[simp] def q6_14 : SE := pt 6 q6_13
@[simp] def q6_15 : SE := bi .eql q6_14 (.int .u8 1)
@[simp] def q6_16 : SE := .agg (pts (q6_13) 0 23)
@[simp] def q6_17 : SE := pt 0 q6_13
@[simp] def q6_18 : SE := .app .lst [q6_17]
@[simp] def q6_19 : SE := .app .app [.inp 192, q6_18]
@[simp] def q6_20 : SE := bi .add (.inp 193) (zi 1)
@[simp] def q6_21 : SE := .agg (pts (.inp 196) 0 23)
@[simp] def q6_22 : SE := .app .lst [q6_21]
@[simp] def q6_23 : SE := .app .app [.inp 194, q6_22]
@[simp] def q6_24 : SE := bi .eql q6_14 (.int .u8 2)
@[simp] def q6_25 : SE := .agg (pts (.inp 195) 0 23)
@[simp] def q6_26 : SE := .app .lst [q6_25]
@[simp] def q6_27 : SE := .app .app [.inp 194, q6_26]
@[simp] def q6_28 : SE := bi .eql q6_14 (.int .u8 3)
@[simp] def q6_29 : SE := bi .eql q6_14 (.int .u8 4)
@[simp] def q6_30 : SE := .agg (pts (tp 0 (.inp 195)) 0 23)
@[simp] def q6_31 : SE := pk (tp 1 (.inp 195)) bT (.inp 196)
@[simp] def q6_32 : SE := .agg [q6_31, bF]
@[simp] def q6_33 : SE := .app .lst [q6_30]
@[simp] def q6_34 : SE := .app .app [.inp 194, q6_33]
@[simp] def q6_35 : SE := bi .lss (.inp 195) (ln (.inp 194))
@[simp] def q6_36 : SE := .app (.rowget 23 0 23 true) [.inp 194, .inp 195]
@[simp] def q6_37 : SE := pt 6 q6_36
@[simp] def q6_38 : SE := bi .neq q6_37 (.int .u8 1)
@[simp] def q6_39 : SE := bi .add (.inp 195) (zi 1)
@[simp] def q6_40 : SE := .agg (pts (q6_36) 0 23)
@[simp] def q6_41 : SE := .clo 101 [] [.ref [.inp 268] 0, .ref (ips 0 11) 0, .ref (ips 11 29) 0]
@[simp] def q6_42 : SE := ln (e1 (.ref [.inp 268] 0))
@[simp] def q6_43 : SE := bi .lss (.inp 270) q6_42
@[simp] def q6_44 : SE := ei 3 (e1 (.ref [.inp 268] 0)) (.inp 270)
@[simp] def q6_45 : SE := el 3 q6_44
@[simp] def q6_46 : SE := el 11 (.ref (ips 0 11) 0)
@[simp] def q6_47 : SE := el 29 (.ref (ips 11 29) 0)
@[simp] def q6_48 : SE := pt 0 q6_45
@[simp] def q6_49 : SE := pt 1 q6_45
@[simp] def q6_50 : SE := bi .neq (.inp 343) q6_49
@[simp] def q6_51 : SE := .agg [q6_48, q6_49, pt 2 q6_45]
@[simp] def q6_52 : SE := .agg (ap [pt 0 (.inp 114), .undef] (ips 271 72))
@[simp] def q6_53 : SE := .app (.aidx 24 3 2 3 true) [q6_52, q6_48]
@[simp] def q6_54 : SE := .agg [pt 0 (.inp 344), pt 1 (.inp 344), pt 2 (.inp 344)]
@[simp] def q6_55 : SE := bi .add (.inp 270) (zi 1)
@[simp] def q6_56 : SE := .tup [.agg (ap [pt 0 (.inp 114), .inp 194] (ips 196 72)), .inp 192]
def rt_kernel_Tick : RT :=
 ck (.isAgg 11) [.agg (ips 0 11)] <|
 ck (.isAgg 29) [.agg (ips 11 29)] <|
 ck (.isAgg 74) [.agg (ips 40 74)] <|
.seg [.call 114 [] 41 [.agg (ips 40 74)] false] <|
 ck (.isAgg 74) [.inp 114] <|
.seg [.call 115 [] 42 [.agg (ips 40 74)] false] <|
 ck (.un .not) [.inp 115] <|
.seg [.call 116 [(nt (.inp 115), false)] 43 [.agg (ips 0 11), .agg (ips 11 29)] false] <|
 ck .pick [nt (.inp 115), bT, .inp 116] <|
.cond (pk (nt (.inp 115)) bT (.inp 116))
 (ck (.isAgg 74) [q6_0] <|
.ret (.tup [q6_0, .nils]))
 (ck (.isAgg 72) [q6_1] <|
 ck (.isAgg 11) [.agg (ips 0 11)] <|
 ck (.isAgg 29) [.agg (ips 11 29)] <|
 ck (.isAgg 74) [.agg (ips 40 74)] <|
 ck .len [.inp 0] <|
 ck (.mm false) [ln (.inp 0), zi 24] <|
.seg [.chk [] (.szs 11) [.inp 0],
.chk [] (.slice false true) [.inp 0, q6_2]] <|
 ck .len [q6_3] <|
.loop 0 117 (ap [zi 0] (pts (.inp 114) 2 72)) <|
 ck (.bin .lss) [.inp 117, q6_4] <|
.cond (bi .lss (.inp 117) q6_4)
 (ck (.eidx 11) [q6_3, .inp 117] <|
 ck (.eload 11 true) [q6_5] <|
 ck (.isAgg 11) [q6_6] <|
.seg [.bind 190 (pt 0 q6_6),
.bind 191 (pt 1 q6_6),
.bind 192 (pt 2 q6_6),
.bind 193 (pt 3 q6_6),
.bind 194 (pt 4 q6_6),
.bind 195 (pt 5 q6_6),
.bind 196 (pt 6 q6_6),
.bind 197 (pt 7 q6_6),
.bind 198 (pt 8 q6_6),
.bind 199 (pt 9 q6_6),
.bind 200 (pt 10 q6_6)] <|
.seg [.chk [] (.bin .eql) [.inp 190, .int .u8 2],
.call 201 [(q6_7, true)] 87 [.agg (ips 0 11), .agg (ips 11 29), .inp 117] false,
.call 202 [(q6_7, true)] 88 [.agg (ips 0 11), .agg (ips 11 29), .inp 117] false,
.call 203 [(q6_7, true)] 89 [.agg (ips 40 74), .inp 117] false,
.chk [(q6_7, true)] .isOne [.inp 201],
.chk [(q6_7, true)] .isOne [.inp 202],
.chk [(q6_7, true)] .isOne [.inp 203]] <|
.cond (q6_7)
 (ck (.isAgg 3) [.agg [.inp 201, .inp 202, .inp 203]] <|
.seg [.chk [] (.inr 24) [.inp 117],
.chk [] (.aidx 24 3 0 3 true) [.agg (ips 118 72), .inp 117],
.call 204 [] 45 [q6_8, .inp 201, .inp 202, .inp 203, .inp 5] false,
.chk [] (.inr 24) [.inp 117],
.chk [] (.inr 24) [.inp 117],
.chk [] (.isAgg 3) [.inp 204]] <|
.seg (ap [.bind 205 (q6_8)] (csB 0 (.inp 117) (.agg [pt 0 (.inp 204), pt 1 (.inp 204), pt 2 (.inp 204)]) 206 0 (ips 118 72))) <|
 ck (.un .not) [bT] <|
 ck (.bin .add) [.inp 117, zi 1] <|
.again 0 (ap [q6_9] (ips 206 72)))
 (ck (.bin .add) [.inp 117, zi 1] <|
.again 0 (ap [q6_9] (ips 118 72))))
 (ck (.eqa [ some .i64, some .i64, none, some .i64, some .i64, none, some .i64, some .i64, none, some .i64, some .i64, none, some .i64, some .i64, none, some .i64, some .i64, none, some .i64, some .i64, none, some .i64, some .i64, none, some .i64, some .i64, none, some .i64, some .i64, none, some .i64, some .i64, none, some .i64, some .i64, none, some .i64, some .i64, none, some .i64, some .i64, none, some .i64, some .i64, none, some .i64, some .i64, none, some .i64, some .i64, none, some .i64, some .i64, none, some .i64, some .i64, none, some .i64, some .i64, none, some .i64, some .i64, none, some .i64, some .i64, none, some .i64, some .i64, none, some .i64, some .i64, none] true) [.agg (ips 118 72), q6_1] <|
.seg [.bind 190 (.app (.eqa [ some .i64, some .i64, none, some .i64, some .i64, none, some .i64, some .i64, none, some .i64, some .i64, none, some .i64, some .i64, none, some .i64, some .i64, none, some .i64, some .i64, none, some .i64, some .i64, none, some .i64, some .i64, none, some .i64, some .i64, none, some .i64, some .i64, none, some .i64, some .i64, none, some .i64, some .i64, none, some .i64, some .i64, none, some .i64, some .i64, none, some .i64, some .i64, none, some .i64, some .i64, none, some .i64, some .i64, none, some .i64, some .i64, none, some .i64, some .i64, none, some .i64, some .i64, none, some .i64, some .i64, none, some .i64, some .i64, none, some .i64, some .i64, none] true) [.agg (ips 118 72), q6_1])] <|
.cond (.inp 190)
 (ck (.isAgg 72) [.agg (ips 118 72)] <|
 ck (.isAgg 11) [.agg (ips 0 11)] <|
 ck (.isAgg 29) [.agg (ips 11 29)] <|
 ck (.isAgg 74) [q6_10] <|
.seg [.call 191 [] 41 [.agg (ips 40 74)] false] <|
 ck (.part 1 1 false) [.inp 191] <|
 ck .len [pt 1 (.inp 191)] <|
.loop 0 192 [.nils, zi 0, .nils] <|
 ck (.bin .lss) [.inp 193, ln (pt 1 (.inp 191))] <|
.cond (q6_11)
 (ck (.eidx 23) [pt 1 (.inp 191), .inp 193] <|
 ck (.eload 23 true) [q6_12] <|
 ck (.isAgg 23) [q6_13] <|
 ck (.bin .eql) [q6_14, .int .u8 0] <|
.cond (q6_15)
 (.seg [.call 195 [] 98 [.agg (ips 0 11), .agg (ips 11 29), q6_10, q6_16] false] <|
.cond (.inp 195)
 (.seg [.chk [] .isOne [q6_17],
.chk [] .isOne [q6_17]] <|
.seg [.chk [] (.szs 1) [q6_18],
.chk [] .app [.inp 192, q6_18]] <|
 ck (.un .not) [bT] <|
 ck (.bin .add) [.inp 193, zi 1] <|
.again 0 [q6_19, q6_20, .inp 194])
 (.seg [.call 196 [] 95 [.agg (ips 0 11), .agg (ips 11 29), q6_16] false,
.chk [] (.isAgg 23) [.inp 196]] <|
.seg [.call 197 [] 96 [q6_21] false] <|
 ck .isOne [.inp 197] <|
 ck (.isAgg 2) [.agg [.inp 197, bF]] <|
 ck (.isAgg 2) [.agg [.inp 197, bF]] <|
 ck (.isAgg 2) [.agg [.inp 197, bF]] <|
 ck (.un .not) [.inp 197] <|
.cond (.inp 197)
 (ck (.bin .add) [.inp 193, zi 1] <|
.again 0 [.inp 192, q6_20, .inp 194])
 (ck (.isAgg 23) [q6_21] <|
.seg [.chk [] (.szs 23) [q6_22],
.chk [] .app [.inp 194, q6_22]] <|
.seg [.bind 198 (q6_22),
.bind 199 (q6_23)] <|
 ck (.bin .add) [.inp 193, zi 1] <|
.again 0 [.inp 192, q6_20, .inp 199])))
 (.cond (q6_24)
 (.seg [.call 195 [] 95 [.agg (ips 0 11), .agg (ips 11 29), q6_16] false,
.chk [] (.isAgg 23) [.inp 195]] <|
.seg [.call 196 [] 96 [q6_25] false] <|
 ck .isOne [.inp 196] <|
 ck (.isAgg 2) [.agg [.inp 196, bF]] <|
 ck (.isAgg 2) [.agg [.inp 196, bF]] <|
 ck (.un .not) [.inp 196] <|
.cond (.inp 196)
 (ck (.bin .add) [.inp 193, zi 1] <|
.again 0 [.inp 192, q6_20, .inp 194])
 (ck (.isAgg 23) [q6_25] <|
.seg [.chk [] (.szs 23) [q6_26],
.chk [] .app [.inp 194, q6_26]] <|
.seg [.bind 197 (q6_26),
.bind 198 (q6_27)] <|
 ck (.bin .add) [.inp 193, zi 1] <|
.again 0 [.inp 192, q6_20, .inp 198]))
 (.cond (q6_28)
 (.seg [.call 195 [] 95 [.agg (ips 0 11), .agg (ips 11 29), q6_16] false,
.chk [] (.isAgg 23) [.inp 195]] <|
.seg [.call 196 [] 96 [q6_25] false] <|
 ck .isOne [.inp 196] <|
 ck (.isAgg 2) [.agg [.inp 196, bF]] <|
 ck (.isAgg 2) [.agg [.inp 196, bF]] <|
 ck (.un .not) [.inp 196] <|
.cond (.inp 196)
 (ck (.bin .add) [.inp 193, zi 1] <|
.again 0 [.inp 192, q6_20, .inp 194])
 (ck (.isAgg 23) [q6_25] <|
.seg [.chk [] (.szs 23) [q6_26],
.chk [] .app [.inp 194, q6_26]] <|
.seg [.bind 197 (q6_26),
.bind 198 (q6_27)] <|
 ck (.bin .add) [.inp 193, zi 1] <|
.again 0 [.inp 192, q6_20, .inp 198]))
 (.cond (q6_29)
 (.seg [.call 195 [] 100 [.agg (ips 0 11), .agg (ips 11 29), q6_16] false,
.chk [] (.tproj 0) [.inp 195],
.chk [] (.tproj 1) [.inp 195],
.chk [] (.isAgg 23) [tp 0 (.inp 195)]] <|
 ck (.isAgg 23) [q6_30] <|
.seg [.call 196 [(tp 1 (.inp 195), false)] 96 [q6_30] false] <|
 ck .pick [tp 1 (.inp 195), bT, .inp 196] <|
 ck .isOne [q6_31] <|
 ck (.isAgg 2) [q6_32] <|
 ck (.isAgg 2) [q6_32] <|
 ck (.un .not) [q6_31] <|
.cond (q6_31)
 (ck (.bin .add) [.inp 193, zi 1] <|
.again 0 [.inp 192, q6_20, .inp 194])
 (ck (.isAgg 23) [q6_30] <|
.seg [.chk [] (.szs 23) [q6_33],
.chk [] .app [.inp 194, q6_33]] <|
.seg [.bind 197 (q6_33),
.bind 198 (q6_34)] <|
 ck (.bin .add) [.inp 193, zi 1] <|
.again 0 [.inp 192, q6_20, .inp 198]))
 (.dead 6 [zi 1, .nilf, .ptr 162 0])))))
 (ck .len [.inp 194] <|
.loop 0 195 (ap [zi 0] (ips 118 72)) <|
 ck (.bin .lss) [.inp 195, ln (.inp 194)] <|
.cond (q6_35)
 (ck (.eidx 23) [.inp 194, .inp 195] <|
 ck (.rowget 23 0 23 true) [.inp 194, .inp 195] <|
 ck (.isAgg 23) [q6_36] <|
 ck (.bin .neq) [q6_37, .int .u8 1] <|
.cond (q6_38)
 (ck (.bin .add) [.inp 195, zi 1] <|
.again 0 (ap [q6_39] (ips 196 72)))
 (.seg [.call 268 [] 48 [q6_40] false,
.call 269 [] 47 [.agg (ips 0 11), .agg (ips 11 29), .inp 268] false,
.same 269 [] (q6_41)] <|
 ck (.eload 1 false) [.ref [.inp 268] 0] <|
 ck .len [e1 (.ref [.inp 268] 0)] <|
.loop 1 270 (ap [zi 0] (ips 196 72)) <|
 ck (.bin .lss) [.inp 270, q6_42] <|
.cond (q6_43)
 (ck (.eidx 3) [e1 (.ref [.inp 268] 0), .inp 270] <|
 ck (.eload 3 true) [q6_44] <|
 ck (.isAgg 3) [q6_45] <|
.seg [.chk [] (.eload 11 true) [.ref (ips 0 11) 0],
.chk [] (.eload 29 true) [.ref (ips 11 29) 0],
.call 343 [] 87 [q6_46, q6_47, q6_48] false,
.chk [] (.bin .neq) [.inp 343, q6_49]] <|
.cond (q6_50)
 (ck (.isAgg 3) [q6_51] <|
.seg [.chk [] (.inr 24) [q6_48],
.chk [] (.aidx 24 3 2 3 true) [q6_52, q6_48],
.call 344 [] 49 [q6_53, q6_49] false,
.chk [] (.inr 24) [q6_48],
.chk [] (.inr 24) [q6_48],
.chk [] (.isAgg 3) [.inp 344]] <|
.seg (ap [.bind 345 (q6_53)] (csB 2 (q6_48) (q6_54) 346 2 (ips 271 72))) <|
 ck (.un .not) [bT] <|
.seg [.bind 418 (q6_46),
.bind 419 (q6_47)] <|
 ck (.bin .add) [.inp 270, zi 1] <|
.again 1 (ap [q6_55] (ips 346 72)))
 (.seg [.bind 344 (q6_46),
.bind 345 (q6_47)] <|
 ck (.bin .add) [.inp 270, zi 1] <|
.again 1 (ap [q6_55] (ips 271 72))))
 (ck (.bin .add) [.inp 195, zi 1] <|
.again 0 (ap [q6_39] (ips 271 72)))))
 (ck (.isAgg 74) [.agg (ap [pt 0 (.inp 114), .row 153] (ips 196 72))] <|
.ret (q6_56))))
 (ck (.isAgg 11) [.agg (ips 0 11)] <|
 ck (.isAgg 29) [.agg (ips 11 29)] <|
 ck (.isAgg 74) [q6_0] <|
.seg [.call 191 [] 41 [.agg (ips 40 74)] false] <|
 ck (.part 1 1 false) [.inp 191] <|
 ck .len [pt 1 (.inp 191)] <|
.loop 0 192 [.nils, zi 0, .nils] <|
 ck (.bin .lss) [.inp 193, ln (pt 1 (.inp 191))] <|
.cond (q6_11)
 (ck (.eidx 23) [pt 1 (.inp 191), .inp 193] <|
 ck (.eload 23 true) [q6_12] <|
 ck (.isAgg 23) [q6_13] <|
 ck (.bin .eql) [q6_14, .int .u8 0] <|
.cond (q6_15)
 (.seg [.call 195 [] 98 [.agg (ips 0 11), .agg (ips 11 29), q6_0, q6_16] false] <|
.cond (.inp 195)
 (.seg [.chk [] .isOne [q6_17],
.chk [] .isOne [q6_17]] <|
.seg [.chk [] (.szs 1) [q6_18],
.chk [] .app [.inp 192, q6_18]] <|
 ck (.un .not) [bT] <|
 ck (.bin .add) [.inp 193, zi 1] <|
.again 0 [q6_19, q6_20, .inp 194])
 (.seg [.call 196 [] 95 [.agg (ips 0 11), .agg (ips 11 29), q6_16] false,
.chk [] (.isAgg 23) [.inp 196]] <|
.seg [.call 197 [] 96 [q6_21] false] <|
 ck .isOne [.inp 197] <|
 ck (.isAgg 2) [.agg [.inp 197, bF]] <|
 ck (.isAgg 2) [.agg [.inp 197, bF]] <|
 ck (.isAgg 2) [.agg [.inp 197, bF]] <|
 ck (.un .not) [.inp 197] <|
.cond (.inp 197)
 (ck (.bin .add) [.inp 193, zi 1] <|
.again 0 [.inp 192, q6_20, .inp 194])
 (ck (.isAgg 23) [q6_21] <|
.seg [.chk [] (.szs 23) [q6_22],
.chk [] .app [.inp 194, q6_22]] <|
.seg [.bind 198 (q6_22),
.bind 199 (q6_23)] <|
 ck (.bin .add) [.inp 193, zi 1] <|
.again 0 [.inp 192, q6_20, .inp 199])))
 (.cond (q6_24)
 (.seg [.call 195 [] 95 [.agg (ips 0 11), .agg (ips 11 29), q6_16] false,
.chk [] (.isAgg 23) [.inp 195]] <|
.seg [.call 196 [] 96 [q6_25] false] <|
 ck .isOne [.inp 196] <|
 ck (.isAgg 2) [.agg [.inp 196, bF]] <|
 ck (.isAgg 2) [.agg [.inp 196, bF]] <|
 ck (.un .not) [.inp 196] <|
.cond (.inp 196)
 (ck (.bin .add) [.inp 193, zi 1] <|
.again 0 [.inp 192, q6_20, .inp 194])
 (ck (.isAgg 23) [q6_25] <|
.seg [.chk [] (.szs 23) [q6_26],
.chk [] .app [.inp 194, q6_26]] <|
.seg [.bind 197 (q6_26),
.bind 198 (q6_27)] <|
 ck (.bin .add) [.inp 193, zi 1] <|
.again 0 [.inp 192, q6_20, .inp 198]))
 (.cond (q6_28)
 (.seg [.call 195 [] 95 [.agg (ips 0 11), .agg (ips 11 29), q6_16] false,
.chk [] (.isAgg 23) [.inp 195]] <|
.seg [.call 196 [] 96 [q6_25] false] <|
 ck .isOne [.inp 196] <|
 ck (.isAgg 2) [.agg [.inp 196, bF]] <|
 ck (.isAgg 2) [.agg [.inp 196, bF]] <|
 ck (.un .not) [.inp 196] <|
.cond (.inp 196)
 (ck (.bin .add) [.inp 193, zi 1] <|
.again 0 [.inp 192, q6_20, .inp 194])
 (ck (.isAgg 23) [q6_25] <|
.seg [.chk [] (.szs 23) [q6_26],
.chk [] .app [.inp 194, q6_26]] <|
.seg [.bind 197 (q6_26),
.bind 198 (q6_27)] <|
 ck (.bin .add) [.inp 193, zi 1] <|
.again 0 [.inp 192, q6_20, .inp 198]))
 (.cond (q6_29)
 (.seg [.call 195 [] 100 [.agg (ips 0 11), .agg (ips 11 29), q6_16] false,
.chk [] (.tproj 0) [.inp 195],
.chk [] (.tproj 1) [.inp 195],
.chk [] (.isAgg 23) [tp 0 (.inp 195)]] <|
 ck (.isAgg 23) [q6_30] <|
.seg [.call 196 [(tp 1 (.inp 195), false)] 96 [q6_30] false] <|
 ck .pick [tp 1 (.inp 195), bT, .inp 196] <|
 ck .isOne [q6_31] <|
 ck (.isAgg 2) [q6_32] <|
 ck (.isAgg 2) [q6_32] <|
 ck (.un .not) [q6_31] <|
.cond (q6_31)
 (ck (.bin .add) [.inp 193, zi 1] <|
.again 0 [.inp 192, q6_20, .inp 194])
 (ck (.isAgg 23) [q6_30] <|
.seg [.chk [] (.szs 23) [q6_33],
.chk [] .app [.inp 194, q6_33]] <|
.seg [.bind 197 (q6_33),
.bind 198 (q6_34)] <|
 ck (.bin .add) [.inp 193, zi 1] <|
.again 0 [.inp 192, q6_20, .inp 198]))
 (.dead 6 [zi 1, .nilf, .ptr 156 0])))))
 (ck .len [.inp 194] <|
.loop 0 195 (ap [zi 0] (pts (.inp 114) 2 72)) <|
 ck (.bin .lss) [.inp 195, ln (.inp 194)] <|
.cond (q6_35)
 (ck (.eidx 23) [.inp 194, .inp 195] <|
 ck (.rowget 23 0 23 true) [.inp 194, .inp 195] <|
 ck (.isAgg 23) [q6_36] <|
 ck (.bin .neq) [q6_37, .int .u8 1] <|
.cond (q6_38)
 (ck (.bin .add) [.inp 195, zi 1] <|
.again 0 (ap [q6_39] (ips 196 72)))
 (.seg [.call 268 [] 48 [q6_40] false,
.call 269 [] 47 [.agg (ips 0 11), .agg (ips 11 29), .inp 268] false,
.same 269 [] (q6_41)] <|
 ck (.eload 1 false) [.ref [.inp 268] 0] <|
 ck .len [e1 (.ref [.inp 268] 0)] <|
.loop 1 270 (ap [zi 0] (ips 196 72)) <|
 ck (.bin .lss) [.inp 270, q6_42] <|
.cond (q6_43)
 (ck (.eidx 3) [e1 (.ref [.inp 268] 0), .inp 270] <|
 ck (.eload 3 true) [q6_44] <|
 ck (.isAgg 3) [q6_45] <|
.seg [.chk [] (.eload 11 true) [.ref (ips 0 11) 0],
.chk [] (.eload 29 true) [.ref (ips 11 29) 0],
.call 343 [] 87 [q6_46, q6_47, q6_48] false,
.chk [] (.bin .neq) [.inp 343, q6_49]] <|
.cond (q6_50)
 (ck (.isAgg 3) [q6_51] <|
.seg [.chk [] (.inr 24) [q6_48],
.chk [] (.aidx 24 3 2 3 true) [q6_52, q6_48],
.call 344 [] 49 [q6_53, q6_49] false,
.chk [] (.inr 24) [q6_48],
.chk [] (.inr 24) [q6_48],
.chk [] (.isAgg 3) [.inp 344]] <|
.seg (ap [.bind 345 (q6_53)] (csB 2 (q6_48) (q6_54) 346 2 (ips 271 72))) <|
 ck (.un .not) [bT] <|
.seg [.bind 418 (q6_46),
.bind 419 (q6_47)] <|
 ck (.bin .add) [.inp 270, zi 1] <|
.again 1 (ap [q6_55] (ips 346 72)))
 (.seg [.bind 344 (q6_46),
.bind 345 (q6_47)] <|
 ck (.bin .add) [.inp 270, zi 1] <|
.again 1 (ap [q6_55] (ips 271 72))))
 (ck (.bin .add) [.inp 195, zi 1] <|
.again 0 (ap [q6_39] (ips 271 72)))))
 (ck (.isAgg 74) [.agg (ap [pt 0 (.inp 114), .row 147] (ips 196 72))] <|
.ret (q6_56))))))
theorem run_kernel_Tick : runF E 10 [.agg (ips 0 11), .agg (ips 11 29), .agg (ips 40 74)] 114 = rt_kernel_Tick := by kernel_rfl
end
end Go.Lb.LK
namespace Go.Lb.LK
open Go Go.Lb Go.Proofs
noncomputable section
@[simp] def q7_0 : SE := bi .lss (.inp 114) (zi 0)
@[simp] def q7_1 : SE := .app (.mm false) [ln (.inp 0), zi 24]
@[simp] def q7_2 : SE := bi .geq (.inp 114) q7_1
@[simp] def q7_3 : SE := pk q7_0 bT q7_2
@[simp] def q7_4 : SE := bi .andNot (.inp 115) (zi 1)
@[simp] def q7_5 : SE := bi .neq q7_4 (zi 0)
@[simp] def q7_6 : SE := .agg (pts (.inp 116) 0 74)
@[simp] def q7_7 : SE := .tup [q7_6, bF]
@[simp] def q7_8 : SE := ei 11 (.inp 0) (.inp 114)
@[simp] def q7_9 : SE := .app (.eoff 0) [q7_8]
@[simp] def q7_10 : SE := e1 q7_9
@[simp] def q7_11 : SE := bi .neq q7_10 (.int .u8 2)
@[simp] def q7_12 : SE := pk (tp 1 (.inp 119)) bT q7_11
@[simp] def q7_13 : SE := pk q7_12 bT (nt (.inp 120))
@[simp] def q7_14 : SE := .app (.aidx 24 3 2 3 true) [q7_6, .inp 114]
@[simp] def q7_15 : SE := .agg (ap [pt 0 (.inp 116), pt 1 (.inp 116)] (ips 127 72))
@[simp] def q7_16 : SE := ln (.app .rep [zi 24, zi 0])
@[simp] def q7_17 : SE := bi .add (.inp 114) (zi 1)
@[simp] def q7_18 : SE := .app (.slice false true) [.inp 0, q7_1]
@[simp] def q7_19 : SE := ln q7_18
@[simp] def q7_20 : SE := ei 11 q7_18 (.inp 116)
@[simp] def q7_21 : SE := el 11 q7_20
@[simp] def q7_22 : SE := bi .eql (.inp 118) (.int .u8 2)
@[simp] def q7_23 : SE := .app (.aidx 24 3 2 3 true) [.agg (ips 40 74), .inp 116]
@[simp] def q7_24 : SE := bi .add (.inp 116) (zi 1)
@[simp] def q7_25 : SE := ei 11 q7_18 (.inp 114)
@[simp] def q7_26 : SE := el 11 q7_25
@[simp] def q7_27 : SE := bi .eql (.inp 115) (.int .u8 2)
@[simp] def q7_28 : SE := .app (.aidx 24 3 2 3 true) [.agg (ips 40 74), .inp 114]
@[simp] def q7_29 : SE := bi .geq (.inp 129) (zi 0)
@[simp] def q7_30 : SE := pk (.inp 127) bT (.inp 128)
def rt_kernel_Key : RT :=
 ck (.isAgg 11) [.agg (ips 0 11)] <|
 ck (.isAgg 29) [.agg (ips 11 29)] <|
 ck (.isAgg 74) [.agg (ips 40 74)] <|
.seg [.call 116 [] 41 [.agg (ips 40 74)] false] <|
 ck (.isAgg 74) [.inp 116] <|
 ck (.bin .lss) [.inp 114, zi 0] <|
 ckg (q7_0) false .len [.inp 0] <|
 ckg (q7_0) false (.mm false) [ln (.inp 0), zi 24] <|
 ckg (q7_0) false (.bin .geq) [.inp 114, q7_1] <|
 ck .pick [q7_0, bT, q7_2] <|
 ckg (q7_3) false (.bin .andNot) [.inp 115, zi 1] <|
 ckg (q7_3) false (.bin .neq) [q7_4, zi 0] <|
 ck .pick [q7_3, bT, q7_5] <|
.seg [.bind 117 (q7_3),
.bind 118 (pk q7_3 bT q7_5)] <|
.cond (.inp 118)
 (ck (.isAgg 74) [q7_6] <|
.ret (q7_7))
 (.seg [.call 119 [] 58 [.agg (ips 40 74), .inp 114] false] <|
 ck (.tproj 0) [.inp 119] <|
 ck (.tproj 1) [.inp 119] <|
 ckg (tp 1 (.inp 119)) false (.eidx 11) [.inp 0, .inp 114] <|
 ckg (tp 1 (.inp 119)) false (.eoff 0) [q7_8] <|
 ckg (tp 1 (.inp 119)) false (.eload 1 false) [q7_9] <|
 ckg (tp 1 (.inp 119)) false (.bin .neq) [q7_10, .int .u8 2] <|
 ck .pick [tp 1 (.inp 119), bT, q7_11] <|
.seg [.call 120 [(q7_12, false)] 42 [.agg (ips 40 74)] false] <|
 ckg (q7_12) false (.un .not) [.inp 120] <|
 ck .pick [q7_12, bT, nt (.inp 120)] <|
.seg [.call 121 [(q7_13, false)] 59 [.agg (ips 0 11), .agg (ips 11 29), .agg (ips 40 74), .inp 114] false] <|
 ckg (q7_13) false (.un .not) [.inp 121] <|
 ck .pick [q7_13, bT, nt (.inp 121)] <|
.seg [.bind 122 (q7_12),
.bind 123 (q7_13),
.bind 124 (pk q7_13 bT (nt (.inp 121)))] <|
.cond (.inp 124)
 (ck (.isAgg 74) [q7_6] <|
.ret (q7_7))
 (ck (.inr 24) [.inp 114] <|
 ck (.aidx 24 3 2 3 true) [q7_6, .inp 114] <|
.seg [.call 125 [] 49 [q7_14, .inp 115] false] <|
 ck (.inr 24) [.inp 114] <|
.seg [.chk [] (.inr 24) [.inp 114],
.chk [] (.isAgg 3) [.inp 125]] <|
.seg (ap [.bind 126 (q7_14)] (csB 2 (.inp 114) (.agg [pt 0 (.inp 125), pt 1 (.inp 125), pt 2 (.inp 125)]) 127 2 (pts (.inp 116) 2 72))) <|
 ck (.isAgg 74) [q7_15] <|
.ret (.tup [q7_15, bT])))
theorem run_kernel_Key : runF E 14 [.agg (ips 0 11), .agg (ips 11 29), .agg (ips 40 74), .inp 114, .inp 115] 116 = rt_kernel_Key := by kernel_rfl
def rt_kernel_Drives : RT :=
 ck (.isAgg 11) [.agg (ips 0 11)] <|
 ck (.isAgg 29) [.agg (ips 11 29)] <|
 ck (.isAgg 74) [.agg (ips 40 74)] <|
 ck .rep [zi 24, zi 0] <|
 ck .len [.app .rep [zi 24, zi 0]] <|
.loop 0 114 [zi 0, .app .rep [zi 24, zi 0]] <|
 ck (.bin .lss) [.inp 114, q7_16] <|
.cond (bi .lss (.inp 114) q7_16)
 (ck (.eidx 1) [.inp 115, .inp 114] <|
 ck (.rowset 1 0 1) [.inp 115, .inp 114, .agg [zi (-1)]] <|
 ck (.bin .add) [.inp 114, zi 1] <|
.again 0 [q7_17, .app (.rowset 1 0 1) [.inp 115, .inp 114, .agg [zi (-1)]]])
 (ck (.isAgg 11) [.agg (ips 0 11)] <|
 ck (.isAgg 29) [.agg (ips 11 29)] <|
 ck (.isAgg 74) [.agg (ips 40 74)] <|
 ck .len [.inp 0] <|
 ck (.mm false) [ln (.inp 0), zi 24] <|
.seg [.chk [] (.szs 11) [.inp 0],
.chk [] (.slice false true) [.inp 0, q7_1]] <|
 ck .len [q7_18] <|
.loop 0 116 [zi 0, .inp 115] <|
 ck (.bin .lss) [.inp 116, q7_19] <|
.cond (bi .lss (.inp 116) q7_19)
 (ck (.eidx 11) [q7_18, .inp 116] <|
 ck (.eload 11 true) [q7_20] <|
 ck (.isAgg 11) [q7_21] <|
.seg [.bind 118 (pt 0 q7_21),
.bind 119 (pt 1 q7_21),
.bind 120 (pt 2 q7_21),
.bind 121 (pt 3 q7_21),
.bind 122 (pt 4 q7_21),
.bind 123 (pt 5 q7_21),
.bind 124 (pt 6 q7_21),
.bind 125 (pt 7 q7_21),
.bind 126 (pt 8 q7_21),
.bind 127 (pt 9 q7_21),
.bind 128 (pt 10 q7_21)] <|
.seg [.chk [] (.bin .eql) [.inp 118, .int .u8 2],
.call 129 [(q7_22, true)] 87 [.agg (ips 0 11), .agg (ips 11 29), .inp 116] false,
.call 130 [(q7_22, true)] 88 [.agg (ips 0 11), .agg (ips 11 29), .inp 116] false,
.call 131 [(q7_22, true)] 89 [.agg (ips 40 74), .inp 116] false,
.chk [(q7_22, true)] .isOne [.inp 129],
.chk [(q7_22, true)] .isOne [.inp 130],
.chk [(q7_22, true)] .isOne [.inp 131]] <|
.cond (q7_22)
 (ck (.isAgg 3) [.agg [.inp 129, .inp 130, .inp 131]] <|
.seg [.chk [] (.inr 24) [.inp 116],
.chk [] (.aidx 24 3 2 3 true) [.agg (ips 40 74), .inp 116],
.call 132 [] 61 [q7_23, .inp 129, .inp 130, .inp 131] false,
.chk [] (.eidx 1) [.inp 117, .inp 116],
.chk [] (.rowset 1 0 1) [.inp 117, .inp 116, .agg [.inp 132]],
.chk [] .isOne [.inp 132]] <|
.seg [.bind 133 (q7_23)] <|
 ck (.un .not) [bT] <|
 ck (.bin .add) [.inp 116, zi 1] <|
.again 0 [q7_24, .app (.rowset 1 0 1) [.inp 117, .inp 116, .agg [.inp 132]]])
 (ck (.bin .add) [.inp 116, zi 1] <|
.again 0 [q7_24, .inp 117]))
 (.seg [.call 118 [] 62 [.inp 117] true] <|
 ck (.tproj 0) [.inp 118] <|
 ck (.tproj 1) [.inp 118] <|
.ret (.tup [tp 0 (.inp 118), tp 1 (.inp 118)])))
theorem run_kernel_Drives : runF E 16 [.agg (ips 0 11), .agg (ips 11 29), .agg (ips 40 74)] 114 = rt_kernel_Drives := by kernel_rfl
def rt_kernel_Safe : RT :=
 ck (.isAgg 11) [.agg (ips 0 11)] <|
 ck (.isAgg 29) [.agg (ips 11 29)] <|
 ck (.isAgg 74) [.agg (ips 40 74)] <|
 ck (.isAgg 11) [.agg (ips 0 11)] <|
 ck (.isAgg 29) [.agg (ips 11 29)] <|
 ck (.isAgg 74) [.agg (ips 40 74)] <|
 ck .len [.inp 0] <|
 ck (.mm false) [ln (.inp 0), zi 24] <|
.seg [.chk [] (.szs 11) [.inp 0],
.chk [] (.slice false true) [.inp 0, q7_1]] <|
 ck .len [q7_18] <|
.loop 0 114 [zi 0] <|
 ck (.bin .lss) [.inp 114, q7_19] <|
.cond (bi .lss (.inp 114) q7_19)
 (ck (.eidx 11) [q7_18, .inp 114] <|
 ck (.eload 11 true) [q7_25] <|
 ck (.isAgg 11) [q7_26] <|
.seg [.bind 115 (pt 0 q7_26),
.bind 116 (pt 1 q7_26),
.bind 117 (pt 2 q7_26),
.bind 118 (pt 3 q7_26),
.bind 119 (pt 4 q7_26),
.bind 120 (pt 5 q7_26),
.bind 121 (pt 6 q7_26),
.bind 122 (pt 7 q7_26),
.bind 123 (pt 8 q7_26),
.bind 124 (pt 9 q7_26),
.bind 125 (pt 10 q7_26)] <|
.seg [.chk [] (.bin .eql) [.inp 115, .int .u8 2],
.call 126 [(q7_27, true)] 87 [.agg (ips 0 11), .agg (ips 11 29), .inp 114] false,
.call 127 [(q7_27, true)] 88 [.agg (ips 0 11), .agg (ips 11 29), .inp 114] false,
.call 128 [(q7_27, true)] 89 [.agg (ips 40 74), .inp 114] false,
.chk [(q7_27, true)] .isOne [.inp 126],
.chk [(q7_27, true)] .isOne [.inp 127],
.chk [(q7_27, true)] .isOne [.inp 128]] <|
.cond (q7_27)
 (ck (.isAgg 3) [.agg [.inp 126, .inp 127, .inp 128]] <|
.seg [.chk [] (.inr 24) [.inp 114],
.chk [] (.aidx 24 3 2 3 true) [.agg (ips 40 74), .inp 114],
.call 129 [] 61 [q7_28, .inp 126, .inp 127, .inp 128] false,
.chk [] (.bin .geq) [.inp 129, zi 0],
.chk [(q7_29, true)] .pick [.inp 127, bT, .inp 128],
.chk [] .pick [q7_29, q7_30, bF]] <|
.seg [.bind 130 (q7_28)] <|
.cond (pk q7_29 q7_30 bF)
 (ck (.un .not) [bF] <|
.ret (bF))
 (ck (.un .not) [bT] <|
 ck (.bin .add) [.inp 114, zi 1] <|
.again 0 [q7_17]))
 (ck (.bin .add) [.inp 114, zi 1] <|
.again 0 [q7_17]))
 (.seg [.call 115 [] 42 [.agg (ips 40 74)] false] <|
 ck .isOne [.inp 115] <|
.ret (.inp 115))
theorem run_kernel_Safe : runF E 18 [.agg (ips 0 11), .agg (ips 11 29), .agg (ips 40 74)] 114 = rt_kernel_Safe := by kernel_rfl
end
end Go.Lb.LK
namespace Go.Lb.LK
open Go Go.Lb Go.Proofs
noncomputable section
@[simp] def q8_0 : SE := .agg [.inp 0, .inp 1, .inp 2]
@[simp] def q8_1 : SE := pk (bi .neq (.inp 3) (zi 0)) (bi .neq (.inp 3) (zi 1)) bF
@[simp] def q8_2 : SE := bi .eql (.inp 0) (.inp 3)
def rt_lockbarref16_Call : RT :=
 ck (.isAgg 3) [q8_0] <|
.seg [.call 4 [] 30 [q8_0] false] <|
 ck (.un .not) [.inp 4] <|
 ckg (nt (.inp 4)) false (.bin .neq) [.inp 3, zi 0] <|
.seg [.chk [(bi .neq (.inp 3) (zi 0), true), (nt (.inp 4), false)] (.bin .neq) [.inp 3, zi 1]] <|
 ckg (nt (.inp 4)) false .pick [bi .neq (.inp 3) (zi 0), bi .neq (.inp 3) (zi 1), bF] <|
 ck .pick [nt (.inp 4), bT, q8_1] <|
.seg [.bind 5 (pk (nt (.inp 4)) bT q8_1)] <|
.cond (.inp 5)
 (.seg [.call 6 [] 71 [] false] <|
 ck (.isAgg 3) [.inp 6] <|
.ret (.agg [pt 0 (.inp 6), pt 1 (.inp 6), pt 2 (.inp 6)]))
 (ck (.bin .eql) [.inp 0, .inp 3] <|
 ckg (q8_2) true (.un .not) [.inp 2] <|
 ck .pick [q8_2, nt (.inp 2), bF] <|
.cond (pk q8_2 (nt (.inp 2)) bF)
 (ck (.isAgg 3) [q8_0] <|
.ret (q8_0))
 (ck .isOne [.inp 3] <|
 ck (.isAgg 3) [.agg [.inp 3, zi 0, bF]] <|
.ret (.agg [.inp 3, zi 0, bF])))
theorem run_lockbarref16_Call : runF E 33 [.agg [.inp 0, .inp 1, .inp 2], .inp 3] 4 = rt_lockbarref16_Call := by kernel_rfl
end
end Go.Lb.LK
namespace Go.Lb.LK
open Go Go.Lb Go.Proofs
noncomputable section
@[simp] def q9_0 : SE := ei 23 (.inp 1) (.inp 75)
@[simp] def q9_1 : SE := .app (.eoff 0) [q9_0]
@[simp] def q9_2 : SE := e1 q9_1
@[simp] def q9_3 : SE := .agg [.inp 114, .inp 115, .inp 116]
@[simp] def q9_4 : SE := bi .geq (.inp 40) (zi 1073741824)
@[simp] def q9_5 : SE := ei 23 (.inp 41) (.inp 117)
@[simp] def q9_6 : SE := .app .lst [.agg (pts (.inp 119) 0 23)]
@[simp] def q9_7 : SE := .agg (ap [.inp 40, .row 32] (ips 42 72))
@[simp] def q9_8 : SE := .agg (ap [.inp 40, .inp 118] (ips 42 72))
@[simp] def q9_9 : SE := .agg [.inp 40, pt 0 (.inp 120), pt 1 (.inp 120), pt 2 (.inp 120), .inp 121, .inp 122, .int .u8 1, zi 0, bF, bF, bF, bF, bF, bF, bF, bF, bF, bF, bF, bF, bF, zi 0, bF]
@[simp] def q9_10 : SE := .app .lst [q9_9]
@[simp] def q9_11 : SE := bi .add (.inp 40) (zi 1)
@[simp] def q9_12 : SE := ei 3 (.inp 122) (.inp 125)
@[simp] def q9_13 : SE := el 3 q9_12
@[simp] def q9_14 : SE := pt 0 q9_13
@[simp] def q9_15 : SE := pt 1 q9_13
@[simp] def q9_16 : SE := .agg [pt 0 (.inp 199), pt 1 (.inp 199), pt 2 (.inp 199)]
@[simp] def q9_17 : SE := bi .add (.inp 125) (zi 1)
@[simp] def q9_18 : SE := .agg (ap [q9_11, .undef] (ips 126 72))
@[simp] def q9_19 : SE := .app (.aidx 24 3 2 3 true) [q9_18, q9_14]
def rt_lockbarref19_New : RT :=
.loop 0 0 [zi 0, zi 0, zi 0, bF, zi 0, zi 0, bF, zi 0, zi 0, bF, zi 0, zi 0, bF, zi 0, zi 0, bF, zi 0, zi 0, bF, zi 0, zi 0, bF, zi 0, zi 0, bF, zi 0, zi 0, bF, zi 0, zi 0, bF, zi 0, zi 0, bF, zi 0, zi 0, bF, zi 0, zi 0, bF, zi 0, zi 0, bF, zi 0, zi 0, bF, zi 0, zi 0, bF, zi 0, zi 0, bF, zi 0, zi 0, bF, zi 0, zi 0, bF, zi 0, zi 0, bF, zi 0, zi 0, bF, zi 0, zi 0, bF, zi 0, zi 0, bF, zi 0, zi 0, bF] <|
 ck (.bin .lss) [.inp 0, zi 24] <|
.cond (bi .lss (.inp 0) (zi 24))
 (.seg [.call 73 [] 71 [] false] <|
 ck (.inr 24) [.inp 0] <|
.seg [.chk [] (.inr 24) [.inp 0],
.chk [] (.isAgg 3) [.inp 73]] <|
.seg (csB 2 (.inp 0) (.agg [pt 0 (.inp 73), pt 1 (.inp 73), pt 2 (.inp 73)]) 74 2 (ips 1 72)) <|
 ck (.bin .add) [.inp 0, zi 1] <|
.again 0 (ap [bi .add (.inp 0) (zi 1)] (ips 74 72)))
 (ck (.isAgg 74) [.agg (ap [zi 1, .enil] (ips 1 72))] <|
.ret (.agg (ap [zi 1, .nils] (ips 1 72))))
theorem run_lockbarref19_New : runF E 40 [] 0 = rt_lockbarref19_New := by kernel_rfl
def rt_lockbarref19_Find : RT :=
 ck (.isAgg 74) [.agg (ips 0 74)] <|
.loop 0 75 [zi 0] <|
 ck .len [.inp 1] <|
 ck (.bin .lss) [.inp 75, ln (.inp 1)] <|
.cond (bi .lss (.inp 75) (ln (.inp 1)))
 (ck (.eidx 23) [.inp 1, .inp 75] <|
 ck (.eoff 0) [q9_0] <|
 ck (.eload 1 false) [q9_1] <|
 ck (.bin .eql) [q9_2, .inp 74] <|
.cond (bi .eql q9_2 (.inp 74))
 (ck (.eidx 23) [.inp 1, .inp 75] <|
 ck (.eload 23 true) [q9_0] <|
.seg [.call 76 [] 70 [el 23 q9_0] false] <|
 ck (.isAgg 23) [.inp 76] <|
.ret (.tup [.agg (pts (.inp 76) 0 23), bT]))
 (ck (.bin .add) [.inp 75, zi 1] <|
.again 0 [bi .add (.inp 75) (zi 1)]))
 (.ret (.tup [.agg [zi 0, zi 0, zi 0, .nils, .nils, .nils, .int .u8 0, zi 0, bF, bF, bF, bF, bF, bF, bF, bF, bF, bF, bF, bF, bF, zi 0, bF], bF]))
theorem run_lockbarref19_Find : runF E 25 [.agg (ips 0 74), .inp 74] 75 = rt_lockbarref19_Find := by kernel_rfl
def rt_lockbarref19_Look : RT :=
 ck (.isAgg 11) [.agg (ips 0 11)] <|
 ck (.isAgg 29) [.agg (ips 11 29)] <|
 ck (.isAgg 74) [.agg (ips 40 74)] <|
 ck (.isAgg 3) [q9_3] <|
.seg [.call 117 [] 118 [.agg (ips 0 11), q9_3, .nils] false] <|
 ck (.bin .neq) [.inp 117, zi 0] <|
.cond (bi .neq (.inp 117) (zi 0))
 (.ret (.inp 117))
 (.seg [.call 118 [] 119 [.agg (ips 0 11), q9_3] false] <|
 ck (.un .not) [.inp 118] <|
.cond (.inp 118)
 (.seg [.call 119 [] 20 [.agg (ips 40 74)] false] <|
 ck (.un .not) [.inp 119] <|
 ckg (nt (.inp 119)) false (.bin .geq) [.inp 40, zi 1073741824] <|
 ck .pick [nt (.inp 119), bT, q9_4] <|
.cond (pk (nt (.inp 119)) bT q9_4)
 (.ret (zi 2))
 (.seg [.call 120 [] 120 [.agg (ips 0 11), .agg (ips 11 29), .agg (ips 40 74), q9_3] false] <|
.ret (.inp 120)))
 (.ret (zi 110)))
theorem run_lockbarref19_Look : runF E 73 [.agg (ips 0 11), .agg (ips 11 29), .agg (ips 40 74), .agg [.inp 114, .inp 115, .inp 116]] 117 = rt_lockbarref19_Look := by kernel_rfl
def rt_lockbarref19_Commit : RT :=
 ck (.isAgg 11) [.agg (ips 0 11)] <|
 ck (.isAgg 29) [.agg (ips 11 29)] <|
 ck (.isAgg 74) [.agg (ips 40 74)] <|
 ck (.isAgg 3) [q9_3] <|
 ck (.isAgg 74) [.agg (ips 40 74)] <|
.loop 0 117 [zi 0, .nils] <|
 ck .len [.inp 41] <|
 ck (.bin .lss) [.inp 117, ln (.inp 41)] <|
.cond (bi .lss (.inp 117) (ln (.inp 41)))
 (.seg [.chk [] (.eidx 23) [.inp 41, .inp 117],
.chk [] (.eload 23 true) [q9_5],
.call 119 [] 70 [el 23 q9_5] false,
.chk [] (.isAgg 23) [.inp 119],
.chk [] (.szs 23) [q9_6],
.chk [] .app [.inp 118, q9_6]] <|
.seg [.bind 120 (q9_6),
.bind 121 (.app .app [.inp 118, q9_6])] <|
 ck (.bin .add) [.inp 117, zi 1] <|
.again 0 [bi .add (.inp 117) (zi 1), .inp 121])
 (ck (.isAgg 74) [q9_7] <|
 ck (.isAgg 74) [q9_7] <|
.seg [.call 119 [] 73 [.agg (ips 0 11), .agg (ips 11 29), q9_8, q9_3] true] <|
 ck (.bin .neq) [.inp 119, zi 0] <|
.cond (bi .neq (.inp 119) (zi 0))
 (ck (.isAgg 74) [q9_7] <|
.ret (.tup [q9_8, zi 0, .inp 119]))
 (.seg [.call 120 [] 74 [q9_3] false,
.call 121 [] 75 [.agg (ips 0 11), .inp 115] false,
.call 122 [] 76 [.agg (ips 0 11), q9_3] false,
.chk [] .isOne [.inp 40],
.chk [] (.isAgg 3) [.inp 120],
.chk [] .isOne [.inp 121],
.chk [] .isOne [.inp 122],
.chk [] (.isAgg 23) [q9_9]] <|
 ck (.isAgg 23) [q9_9] <|
.seg [.chk [] (.szs 23) [q9_10],
.chk [] .app [.inp 118, q9_10]] <|
.seg [.bind 123 (q9_10),
.bind 124 (.app .app [.inp 118, q9_10])] <|
 ck (.bin .add) [.inp 40, zi 1] <|
 ck .isOne [q9_11] <|
.loop 0 125 (ap [zi 0] (ips 42 72)) <|
 ck .len [.inp 122] <|
 ck (.bin .lss) [.inp 125, ln (.inp 122)] <|
.cond (bi .lss (.inp 125) (ln (.inp 122)))
 (ck (.eidx 3) [.inp 122, .inp 125] <|
 ck (.eload 3 true) [q9_12] <|
 ck (.isAgg 3) [q9_13] <|
.seg [.call 198 [] 29 [.agg (ips 0 11), .agg (ips 11 29), q9_14] false,
.chk [] (.bin .eql) [.inp 198, q9_15]] <|
.cond (bi .eql (.inp 198) q9_15)
 (.seg [.call 199 [] 71 [] false,
.chk [] (.inr 24) [q9_14],
.chk [] (.inr 24) [q9_14],
.chk [] (.isAgg 3) [.inp 199]] <|
.seg (csB 2 (q9_14) (q9_16) 200 2 (ips 126 72)) <|
 ck (.bin .add) [.inp 125, zi 1] <|
.again 0 (ap [q9_17] (ips 200 72)))
 (.seg [.chk [] (.inr 24) [q9_14],
.chk [] (.aidx 24 3 2 3 true) [q9_18, q9_14],
.call 199 [] 33 [q9_19, q9_15] false,
.chk [] (.inr 24) [q9_14],
.chk [] (.inr 24) [q9_14],
.chk [] (.isAgg 3) [.inp 199]] <|
.seg (ap [.bind 200 (q9_19)] (csB 2 (q9_14) (q9_16) 201 2 (ips 126 72))) <|
 ck (.bin .add) [.inp 125, zi 1] <|
.again 0 (ap [q9_17] (ips 201 72))))
 (ck (.isAgg 74) [.agg (ap [q9_11, .row 101] (ips 126 72))] <|
.ret (.tup [.agg (ap [q9_11, .inp 124] (ips 126 72)), .inp 40, zi 0]))))
theorem run_lockbarref19_Commit : runF E 39 [.agg (ips 0 11), .agg (ips 11 29), .agg (ips 40 74), .agg [.inp 114, .inp 115, .inp 116]] 117 = rt_lockbarref19_Commit := by kernel_rfl
end
end Go.Lb.LK
namespace Go.Lb.LK
open Go Go.Lb Go.Proofs
noncomputable section
@[simp] def q10_44 : SE := bi .lss (.inp 85) (ln (.inp 12))
@[simp] def q10_45 : SE := bi .leq (.inp 85) (zi 10)
@[simp] def q10_46 : SE := ei 23 (.inp 12) (.inp 85)
@[simp] def q10_47 : SE := bi .gtr (ln (.inp 12)) (zi 10)
def rt_lockbarlaw23_point : RT :=
.seg [.bind 0 (.app .lst [.agg [.int .u8 2, zi (-1), zi 0, zi (-1), zi 0, zi (-1), zi 0, zi (-1), zi 0, zi 0, zi 0]])] <|
.ret (.agg [.inp 0, .app .lst [.agg [zi 0, zi 0]], .app .lst [.agg [zi 0, zi 2, .nils]], .nils, zi 1, zi 2, zi 1, zi 1, zi 1, zi 1, zi 1])
theorem run_lockbarlaw23_point : runF E 36 [] 0 = rt_lockbarlaw23_point := by kernel_rfl
def rt_lockbarlaw23_great : RT :=
 ck (.isAgg 11) [.agg (ips 0 11)] <|
 ck (.isAgg 74) [.agg (ips 11 74)] <|
.loop 0 85 [zi 0] <|
 ck .len [.inp 12] <|
 ck (.bin .lss) [.inp 85, ln (.inp 12)] <|
 ckg (q10_44) true (.bin .leq) [.inp 85, zi 10] <|
 ck .pick [q10_44, q10_45, bF] <|
.cond (pk q10_44 q10_45 bF)
 (ck (.eidx 23) [.inp 12, .inp 85] <|
 ck (.eload 23 true) [q10_46] <|
.seg [.call 86 [] 34 [el 23 q10_46] false] <|
.cond (.inp 86)
 (.ret (bT))
 (ck (.bin .add) [.inp 85, zi 1] <|
.again 0 [bi .add (.inp 85) (zi 1)]))
 (.seg [.call 86 [] 35 [.agg (ips 0 11)] false] <|
 ckg (.inp 86) false .len [.inp 12] <|
 ckg (.inp 86) false (.bin .gtr) [ln (.inp 12), zi 10] <|
 ck .pick [.inp 86, bT, q10_47] <|
.ret (pk (.inp 86) bT q10_47))
theorem run_lockbarlaw23_great : runF E 8 [.agg (ips 0 11), .agg (ips 11 74)] 85 = rt_lockbarlaw23_great := by kernel_rfl
end
end Go.Lb.LK
namespace Go.Lb.LK
open Go Go.Lb Go.Proofs
noncomputable section
@[simp] def q11_0 : SE := .agg (pts (.inp 0) 0 11)
@[simp] def q11_1 : SE := .agg (pts (.inp 2) 0 29)
@[simp] def q11_2 : SE := .agg (pts (tp 0 (.inp 4)) 0 74)
@[simp] def q11_3 : SE := .agg (pts (tp 0 (.inp 8)) 0 74)
@[simp] def q11_4 : SE := ln (pt 1 (tp 0 (.inp 8)))
@[simp] def q11_5 : SE := bi .neq q11_4 (zi 1)
@[simp] def q11_6 : SE := ln (pt 1 (tp 0 (.inp 11)))
@[simp] def q11_7 : SE := bi .neq q11_6 (zi 1)
@[simp] def q11_8 : SE := pk q11_5 bT q11_7
@[simp] def q11_9 : SE := bi .neq (ln (tp 1 (.inp 9))) (zi 1)
@[simp] def q11_10 : SE := bi .eql (tp 2 (.inp 4)) (zi 0)
@[simp] def q11_11 : SE := bi .eql (tp 0 (.inp 6)) (.int .u32 0)
@[simp] def q11_12 : SE := pk q11_10 q11_11 bF
@[simp] def q11_13 : SE := bi .eql (tp 1 (.inp 6)) (.int .u32 0)
@[simp] def q11_14 : SE := pk q11_12 q11_13 bF
@[simp] def q11_15 : SE := bi .eql (tp 0 (.inp 7)) (.int .u32 0)
@[simp] def q11_16 : SE := pk q11_14 q11_15 bF
@[simp] def q11_17 : SE := bi .eql (tp 1 (.inp 7)) (.int .u32 1)
@[simp] def q11_18 : SE := pk q11_16 q11_17 bF
@[simp] def q11_19 : SE := bi .eql (ln (tp 1 (.inp 8))) (zi 0)
@[simp] def q11_20 : SE := pk q11_18 q11_19 bF
@[simp] def q11_21 : SE := bi .eql (pt 3 (tp 0 (.inp 8))) (zi 1)
@[simp] def q11_22 : SE := pk q11_20 q11_21 bF
@[simp] def q11_23 : SE := ei 1 (tp 1 (.inp 9)) (zi 0)
@[simp] def q11_24 : SE := e1 q11_23
@[simp] def q11_25 : SE := bi .eql q11_24 (zi 1)
@[simp] def q11_26 : SE := pk q11_22 q11_25 bF
@[simp] def q11_27 : SE := ln (pt 1 (tp 0 (.inp 9)))
@[simp] def q11_28 : SE := bi .eql q11_27 (zi 0)
@[simp] def q11_29 : SE := pk q11_26 q11_28 bF
@[simp] def q11_30 : SE := ei 23 (pt 1 (tp 0 (.inp 11))) (zi 0)
@[simp] def q11_31 : SE := .app (.eoff 6) [q11_30]
@[simp] def q11_32 : SE := e1 q11_31
@[simp] def q11_33 : SE := bi .eql q11_32 (.int .u8 2)
@[simp] def q11_34 : SE := pk q11_29 q11_33 bF
@[simp] def q11_35 : SE := bi .eql (pt 2 (tp 0 (.inp 11))) (zi (-1))
@[simp] def q11_36 : SE := pk q11_34 q11_35 bF
@[simp] def q11_37 : SE := pk q11_36 (tp 1 (.inp 13)) bF
@[simp] def q11_38 : SE := bi .eql (pt 2 (tp 0 (.inp 13))) (zi 1)
@[simp] def q11_39 : SE := pk q11_37 q11_38 bF
@[simp] def q11_40 : SE := pk q11_39 (nt (tp 1 (.inp 14))) bF
@[simp] def q11_41 : SE := pk q11_40 (.inp 17) bF
def rt_lockbarlaw23_wakes : RT :=
.seg [.call 0 [] 36 [] false] <|
 ck (.isAgg 11) [.inp 0] <|
.seg [.call 1 [] 38 [] false,
.call 2 [] 37 [q11_0, .inp 1, .agg [.int .u32 0, .int .u32 1, .int .u32 0, .int .u32 0]] false,
.chk [] (.isAgg 29) [.inp 2]] <|
.seg [.call 3 [] 40 [] false,
.call 4 [] 39 [q11_0, q11_1, .inp 3, .agg [zi 0, zi 0, .app .lst [.agg [zi 0, zi 0, zi 2]]]] false,
.chk [] (.tproj 0) [.inp 4],
.chk [] (.tproj 1) [.inp 4],
.chk [] (.tproj 2) [.inp 4],
.chk [] (.isAgg 74) [tp 0 (.inp 4)]] <|
.seg [.call 5 [] 40 [] false,
.call 6 [] 16 [q11_0, q11_1, .inp 5] false,
.chk [] (.tproj 0) [.inp 6],
.chk [] (.tproj 1) [.inp 6]] <|
.seg [.call 7 [] 16 [q11_0, q11_1, q11_2] false] <|
 ck (.tproj 0) [.inp 7] <|
 ck (.tproj 1) [.inp 7] <|
.seg [.call 8 [] 10 [q11_0, q11_1, q11_2] false] <|
 ck (.tproj 0) [.inp 8] <|
 ck (.tproj 1) [.inp 8] <|
 ck (.isAgg 74) [tp 0 (.inp 8)] <|
.seg [.call 9 [] 10 [q11_0, q11_1, q11_3] false] <|
 ck (.tproj 0) [.inp 9] <|
 ck (.tproj 1) [.inp 9] <|
 ck (.isAgg 74) [tp 0 (.inp 9)] <|
.seg [.call 10 [] 37 [q11_0, q11_1, .agg [.int .u32 0, .int .u32 0, .int .u32 1, .int .u32 0]] false] <|
 ck (.isAgg 29) [.inp 10] <|
.seg [.call 11 [] 10 [q11_0, .agg (pts (.inp 10) 0 29), q11_3] false] <|
 ck (.tproj 0) [.inp 11] <|
 ck (.tproj 1) [.inp 11] <|
 ck (.isAgg 74) [tp 0 (.inp 11)] <|
.seg [.call 12 [] 40 [] false,
.call 13 [] 14 [q11_0, q11_1, .inp 12, zi 0, zi 1] false,
.chk [] (.tproj 0) [.inp 13],
.chk [] (.tproj 1) [.inp 13],
.chk [] (.isAgg 74) [tp 0 (.inp 13)]] <|
.seg [.call 14 [] 14 [q11_0, q11_1, q11_2, zi 0, zi 0] false] <|
 ck (.tproj 0) [.inp 14] <|
 ck (.tproj 1) [.inp 14] <|
 ck (.isAgg 74) [tp 0 (.inp 14)] <|
 ck .len [pt 1 (tp 0 (.inp 8))] <|
 ck (.bin .neq) [q11_4, zi 1] <|
 ckg (q11_5) false .len [pt 1 (tp 0 (.inp 11))] <|
 ckg (q11_5) false (.bin .neq) [q11_6, zi 1] <|
 ck .pick [q11_5, bT, q11_7] <|
 ckg (q11_8) false .len [tp 1 (.inp 9)] <|
 ckg (q11_8) false (.bin .neq) [ln (tp 1 (.inp 9)), zi 1] <|
 ck .pick [q11_8, bT, q11_9] <|
.seg [.bind 15 (q11_8),
.bind 16 (pk q11_8 bT q11_9)] <|
.cond (.inp 16)
 (.ret (bF))
 (ck (.bin .eql) [tp 2 (.inp 4), zi 0] <|
 ckg (q11_10) true (.bin .eql) [tp 0 (.inp 6), .int .u32 0] <|
 ck .pick [q11_10, q11_11, bF] <|
 ckg (q11_12) true (.bin .eql) [tp 1 (.inp 6), .int .u32 0] <|
 ck .pick [q11_12, q11_13, bF] <|
 ckg (q11_14) true (.bin .eql) [tp 0 (.inp 7), .int .u32 0] <|
 ck .pick [q11_14, q11_15, bF] <|
 ckg (q11_16) true (.bin .eql) [tp 1 (.inp 7), .int .u32 1] <|
 ck .pick [q11_16, q11_17, bF] <|
 ckg (q11_18) true .len [tp 1 (.inp 8)] <|
 ckg (q11_18) true (.bin .eql) [ln (tp 1 (.inp 8)), zi 0] <|
 ck .pick [q11_18, q11_19, bF] <|
 ckg (q11_20) true (.bin .eql) [pt 3 (tp 0 (.inp 8)), zi 1] <|
 ck .pick [q11_20, q11_21, bF] <|
 ckg (q11_22) true (.eidx 1) [tp 1 (.inp 9), zi 0] <|
 ckg (q11_22) true (.eload 1 false) [q11_23] <|
 ckg (q11_22) true (.bin .eql) [q11_24, zi 1] <|
 ck .pick [q11_22, q11_25, bF] <|
 ckg (q11_26) true .len [pt 1 (tp 0 (.inp 9))] <|
 ckg (q11_26) true (.bin .eql) [q11_27, zi 0] <|
 ck .pick [q11_26, q11_28, bF] <|
 ckg (q11_29) true (.eidx 23) [pt 1 (tp 0 (.inp 11)), zi 0] <|
 ckg (q11_29) true (.eoff 6) [q11_30] <|
 ckg (q11_29) true (.eload 1 false) [q11_31] <|
 ckg (q11_29) true (.bin .eql) [q11_32, .int .u8 2] <|
 ck .pick [q11_29, q11_33, bF] <|
 ckg (q11_34) true (.bin .eql) [pt 2 (tp 0 (.inp 11)), zi (-1)] <|
 ck .pick [q11_34, q11_35, bF] <|
 ck .pick [q11_36, tp 1 (.inp 13), bF] <|
 ckg (q11_37) true (.bin .eql) [pt 2 (tp 0 (.inp 13)), zi 1] <|
 ck .pick [q11_37, q11_38, bF] <|
 ckg (q11_39) true (.un .not) [tp 1 (.inp 14)] <|
 ck .pick [q11_39, nt (tp 1 (.inp 14)), bF] <|
.seg [.call 17 [(q11_40, true)] 18 [q11_0, q11_1, q11_2] false] <|
 ck .pick [q11_40, .inp 17, bF] <|
.seg [.call 18 [(q11_41, true)] 18 [q11_0, q11_1, .agg [zi 0, .nils, zi 0, zi 0, bF, zi 0, zi 0, bF, zi 0, zi 0, bF, zi 0, zi 0, bF, zi 0, zi 0, bF, zi 0, zi 0, bF, zi 0, zi 0, bF, zi 0, zi 0, bF, zi 0, zi 0, bF, zi 0, zi 0, bF, zi 0, zi 0, bF, zi 0, zi 0, bF, zi 0, zi 0, bF, zi 0, zi 0, bF, zi 0, zi 0, bF, zi 0, zi 0, bF, zi 0, zi 0, bF, zi 0, zi 0, bF, zi 0, zi 0, bF, zi 0, zi 0, bF, zi 0, zi 0, bF, zi 0, zi 0, bF, zi 0, zi 0, bF, zi 0, zi 0, bF]] false] <|
 ckg (q11_41) true (.un .not) [.inp 18] <|
 ck .pick [q11_41, nt (.inp 18), bF] <|
.seg [.bind 19 (pk q11_41 (nt (.inp 18)) bF),
.bind 20 (q11_12),
.bind 21 (q11_14),
.bind 22 (q11_16),
.bind 23 (q11_18),
.bind 24 (q11_20),
.bind 25 (q11_22),
.bind 26 (q11_26),
.bind 27 (q11_29),
.bind 28 (q11_34),
.bind 29 (q11_36),
.bind 30 (q11_37),
.bind 31 (q11_39),
.bind 32 (q11_40),
.bind 33 (q11_41)] <|
.ret (.inp 19))
theorem run_lockbarlaw23_wakes : runF E 9 [] 0 = rt_lockbarlaw23_wakes := by kernel_rfl
end
end Go.Lb.LK
namespace Go.Proofs
open Go.Shelf
def Tryz.lays125_ren : Go.Shelf.Ren := ⟨fun | 125 => 165 | 128 => 193 | 129 => 194 | n => n, fun | 46 => 66 | 3 => 3 | 51 => 31 | 53 => 210 | 4 => 4 | 5 => 5 | 9 => 9 | n => n, fun | n => n⟩
theorem Tryz.lays125 : Go.Proofs.Lays.n125 Tryz.prog Tryz.lays125_ren := {
 mixed := by kernel_rfl
 f125 := Tryz.func165.trans (congrArg some (by kernel_rfl))
 f128 := Tryz.func193.trans (congrArg some (by kernel_rfl))
 f129 := Tryz.func194.trans (congrArg some (by kernel_rfl))
 t3 := Tryz.underlying3
 a3 := Tryz.isAgg3
 z3 := Tryz.sizeOf3
 v3 := Tryz.zeroValue3
 t4 := Tryz.underlying4
 a4 := Tryz.isAgg4
 z4 := Tryz.sizeOf4
 v4 := Tryz.zeroValue4
 t5 := Tryz.underlying5
 a5 := Tryz.isAgg5
 z5 := Tryz.sizeOf5
 v5 := Tryz.zeroValue5
 t9 := Tryz.underlying9
 a9 := Tryz.isAgg9
 z9 := Tryz.sizeOf9
 v9 := Tryz.zeroValue9
 t46 := Tryz.underlying66
 a46 := Tryz.isAgg66
 z46 := Tryz.sizeOf66
 v46 := Tryz.zeroValue66
 t51 := Tryz.underlying31
 a51 := Tryz.isAgg31
 z51 := Tryz.sizeOf31
 v51 := Tryz.zeroValue31
 t53 := Tryz.underlying210
 a53 := Tryz.isAgg210
 z53 := Tryz.sizeOf210
 v53 := Tryz.zeroValue210 }
theorem Tryz.bits_Len (x : Int) (w : World) (h0 : 0 ≤ x) (h1 : x ≤ 18446744073709551615) :
  Calls Tryz.prog 165 #[.int .u64 x] w fun e w' => e = .returned (.int .i64 (Lib.bitLen x.toNat)) ∧ w' = w := Any.bits_Len Tryz.lays125 x w h0 h1
def Tryz.lays189_ren : Go.Shelf.Ren := ⟨fun | 189 => 129 | 125 => 165 | 257 => 164 | 128 => 193 | 129 => 194 | 294 => 184 | 295 => 185 | 296 => 186 | 297 => 187 | 298 => 188 | 299 => 189 | 216 => 190 | 300 => 191 | 301 => 192 | 328 => 209 | 329 => 210 | 330 => 211 | 331 => 212 | 332 => 213 | 215 => 214 | 343 => 226 | n => n, fun | 28 => 44 | 3 => 3 | 46 => 66 | 0 => 0 | 51 => 31 | 53 => 210 | 4 => 4 | 183 => 203 | 182 => 202 | 131 => 86 | 5 => 5 | 9 => 9 | 218 => 218 | 222 => 222 | 228 => 230 | 229 => 231 | n => n, fun | n => n⟩
theorem Tryz.lays189 : Go.Proofs.Lays.n189 Tryz.prog Tryz.lays189_ren := {
 mixed := by kernel_rfl
 f125 := Tryz.func165.trans (congrArg some (by kernel_rfl))
 f128 := Tryz.func193.trans (congrArg some (by kernel_rfl))
 f129 := Tryz.func194.trans (congrArg some (by kernel_rfl))
 f189 := Tryz.func129.trans (congrArg some (by kernel_rfl))
 f215 := Tryz.func214.trans (congrArg some (by kernel_rfl))
 f216 := Tryz.func190.trans (congrArg some (by kernel_rfl))
 f257 := Tryz.func164.trans (congrArg some (by kernel_rfl))
 f294 := Tryz.func184.trans (congrArg some (by kernel_rfl))
 f295 := Tryz.func185.trans (congrArg some (by kernel_rfl))
 f296 := Tryz.func186.trans (congrArg some (by kernel_rfl))
 f297 := Tryz.func187.trans (congrArg some (by kernel_rfl))
 f298 := Tryz.func188.trans (congrArg some (by kernel_rfl))
 f299 := Tryz.func189.trans (congrArg some (by kernel_rfl))
 f300 := Tryz.func191.trans (congrArg some (by kernel_rfl))
 f301 := Tryz.func192.trans (congrArg some (by kernel_rfl))
 f328 := Tryz.func209.trans (congrArg some (by kernel_rfl))
 f329 := Tryz.func210.trans (congrArg some (by kernel_rfl))
 f330 := Tryz.func211.trans (congrArg some (by kernel_rfl))
 f331 := Tryz.func212.trans (congrArg some (by kernel_rfl))
 f332 := Tryz.func213.trans (congrArg some (by kernel_rfl))
 f343 := Tryz.func226.trans (congrArg some (by kernel_rfl))
 t0 := Tryz.underlying0
 a0 := Tryz.isAgg0
 z0 := Tryz.sizeOf0
 v0 := Tryz.zeroValue0
 t3 := Tryz.underlying3
 a3 := Tryz.isAgg3
 z3 := Tryz.sizeOf3
 v3 := Tryz.zeroValue3
 t4 := Tryz.underlying4
 a4 := Tryz.isAgg4
 z4 := Tryz.sizeOf4
 v4 := Tryz.zeroValue4
 t5 := Tryz.underlying5
 a5 := Tryz.isAgg5
 z5 := Tryz.sizeOf5
 v5 := Tryz.zeroValue5
 t9 := Tryz.underlying9
 a9 := Tryz.isAgg9
 z9 := Tryz.sizeOf9
 v9 := Tryz.zeroValue9
 t28 := Tryz.underlying44
 a28 := Tryz.isAgg44
 z28 := Tryz.sizeOf44
 v28 := Tryz.zeroValue44
 t46 := Tryz.underlying66
 a46 := Tryz.isAgg66
 z46 := Tryz.sizeOf66
 v46 := Tryz.zeroValue66
 t51 := Tryz.underlying31
 a51 := Tryz.isAgg31
 z51 := Tryz.sizeOf31
 v51 := Tryz.zeroValue31
 t53 := Tryz.underlying210
 a53 := Tryz.isAgg210
 z53 := Tryz.sizeOf210
 v53 := Tryz.zeroValue210
 t131 := Tryz.underlying86
 a131 := Tryz.isAgg86
 z131 := Tryz.sizeOf86
 v131 := Tryz.zeroValue86
 t182 := Tryz.underlying202
 a182 := Tryz.isAgg202
 z182 := Tryz.sizeOf202
 v182 := Tryz.zeroValue202
 t183 := Tryz.underlying203
 a183 := Tryz.isAgg203
 z183 := Tryz.sizeOf203
 v183 := Tryz.zeroValue203
 t218 := Tryz.underlying218
 a218 := Tryz.isAgg218
 z218 := Tryz.sizeOf218
 v218 := Tryz.zeroValue218
 t222 := Tryz.underlying222
 a222 := Tryz.isAgg222
 z222 := Tryz.sizeOf222
 v222 := Tryz.zeroValue222
 t228 := Tryz.underlying230
 a228 := Tryz.isAgg230
 z228 := Tryz.sizeOf230
 v228 := Tryz.zeroValue230
 t229 := Tryz.underlying231
 a229 := Tryz.isAgg231
 z229 := Tryz.sizeOf231
 v229 := Tryz.zeroValue231 }
open Go.Sort Go.RowKit in
theorem Tryz.slices_Sort_int (blk off cap : Nat) (zs : List Int) (w : World) (hH : Holds (Value.int .i64) w blk off zs.toArray) (hblk : blk < w.heap.size) (hsz : zs.length < 4611686018427387904) :
  Calls Tryz.prog 129 #[.slice (some ⟨blk, off, none⟩) zs.length cap] w fun e w' =>
   e = .returned (.tuple #[]) ∧ ∃ n os, w' = grow (putRow (Value.int .i64) (Sort.ahead w n) blk off (zs.mergeSort fun x y => decide (x ≤ y)).toArray) os := Any.slices_Sort_int Tryz.lays189 blk off cap zs w hH hblk hsz
def Tryz.laysNm220_ren : Go.Shelf.Ren := ⟨fun | 20 => 130 | n => n, fun | 22 => 44 | 3 => 3 | 4 => 4 | 0 => 0 | n => n, fun | n => n⟩
theorem Tryz.laysNm220 : Go.Proofs.Lays2.n20 Tryz.prog Tryz.laysNm220_ren := {
 mixed := by kernel_rfl
 f20 := Tryz.func130.trans (congrArg some (by kernel_rfl))
 t0 := Tryz.underlying0
 a0 := Tryz.isAgg0
 z0 := Tryz.sizeOf0
 v0 := Tryz.zeroValue0
 t3 := Tryz.underlying3
 a3 := Tryz.isAgg3
 z3 := Tryz.sizeOf3
 v3 := Tryz.zeroValue3
 t4 := Tryz.underlying4
 a4 := Tryz.isAgg4
 z4 := Tryz.sizeOf4
 v4 := Tryz.zeroValue4
 t22 := Tryz.underlying44
 a22 := Tryz.isAgg44
 z22 := Tryz.sizeOf44
 v22 := Tryz.zeroValue44
 i3 := by kernel_rfl }
open Go.RowKit Go.Lib Go.Sort in
theorem Tryz.slices_Compact_int (blk off cap : Nat) (zs : List Int) (w : World) (hH : Holds (Value.int .i64) w blk off zs.toArray) (hsz : zs.length ≤ 9223372036854775807) (hcap : zs.length ≤ cap) :
  Calls Tryz.prog 130 #[.slice (some ⟨blk, off, none⟩) zs.length cap] w fun e w' => e = .returned (.slice (some ⟨blk, off, none⟩) (Lib.compact zs).length cap) ∧ ∃ q, w' = putRow (Value.int .i64) (Sort.ahead w q) blk off (Lib.compact zs ++ List.replicate (zs.length - (Lib.compact zs).length) 0).toArray := Any.slices_Compact_int Tryz.laysNm220 blk off cap zs w hH hsz hcap
open Go.RowKit Go.Lib Go.Sort in
theorem Tryz.slices_Compact_int_empty (a : Option Addr) (cap : Nat) (w : World) :
  Calls Tryz.prog 130 #[.slice a 0 cap] w fun e w' => e = .returned (.slice a 0 cap) ∧ w' = w := Any.slices_Compact_int_empty Tryz.laysNm220 a cap w
end Go.Proofs
namespace Go.Lb.LK
open Go Go.Lb
structure Port where
 s : Int
 p : Int
 deriving DecidableEq
def Port.cells (x : Port) : List AV := [I x.s, I x.p]
abbrev Port.av (x : Port) : AV := .agg x.cells
structure Sec where
 kind : Int
 j0 : Port
 j1 : Port
 j2 : Port
 j3 : Port
 c0 : Int
 c1 : Int
 deriving DecidableEq
def Sec.cells (x : Sec) : List AV := [U x.kind, I x.j0.s, I x.j0.p, I x.j1.s, I x.j1.p, I x.j2.s, I x.j2.p, I x.j3.s, I x.j3.p, I x.c0, I x.c1]
abbrev Sec.av (x : Sec) : AV := .agg x.cells
structure Step where
 s : Int
 i : Int
 o : Int
 deriving DecidableEq
def Step.cells (x : Step) : List AV := [I x.s, I x.i, I x.o]
abbrev Step.av (x : Step) : AV := .agg x.cells
structure Exi where
 a : Port
 over : List Step
 deriving DecidableEq
def Exi.cells (x : Exi) : List AV := [I x.a.s, I x.a.p, .sl (x.over.map Step.av)]
abbrev Exi.av (x : Exi) : AV := .agg x.cells
structure Flank where
 s : Int
 way : Int
 point : Int
 pos : Int
 deriving DecidableEq
def Flank.cells (x : Flank) : List AV := [I x.s, I x.way, I x.point, I x.pos]
abbrev Flank.av (x : Flank) : AV := .agg x.cells
structure Lay where
 secs : List Sec
 sigs : List Port
 exits : List Exi
 flanks : List Flank
 clear : Int
 drive : Int
 stale : Int
 approach : Int
 over : Int
 press : Int
 link : Int
 deriving DecidableEq
def Lay.cells (l : Lay) : List AV := [.sl (l.secs.map Sec.av), .sl (l.sigs.map Port.av), .sl (l.exits.map Exi.av), .sl (l.flanks.map Flank.av), I l.clear, I l.drive, I l.stale, I l.approach, I l.over, I l.press, I l.link]
abbrev Lay.av (l : Lay) : AV := .agg l.cells
structure Path where
 sig : Int
 exit : Int
 steps : List Step
 deriving DecidableEq
def Path.cells (x : Path) : List AV := [I x.sig, I x.exit, .sl (x.steps.map Step.av)]
abbrev Path.av (x : Path) : AV := .agg x.cells
structure Need where
 p : Int
 pos : Int
 k : Int
 deriving DecidableEq
def Need.cells (x : Need) : List AV := [I x.p, I x.pos, I x.k]
abbrev Need.av (x : Need) : AV := .agg x.cells
abbrev needs (l : List Need) : AV := .sl (l.map Need.av)
abbrev steps (l : List Step) : AV := .sl (l.map Step.av)
@[simp] theorem Port.pure (x : Port) : AV.pureAll x.cells = true := by simp [Port.cells, AV.pureAll, AV.pure]
@[simp] theorem Sec.pure (x : Sec) : AV.pureAll x.cells = true := by simp [Sec.cells, AV.pureAll, AV.pure]
@[simp] theorem Step.pure (x : Step) : AV.pureAll x.cells = true := by simp [Step.cells, AV.pureAll, AV.pure]
@[simp] theorem zn0 (l : List Step) : AV.pureAll (l.map Step.av) = true := zbJ _ (fun x => by simp [AV.pure]) l
@[simp] theorem Exi.pure (x : Exi) : AV.pureAll x.cells = true := by simp [Exi.cells, AV.pureAll, AV.pure]
@[simp] theorem Flank.pure (x : Flank) : AV.pureAll x.cells = true := by simp [Flank.cells, AV.pureAll, AV.pure]
@[simp] theorem Path.pure (x : Path) : AV.pureAll x.cells = true := by simp [Path.cells, AV.pureAll, AV.pure]
@[simp] theorem Need.pure (x : Need) : AV.pureAll x.cells = true := by simp [Need.cells, AV.pureAll, AV.pure]
@[simp] theorem zsl (l : List Need) : AV.pureAll (l.map Need.av) = true := zbJ _ (fun x => by simp [AV.pure]) l
@[simp] theorem Lay.pure (l : Lay) : AV.pureAll l.cells = true := by
 simp [Lay.cells, AV.pureAll, AV.pure, zbJ Sec.av (fun x => by simp [AV.pure]), zbJ Port.av (fun x => by simp [AV.pure]), zbJ Exi.av (fun x => by simp [AV.pure]), zbJ Flank.av (fun x => by simp [AV.pure])]
def iT : TS := .int .i64
def zjO : TS := .agg [iT, iT]
def secT : TS := .agg [.int .u8, .agg [zjO, zjO, zjO, zjO], .agg [iT, iT]]
def sigT : TS := .agg [zjO]
def zpB : TS := .agg [iT, iT, iT]
def zrp : TS := .agg [zjO, .sl true zpB]
def zoS : TS := .agg [iT, iT, iT, iT]
def zrg : TS := .agg [iT, iT, iT, iT, iT, iT, iT]
def layT : TS := .agg [.sl true secT, .sl true sigT, .sl true zrp, .sl true zoS, zrg]
def zs4 : TS := .agg [iT, iT, .sl true zpB]
def zr8 : TS := .agg [iT, iT, iT]
theorem zsS {cs : List AV} (h : secT.fits cs) : ∃ s : Sec, AV.agg cs = s.av ∧ 0 ≤ s.kind ∧ s.kind ≤ 255 := by
 simp only [secT, zjO, iT, zcd, za3, zaY, za2, List.append_nil, List.cons_append, List.nil_append] at h
 obtain ⟨m, q, rfl, hm, a0, q, rfl, _, a1, q, rfl, _, a2, q, rfl, _, a3, q, rfl, _, a4, q, rfl, _, a5, q, rfl, _, a6, q, rfl, _, a7, q, rfl, _, a8, q, rfl, _, a9, q, rfl, _, rfl⟩ := h
 exact ⟨⟨m, ⟨a0, a1⟩, ⟨a2, a3⟩, ⟨a4, a5⟩, ⟨a6, a7⟩, a8, a9⟩, rfl, by simpa using hm⟩
theorem zsK {cs : List AV} (h : sigT.fits cs) : ∃ s : Port, AV.agg cs = s.av := by
 simp only [sigT, zjO, iT, zcd, za3, zaY, zb7, za2, List.append_nil, List.cons_append, List.nil_append] at h
 obtain ⟨a0, q, rfl, _, a1, q, rfl, _, rfl⟩ := h
 exact ⟨⟨a0, a1⟩, rfl⟩
theorem zmv {cs : List AV} (h : zpB.fits cs) : ∃ s : Step, AV.agg cs = s.av := by
 simp only [zpB, iT, zcd, za3, zaY, zb7, za2, List.append_nil, List.cons_append, List.nil_append] at h
 obtain ⟨a0, q, rfl, _, a1, q, rfl, _, a2, q, rfl, _, rfl⟩ := h
 exact ⟨⟨a0, a1, a2⟩, rfl⟩
theorem zql {cs : List AV} (h : zoS.fits cs) : ∃ s : Flank, AV.agg cs = s.av := by
 simp only [zoS, iT, zcd, za3, zaY, zb7, za2, List.append_nil, List.cons_append, List.nil_append] at h
 obtain ⟨a0, q, rfl, _, a1, q, rfl, _, a2, q, rfl, _, a3, q, rfl, _, rfl⟩ := h
 exact ⟨⟨a0, a1, a2, a3⟩, rfl⟩
theorem zrI {cs : List AV} (h : zr8.fits cs) : ∃ s : Need, AV.agg cs = s.av := by
 simp only [zr8, iT, zcd, za3, zaY, zb7, za2, List.append_nil, List.cons_append, List.nil_append] at h
 obtain ⟨a0, q, rfl, _, a1, q, rfl, _, a2, q, rfl, _, rfl⟩ := h
 exact ⟨⟨a0, a1, a2⟩, rfl⟩
theorem zr0 {cs : List AV} (h : zrp.fits cs) : ∃ s : Exi, AV.agg cs = s.av := by
 simp only [zrp, zjO, iT, zcd, za3, zaY, zb7, za2, List.append_nil, List.cons_append, List.nil_append] at h
 obtain ⟨a0, q, rfl, _, a1, q, rfl, _, es, q, rfl, hs, rfl⟩ := h
 obtain ⟨ov, rfl⟩ := zgQ (g := Step.av) (fun cs h => zmv h) es hs.2
 exact ⟨⟨⟨a0, a1⟩, ov⟩, rfl⟩
def Lay.ok (l : Lay) : Prop := ∀ s ∈ l.secs, 0 ≤ s.kind ∧ s.kind ≤ 255
theorem zsL {cs : List AV} (h : layT.fits cs) : ∃ l : Lay, AV.agg cs = l.av ∧ l.ok := by
 simp only [layT, zrg, iT, zcd, za3, zaY, zb7, za2, List.append_nil, List.cons_append, List.nil_append] at h
 obtain ⟨s1, q, rfl, h1, s2, q, rfl, h2, s3, q, rfl, h3, s4, q, rfl, h4, a0, q, rfl, _, a1, q, rfl, _, a2, q, rfl, _, a3, q, rfl, _, a4, q, rfl, _, a5, q, rfl, _, a6, q, rfl, _, rfl⟩ := h
 obtain ⟨secs, rfl, hs⟩ := zmr (g := Sec.av) (Q := fun s => 0 ≤ s.kind ∧ s.kind ≤ 255) (fun cs h => zsS h) s1 h1.2
 obtain ⟨sigs, rfl⟩ := zgQ (g := Port.av) (fun cs h => zsK h) s2 h2.2
 obtain ⟨exits, rfl⟩ := zgQ (g := Exi.av) (fun cs h => zr0 h) s3 h3.2
 obtain ⟨fls, rfl⟩ := zgQ (g := Flank.av) (fun cs h => zql h) s4 h4.2
 exact ⟨⟨secs, sigs, exits, fls, a0, a1, a2, a3, a4, a5, a6⟩, rfl, hs⟩
theorem zl3 {x : AV} (h : layT.fits x.cells) (h2 : zgg true x) : ∃ l : Lay, x = l.av ∧ l.ok := by
 obtain ⟨cs, rfl⟩ := h2.1 rfl
 exact zsL h
theorem zml {x : AV} (h : iT.fits x.cells) (h2 : zgg false x) : ∃ n, x = I n := by
 obtain ⟨n, h1, _⟩ := zhs.1 h
 have : x = I n := by
  cases x <;> simp_all [AV.cells, zgg]
 exact ⟨n, this⟩
end Go.Lb.LK
namespace Go.Lb.LK
open Go Go.Lb
abbrev W (n : Int) : AV := .int .u32 n
abbrev B (b : Bool) : AV := .bool b
structure Img where
 age : Int
 free : Nat → Int
 occ : Int
 nor : Int
 rev : Int
 lamp : Int
def Img.cells (x : Img) : List AV := [I x.age, I (x.free 0), I (x.free 1), I (x.free 2), I (x.free 3), I (x.free 4), I (x.free 5), I (x.free 6), I (x.free 7), I (x.free 8), I (x.free 9), I (x.free 10), I (x.free 11), I (x.free 12), I (x.free 13), I (x.free 14), I (x.free 15), I (x.free 16), I (x.free 17), I (x.free 18), I (x.free 19), I (x.free 20), I (x.free 21), I (x.free 22), I (x.free 23), W x.occ, W x.nor, W x.rev, W x.lamp]
abbrev Img.av (x : Img) : AV := .agg x.cells
def Img.ok (x : Img) : Prop := (0 ≤ x.occ ∧ x.occ ≤ 4294967295) ∧ (0 ≤ x.nor ∧ x.nor ≤ 4294967295) ∧ (0 ≤ x.rev ∧ x.rev ≤ 4294967295) ∧ (0 ≤ x.lamp ∧ x.lamp ≤ 4294967295)
structure Hd where
 id : Int
 path : Path
 over : List Step
 needs : List Need
 stage : Int
 gone : Int
 was : Nat → Bool
 opn : Bool
 timer : Int
 shown : Bool
def Hd.cells (x : Hd) : List AV := [I x.id, I x.path.sig, I x.path.exit, steps x.path.steps, steps x.over, Go.Lb.LK.needs x.needs, U x.stage, I x.gone, .bool (x.was 0), .bool (x.was 1), .bool (x.was 2), .bool (x.was 3), .bool (x.was 4), .bool (x.was 5), .bool (x.was 6), .bool (x.was 7), .bool (x.was 8), .bool (x.was 9), .bool (x.was 10), .bool (x.was 11), .bool x.opn, I x.timer, .bool x.shown]
abbrev Hd.av (x : Hd) : AV := .agg x.cells
@[simp] theorem Img.pure (x : Img) : AV.pureAll x.cells = true := by simp [Img.cells, AV.pureAll, AV.pure]
@[simp] theorem Hd.pure (x : Hd) : AV.pureAll x.cells = true := by simp [Hd.cells, AV.pureAll, AV.pure]
@[simp] theorem zso (b len n j : Nat) (k : IntKind) (u v : AV) : pv (.cellset b len 1 0 1 j) [.int k (n : Nat), u, .agg [v]] = if j = b + n then v else u := by
 simp only [pv, AV.cells, Int.toNat_natCast, Nat.mul_one, Nat.add_zero]
 by_cases h : j = b + n
 ·subst h; simp
 ·have : ¬ (b + n ≤ j ∧ j < b + n + 1) := by omega
  simp [this, h]
@[simp] theorem zrL (b len n j : Nat) (k : IntKind) (i : Int) (u v : AV) : pok (.cellset b len 1 0 n j) [.int k i, u, v] = (0 ≤ i ∧ i < len ∧ v.cells.length = n ∧ AV.ones v.cells = true ∧ j < b + len * 1 ∧ 0 + n ≤ 1) := rfl
theorem zq1 (x : Img) {i : Nat} (h : i < 24) (d : AV) : x.cells.getD (i + 1) d = I (x.free i) := by
 match i, h with
 | 0, _ => rfl
 | 1, _ => rfl
 | 2, _ => rfl
 | 3, _ => rfl
 | 4, _ => rfl
 | 5, _ => rfl
 | 6, _ => rfl
 | 7, _ => rfl
 | 8, _ => rfl
 | 9, _ => rfl
 | 10, _ => rfl
 | 11, _ => rfl
 | 12, _ => rfl
 | 13, _ => rfl
 | 14, _ => rfl
 | 15, _ => rfl
 | 16, _ => rfl
 | 17, _ => rfl
 | 18, _ => rfl
 | 19, _ => rfl
 | 20, _ => rfl
 | 21, _ => rfl
 | 22, _ => rfl
 | 23, _ => rfl
 | n + 24, h => exact absurd h (by omega)
theorem zrC (x : Hd) {i : Nat} (h : i < 12) (d : AV) : x.cells.getD (i + 8) d = .bool (x.was i) := by
 match i, h with
 | 0, _ => rfl
 | 1, _ => rfl
 | 2, _ => rfl
 | 3, _ => rfl
 | 4, _ => rfl
 | 5, _ => rfl
 | 6, _ => rfl
 | 7, _ => rfl
 | 8, _ => rfl
 | 9, _ => rfl
 | 10, _ => rfl
 | 11, _ => rfl
def zeb (w : Nat → Bool) : List AV := [.bool (w 0), .bool (w 1), .bool (w 2), .bool (w 3), .bool (w 4), .bool (w 5), .bool (w 6), .bool (w 7), .bool (w 8), .bool (w 9), .bool (w 10), .bool (w 11)]
theorem wget (w : Nat → Bool) {i : Nat} (h : i < 12) (d : AV) : (zeb w).getD i d = .bool (w i) := by
 match i, h with
 | 0, _ => rfl
 | 1, _ => rfl
 | 2, _ => rfl
 | 3, _ => rfl
 | 4, _ => rfl
 | 5, _ => rfl
 | 6, _ => rfl
 | 7, _ => rfl
 | 8, _ => rfl
 | 9, _ => rfl
 | 10, _ => rfl
 | 11, _ => rfl
def upd {α : Type} (w : Nat → α) (k : Nat) (v : α) : Nat → α := fun j => if j = k then v else w j
def uT : TS := .int .u32
def inT : TS := .agg [uT, uT, uT, uT]
def imgT : TS := .agg [iT, .agg [iT, iT, iT, iT, iT, iT, iT, iT, iT, iT, iT, iT, iT, iT, iT, iT, iT, iT, iT, iT, iT, iT, iT, iT], inT]
def zsa : TS := .agg [iT, zs4, .sl true zpB, .sl true zr8, .int .u8, iT, .agg [.bool, .bool, .bool, .bool, .bool, .bool, .bool, .bool, .bool, .bool, .bool, .bool], .bool, iT, .bool]
end Go.Lb.LK
namespace Go.Lb.LK
open Go Go.Lb
theorem delOk : ∀ f, 0 < E.del f → zrO E.P f (E.del f) := fun f h => by simp [E] at h
end Go.Lb.LK
namespace Go.Lb.LK
open Go Go.Lb Go.Proofs Go.RowKit
theorem zgs {P : Program} {f : FuncId} {avs : List AV} {vs : List Value} {r : AV} {v : Value} (hr : r.pure = true) (ha : ∀ c us, Rvs c avs us → us = vs) (hv : ∀ c, Rv c r v) (h : ∀ w, Calls P f ⟨vs⟩ w fun e w' => e = .returned v ∧ w' = w) : zbR P [] f avs r := by
 refine ⟨hr, fun w c us _ him _ hvs => ?_⟩
 rw [ha c us hvs]
 refine (h w).mono ?_
 rintro e w' ⟨rfl, rfl⟩
 exact ⟨v, c, rfl, Cx.Le.refl c, by assumption, him, fun _ _ => ⟨fun _ _ h => h, fun _ h => h⟩, hv c, Below.refl _ _⟩
theorem EOkS : EnvOk ES := ⟨fun f h => by simp [ES] at h, fun f h => by simp [ES] at h, fun f h => by simp [ES] at h, fun g es h => by simp [ES] at h⟩
theorem bits0 : zbR PR [] f_mathbits_Len [.int .u64 0] (.int .i64 0) := by
 refine zgs (vs := [.int .u64 0]) (v := .int .i64 0) rfl (fun c us h => ?_) (fun c => .int _ _) (fun w => Tryz.bits_Len 0 w (by omega) (by omega))
 cases h with
 | cons _ v _ vs h1 h2 => cases h1; cases h2; rfl
theorem sort0 : zbR PR [] f_slices_Sort_int [.sl []] (.tup []) := by
 refine zil EOkS EmixS [] run_slices_Sort_int rfl rfl rfl ?_ rfl
 unfold rt_slices_Sort_int
 refine zfY.2 ⟨fun _ => by simp, ?_⟩
 refine zeM.2 (zfY.2 ⟨fun _ => by simp, zeM.2 ?_⟩)
 refine ziY (r := .int .i64 0) bits0 (by simp) ?_
 simp
 refine zac rfl (fun vs => vs = []) (fun _ => 0) rfl ?_
 rintro vs - rfl
 simp
 refine zac rfl (fun vs => vs = []) (fun _ => 0) rfl ?_
 rintro vs - rfl
 simp
theorem srtOk : zr6 PR f_slices_Sort_int := ⟨fun blk off cap zs w h1 h2 h3 => Tryz.slices_Sort_int blk off cap zs w h1 h2 h3, sort0⟩
theorem cptOk : zrx PR f_slices_Compact_int := ⟨fun blk off cap zs w h1 h2 h3 => Tryz.slices_Compact_int blk off cap zs w h1 h2 h3, fun a cap w => Tryz.slices_Compact_int_empty a cap w⟩
theorem EOk : EnvOk E := by
 refine ⟨fun f h => ?_, fun f h => ?_, delOk, fun g es h => ?_⟩
 ·have : f = f_slices_Compact_int := by simpa [E, cptF] using h
  rw [this]; exact cptOk
 ·have : f = f_slices_Sort_int := by simpa [E, srtF] using h
  rw [this]; exact srtOk
 ·have hall : (GL.all fun es => SE.wfs 0 (fun _ => false) es) = true := by kernel_rfl
  have hm : es ∈ GL := by
   have h : GL[g]? = some es := h
   exact List.mem_of_getElem? h
  exact List.all_eq_true.1 hall es hm
abbrev C (f : Nat) (avs : List AV) (r : AV) : Prop := zbR PR GL f avs r
theorem ctr {f n : Nat} {args : List SE} (vs : List AV) {rt : RT} (hrun : runF E f args n = rt) (hw : SE.wfs n (fun _ => false) args = true)
  (hp : AV.pureAll vs = true) {r : AV} (hr : r.pure = true) (h : RTwp PR GL (fun x => x = r) rt (fun _ _ => False) (zaH vs)) {avs : List AV} (ha : dens (zaH vs) args = avs) : C f avs r :=
 zil EOk Emix vs hrun hw hp hr h ha
theorem zbN {α : Type} (p : α → Bool) (l : List α) {i : Nat} (h : i < l.length) : (l.take (i + 1)).filter p = (l.take i).filter p ++ (if p l[i] = true then [l[i]] else []) := by
 rw [List.take_add_one, List.getElem?_eq_getElem h, List.filter_append]
 congr 1
 simp only [Option.toList_some, List.filter_cons, List.filter_nil]
theorem zcj {α : Type} (p : α → Bool) (l : List α) (i : Nat) : ((l.take i).filter p).length ≤ l.length := by
 have := List.length_filter_le p (l.take i)
 have : (l.take i).length ≤ l.length := by simp; omega
 omega
theorem zds {α β : Type} (f : α → List β) (l : List α) {i : Nat} (h : i < l.length) : (l.take (i + 1)).flatMap f = (l.take i).flatMap f ++ f l[i] := by
 rw [List.take_add_one, List.getElem?_eq_getElem h, List.flatMap_append]
 simp
theorem map_take {α β : Type} (f : α → β) (l : List α) {i : Nat} (h : i < l.length) : (l.take (i + 1)).map f = (l.take i).map f ++ [f l[i]] := by
 rw [List.take_add_one, List.getElem?_eq_getElem h, List.map_append]
 simp
@[simp] theorem zsh (c : Prop) [Decidable c] (a b : Bool) : (if c then AV.bool a else AV.bool b) = AV.bool (if c then a else b) := by split <;> rfl
@[simp] theorem zsA (c : Prop) [Decidable c] (k : IntKind) (a b : Int) : (if c then AV.int k a else AV.int k b) = AV.int k (if c then a else b) := by split <;> rfl
theorem call {ρ : Nat → AV} {R : AV → Prop} {L : Nat → List AV → Prop} {n f : Nat} {args : List SE} {bo : Bool} {ns : List Nd} {k : RT} {r : AV} {avs : List AV} (hc : C f avs r) (ha : dens ρ args = avs) (hb : bo = true → r.scalar = true)
  (h : RTwp PR GL R (.seg ns k) L (zaX ρ n r)) : RTwp PR GL R (.seg (.call n [] f args bo :: ns) k) L ρ := ziY (by rw [ha]; exact hc) hb h
theorem zak {ρ : Nat → AV} {R : AV → Prop} {L : Nat → List AV → Prop} {pcs : List (SE × Bool)} {n f : Nat} {args : List SE} {bo : Bool} {ns : List Nd} {k : RT} {avs : List AV} (r : AV) (hr : r.pure = true) (hc : Holds ρ pcs → dens ρ args = avs ∧ C f avs r) (hb : bo = true → r.scalar = true)
  (h : RTwp PR GL R (.seg ns k) L (zaX ρ n r)) : RTwp PR GL R (.seg (.call n pcs f args bo :: ns) k) L ρ := zp6 r hr (fun hp => ⟨by rw [(hc hp).1]; exact (hc hp).2, hb⟩) h
end Go.Lb.LK
namespace Go.Lb.LK
open Go Go.Lb Go.Proofs Go.RowKit
def stale (l : Lay) (im : Img) : Bool := decide (l.stale < im.age)
def zb0 (x n : Int) : Bool := decide (0 ≤ n) && (decide (n < 32) && x.toNat.testBit n.toNat)
theorem zpi {n : Int} (h0 : 0 ≤ n) (h1 : n ≤ 4294967295) : IntKind.u32.wrap n = n := by
 simp only [IntKind.wrap, IntKind.signed, IntKind.bits]
 simp
 omega
theorem zrl {n : Int} (h0 : 0 ≤ n) (h1 : n ≤ 4294967295) : IntKind.u64.wrap n = n := by
 simp only [IntKind.wrap, IntKind.signed, IntKind.bits]
 simp
 omega
theorem zth (n : Nat) : (2 : Int) ^ n = ((2 ^ n : Nat) : Int) := by simp
theorem zru (x n : Nat) : (((x &&& 2 ^ n : Nat) : Int) != 0) = x.testBit n := by
 cases h : x.testBit n
 ·have : x &&& 2 ^ n = 0 := by
   apply Nat.eq_of_testBit_eq
   intro i
   rw [Nat.testBit_and, Nat.testBit_two_pow, Nat.zero_testBit]
   by_cases hi : n = i
   ·subst hi; simp [h]
   ·simp [hi]
  rw [this]; rfl
 ·have : x &&& 2 ^ n ≠ 0 := by
   intro h0
   have := congrArg (Nat.testBit · n) h0
   simp [Nat.testBit_and, h] at this
  simpa using this
theorem g1 (x n : Nat) (hx : x ≤ 4294967295) (hn : n < 32) : (IntKind.u32.wrap ((x % 2 ^ IntKind.u32.bits &&& (IntKind.u32.wrap (2 ^ min n IntKind.u32.bits) % 2 ^ IntKind.u32.bits).toNat : Nat) : Int) != 0) = x.testBit n := by
 have hb : IntKind.u32.bits = 32 := rfl
 have h2 : 2 ^ n ≤ 2 ^ 31 := Nat.pow_le_pow_right (by omega) (by omega)
 have h1 : min n 32 = n := by omega
 have h4 : 2 ^ n ≤ 4294967295 := by omega
 generalize hp : 2 ^ n = p at h4
 rw [hb, h1, zth, hp, zpi (n := (p : Int)) (by omega) (by omega)]
 have e1 : ((p : Int) % 2 ^ 32).toNat = p := by omega
 have e2 : x % 2 ^ 32 = x := by omega
 have e3 : x &&& p ≤ x := Nat.and_le_left
 rw [e1, e2, zpi (by omega) (by omega), ← hp]
 exact zru x n
theorem g2 (x n : Nat) (hx : x ≤ 4294967295) (hn : n < 32) : (IntKind.u32.wrap ((((x : Int).fdiv (2 ^ min n IntKind.u32.bits) % 2 ^ IntKind.u32.bits).toNat &&& 1 % 2 ^ IntKind.u32.bits : Nat) : Int) == 1) = x.testBit n := by
 have hb : IntKind.u32.bits = 32 := rfl
 have h1 : min n 32 = n := by omega
 have e4 : Int.fdiv (x : Int) (2 ^ n) = ((x / 2 ^ n : Nat) : Int) := by
  rw [zth]
  exact (Int.ofNat_fdiv x (2 ^ n)).symm
 have h6 : x / 2 ^ n ≤ x := Nat.div_le_self _ _
 rw [hb, h1, e4]
 have e1 : (((x / 2 ^ n : Nat) : Int) % 2 ^ 32).toNat = x / 2 ^ n := by generalize x / 2 ^ n = q at h6; omega
 have e2 : 1 % 2 ^ 32 = 1 := rfl
 rw [e1, e2, Nat.and_one_is_mod, Nat.testBit_eq_decide_div_mod_eq]
 have := Nat.mod_two_eq_zero_or_one (x / 2 ^ n)
 rcases this with h | h <;> simp [h] <;> decide
theorem zqQ (x : Int) : C f_image_bit [W x] (.clo f_image_bit_1 [] [.ref [W x] 0]) := by
 refine ctr [W x] run_image_bit rfl rfl rfl ?_ rfl
 unfold rt_image_bit
 simp
theorem znf (x n : Int) (h0 : 0 ≤ x) (h1 : x ≤ 4294967295) : C f_image_bit_1 [I n, .ref [W x] 0] (.bool (zb0 x n)) := by
 refine ctr [I n, W x] run_image_bit_1 rfl rfl rfl ?_ rfl
 unfold rt_image_bit_1
 obtain ⟨x, rfl⟩ : ∃ k : Nat, x = k := ⟨x.toNat, by omega⟩
 by_cases hn : 0 ≤ n
 ·obtain ⟨n, rfl⟩ : ∃ k : Nat, n = k := ⟨n.toNat, by omega⟩
  by_cases hn2 : n < 32
  ·have h3 : ((n : Nat) : Int) < 32 := by omega
   simp [zb0, h3]
   exact g1 x n (by omega) hn2
  ·have h3 : ¬ ((n : Nat) : Int) < 32 := by omega
   simp [zb0, h3]
 ·have h3 : ¬ (n ≥ 0) := by omega
  simp [zb0, hn, h3]
theorem zfS (x n : Int) (h0 : 0 ≤ x) (h1 : x ≤ 4294967295) : C f_lockbarref15_bit [W x, I n] (.bool (zb0 x n)) := by
 refine ctr [W x, I n] run_lockbarref15_bit rfl rfl rfl ?_ rfl
 unfold rt_lockbarref15_bit
 obtain ⟨x, rfl⟩ : ∃ k : Nat, x = k := ⟨x.toNat, by omega⟩
 by_cases hn : 0 ≤ n
 ·obtain ⟨n, rfl⟩ : ∃ k : Nat, n = k := ⟨n.toNat, by omega⟩
  by_cases hn2 : n < 32
  ·have h3 : ((n : Nat) : Int) < 32 := by omega
   have e1 : IntKind.u64.wrap (n : Int) = n := zrl (by omega) (by omega)
   simp [zb0, h3, e1]
   exact g2 x n (by omega) hn2
  ·have h3 : ¬ ((n : Nat) : Int) < 32 := by omega
   simp [zb0, h3]
 ·have h3 : ¬ (n ≥ 0) := by omega
  simp [zb0, hn, h3]
end Go.Lb.LK
namespace Go.Lb.LK
open Go Go.Lb Go.Proofs Go.RowKit
theorem zlY (a t : Int) : C f_tick_Late [I a, I t] (.bool (decide (t < a))) := by
 refine ctr [I a, I t] run_tick_Late rfl rfl rfl ?_ rfl
 unfold rt_tick_Late
 simp
theorem zpF (a t : Int) : C f_lockbarref03_Late [I a, I t] (.bool (decide (t < a))) := by
 refine ctr [I a, I t] run_lockbarref03_Late rfl rfl rfl ?_ rfl
 unfold rt_lockbarref03_Late
 simp
theorem li (l : Lay) (im : Img) : AV.pureAll (l.cells ++ im.cells) = true := by simp [zaf]
theorem lii (l : Lay) (im : Img) (s : Int) : AV.pureAll (l.cells ++ im.cells ++ [I s]) = true := by simp [zaf, AV.pureAll, AV.pure]
theorem zbe (l : Lay) (im : Img) : C f_image_Stale [l.av, im.av] (.bool (stale l im)) := by
 refine ctr (l.cells ++ im.cells) run_image_Stale rfl (li l im) rfl ?_ rfl
 unfold rt_image_Stale
 simp [Lay.cells, Img.cells]
 refine call (zlY im.age l.stale) (by simp) (by simp) ?_
 simp [stale]
theorem zbn (l : Lay) (im : Img) : C f_lockbarref15_Stale [l.av, im.av] (.bool (stale l im)) := by
 refine ctr (l.cells ++ im.cells) run_lockbarref15_Stale rfl (li l im) rfl ?_ rfl
 unfold rt_lockbarref15_Stale
 simp [Lay.cells, Img.cells]
 refine call (zpF im.age l.stale) (by simp) (by simp) ?_
 simp [stale]
abbrev cloB (x : Int) : AV := .clo f_image_bit_1 [] [.ref [W x] 0]
theorem zjZ (l : Lay) (im : Img) : C f_image_clear [l.av, im.av] (.clo f_image_clear_1 [] [.ref [.bool (stale l im)] 0, .ref [cloB im.occ] 0]) := by
 refine ctr (l.cells ++ im.cells) run_image_clear rfl (li l im) rfl ?_ rfl
 unfold rt_image_clear
 simp [Lay.cells, Img.cells]
 refine call (zbe l im) (by simp [Lay.cells, Img.cells]) (by simp) ?_
 simp
 refine call (zqQ im.occ) (by simp) (by simp) ?_
 simp
theorem ziC (s occ : Int) (st : Bool) (h0 : 0 ≤ occ) (h1 : occ ≤ 4294967295) : C f_image_clear_1 [I s, .ref [.bool st] 0, .ref [cloB occ] 0] (.bool (!st && !zb0 occ s)) := by
 refine ctr [I s, .bool st, W occ] run_image_clear_1 rfl rfl rfl ?_ rfl
 unfold rt_image_clear_1
 simp
 refine zak (avs := [I s, .ref [W occ] 0]) (.bool (zb0 occ s)) rfl (fun _ => ⟨by simp, znf occ s h0 h1⟩) (by simp) ?_
 cases st <;> simp
def told (l : Lay) (im : Img) (s : Int) : Bool := decide (0 ≤ s ∧ s < l.secs.length ∧ s < 24) && (!stale l im && zb0 im.occ s)
def zag (l : Lay) (im : Img) (s : Int) : Bool := !decide (0 ≤ s ∧ s < l.secs.length ∧ s < 24) || (stale l im || (zb0 im.occ s || decide (im.free s.toNat < l.clear)))
theorem zo3 {x s : Int} (h : ¬ 0 ≤ s) : zb0 x s = false := by simp [zb0, h]
theorem zeg (l : Lay) (im : Img) (hi : im.ok) (s : Int) : C f_image_Told [l.av, im.av, I s] (.bool (told l im s)) := by
 refine ctr (l.cells ++ im.cells ++ [I s]) run_image_Told rfl (lii l im s) rfl ?_ rfl
 unfold rt_image_Told
 simp [Lay.cells, Img.cells]
 refine zak (avs := [W im.occ]) (cloB im.occ) rfl (fun _ => ⟨by simp, zqQ im.occ⟩) (by simp) ?_
 simp
 refine zak (avs := [I s, .ref [W im.occ] 0]) (.bool (zb0 im.occ s)) rfl (fun _ => ⟨by simp, znf im.occ s hi.1.1 hi.1.2⟩) (by simp) ?_
 simp
 refine zak (avs := [l.av, im.av]) (.bool (stale l im)) rfl (fun _ => ⟨by simp [Lay.cells, Img.cells], zbe l im⟩) (by simp) ?_
 by_cases h1 : s < l.secs.length <;> by_cases h2 : s < 24 <;> by_cases h0 : 0 ≤ s
 all_goals first | simp [told, h1, h2, h0, zo3 h0, Int.lt_min] | simp [told, h1, h2, h0, Int.lt_min]
 ·cases stale l im <;> cases zb0 im.occ s <;> simp
end Go.Lb.LK
namespace Go.Lb.LK
open Go Go.Lb Go.Proofs Go.RowKit
theorem zoJ (im : Img) (s : Int) (h0 : 0 ≤ s) (h1 : s < 24) : im.cells.getD (s.toNat * 1 + 1) .undef = I (im.free s.toNat) := by
 rw [Nat.mul_one]; exact zq1 im (by omega) _
theorem zgy (im : Img) (s : Int) (h0 : 0 ≤ s) (h1 : s < 24) : (im.cells[s.toNat * 1 + 1]?).getD .undef = I (im.free s.toNat) := by
 rw [← List.getD_eq_getElem?_getD]; exact zoJ im s h0 h1
def atP (l : Lay) (im : Img) (p : Int) : Int :=
 if 0 ≤ p ∧ p < l.secs.length ∧ (l.secs[p.toNat]?.map (·.kind)) = some 2 ∧ stale l im = false then
  (if zb0 im.nor p = zb0 im.rev p then -1 else if zb0 im.nor p = true then 0 else 1) else -1
theorem zaq (l : Lay) (im : Img) (hi : im.ok) (s : Int) : C f_image_Occupied [l.av, im.av, I s] (.bool (zag l im s)) := by
 refine ctr (l.cells ++ im.cells ++ [I s]) run_image_Occupied rfl (lii l im s) rfl ?_ rfl
 unfold rt_image_Occupied
 simp [Lay.cells, Img.cells]
 by_cases hr : 0 ≤ s ∧ s < l.secs.length ∧ s < 24
 ·have h1 : ¬ s < 0 := by omega
  have h2 : ¬ min (l.secs.length : Int) 24 ≤ s := by omega
  simp [h1, h2]
  intro _ _
  refine call (zjZ l im) (by simp [Lay.cells, Img.cells]) (by simp) ?_
  simp [stale]
  refine call (ziC s im.occ (stale l im) hi.1.1 hi.1.2) (by simp [stale]) (by simp) ?_
  have hc := zgy im s hr.1 hr.2.2
  simp only [Img.cells] at hc
  simp at hc
  simp [hc, zag, hr]
  refine ⟨fun _ => by omega, ?_⟩
  cases stale l im <;> cases zb0 im.occ s <;> simp
 ·have h1 : s < 0 ∨ min (l.secs.length : Int) 24 ≤ s := by omega
  rcases h1 with h1 | h1
  ·have h2 : ¬ 0 ≤ s := by omega
   simp [zag, h1, h2]
  ·have h2 : 0 ≤ s := by omega
   have h3 : ¬ s < 0 := by omega
   have h5 : ¬ s < min (l.secs.length : Int) 24 := by omega
   simp [zag, h1, h2, h3, h5]
   exact .inl (by omega)
theorem zaW (l : Lay) (im : Img) (hi : im.ok) (s : Int) : C f_lockbarref15_Occupied [l.av, im.av, I s] (.bool (zag l im s)) := by
 refine ctr (l.cells ++ im.cells ++ [I s]) run_lockbarref15_Occupied rfl (lii l im s) rfl ?_ rfl
 unfold rt_lockbarref15_Occupied
 simp [Lay.cells, Img.cells]
 by_cases hr : 0 ≤ s ∧ s < l.secs.length ∧ s < 24
 ·have h1 : ¬ s < 0 := by omega
  have h2 : ¬ (l.secs.length : Int) ≤ s := by omega
  have h3 : ¬ 24 ≤ s := by omega
  simp [h1, h2, h3]
  intro _ _ _
  refine call (zbn l im) (by simp [Lay.cells, Img.cells]) (by simp) ?_
  simp
  refine zak (avs := [W im.occ, I s]) (.bool (zb0 im.occ s)) rfl (fun _ => ⟨by simp, zfS im.occ s hi.1.1 hi.1.2⟩) (by simp) ?_
  have hc := zgy im s hr.1 hr.2.2
  simp only [Img.cells] at hc
  simp at hc
  simp [hc, zag, hr]
  refine ⟨?_, ?_⟩
  ·intros; omega
  ·cases stale l im <;> cases zb0 im.occ s <;> simp
 ·have h1 : s < 0 ∨ (l.secs.length : Int) ≤ s ∨ 24 ≤ s := by omega
  by_cases h2 : s < 0
  ·have h0 : ¬ 0 ≤ s := by omega
   simp [zag, h2, h0]
  ·by_cases h3 : (l.secs.length : Int) ≤ s
   ·simp [zag, h2, h3]
    intros; omega
   ·have h4 : 24 ≤ s := by omega
    simp [zag, h2, h3, h4]
    intros; omega
theorem zc5 (l : Lay) (im : Img) (hi : im.ok) (p : Int) : C f_image_At [l.av, im.av, I p] (I (atP l im p)) := by
 refine ctr (l.cells ++ im.cells ++ [I p]) run_image_At rfl (lii l im p) rfl ?_ rfl
 unfold rt_image_At
 simp [Lay.cells, Img.cells]
 by_cases hr : 0 ≤ p ∧ p < l.secs.length
 ·obtain ⟨n, rfl⟩ : ∃ n : Nat, p = n := ⟨p.toNat, by omega⟩
  have hlt : n < l.secs.length := by omega
  have h1 : ¬ ((n : Nat) : Int) < 0 := by omega
  have h2 : ¬ (l.secs.length : Int) ≤ n := by omega
  simp [h1, h2, hlt, Sec.cells]
  refine zak (avs := [l.av, im.av]) (.bool (stale l im)) rfl (fun _ => ⟨by simp [Lay.cells, Img.cells], zbe l im⟩) (by simp) ?_
  by_cases hk : (l.secs[n]).kind = 2
  ·simp [hk, hlt, Sec.cells]
   cases hs : stale l im
   ·simp
    refine ⟨fun h => absurd h (by omega), ?_⟩
    refine call (zqQ im.nor) (by simp) (by simp) ?_
    simp
    refine call (znf im.nor n hi.2.1.1 hi.2.1.2) (by simp) (by simp) ?_
    simp
    refine call (zqQ im.rev) (by simp) (by simp) ?_
    simp
    refine call (znf im.rev n hi.2.2.1.1 hi.2.2.1.2) (by simp) (by simp) ?_
    simp [atP, hlt, hk, hs]
    cases zb0 im.nor n <;> cases zb0 im.rev n <;> simp
   ·simp [atP, hs]
  ·simp [hk, hlt, Sec.cells, atP]
 ·have h3 : p < 0 ∨ (l.secs.length : Int) ≤ p := by omega
  have ha : atP l im p = -1 := by
   unfold atP; rw [if_neg (by omega)]
  rw [ha]
  rcases h3 with h3 | h3
  ·have h5 : ¬ 0 ≤ p := by omega
   simp [h3, h5]
   refine zak (avs := [l.av, im.av]) (.bool (stale l im)) rfl (fun _ => ⟨by simp [Lay.cells, Img.cells], zbe l im⟩) (by simp) ?_
   simp [h3, h5]
  ·have h4 : ¬ p < 0 := by omega
   have h5 : ¬ p < l.secs.length := by omega
   simp [h3, h4, h5]
   refine zak (avs := [l.av, im.av]) (.bool (stale l im)) rfl (fun _ => ⟨by simp [Lay.cells, Img.cells], zbe l im⟩) (by simp) ?_
   simp [h3, h4, h5]
theorem zfi (l : Lay) (im : Img) (hi : im.ok) (p : Int) : C f_lockbarref15_At [l.av, im.av, I p] (I (atP l im p)) := by
 refine ctr (l.cells ++ im.cells ++ [I p]) run_lockbarref15_At rfl (lii l im p) rfl ?_ rfl
 unfold rt_lockbarref15_At
 simp [Lay.cells, Img.cells]
 by_cases hr : 0 ≤ p ∧ p < l.secs.length
 ·obtain ⟨n, rfl⟩ : ∃ n : Nat, p = n := ⟨p.toNat, by omega⟩
  have hlt : n < l.secs.length := by omega
  have h1 : ¬ ((n : Nat) : Int) < 0 := by omega
  have h2 : ¬ (l.secs.length : Int) ≤ n := by omega
  simp [h1, h2, hlt, Sec.cells]
  refine zak (avs := [l.av, im.av]) (.bool (stale l im)) rfl (fun _ => ⟨by simp [Lay.cells, Img.cells], zbn l im⟩) (by simp) ?_
  by_cases hk : (l.secs[n]).kind = 2
  ·simp [hk, hlt, Sec.cells]
   cases hs : stale l im
   ·simp
    refine ⟨fun h => absurd h (by omega), ?_⟩
    refine call (zfS im.nor n hi.2.1.1 hi.2.1.2) (by simp) (by simp) ?_
    simp
    refine call (zfS im.rev n hi.2.2.1.1 hi.2.2.1.2) (by simp) (by simp) ?_
    simp [atP, hlt, hk, hs]
    cases zb0 im.nor n <;> cases zb0 im.rev n <;> simp
   ·simp [atP, hs]
  ·simp [hk, hlt, Sec.cells, atP]
 ·have h3 : p < 0 ∨ (l.secs.length : Int) ≤ p := by omega
  have ha : atP l im p = -1 := by
   unfold atP; rw [if_neg (by omega)]
  rw [ha]
  rcases h3 with h3 | h3
  ·have h5 : ¬ 0 ≤ p := by omega
   simp [h3, h5]
   refine zak (avs := [l.av, im.av]) (.bool (stale l im)) rfl (fun _ => ⟨by simp [Lay.cells, Img.cells], zbn l im⟩) (by simp) ?_
   simp [h3, h5]
  ·have h4 : ¬ p < 0 := by omega
   have h5 : ¬ p < l.secs.length := by omega
   simp [h3, h4, h5]
   refine zak (avs := [l.av, im.av]) (.bool (stale l im)) rfl (fun _ => ⟨by simp [Lay.cells, Img.cells], zbn l im⟩) (by simp) ?_
   simp [h3, h4, h5]
end Go.Lb.LK
