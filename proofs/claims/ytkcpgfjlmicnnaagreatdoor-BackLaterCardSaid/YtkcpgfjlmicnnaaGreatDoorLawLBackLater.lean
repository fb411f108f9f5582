/- What functions come to, printed by a program, checked by the kernel. -/
import Derived.Test.YtkcpgfjlmicnnaaGreatDoorCh1
import Derived.Test.YtkcpgfjlmicnnaaGreatDoorCh6
import Derived.Test.YtkcpgfjlmicnnaaGreatDoorCh3
import Derived.Test.YtkcpgfjlmicnnaaGreatDoorRows
import Derived.Test.YtkcpgfjlmicnnaaGreatDoorTie
import Derived.Test.YtkcpgfjlmicnnaaGreatDoorCards
import Derived.ProofKit
import Derived.LaidMore
import Derived.OpenShut
import Derived.Stop.Joined
import Derived.SevenTiedAt
set_option linter.unusedSimpArgs false
set_option linter.unusedVariables false
namespace Go.Lb.LK
open Go Go.Lb Go.Proofs
noncomputable section
@[simp] def qbl_0 : SE := pk (.inp 87) bT (nt (.inp 88))
@[simp] def qbl_1 : SE := bi .lss (ln (.inp 86)) (zi 1)
@[simp] def qbl_2 : SE := pk qbl_0 bT qbl_1
@[simp] def qbl_3 : SE := bi .gtr (ln (.inp 86)) (zi 40)
@[simp] def qbl_4 : SE := pk qbl_2 bT qbl_3
@[simp] def qbl_5 : SE := pk qbl_4 bT (bi .lss (.inp 7) (zi 1))
@[simp] def qbl_6 : SE := bi .gtr (.inp 7) (zi 20)
@[simp] def qbl_7 : SE := .agg (ptx (.inp 94) 0 29)
@[simp] def qbl_8 : SE := ei 23 (.inp 12) (.inp 97)
@[simp] def qbl_9 : SE := .app (.eoff 1) [qbl_8]
@[simp] def qbl_10 : SE := .app (.eoff 0) [qbl_9]
@[simp] def qbl_11 : SE := e1 qbl_10
@[simp] def qbl_12 : SE := bi .add (.inp 97) (zi 1)
@[simp] def qbl_13 : SE := pk (nt (tp 1 (.inp 95))) (.inp 98) bF
@[simp] def qbl_14 : SE := ei 23 (.inp 12) (.inp 96)
@[simp] def qbl_15 : SE := el 23 qbl_14
@[simp] def qbl_16 : SE := pt 6 qbl_15
@[simp] def qbl_17 : SE := bi .neq qbl_16 (.int .u8 2)
@[simp] def qbl_18 : SE := pt 22 qbl_15
@[simp] def qbl_19 : SE := nt qbl_18
@[simp] def qbl_20 : SE := pk qbl_17 bT qbl_19
@[simp] def qbl_21 : SE := ln (pt 1 (tp 0 (.inp 95)))
@[simp] def qbl_22 : SE := bi .neq qbl_21 (ln (.inp 12))
@[simp] def qbl_23 : SE := pk (nt (tp 1 (.inp 95))) bT qbl_22
@[simp] def qbl_24 : SE := ei 23 (pt 1 (tp 0 (.inp 95))) (.inp 96)
@[simp] def qbl_25 : SE := .app (.eoff 6) [qbl_24]
@[simp] def qbl_26 : SE := e1 qbl_25
@[simp] def qbl_27 : SE := bi .neq qbl_26 (.int .u8 4)
@[simp] def qbl_28 : SE := pk qbl_23 bT qbl_27
@[simp] def qbl_29 : SE := .app (.eoff 21) [qbl_24]
@[simp] def qbl_30 : SE := e1 qbl_29
@[simp] def qbl_31 : SE := bi .neq qbl_30 (.inp 7)
@[simp] def qbl_32 : SE := el 23 qbl_24
@[simp] def qbl_33 : SE := ei 4 (.inp 86) (.inp 105)
@[simp] def qbl_34 : SE := pt 3 qbl_15
@[simp] def qbl_35 : SE := ln qbl_34
@[simp] def qbl_36 : SE := pt 7 qbl_15
@[simp] def qbl_37 : SE := bi .geq (.inp 161) qbl_36
@[simp] def qbl_38 : SE := ei 3 qbl_34 (.inp 161)
@[simp] def qbl_39 : SE := .app (.eoff 0) [qbl_38]
@[simp] def qbl_40 : SE := .agg (ptx (.inp 158) 0 29)
@[simp] def qbl_41 : SE := e1 qbl_39
@[simp] def qbl_42 : SE := pk qbl_37 (.inp 162) bF
@[simp] def qbl_43 : SE := pk qbl_37 (.inp 165) bF
@[simp] def qbl_44 : SE := .agg (ptx (tp 0 (.inp 162)) 0 23)
@[simp] def qbl_45 : SE := pk (tp 1 (.inp 162)) bT (nt (.inp 164))
@[simp] def qbl_46 : SE := bi .add (.inp 105) (zi 1)
@[simp] def qbl_47 : SE := bi .eql (pt 6 (tp 0 (.inp 162))) (.int .u8 3)
@[simp] def qbl_48 : SE := pk (nt (tp 1 (.inp 162))) qbl_47 bF
@[simp] def qbl_49 : SE := pk qbl_48 (.inp 165) bF
@[simp] def qbl_50 : SE := bi .add (.inp 104) (zi 1)
@[simp] def qbl_51 : SE := bi .eql qbl_50 (.inp 7)
@[simp] def qbl_52 : SE := .app (.eqb true) [tp 1 (.inp 162), qbl_51]
@[simp] def qbl_53 : SE := bi .neq (pt 6 (tp 0 (.inp 162))) (.int .u8 4)
@[simp] def qbl_54 : SE := pk qbl_52 bT qbl_53
@[simp] def qbl_55 : SE := bi .sub (.inp 7) qbl_50
@[simp] def qbl_56 : SE := bi .neq (pt 21 (tp 0 (.inp 162))) qbl_55
def rt_lockbarlaw22_BackLater : RT :=
 ck (.isAgg 11) [.agg (ipx 0 11)] <|
 ck (.isAgg 74) [.agg (ipx 11 74)] <|
.seg [.call 87 [] 7 [.agg (ipx 0 11)] false] <|
.seg [.call 88 [(.inp 87, false)] 20 [.agg (ipx 11 74)] false] <|
 ckg (.inp 87) false (.un .not) [.inp 88] <|
 ck .pick [.inp 87, bT, nt (.inp 88)] <|
 ckg (qbl_0) false .len [.inp 86] <|
 ckg (qbl_0) false (.bin .lss) [ln (.inp 86), zi 1] <|
 ck .pick [qbl_0, bT, qbl_1] <|
 ckg (qbl_2) false .len [.inp 86] <|
 ckg (qbl_2) false (.bin .gtr) [ln (.inp 86), zi 40] <|
 ck .pick [qbl_2, bT, qbl_3] <|
 ckg (qbl_4) false (.bin .lss) [.inp 7, zi 1] <|
 ck .pick [qbl_4, bT, bi .lss (.inp 7) (zi 1)] <|
 ckg (qbl_5) false (.bin .gtr) [.inp 7, zi 20] <|
 ck .pick [qbl_5, bT, qbl_6] <|
.seg [.bind 89 (qbl_2),
.bind 90 (qbl_4),
.bind 91 (qbl_5),
.bind 92 (pk qbl_5 bT qbl_6)] <|
.cond (.inp 92)
 (.seg [.call 93 [] 9 [] false] <|
.ret (.inp 93))
 (.seg [.call 93 [] 22 [] false,
.chk [] (.eidx 4) [.inp 86, zi 0],
.chk [] (.eload 4 true) [ei 4 (.inp 86) (zi 0)],
.call 94 [] 21 [.agg (ipx 0 11), .inp 93, el 4 (ei 4 (.inp 86) (zi 0))] false,
.chk [] (.isAgg 29) [.inp 94]] <|
.seg [.call 95 [] 10 [.agg (ipx 0 11), qbl_7, .agg (ipx 11 74), .inp 85] false] <|
 ck (.tproj 0) [.inp 95] <|
 ck (.tproj 1) [.inp 95] <|
 ck (.isAgg 74) [tp 0 (.inp 95)] <|
.loop 0 96 [zi (-1), zi 0] <|
 ck .len [.inp 12] <|
 ck (.bin .lss) [.inp 97, ln (.inp 12)] <|
.cond (bi .lss (.inp 97) (ln (.inp 12)))
 (ck (.eidx 23) [.inp 12, .inp 97] <|
 ck (.eoff 1) [qbl_8] <|
 ck (.eoff 0) [qbl_9] <|
 ck (.eload 1 false) [qbl_10] <|
 ck (.bin .eql) [qbl_11, .inp 85] <|
.cond (bi .eql qbl_11 (.inp 85))
 (ck (.bin .add) [.inp 97, zi 1] <|
.again 0 [.inp 97, qbl_12])
 (ck (.bin .add) [.inp 97, zi 1] <|
.again 0 [.inp 96, qbl_12]))
 (ck (.bin .lss) [.inp 96, zi 0] <|
.cond (bi .lss (.inp 96) (zi 0))
 (ck (.un .not) [tp 1 (.inp 95)] <|
.seg [.call 98 [(nt (tp 1 (.inp 95)), true)] 14 [.agg (ptx (tp 0 (.inp 95)) 0 74), .agg (ipx 11 74)] false] <|
 ck .pick [nt (tp 1 (.inp 95)), .inp 98, bF] <|
.seg [.call 99 [(qbl_13, true)] 9 [] false] <|
 ck .pick [qbl_13, .inp 99, bF] <|
.ret (pk qbl_13 (.inp 99) bF))
 (ck (.eidx 23) [.inp 12, .inp 96] <|
 ck (.eload 23 true) [qbl_14] <|
 ck (.isAgg 23) [qbl_15] <|
 ck (.bin .neq) [qbl_16, .int .u8 2] <|
 ckg (qbl_17) false (.un .not) [qbl_18] <|
 ck .pick [qbl_17, bT, qbl_19] <|
.seg [.call 98 [(qbl_20, false)] 18 [.agg (ipx 0 11), qbl_7, .inp 85] false] <|
 ckg (qbl_20) false (.un .not) [.inp 98] <|
 ck .pick [qbl_20, bT, nt (.inp 98)] <|
.seg [.bind 99 (qbl_20),
.bind 100 (pk qbl_20 bT (nt (.inp 98)))] <|
.cond (.inp 100)
 (.seg [.call 101 [] 9 [] false] <|
.ret (.inp 101))
 (.seg [.chk [] (.un .not) [tp 1 (.inp 95)],
.chk [(nt (tp 1 (.inp 95)), false)] .len [pt 1 (tp 0 (.inp 95))],
.chk [(nt (tp 1 (.inp 95)), false)] .len [.inp 12],
.chk [(nt (tp 1 (.inp 95)), false)] (.bin .neq) [qbl_21, ln (.inp 12)],
.chk [] .pick [nt (tp 1 (.inp 95)), bT, qbl_22],
.chk [(qbl_23, false)] (.eidx 23) [pt 1 (tp 0 (.inp 95)), .inp 96],
.chk [(qbl_23, false)] (.eoff 6) [qbl_24],
.chk [(qbl_23, false)] (.eload 1 false) [qbl_25],
.chk [(qbl_23, false)] (.bin .neq) [qbl_26, .int .u8 4],
.chk [] .pick [qbl_23, bT, qbl_27],
.chk [(qbl_28, false)] (.eidx 23) [pt 1 (tp 0 (.inp 95)), .inp 96],
.chk [(qbl_28, false)] (.eoff 21) [qbl_24],
.chk [(qbl_28, false)] (.eload 1 false) [qbl_29],
.chk [(qbl_28, false)] (.bin .neq) [qbl_30, .inp 7],
.chk [] .pick [qbl_28, bT, qbl_31]] <|
.seg [.bind 101 (qbl_23),
.bind 102 (qbl_28),
.bind 103 (pk qbl_28 bT qbl_31)] <|
.cond (.inp 103)
 (.ret (bF))
 (ck (.eidx 23) [pt 1 (tp 0 (.inp 95)), .inp 96] <|
 ck (.eload 23 true) [qbl_24] <|
 ck (.isAgg 23) [qbl_32] <|
.loop 0 104 (ap [zi 0, zi 1] (ap (ptx (.inp 94) 0 29) (ptx (qbl_32) 0 23))) <|
 ck .len [.inp 86] <|
 ck (.bin .lss) [.inp 105, ln (.inp 86)] <|
.cond (bi .lss (.inp 105) (ln (.inp 86)))
 (.seg [.chk [] (.eidx 4) [.inp 86, .inp 105],
.chk [] (.eload 4 true) [qbl_33],
.call 158 [] 21 [.agg (ipx 0 11), .agg (ipx 106 29), el 4 qbl_33] false,
.chk [] (.isAgg 29) [.inp 158]] <|
.loop 1 159 [bF, bF, zi 0] <|
 ck .len [qbl_34] <|
 ck (.bin .lss) [.inp 161, qbl_35] <|
.cond (bi .lss (.inp 161) qbl_35)
 (.seg [.chk [(.inp 159, false)] (.bin .geq) [.inp 161, qbl_36],
.chk [(qbl_37, true), (.inp 159, false)] (.eidx 3) [qbl_34, .inp 161],
.chk [(qbl_37, true), (.inp 159, false)] (.eoff 0) [qbl_38],
.chk [(qbl_37, true), (.inp 159, false)] (.eload 1 false) [qbl_39],
.call 162 [(qbl_37, true), (.inp 159, false)] 23 [.agg (ipx 0 11), qbl_40, qbl_41] false,
.chk [(.inp 159, false)] .pick [qbl_37, .inp 162, bF],
.chk [] .pick [.inp 159, bT, qbl_42]] <|
.seg [.bind 163 (pk (.inp 159) bT qbl_42),
.bind 164 (qbl_42)] <|
.seg [.chk [(.inp 160, false)] (.bin .geq) [.inp 161, qbl_36],
.chk [(qbl_37, true), (.inp 160, false)] (.eidx 3) [qbl_34, .inp 161],
.chk [(qbl_37, true), (.inp 160, false)] (.eoff 0) [qbl_38],
.chk [(qbl_37, true), (.inp 160, false)] (.eload 1 false) [qbl_39],
.call 165 [(qbl_37, true), (.inp 160, false)] 24 [.agg (ipx 0 11), qbl_40, qbl_41] false,
.chk [(.inp 160, false)] .pick [qbl_37, .inp 165, bF],
.chk [] .pick [.inp 160, bT, qbl_43]] <|
.seg [.bind 166 (pk (.inp 160) bT qbl_43),
.bind 167 (qbl_43)] <|
 ck (.bin .add) [.inp 161, zi 1] <|
.again 1 [.inp 163, .inp 166, bi .add (.inp 161) (zi 1)])
 (.seg [.call 162 [] 12 [.agg (ipx 0 11), qbl_40, .agg (ipx 135 23)] false] <|
 ck (.tproj 0) [.inp 162] <|
 ck (.tproj 1) [.inp 162] <|
 ck (.isAgg 23) [tp 0 (.inp 162)] <|
.seg [.call 163 [] 25 [.agg (ipx 0 11), qbl_40] false] <|
.cond (.inp 163)
 (.seg [.call 164 [(tp 1 (.inp 162), false)] 15 [qbl_44, .agg (ipx 135 23)] false] <|
 ckg (tp 1 (.inp 162)) false (.un .not) [.inp 164] <|
 ck .pick [tp 1 (.inp 162), bT, nt (.inp 164)] <|
.cond (qbl_45)
 (.ret (bF))
 (ck (.bin .add) [.inp 105, zi 1] <|
.again 0 (ap [.inp 104, qbl_46] (ap (ptx (.inp 158) 0 29) (ipx 135 23)))))
 (.cond (.inp 160)
 (.seg [.chk [] (.un .not) [tp 1 (.inp 162)],
.chk [(nt (tp 1 (.inp 162)), true)] (.bin .eql) [pt 6 (tp 0 (.inp 162)), .int .u8 3],
.chk [] .pick [nt (tp 1 (.inp 162)), qbl_47, bF],
.call 164 [(qbl_48, true)] 26 [.agg (ipx 0 11), qbl_40, .agg (ap (ipx 135 6) (ap [.int .u8 3] (ap (ipx 142 14) [zi 0, .inp 157])))] false,
.call 165 [(qbl_48, true)] 15 [qbl_44, .inp 164] false,
.chk [] .pick [qbl_48, .inp 165, bF],
.call 166 [(qbl_49, true)] 9 [] false,
.chk [] .pick [qbl_49, .inp 166, bF]] <|
.seg [.bind 167 (pk qbl_49 (.inp 166) bF),
.bind 168 (qbl_48),
.bind 169 (qbl_49)] <|
.ret (.inp 167))
 (.cond (.inp 159)
 (.seg [.call 164 [(tp 1 (.inp 162), false)] 15 [qbl_44, .agg (ipx 135 23)] false] <|
 ckg (tp 1 (.inp 162)) false (.un .not) [.inp 164] <|
 ck .pick [tp 1 (.inp 162), bT, nt (.inp 164)] <|
.cond (qbl_45)
 (.ret (bF))
 (ck (.bin .add) [.inp 105, zi 1] <|
.again 0 (ap [.inp 104, qbl_46] (ap (ptx (.inp 158) 0 29) (ipx 135 23)))))
 (ck (.bin .add) [.inp 104, zi 1] <|
 ck (.bin .eql) [qbl_50, .inp 7] <|
 ck (.eqb true) [tp 1 (.inp 162), qbl_51] <|
 ckg (qbl_52) false (.bin .neq) [pt 6 (tp 0 (.inp 162)), .int .u8 4] <|
 ck .pick [qbl_52, bT, qbl_53] <|
 ckg (qbl_54) false (.bin .sub) [.inp 7, qbl_50] <|
 ckg (qbl_54) false (.bin .neq) [pt 21 (tp 0 (.inp 162)), qbl_55] <|
 ck .pick [qbl_54, bT, qbl_56] <|
.seg [.bind 164 (qbl_54),
.bind 165 (pk qbl_54 bT qbl_56)] <|
.cond (.inp 165)
 (.ret (bF))
 (.cond (tp 1 (.inp 162))
 (.seg [.call 166 [] 9 [] false] <|
.ret (.inp 166))
 (ck (.isAgg 23) [qbl_44] <|
 ck (.bin .add) [.inp 105, zi 1] <|
.again 0 (ap [qbl_50, qbl_46] (ap (ptx (.inp 158) 0 29) (ptx (tp 0 (.inp 162)) 0 23))))))))))
 (.seg [.call 158 [] 9 [] false] <|
.ret (.inp 158)))))))
theorem run_lockbarlaw22_BackLater : runF E 4 [.agg (ips 0 11), .agg (ips 11 74), .inp 85, .inp 86] 87 = rt_lockbarlaw22_BackLater := by kernel_rfl
end
end Go.Lb.LK
namespace Go.Lb.LK
open Go Go.Lb Go.Proofs Go.RowKit
structure Inp where
 o : Int
 n : Int
 r : Int
 p : Int
def Inp.cells (x : Inp) : List AV := [W x.o, W x.n, W x.r, W x.p]
abbrev Inp.av (x : Inp) : AV := .agg x.cells
def Inp.ok (x : Inp) : Prop := (0 ≤ x.o ∧ x.o ≤ 4294967295) ∧ (0 ≤ x.n ∧ x.n ≤ 4294967295) ∧ (0 ≤ x.r ∧ x.r ≤ 4294967295) ∧ (0 ≤ x.p ∧ x.p ≤ 4294967295)
@[simp] theorem Inp.pure (x : Inp) : AV.pureAll x.cells = true := by simp [Inp.cells, AV.pureAll, AV.pure]
abbrev inps (l : List Inp) : AV := .sl (l.map Inp.av)
@[simp] theorem zom (l : List Inp) : AV.pureAll (l.map Inp.av) = true := za2 _ (fun x => by simp [AV.pure]) l
theorem zol {cs : List AV} (h : inT.fits cs) : ∃ s : Inp, AV.agg cs = s.av ∧ s.ok := by
 simp only [inT, uT, zbm, zaF, zaG, List.append_nil, List.cons_append, List.nil_append] at h
 obtain ⟨a0, q, rfl, h0, a1, q, rfl, h1, a2, q, rfl, h2, a3, q, rfl, h3, rfl⟩ := h
 simp only [zlO, zlN] at h0 h1 h2 h3
 exact ⟨⟨a0, a1, a2, a3⟩, rfl, h0, h1, h2, h3⟩
theorem znm {x : AV} (h : (TS.sl true inT).fits x.cells) (h2 : zdx false x) : ∃ l : List Inp, x = inps l ∧ ∀ s ∈ l, s.ok := by
 obtain ⟨es, rfl, _, h3⟩ := zoN h h2
 obtain ⟨l, rfl, hq⟩ := zhA (g := Inp.av) (Q := fun s => s.ok) (fun cs h => zol h) es h3
 exact ⟨l, rfl, hq⟩
def zlL (l : Lay) (im : Img) (x : Inp) : Img := zjs l im x.o x.n x.r x.p
theorem zjX (l : Lay) (im : Img) {x : Inp} (h : x.ok) : (zlL l im x).ok := h
theorem zkT (l : Lay) (im : Img) {x : Inp} (h : x.ok) : C f_lockbarref15_Take [l.av, im.av, x.av] (zlL l im x).av :=
 zd3 l im x.o x.n x.r x.p h.1.1 h.1.2 h.2.1.1 h.2.1.2 h.2.2.1.1 h.2.2.1.2 h.2.2.2.1 h.2.2.2.2
theorem zl4 {k : Kern} (hr : zaA k = true) {x : Int} {i : Nat} (hi : i < k.held.length) : atU k.held x (i + 1) = if k.held[i].path.sig = x then (i : Int) else atU k.held x i := by
 rw [zjz hi]
 by_cases hs : k.held[i].path.sig = x
 ·have : atU k.held x i < 0 ∨ idAt k.held (atU k.held x i) < k.held[i].id := by
   rcases zdz k.held x i with ha | ⟨m, ha, hm, hml⟩
   ·exact .inl (by omega)
   ·right; rw [ha, zld hml]
    exact zjd hr i hi m hm
  rw [if_pos hs, if_pos ⟨hs, this⟩]
 ·rw [if_neg hs, if_neg (fun h => hs h.1)]
theorem zkt (l : Lay) (im : Img) (h : Hd) : (runS l im h).stage = h.stage := by
 unfold runS; split <;> rfl
theorem zjt {l : Lay} {im : Img} {y : Hd} (hs : stale l im = true) : zcE l im y = (y, false) := by simp [zcE, hs]
theorem zkz {l : Lay} {im : Img} {y : Hd} (h4 : y.stage = 4) (hs : stale l im = false) (ht : zgd l im y = true) : zcE l im y = (runS l im { y with stage := 3, timer := 0 }, false) := by simp [zcE, h4, hs, ht]
theorem zmQ {l : Lay} {im : Img} {y : Hd} (h4 : y.stage = 4) (hs : stale l im = false) (ht : zgd l im y = false) (hi : inN l im y = true) : zcE l im y = (y, false) := by simp [zcE, h4, hs, ht, hi]
theorem zky {l : Lay} {im : Img} {y : Hd} (h4 : y.stage = 4) (hs : stale l im = false) (ht : zgd l im y = false) (hi : inN l im y = false) : zcE l im y = ({ y with timer := zh1 y.timer }, decide (zh1 y.timer = 0)) := by simp [zcE, h4, hs, ht, hi]
set_option maxRecDepth 100000 in
set_option maxHeartbeats 4000000 in
theorem ziZ (l : Lay) (hl : l.ok) (k : Kern) (hkw : k.wide) (hk : k.ok) (x : Int) (ins : List Inp) (hins : ∀ s ∈ ins, s.ok) : C f_lockbarlaw22_BackLater [l.av, k.av, I x, inps ins] (.bool true) := by
 refine ctr (l.cells ++ k.cells ++ [I x] ++ [inps ins]) run_lockbarlaw22_BackLater rfl (by simp [zaj, AV.pureAll, AV.pure]) rfl ?_ rfl
 unfold rt_lockbarlaw22_BackLater
 simp [Lay.cells, Kern.cells]
 refine call (zfo l) (by simp [Lay.cells]) (by simp) ?_
 simp
 refine zap (avs := [k.av]) (.bool (zaA k)) rfl (fun _ => ⟨by simp [Kern.cells], zdB k hkw hk⟩) (by simp) ?_
 cases g1 : zic l
 case true =>
  simp
  exact call zaV rfl (by simp) (by simp)
 cases g2 : zaA k
 case false =>
  simp
  exact call zaV rfl (by simp) (by simp)
 have hkl := zd6 hkw g2
 by_cases g3 : (1 ≤ ins.length ∧ ins.length ≤ 40) ∧ (1 ≤ l.approach ∧ l.approach ≤ 20)
 case neg =>
  have g3' : (ins.length : Int) < 1 ∨ 40 < (ins.length : Int) ∨ l.approach < 1 ∨ 20 < l.approach := by omega
  simp
  exact ⟨fun _ => call zaV rfl (by simp) (by simp), by intros; exfalso; omega⟩
 obtain ⟨⟨n1, n2⟩, a1, a2⟩ := g3
 have n1' : ¬ (ins.length : Int) < 1 := by omega
 have n2' : ¬ 40 < (ins.length : Int) := by omega
 have a1' : ¬ l.approach < 1 := by omega
 have a2' : ¬ 20 < l.approach := by omega
 have hi0 : 0 < ins.length := by omega
 simp [n1', n2', a1', a2']
 refine call zg5 rfl (by simp) ?_
 simp [hi0, Inp.cells]
 refine call (zkT l zcL (hins _ (List.getElem_mem hi0))) (by simp [Lay.cells, hi0, Inp.cells]) (by simp) ?_
 have him0 : (zlL l zcL ins[0]).ok := zjX l zcL (hins _ (List.getElem_mem hi0))
 generalize zlL l zcL ins[0] = im0 at him0 ⊢
 simp [Img.cells]
 refine call (zbw l hl im0 him0 k hkl x) (by simp [Lay.cells, Img.cells, Kern.cells]) (by simp) ?_
 have hk1 := hkl.1
 simp [Kern.cells]
 refine zae rfl (fun vs => ∃ i : Nat, i ≤ k.held.length ∧ vs = [I (atU k.held x i), I i]) (fun vs => match vs with | [_, .int _ j] => k.held.length - j.toNat | _ => 0) ⟨0, by omega, by simp [atU]⟩ ?_
 rintro vs - ⟨i, hi, rfl⟩
 by_cases hlt : i < k.held.length
 ·have hw := zaf (i := i) (by omega)
  have hst := zl4 g2 (x := x) hlt
  simp [hlt, Hd.cells, hw]
  refine ⟨fun hc => ⟨⟨i + 1, by omega, by rw [hst, if_pos hc], rfl⟩, by omega⟩, fun hc => ⟨⟨i + 1, by omega, by rw [hst, if_neg hc], rfl⟩, by omega⟩⟩
 have : i = k.held.length := by omega
 subst this
 rcases zdz k.held x k.held.length with ha | ⟨m, ha, hm, hml⟩
 ·have hcn : zaw l im0 k x = (k, false) := by simp [zaw, atK, ha]
  rw [ha, hcn]
  simp [Kern.cells]
  refine zap (avs := [k.av, k.av]) (.bool true) rfl (fun _ => ⟨by simp [Kern.cells], znE hkl⟩) (by simp) ?_
  simp [Kern.cells]
  refine zap (avs := []) (.bool true) rfl (fun _ => ⟨rfl, zaV⟩) (by simp) ?_
  simp
 ·have hsig : k.held[m].path.sig = x := zgZ ha _ (List.getElem?_eq_getElem hml)
  have hcn : zaw l im0 k x = za8 l im0 k m k.held[m] := by
   have : ¬ ((m : Int) < 0) := by omega
   simp [zaw, atK, ha, this, List.getElem?_eq_getElem hml]
  have hm0 : ¬ ((m : Int) < 0) := by omega
  have hhl := k.at hkl hml
  have hn := hhl.1
  rw [ha, hcn]
  generalize hh : k.held[m] = h at hsig hhl hn ⊢
  simp [hm0, hml, hh, Hd.cells]
  refine zap (avs := [l.av, im0.av, I x]) (.bool (zf8 l im0 x)) rfl (fun _ => ⟨by simp [Lay.cells, Img.cells], zb5 l hl im0 him0 x⟩) (by simp) ?_
  simp [hm0, hml, hh, Hd.cells]
  by_cases hc : h.stage = 2 ∧ h.shown = true ∧ zf8 l im0 x = true
  ·obtain ⟨h2, h3, h4⟩ := hc
   have hca : za8 l im0 k m h = ({ k with held := k.held.set m { h with stage := 4, timer := l.approach } }, true) := by
    simp [za8, zb7, zgr, h2, h3, hsig, h4]
   rw [hca]
   simp [h2, h3, h4, hml, Kern.cells, Hd.cells]
   refine zae rfl (fun vs => ∃ (n i : Nat) (im : Img), im.ok ∧ 1 ≤ i ∧ i ≤ ins.length ∧ (n : Int) < l.approach ∧ vs = I n :: I i :: (im.cells ++ ({ h with stage := 4, timer := l.approach - n } : Hd).cells)) (fun vs => match vs with | _ :: .int _ j :: _ => ins.length - j.toNat | _ => 0) ⟨0, 1, im0, him0, by omega, by omega, by omega, ?_⟩ ?_
   ·simp [Img.cells, Hd.cells, Kern.cells, hml, h3]
   rintro vs - ⟨n, i, im, him, hi1, hi2, hna, rfl⟩
   by_cases hil : i < ins.length
   ·have hii := hins _ (List.getElem_mem hil)
    simp [Img.cells, Hd.cells, hil, Inp.cells]
    refine call (zkT l im hii) (by simp [Lay.cells, Img.cells, hil, Inp.cells]) (by simp) ?_
    have him2 := zjX l im hii
    generalize zlL l im ins[i] = im2 at him2 ⊢
    simp [Img.cells]
    refine zae rfl (fun vs => ∃ j : Nat, j ≤ h.path.steps.length ∧ vs = [.bool (anyU (soAt (zai l im2) h) j), .bool (anyU (soAt (told l im2) h) j), I j]) (fun vs => match vs with | [_, _, .int _ j] => h.path.steps.length - j.toNat | _ => 0) ⟨0, by omega, by simp [zkI]⟩ ?_
    rintro vs - ⟨j, hj, rfl⟩
    by_cases hjl : j < h.path.steps.length
    ·have hwj := zaf (i := j) (by omega)
     have ho1 := zhR (soAt (zai l im2) h) j
     rw [zhB (q := zai l im2) hjl] at ho1
     have ht1 := zhR (soAt (told l im2) h) j
     rw [zhB (q := told l im2) hjl] at ht1
     simp [hml, hh, hjl, Hd.cells, Step.cells, hwj]
     refine zap (avs := [l.av, im2.av, I h.path.steps[j].s]) (.bool (zai l im2 h.path.steps[j].s)) rfl (fun _ => ⟨by simp [Lay.cells, Img.cells, hml, hh, hjl, Hd.cells, Step.cells], zd2 l im2 him2 _⟩) (fun _ => rfl) ?_
     simp [hml, hh, hjl, Hd.cells, Step.cells, hwj]
     refine zap (avs := [l.av, im2.av, I h.path.steps[j].s]) (.bool (told l im2 h.path.steps[j].s)) rfl (fun _ => ⟨by simp [Lay.cells, Img.cells, hml, hh, hjl, Hd.cells, Step.cells], zhW l im2 him2 _⟩) (fun _ => rfl) ?_
     simp [hml, hh, hjl, Hd.cells, Step.cells, hwj]
     exact ⟨⟨j + 1, by omega, ho1.symm, ht1.symm, rfl⟩, by omega⟩
    ·have : j = h.path.steps.length := by omega
     subst this
     have e1 : anyU (soAt (zai l im2) h) h.path.steps.length = inN l im2 h := rfl
     have e2 : anyU (soAt (told l im2) h) h.path.steps.length = zgd l im2 h := rfl
     rw [e1, e2]
     simp [hml, hh, Hd.cells]
     refine call (zcz l im2 him2 { h with stage := 4, timer := l.approach - n } hhl) (by simp [Lay.cells, Img.cells, Hd.cells]) (by simp) ?_
     have hwi := zaf (i := i) (by omega)
     cases hst : stale l im2
     ·cases htd : zgd l im2 h
      ·cases hin : inN l im2 h
       ·have hdt : zh1 (l.approach - n) = l.approach - (n + 1) := by
         unfold zh1
         rw [Int.max_eq_left (by omega), zaB] <;> omega
        have ht : zcE l im2 { h with stage := 4, timer := l.approach - n } = ({ h with stage := 4, timer := l.approach - (n + 1) }, decide (l.approach - (n + 1) = 0)) := by
         have := zky (y := ({ h with stage := 4, timer := l.approach - n } : Hd)) rfl hst htd hin
         simp only [hdt] at this
         exact this
        have hwn : IntKind.i64.wrap ((n : Int) + 1) = (n : Int) + 1 := by rw [zaB] <;> omega
        have hwa : IntKind.i64.wrap (l.approach - ((n : Int) + 1)) = l.approach - (n + 1) := by rw [zaB] <;> omega
        rw [ht]
        simp [Hd.cells]
        refine call (zbt l im2) (by simp [Lay.cells, Img.cells]) (fun _ => rfl) ?_
        rw [hst]
        have hbe : decide (l.approach - ((n : Int) + 1) = 0) = ((n : Int) + 1 == l.approach) := by
         rw [Bool.eq_iff_iff]; simp; omega
        simp [hwn, hwa, hwi, hbe, Hd.cells]
        refine ⟨fun _ => call zaV rfl (by simp) (by simp [zaC]), fun hne => ⟨⟨n + 1, i + 1, im2, him2, by omega, by omega, by omega, ?_⟩, by omega⟩⟩
        simp [Img.cells, Hd.cells]
       ·have ht := zmQ (y := ({ h with stage := 4, timer := l.approach - n } : Hd)) rfl hst htd hin
        rw [ht]
        simp [Hd.cells]
        refine call (zbt l im2) (by simp [Lay.cells, Img.cells]) (fun _ => rfl) ?_
        rw [hst]
        simp
        refine zap (avs := [({ h with stage := 4, timer := l.approach - n } : Hd).av, ({ h with stage := 4, timer := l.approach - n } : Hd).av]) (.bool true) rfl (fun _ => ⟨by simp [Hd.cells], zce (a := { h with stage := 4, timer := l.approach - n }) hhl⟩) (fun _ => rfl) ?_
        simp [hwi]
        refine ⟨⟨n, i + 1, im2, him2, by omega, by omega, by omega, ?_⟩, by omega⟩
        simp [Img.cells, Hd.cells]
      ·have ht := zkz (y := ({ h with stage := 4, timer := l.approach - n } : Hd)) rfl hst htd
       have hrs : (runS l im2 { h with stage := 3, timer := 0 }).stage = 3 := zkt _ _ _
       rw [ht]
       simp [Hd.cells, hrs]
       refine call (zbt l im2) (by simp [Lay.cells, Img.cells]) (fun _ => rfl) ?_
       rw [hst]
       simp [hrs, Hd.cells]
       refine zap (avs := [l.av, im2.av, ({ h with stage := 3, timer := 0 } : Hd).av]) (runS l im2 { h with stage := 3, timer := 0 }).av (by simp [AV.pure]) (fun _ => ⟨by simp [Lay.cells, Img.cells, Hd.cells], zmc l im2 him2 { h with stage := 3, timer := 0 } hhl (by simp)⟩) (by simp) ?_
       simp [hrs, Hd.cells]
       refine zap (avs := [(runS l im2 { h with stage := 3, timer := 0 }).av, (runS l im2 { h with stage := 3, timer := 0 }).av]) (.bool true) rfl (fun _ => ⟨by simp [Hd.cells, hrs], zce (zlC hhl)⟩) (by simp) ?_
       simp [hrs, Hd.cells]
       refine zap (avs := []) (.bool true) rfl (fun _ => ⟨rfl, zaV⟩) (by simp) ?_
       simp [hrs, Hd.cells]
     ·rw [zjt hst]
      simp [Hd.cells]
      refine call (zbt l im2) (by simp [Lay.cells, Img.cells]) (fun _ => rfl) ?_
      rw [hst]
      simp
      refine zap (avs := [({ h with stage := 4, timer := l.approach - n } : Hd).av, ({ h with stage := 4, timer := l.approach - n } : Hd).av]) (.bool true) rfl (fun _ => ⟨by simp [Hd.cells], zce (a := { h with stage := 4, timer := l.approach - n }) hhl⟩) (fun _ => rfl) ?_
      simp [hwi]
      refine ⟨⟨n, i + 1, im2, him2, by omega, by omega, by omega, ?_⟩, by omega⟩
      simp [Img.cells, Hd.cells]
   ·have hge : ins.length ≤ i := by omega
    simp [hil]
    exact call zaV rfl (by simp) (by simp [zaC])
  ·exact ⟨fun _ => call zaV rfl (by simp) (by simp), by intro a b c; exact absurd ⟨a, b, c⟩ hc⟩
end Go.Lb.LK
namespace Go.Lb.LK
open Go Go.Lb Go.Proofs Go.RowKit
theorem args4 : zm7 Tryz.prog 8 Tryz.f4.params.toList = [(true, layT), (true, zli), (false, iT), (false, .sl true inT)] := by kernel_rfl
theorem law4 {avs : List AV} (h : zgh Tryz.prog 8 Tryz.f4.params.toList avs) (hb : AV.wgts reachBytes avs) : C 4 avs (.bool true) := by
 have h := zdw _ _ h
 rw [args4] at h
 obtain ⟨x0, q, rfl, h0a, h0b, x1, q, rfl, h1a, h1b, x2, q, rfl, h2a, h2b, x3, q, rfl, h3a, h3b, rfl⟩ := h
 obtain ⟨l, rfl, hl⟩ := zll h0a h0b
 obtain ⟨k, rfl, hk⟩ := zjI h1a h1b
 obtain ⟨x, rfl⟩ := zle h2a h2b
 obtain ⟨ins, rfl, hins⟩ := znm h3a h3b
 have hkw : k.wide := zjJ (zcF hb _ (by simp))
 exact ziZ l hl k hkw hk x ins hins
end Go.Lb.LK
namespace Go.Proofs.YtkcpgfjlmicnnaaGreatDoor
open Go Go.ChangeShapes Go.WideShapes Go.ChangeAt Go.RowKit Go.Lb Go.Lb.LK
theorem own4 : ownKnob Tryz.prog.godebug = none := by kernel_rfl
theorem zmr : laidOutB Tryz.prog = true := by kernel_rfl
theorem zkZ (os : Os) (args : Array Value) : laidMetH Tryz.prog Rows.backLaterRow.laid ((World.doorLaid Tryz.prog 400 os).forCall (fun _ _ => 0) ⟨#[], args, []⟩).memory :=
 laidMetH_of_parts3 (fuel := 8) (laidMet_of_run' 8 (by kernel_rfl) (by kernel_rfl)) (by kernel_rfl) (by kernel_rfl)
set_option maxRecDepth 100000 in
theorem backLater_lifted (os : Os) (started : os.Started) (H : Type) (enc : TypeId × Value → H) :
  ReturnsInHanded {} Tryz.checked os 4 .any (fun w args => (Rows.backLaterSpec.pre enc Tryz.prog Tryz.f4 [] false w args ∧ laidMetH Tryz.prog Rows.backLaterRow.laid w) ∧ sizedMet enc Tryz.prog Tryz.f4 (OpenSpec.ofChange Rows.backLaterSpec) false w args)
   (Rows.backLaterSpec.post enc Tryz.prog Tryz.f4 false true false false) := by
 refine zdq (C := Tryz.checked) os started 8 H enc (G := GL) (by kernel_rfl) own4 zmr (by kernel_rfl) Tryz.func4
  (ChangeSpec.witness_shaped (enc := enc) (C := Tryz.checked) (os := os) (X := fun w _ => laidMetH Tryz.prog Rows.backLaterRow.laid w) false (World.doorLaid Tryz.prog 400 os) #[.agg #[.slice none 0 0, .slice none 0 0, .slice none 0 0, .slice none 0 0, .int .i64 0, .int .i64 0, .int .i64 0, .int .i64 0, .int .i64 0, .int .i64 0, .int .i64 0], .agg #[.int .i64 0, .slice none 0 0, .int .i64 0, .int .i64 0, .bool false, .int .i64 0, .int .i64 0, .bool false, .int .i64 0, .int .i64 0, .bool false, .int .i64 0, .int .i64 0, .bool false, .int .i64 0, .int .i64 0, .bool false, .int .i64 0, .int .i64 0, .bool false, .int .i64 0, .int .i64 0, .bool false, .int .i64 0, .int .i64 0, .bool false, .int .i64 0, .int .i64 0, .bool false, .int .i64 0, .int .i64 0, .bool false, .int .i64 0, .int .i64 0, .bool false, .int .i64 0, .int .i64 0, .bool false, .int .i64 0, .int .i64 0, .bool false, .int .i64 0, .int .i64 0, .bool false, .int .i64 0, .int .i64 0, .bool false, .int .i64 0, .int .i64 0, .bool false, .int .i64 0, .int .i64 0, .bool false, .int .i64 0, .int .i64 0, .bool false, .int .i64 0, .int .i64 0, .bool false, .int .i64 0, .int .i64 0, .bool false, .int .i64 0, .int .i64 0, .bool false, .int .i64 0, .int .i64 0, .bool false, .int .i64 0, .int .i64 0, .bool false, .int .i64 0, .int .i64 0, .bool false], .int .i64 0, .slice none 0 0] 8 rfl (World.shaped_of_RefB (by kernel_rfl) (by kernel_rfl)) (by kernel_rfl) (by kernel_rfl) (by kernel_rfl) (zkZ os _))
  rfl rfl (by kernel_rfl) (by kernel_rfl) (fun ds h => ?_) (fun w h => zdo 8 (by kernel_rfl) (by kernel_rfl) h) (by kernel_rfl) (fun avs h hb => law4 h hb)
 have h : ds.length = 4 := h
 match ds, h with
 | [a, b, c, d], _ => exact ⟨rfl, rfl, rfl⟩
theorem backLater_said : Rows.BackLaterSaid :=
 OpenClaim.holds_of_wide 4 Tryz.f4 rfl rfl rfl rfl rfl rfl rfl ⟨rfl, rfl, rfl, rfl, rfl⟩ rfl rfl rfl rfl rfl (by kernel_rfl) Tryz.func4 (by kernel_rfl)
  (of_decide_eq_true (by kernel_rfl)) (by unfold Func.isWrapper; first | (rw [if_pos (by decide +kernel)]; kernel_rfl) | (rw [if_neg (by decide +kernel)]; exact ⟨rfl, rfl⟩))
  (fun os started H enc _ => backLater_lifted os started H enc)
theorem backLater_holds : Rows.BackLaterCardSaid :=
 Claim7.holds_tied_plain_at .later [] [.data, .data, .data, .data] true _ false
  backLater_said (fun _ h => by cases h) (by kernel_rfl) (fun _ h => by cases h) backLater_row_tie rfl ⟨rfl, rfl⟩ (by kernel_rfl) rfl
  (fun f fn hf hfn => by
   obtain rfl : f = 4 := Option.some.inj ((show Tryz.prog.funcNamed Rows.backLaterRow.func = some 4 by kernel_rfl).symm.trans hf) |>.symm
   obtain rfl : fn = Tryz.f4 := (Option.some.inj (Tryz.func4.symm.trans hfn)).symm
   exact ⟨by kernel_rfl, fun j t ht => by
    have hm : t ∈ Tryz.f4.params.toList := by simpa using Array.mem_of_getElem? ht
    have hall : (Tryz.f4.params.toList.all fun u => !Tryz.prog.wantsStandIn u) = true := by kernel_rfl
    exact (show Tryz.prog.wantsStandIn t = false by simpa using List.all_eq_true.1 hall t hm)⟩)
  (by kernel_rfl)
end Go.Proofs.YtkcpgfjlmicnnaaGreatDoor
