/- What functions come to, printed by a program, checked by the kernel. -/
import Derived.Test.YtkcpgfjlmicnnaaGreatDoorCh1
import Derived.Test.YtkcpgfjlmicnnaaGreatDoorCh6
import Derived.Test.YtkcpgfjlmicnnaaGreatDoorCh3
import Derived.Test.YtkcpgfjlmicnnaaGreatDoorRows
import Derived.Test.YtkcpgfjlmicnnaaGreatDoorTie
import Derived.Test.YtkcpgfjlmicnnaaGreatDoorCards
import Derived.ProofKit
import Derived.LaidMore
import Derived.OpenShut
import Derived.Stop.Joined
import Derived.SevenTiedAt
set_option linter.unusedSimpArgs false
set_option linter.unusedVariables false
namespace Go.Lb.LK
open Go Go.Lb Go.Proofs
noncomputable section
@[simp] def qbo_0 : SE := bi .neq (pt 0 (tp 0 (.inp 117))) (.inp 40)
@[simp] def qbo_1 : SE := .agg (ptx (tp 0 (.inp 117)) 2 72)
@[simp] def qbo_2 : SE := .app (.eqa [ some .i64, some .i64, none, some .i64, some .i64, none, some .i64, some .i64, none, some .i64, some .i64, none, some .i64, some .i64, none, some .i64, some .i64, none, some .i64, some .i64, none, some .i64, some .i64, none, some .i64, some .i64, none, some .i64, some .i64, none, some .i64, some .i64, none, some .i64, some .i64, none, some .i64, some .i64, none, some .i64, some .i64, none, some .i64, some .i64, none, some .i64, some .i64, none, some .i64, some .i64, none, some .i64, some .i64, none, some .i64, some .i64, none, some .i64, some .i64, none, some .i64, some .i64, none, some .i64, some .i64, none, some .i64, some .i64, none, some .i64, some .i64, none] true) [qbo_1, .agg (ipx 42 72)]
@[simp] def qbo_3 : SE := pk qbo_0 bT qbo_2
@[simp] def qbo_4 : SE := .agg (ptx (tp 0 (.inp 117)) 0 74)
@[simp] def qbo_5 : SE := .app (.eqb false) [tp 1 (.inp 117), .inp 118]
@[simp] def qbo_6 : SE := ln (pt 1 (tp 0 (.inp 117)))
@[simp] def qbo_7 : SE := bi .eql (ln (.inp 41)) qbo_6
@[simp] def qbo_8 : SE := pk (tp 1 (.inp 117)) qbo_7 bF
@[simp] def qbo_9 : SE := nt qbo_8
@[simp] def qbo_10 : SE := pk qbo_5 qbo_9 bF
@[simp] def qbo_11 : SE := ei 23 (.inp 41) (.inp 127)
@[simp] def qbo_12 : SE := el 23 qbo_11
@[simp] def qbo_13 : SE := bi .lss (.inp 125) qbo_6
@[simp] def qbo_14 : SE := ei 23 (pt 1 (tp 0 (.inp 117))) (.inp 125)
@[simp] def qbo_15 : SE := .app (.eoff 0) [qbo_14]
@[simp] def qbo_16 : SE := e1 qbo_15
@[simp] def qbo_17 : SE := pt 0 qbo_12
@[simp] def qbo_18 : SE := bi .eql qbo_16 qbo_17
@[simp] def qbo_19 : SE := el 23 qbo_14
@[simp] def qbo_20 : SE := .agg (ptx (qbo_12) 0 23)
@[simp] def qbo_21 : SE := bi .add (.inp 125) (zi 1)
@[simp] def qbo_22 : SE := bi .add (.inp 127) (zi 1)
@[simp] def qbo_23 : SE := pt 1 qbo_12
@[simp] def qbo_24 : SE := bi .neq qbo_23 (.inp 114)
@[simp] def qbo_25 : SE := pt 6 qbo_19
@[simp] def qbo_26 : SE := bi .neq qbo_25 (.int .u8 4)
@[simp] def qbo_27 : SE := pt 6 qbo_12
@[simp] def qbo_28 : SE := pt 21 qbo_12
@[simp] def qbo_29 : SE := bi .add (.inp 126) (zi 1)
@[simp] def qbo_30 : SE := bi .neq qbo_27 (.int .u8 1)
@[simp] def qbo_31 : SE := bi .neq qbo_27 (.int .u8 2)
@[simp] def qbo_32 : SE := pk qbo_30 qbo_31 bF
@[simp] def qbo_33 : SE := bi .leq (.inp 7) (zi 1073741824)
@[simp] def qbo_34 : SE := bi .eql (.inp 125) qbo_6
@[simp] def qbo_35 : SE := bi .leq (.inp 126) (zi 1)
@[simp] def qbo_36 : SE := pk qbo_34 qbo_35 bF
@[simp] def qbo_37 : SE := bi .eql (.inp 126) (zi 1)
@[simp] def qbo_38 : SE := .app (.eqb false) [tp 1 (.inp 117), qbo_37]
@[simp] def qbo_39 : SE := pk qbo_36 qbo_38 bF
@[simp] def qbo_40 : SE := pk (bi .geq (.inp 7) (zi 0)) qbo_33 bF
@[simp] def qbo_41 : SE := nt qbo_40
@[simp] def qbo_42 : SE := pk qbo_41 bT (.inp 128)
@[simp] def qbo_43 : SE := pk qbo_39 qbo_42 bF
def rt_lockbarlaw22_BackOthers : RT :=
 ck (.isAgg 11) [.agg (ipx 0 11)] <|
 ck (.isAgg 29) [.agg (ipx 11 29)] <|
 ck (.isAgg 74) [.agg (ipx 40 74)] <|
.seg [.call 115 [] 7 [.agg (ipx 0 11)] false] <|
.seg [.call 116 [(.inp 115, false)] 20 [.agg (ipx 40 74)] false] <|
 ckg (.inp 115) false (.un .not) [.inp 116] <|
 ck .pick [.inp 115, bT, nt (.inp 116)] <|
.cond (pk (.inp 115) bT (nt (.inp 116)))
 (.seg [.call 117 [] 9 [] false] <|
.ret (.inp 117))
 (.seg [.call 117 [] 10 [.agg (ipx 0 11), .agg (ipx 11 29), .agg (ipx 40 74), .inp 114] false] <|
 ck (.tproj 0) [.inp 117] <|
 ck (.tproj 1) [.inp 117] <|
 ck (.isAgg 74) [tp 0 (.inp 117)] <|
 ck (.bin .neq) [pt 0 (tp 0 (.inp 117)), .inp 40] <|
 ckg (qbo_0) false (.eqa [ some .i64, some .i64, none, some .i64, some .i64, none, some .i64, some .i64, none, some .i64, some .i64, none, some .i64, some .i64, none, some .i64, some .i64, none, some .i64, some .i64, none, some .i64, some .i64, none, some .i64, some .i64, none, some .i64, some .i64, none, some .i64, some .i64, none, some .i64, some .i64, none, some .i64, some .i64, none, some .i64, some .i64, none, some .i64, some .i64, none, some .i64, some .i64, none, some .i64, some .i64, none, some .i64, some .i64, none, some .i64, some .i64, none, some .i64, some .i64, none, some .i64, some .i64, none, some .i64, some .i64, none, some .i64, some .i64, none, some .i64, some .i64, none] true) [qbo_1, .agg (ipx 42 72)] <|
 ck .pick [qbo_0, bT, qbo_2] <|
.seg [.call 118 [(qbo_3, false)] 14 [qbo_4, .agg (ipx 40 74)] false] <|
 ckg (qbo_3) false (.eqb false) [tp 1 (.inp 117), .inp 118] <|
.seg [.chk [(tp 1 (.inp 117), true), (qbo_5, true), (qbo_3, false)] .len [.inp 41]] <|
.seg [.chk [(tp 1 (.inp 117), true), (qbo_5, true), (qbo_3, false)] .len [pt 1 (tp 0 (.inp 117))]] <|
.seg [.chk [(tp 1 (.inp 117), true), (qbo_5, true), (qbo_3, false)] (.bin .eql) [ln (.inp 41), qbo_6]] <|
.seg [.chk [(qbo_5, true), (qbo_3, false)] .pick [tp 1 (.inp 117), qbo_7, bF]] <|
.seg [.chk [(qbo_5, true), (qbo_3, false)] (.un .not) [qbo_8]] <|
 ckg (qbo_3) false .pick [qbo_5, qbo_9, bF] <|
 ck .pick [qbo_3, bT, qbo_10] <|
.seg [.bind 119 (qbo_2),
.bind 120 (qbo_3),
.bind 121 (qbo_8),
.bind 122 (qbo_9),
.bind 123 (qbo_10),
.bind 124 (pk qbo_3 bT qbo_10)] <|
.cond (.inp 124)
 (.ret (bF))
 (.loop 0 125 [zi 0, zi 0, zi 0] <|
 ck .len [.inp 41] <|
 ck (.bin .lss) [.inp 127, ln (.inp 41)] <|
.cond (bi .lss (.inp 127) (ln (.inp 41)))
 (ck (.eidx 23) [.inp 41, .inp 127] <|
 ck (.eload 23 true) [qbo_11] <|
 ck (.isAgg 23) [qbo_12] <|
.seg [.chk [] .len [pt 1 (tp 0 (.inp 117))],
.chk [] (.bin .lss) [.inp 125, qbo_6],
.chk [(qbo_13, true)] (.eidx 23) [pt 1 (tp 0 (.inp 117)), .inp 125],
.chk [(qbo_13, true)] (.eoff 0) [qbo_14],
.chk [(qbo_13, true)] (.eload 1 false) [qbo_15],
.chk [(qbo_13, true)] (.bin .eql) [qbo_16, qbo_17],
.chk [] .pick [qbo_13, qbo_18, bF]] <|
.seg [.bind 128 (qbo_18),
.bind 129 (pk qbo_13 qbo_18 bF)] <|
.cond (.inp 129)
 (.seg [.chk [] (.eidx 23) [pt 1 (tp 0 (.inp 117)), .inp 125],
.chk [] (.eload 23 true) [qbo_14],
.call 130 [] 15 [qbo_19, qbo_20] false,
.chk [] (.un .not) [.inp 130]] <|
.cond (.inp 130)
 (ck (.bin .add) [.inp 125, zi 1] <|
 ck (.bin .add) [.inp 127, zi 1] <|
.again 0 [qbo_21, .inp 126, qbo_22])
 (ck (.bin .add) [.inp 126, zi 1] <|
 ck (.eidx 23) [pt 1 (tp 0 (.inp 117)), .inp 125] <|
 ck (.eload 23 true) [qbo_14] <|
 ck (.isAgg 23) [qbo_19] <|
 ck (.bin .neq) [qbo_23, .inp 114] <|
 ckg (qbo_24) false (.bin .neq) [qbo_25, .int .u8 4] <|
 ck .pick [qbo_24, bT, qbo_26] <|
.seg [.bind 131 (pk qbo_24 bT qbo_26)] <|
.cond (.inp 131)
 (.ret (bF))
 (.seg [.chk [] .isOne [qbo_27],
.chk [] .isOne [qbo_28]] <|
.seg [.call 132 [] 15 [.agg (ap (ptx (qbo_19) 0 6) (ap [qbo_27] (ap (ptx (qbo_19) 7 14) [qbo_28, pt 22 qbo_19]))), qbo_20] false] <|
 ck (.un .not) [.inp 132] <|
.cond (.inp 132)
 (ck (.bin .add) [.inp 125, zi 1] <|
 ck (.bin .add) [.inp 127, zi 1] <|
.again 0 [qbo_21, qbo_29, qbo_22])
 (.ret (bF)))))
 (ck (.bin .add) [.inp 126, zi 1] <|
 ck (.bin .neq) [qbo_23, .inp 114] <|
 ckg (qbo_24) false (.bin .neq) [qbo_27, .int .u8 1] <|
.seg [.chk [(qbo_30, true), (qbo_24, false)] (.bin .neq) [qbo_27, .int .u8 2]] <|
 ckg (qbo_24) false .pick [qbo_30, qbo_31, bF] <|
 ck .pick [qbo_24, bT, qbo_32] <|
.seg [.bind 130 (qbo_32),
.bind 131 (pk qbo_24 bT qbo_32)] <|
.cond (.inp 131)
 (.ret (bF))
 (ck (.bin .add) [.inp 127, zi 1] <|
.again 0 [.inp 125, qbo_29, qbo_22])))
 (ck (.bin .geq) [.inp 7, zi 0] <|
 ckg (bi .geq (.inp 7) (zi 0)) true (.bin .leq) [.inp 7, zi 1073741824] <|
 ck .pick [bi .geq (.inp 7) (zi 0), qbo_33, bF] <|
 ck .len [pt 1 (tp 0 (.inp 117))] <|
 ck (.bin .eql) [.inp 125, qbo_6] <|
 ckg (qbo_34) true (.bin .leq) [.inp 126, zi 1] <|
 ck .pick [qbo_34, qbo_35, bF] <|
 ckg (qbo_36) true (.bin .eql) [.inp 126, zi 1] <|
 ckg (qbo_36) true (.eqb false) [tp 1 (.inp 117), qbo_37] <|
 ck .pick [qbo_36, qbo_38, bF] <|
 ckg (qbo_39) true (.un .not) [qbo_40] <|
.seg [.call 128 [(qbo_41, false), (qbo_39, true)] 20 [qbo_4] false] <|
 ckg (qbo_39) true .pick [qbo_41, bT, .inp 128] <|
 ck .pick [qbo_39, qbo_42, bF] <|
.seg [.call 129 [(qbo_43, true)] 9 [] false] <|
 ck .pick [qbo_43, .inp 129, bF] <|
.seg [.bind 130 (pk qbo_43 (.inp 129) bF),
.bind 131 (qbo_36),
.bind 132 (qbo_39),
.bind 133 (qbo_42),
.bind 134 (qbo_43)] <|
.ret (.inp 130))))
theorem run_lockbarlaw22_BackOthers : runF E 5 [.agg (ips 0 11), .agg (ips 11 29), .agg (ips 40 74), .inp 114] 115 = rt_lockbarlaw22_BackOthers := by kernel_rfl
end
end Go.Lb.LK
namespace Go.Lb.LK
open Go Go.Lb Go.Proofs Go.RowKit
theorem zj7 {l : Lay} {im : Img} {k : Kern} {x : Int} (h : k.ok) : (zaw l im k x).1.ok := by
 rcases zcS l im k x with e | ⟨m, hm, _, _, ⟨e, _⟩ | ⟨e, _⟩⟩
 ·rw [e]; exact h
 ·rw [e]
  intro y hy
  rcases List.mem_append.1 hy with hy | hy
  ·exact h y (List.mem_of_mem_take hy)
  ·exact h y (List.mem_of_mem_drop hy)
 ·rw [e]
  intro y hy
  rcases List.mem_or_eq_of_mem_set hy with hy | rfl
  ·exact h y hy
  ·exact ⟨by simp, by simp⟩
set_option maxRecDepth 100000 in
set_option maxHeartbeats 4000000 in
theorem zhS (l : Lay) (hl : l.ok) (im : Img) (hi : im.ok) (k : Kern) (hkw : k.wide) (hk : k.ok) (x : Int) : C f_lockbarlaw22_BackOthers [l.av, im.av, k.av, I x] (.bool true) := by
 refine ctr (l.cells ++ im.cells ++ k.cells ++ [I x]) run_lockbarlaw22_BackOthers rfl (lik l im k x) rfl ?_ rfl
 unfold rt_lockbarlaw22_BackOthers
 simp [Lay.cells, Img.cells, Kern.cells]
 refine call (zfo l) (by simp [Lay.cells]) (by simp) ?_
 simp
 refine zap (avs := [k.av]) (.bool (zaA k)) rfl (fun _ => ⟨by simp [Kern.cells], zdB k hkw hk⟩) (by simp) ?_
 cases g1 : zic l
 case true =>
  simp
  exact call zaV rfl (by simp) (by simp)
 cases g2 : zaA k
 case false =>
  simp
  exact call zaV rfl (by simp) (by simp)
 have hkl := zd6 hkw g2
 simp
 refine call (zbw l hl im hi k hkl x) (by simp [Lay.cells, Img.cells, Kern.cells]) (by simp) ?_
 have hcl := zi4 (l := l) (im := im) (x := x) hkl
 have hcr := fun h => zhX (l := l) (im := im) (x := x) g2 h
 have hk1 := hkl.1
 have w1 : IntKind.i64.wrap 1 = 1 := by decide
 have hok : (zaw l im k x).1.ok := zj7 hk
 have hr18 := zgo (zaw l im k x).1 hcl hok
 have hsm := zfr (zaw l im k x).1 k hcl
 rcases zcS l im k x with h | ⟨m, hm, _, hsig, ⟨h, h5⟩ | ⟨h, h5⟩⟩
 ·rw [h] at hcr hr18 hsm ⊢
  rw [zeI] at hsm
  have hms := zb2 k
  rw [← zck] at hms
  simp only [zdr] at hms
  simp [Kern.cells, hms, -AV.eqs]
  refine zap (avs := [k.av, k.av]) (.bool true) rfl (fun _ => ⟨by simp [Kern.cells], hsm⟩) (by simp) ?_
  simp [Kern.cells, hms, -AV.eqs]
  refine zae rfl (fun vs => ∃ i : Nat, i ≤ k.held.length ∧ vs = [I i, I 0, I i]) (fun vs => match vs with | [_, _, .int _ j] => k.held.length - j.toNat | _ => 0) ⟨0, by omega, by simp⟩ ?_
  rintro vs - ⟨i, hik, rfl⟩
  by_cases hlt : i < k.held.length
  ·have hw := zaf (i := i) (by omega)
   simp [hlt, Kern.cells, Hd.cells, hw]
   refine call (zce (k.at hkl hlt)) (by simp [hlt, Kern.cells, Hd.cells]) (fun _ => rfl) ?_
   simp [hw]
   exact ⟨⟨i + 1, by omega, rfl⟩, by omega⟩
  ·have : i = k.held.length := by omega
   subst this
   simp [Kern.cells]
   refine zap (avs := [k.av]) (.bool true) rfl (fun _ => ⟨by simp [Kern.cells], by have := zgo k hkl hk; rw [g2] at this; exact this⟩) (by simp) ?_
   simp [Kern.cells]
   refine zap (avs := []) (.bool true) rfl (fun _ => ⟨rfl, zaV⟩) (by simp) ?_
   simp [Kern.cells]
 ·obtain ⟨o, ho⟩ : ∃ o, o = ({ k with held := k.held.take m ++ k.held.drop (m + 1) } : Kern) := ⟨_, rfl⟩
  have on : o.next = k.next := by rw [ho]
  have ow : o.want = k.want := by rw [ho]
  have orr : o.run = k.run := by rw [ho]
  have ofl : o.fail = k.fail := by rw [ho]
  have olen : o.held.length + 1 = k.held.length := by rw [ho]; simp; omega
  have og1 : ∀ n, n < m → ∀ h : n < o.held.length, ∀ h' : n < k.held.length, o.held[n] = k.held[n] := by
   intro n hn h h'
   simp only [ho]
   rw [List.getElem_append_left (by simp; omega), List.getElem_take]
  have og2 : ∀ n, m ≤ n → ∀ h : n < o.held.length, ∀ h' : n + 1 < k.held.length, o.held[n] = k.held[n + 1] := by
   intro n hn h h'
   simp only [ho]
   rw [List.getElem_append_right (by simp; omega), List.getElem_drop]
   congr 1
   simp; omega
  rw [← ho] at h
  rw [h] at hcr hr18 hsm hcl ⊢
  simp only at hcr hr18 hsm hcl
  have hfin : (l.approach < 0 ∨ 1073741824 < l.approach) ∨ zaA o = true := by
   by_cases hf : 0 ≤ l.approach ∧ l.approach ≤ 1073741824
   ·exact .inr (hcr hf)
   ·exact .inl (by omega)
  have hsf : zga o k = false := by simp [zga, show ¬ o.held.length = k.held.length by omega]
  rw [hsf] at hsm
  have hms := zb2 k
  rw [← zck] at hms
  simp only [zdr] at hms
  have hle : ¬ ((k.held.length : Int) = (o.held.length : Int)) := by omega
  simp [Kern.cells, on, ow, orr, ofl, hms, hle, -AV.eqs]
  refine zap (avs := [o.av, k.av]) (.bool false) rfl (fun _ => ⟨by simp [Kern.cells, on, ow, orr, ofl], hsm⟩) (by simp) ?_
  simp [Kern.cells, on, ow, orr, ofl, hms, hle, -AV.eqs]
  refine zae rfl (fun vs => ∃ i n c : Nat, i ≤ k.held.length ∧ vs = [I n, I c, I i] ∧ ((i ≤ m ∧ n = i ∧ c = 0) ∨ (m < i ∧ n + 1 = i ∧ c = 1))) (fun vs => match vs with | [_, _, .int _ j] => k.held.length - j.toNat | _ => 0) ⟨0, 0, 0, by omega, by simp, .inl ⟨by omega, rfl, rfl⟩⟩ ?_
  rintro vs - ⟨i, n, c, hik, rfl, hinv⟩
  by_cases hlt : i < k.held.length
  ·have hw := zaf (i := i) (by omega)
   have hwn := zaf (i := n) (by omega)
   have hwc := zaf (i := c) (by omega)
   by_cases him : i = m
   ·subst him
    have hn : n = i := by omega
    have hc : c = 0 := by omega
    subst hn hc
    have hst := zkX h5
    by_cases hno : n < o.held.length
    ·have hne : ¬ o.held[n].id = k.held[n].id := by
      rw [og2 n (by omega) hno (by omega)]
      have := zjd g2 (n + 1) (by omega) n (by omega)
      omega
     simp [hlt, hno, Kern.cells, Hd.cells, hw, w1, hne, hsig]
     exact ⟨by omega, fun _ => ⟨⟨n + 1, by omega, n, 1, by omega, by omega⟩, by omega⟩⟩
    ·simp [hlt, hno, Kern.cells, Hd.cells, hw, w1, hsig]
     exact ⟨by omega, fun _ => ⟨⟨n + 1, by omega, n, 1, by omega, by omega⟩, by omega⟩⟩
   ·obtain ⟨hno, he⟩ : ∃ h : n < o.held.length, o.held[n] = k.held[i] := by
     rcases hinv with ⟨a, rfl, b⟩ | ⟨a, rfl, b⟩
     ·exact ⟨by omega, og1 n (by omega) (by omega) hlt⟩
     ·exact ⟨by omega, og2 n (by omega) (by omega) hlt⟩
    simp [hlt, hno, he, Kern.cells, Hd.cells, hw, hwn]
    refine call (zce (k.at hkl hlt)) (by simp [hlt, hno, he, Kern.cells, Hd.cells]) (fun _ => rfl) ?_
    simp [hw, hwn]
    exact ⟨⟨i + 1, by omega, n + 1, c, by omega, by omega⟩, by omega⟩
  ·have hn : n = o.held.length := by omega
   have hc : c = 1 := by omega
   subst hn hc
   simp [hlt, Kern.cells]
   refine zap (avs := [o.av]) (.bool (zaA o)) rfl (fun _ => ⟨by simp [Kern.cells, on, ow, orr, ofl], hr18⟩) (by simp) ?_
   simp [Kern.cells]
   refine zap (avs := []) (.bool true) rfl (fun _ => ⟨rfl, zaV⟩) (by simp) ?_
   simp [Kern.cells]
   exact hfin
 ·obtain ⟨o, ho⟩ : ∃ o, o = ({ k with held := k.held.set m { k.held[m] with stage := 4, timer := l.approach } } : Kern) := ⟨_, rfl⟩
  have on : o.next = k.next := by rw [ho]
  have ow : o.want = k.want := by rw [ho]
  have orr : o.run = k.run := by rw [ho]
  have ofl : o.fail = k.fail := by rw [ho]
  have olen : o.held.length = k.held.length := by rw [ho]; simp
  have og1 : ∀ n, n ≠ m → ∀ h : n < o.held.length, ∀ h' : n < k.held.length, o.held[n] = k.held[n] := by
   intro n hn h h'
   simp only [ho]
   rw [List.getElem_set, if_neg (fun e => hn e.symm)]
  have og2 : ∀ h : m < o.held.length, o.held[m] = { k.held[m] with stage := 4, timer := l.approach } := by
   intro h
   simp only [ho]
   rw [List.getElem_set, if_pos rfl]
  rw [← ho] at h
  rw [h] at hcr hr18 hsm hcl ⊢
  simp only at hcr hr18 hsm hcl
  have hfin : (l.approach < 0 ∨ 1073741824 < l.approach) ∨ zaA o = true := by
   by_cases hf : 0 ≤ l.approach ∧ l.approach ≤ 1073741824
   ·exact .inr (hcr hf)
   ·exact .inl (by omega)
  have hms := zb2 k
  rw [← zck] at hms
  simp only [zdr] at hms
  have hle : ((k.held.length : Int) = (o.held.length : Int)) := by omega
  simp [Kern.cells, on, ow, orr, ofl, hms, olen, -AV.eqs]
  refine zap (avs := [o.av, k.av]) (.bool (zga o k)) rfl (fun _ => ⟨by simp [Kern.cells, on, ow, orr, ofl], hsm⟩) (by simp) ?_
  simp [Kern.cells, on, ow, orr, ofl, hms, olen, -AV.eqs]
  refine zae rfl (fun vs => ∃ i c : Nat, i ≤ k.held.length ∧ vs = [I i, I c, I i] ∧ ((i ≤ m ∧ c = 0) ∨ (m < i ∧ c = 1))) (fun vs => match vs with | [_, _, .int _ j] => k.held.length - j.toNat | _ => 0) ⟨0, 0, by omega, by simp, .inl ⟨by omega, rfl⟩⟩ ?_
  rintro vs - ⟨i, c, hik, rfl, hinv⟩
  by_cases hlt : i < k.held.length
  ·have hw := zaf (i := i) (by omega)
   have hwc := zaf (i := c) (by omega)
   have hno : i < o.held.length := by omega
   by_cases him : i = m
   ·subst him
    have hc : c = 0 := by omega
    subst hc
    have hst := zkY h5
    have he := og2 hno
    have hsf : zdP { k.held[i] with stage := 4, timer := l.approach } k.held[i] = false := by
     simp [zdP, show ¬ 4 = k.held[i].stage by omega]
    have hs1 := zfq { k.held[i] with stage := 4, timer := l.approach } k.held[i] (k.at hkl hlt)
    rw [hsf] at hs1
    simp [hlt, hno, he, Kern.cells, Hd.cells, hw, w1, hsig]
    refine call hs1 (by simp [hlt, hno, he, Kern.cells, Hd.cells, hsig]) (fun _ => rfl) ?_
    simp [hlt, hno, he, Kern.cells, Hd.cells, hw, w1, hsig]
    refine call (zce (k.at hkl hlt)) (by simp [hlt, hno, he, Kern.cells, Hd.cells, hsig]) (fun _ => rfl) ?_
    simp [hw, w1]
    exact ⟨⟨i + 1, by omega, 1, by omega, by omega⟩, by omega⟩
   ·have he : o.held[i] = k.held[i] := og1 i him hno hlt
    simp [hlt, hno, he, Kern.cells, Hd.cells, hw]
    refine call (zce (k.at hkl hlt)) (by simp [hlt, hno, he, Kern.cells, Hd.cells]) (fun _ => rfl) ?_
    simp [hw]
    exact ⟨⟨i + 1, by omega, c, by omega, by omega⟩, by omega⟩
  ·have hi2 : i = k.held.length := by omega
   have hc : c = 1 := by omega
   subst hi2 hc
   simp [hlt, Kern.cells, olen]
   refine zap (avs := [o.av]) (.bool (zaA o)) rfl (fun _ => ⟨by simp [Kern.cells, on, ow, orr, ofl], hr18⟩) (by simp) ?_
   simp [Kern.cells]
   refine zap (avs := []) (.bool true) rfl (fun _ => ⟨rfl, zaV⟩) (by simp) ?_
   simp [Kern.cells]
   exact ⟨by omega, hfin⟩
end Go.Lb.LK
namespace Go.Lb.LK
open Go Go.Lb Go.Proofs Go.RowKit
theorem args5 : zm7 Tryz.prog 8 Tryz.f5.params.toList = [(true, layT), (true, imgT), (true, zli), (false, iT)] := by kernel_rfl
theorem law5 {avs : List AV} (h : zgh Tryz.prog 8 Tryz.f5.params.toList avs) (hb : AV.wgts reachBytes avs) : C 5 avs (.bool true) := by
 have h := zdw _ _ h
 rw [args5] at h
 obtain ⟨x0, q, rfl, h0a, h0b, x1, q, rfl, h1a, h1b, x2, q, rfl, h2a, h2b, x3, q, rfl, h3a, h3b, rfl⟩ := h
 obtain ⟨l, rfl, hl⟩ := zll h0a h0b
 obtain ⟨im, rfl, him⟩ := znl h1a h1b
 obtain ⟨k, rfl, hk⟩ := zjI h2a h2b
 obtain ⟨x, rfl⟩ := zle h3a h3b
 have hkw : k.wide := zjJ (zcF hb _ (by simp))
 exact zhS l hl im him k hkw hk x
end Go.Lb.LK
namespace Go.Proofs.YtkcpgfjlmicnnaaGreatDoor
open Go Go.ChangeShapes Go.WideShapes Go.ChangeAt Go.RowKit Go.Lb Go.Lb.LK
theorem own5 : ownKnob Tryz.prog.godebug = none := by kernel_rfl
theorem zmt : laidOutB Tryz.prog = true := by kernel_rfl
theorem zk0 (os : Os) (args : Array Value) : laidMetH Tryz.prog Rows.backOthersRow.laid ((World.doorLaid Tryz.prog 400 os).forCall (fun _ _ => 0) ⟨#[], args, []⟩).memory :=
 laidMetH_of_parts3 (fuel := 8) (laidMet_of_run' 8 (by kernel_rfl) (by kernel_rfl)) (by kernel_rfl) (by kernel_rfl)
set_option maxRecDepth 100000 in
theorem backOthers_lifted (os : Os) (started : os.Started) (H : Type) (enc : TypeId × Value → H) :
  ReturnsInHanded {} Tryz.checked os 5 .any (fun w args => (Rows.backOthersSpec.pre enc Tryz.prog Tryz.f5 [] false w args ∧ laidMetH Tryz.prog Rows.backOthersRow.laid w) ∧ sizedMet enc Tryz.prog Tryz.f5 (OpenSpec.ofChange Rows.backOthersSpec) false w args)
   (Rows.backOthersSpec.post enc Tryz.prog Tryz.f5 false true false false) := by
 refine zdq (C := Tryz.checked) os started 8 H enc (G := GL) (by kernel_rfl) own5 zmt (by kernel_rfl) Tryz.func5
  (ChangeSpec.witness_shaped (enc := enc) (C := Tryz.checked) (os := os) (X := fun w _ => laidMetH Tryz.prog Rows.backOthersRow.laid w) false (World.doorLaid Tryz.prog 400 os) #[.agg #[.slice none 0 0, .slice none 0 0, .slice none 0 0, .slice none 0 0, .int .i64 0, .int .i64 0, .int .i64 0, .int .i64 0, .int .i64 0, .int .i64 0, .int .i64 0], .agg #[.int .i64 0, .int .i64 0, .int .i64 0, .int .i64 0, .int .i64 0, .int .i64 0, .int .i64 0, .int .i64 0, .int .i64 0, .int .i64 0, .int .i64 0, .int .i64 0, .int .i64 0, .int .i64 0, .int .i64 0, .int .i64 0, .int .i64 0, .int .i64 0, .int .i64 0, .int .i64 0, .int .i64 0, .int .i64 0, .int .i64 0, .int .i64 0, .int .i64 0, .int .u32 0, .int .u32 0, .int .u32 0, .int .u32 0], .agg #[.int .i64 0, .slice none 0 0, .int .i64 0, .int .i64 0, .bool false, .int .i64 0, .int .i64 0, .bool false, .int .i64 0, .int .i64 0, .bool false, .int .i64 0, .int .i64 0, .bool false, .int .i64 0, .int .i64 0, .bool false, .int .i64 0, .int .i64 0, .bool false, .int .i64 0, .int .i64 0, .bool false, .int .i64 0, .int .i64 0, .bool false, .int .i64 0, .int .i64 0, .bool false, .int .i64 0, .int .i64 0, .bool false, .int .i64 0, .int .i64 0, .bool false, .int .i64 0, .int .i64 0, .bool false, .int .i64 0, .int .i64 0, .bool false, .int .i64 0, .int .i64 0, .bool false, .int .i64 0, .int .i64 0, .bool false, .int .i64 0, .int .i64 0, .bool false, .int .i64 0, .int .i64 0, .bool false, .int .i64 0, .int .i64 0, .bool false, .int .i64 0, .int .i64 0, .bool false, .int .i64 0, .int .i64 0, .bool false, .int .i64 0, .int .i64 0, .bool false, .int .i64 0, .int .i64 0, .bool false, .int .i64 0, .int .i64 0, .bool false, .int .i64 0, .int .i64 0, .bool false], .int .i64 0] 8 rfl (World.shaped_of_RefB (by kernel_rfl) (by kernel_rfl)) (by kernel_rfl) (by kernel_rfl) (by kernel_rfl) (zk0 os _))
  rfl rfl (by kernel_rfl) (by kernel_rfl) (fun ds h => ?_) (fun w h => zdo 8 (by kernel_rfl) (by kernel_rfl) h) (by kernel_rfl) (fun avs h hb => law5 h hb)
 have h : ds.length = 4 := h
 match ds, h with
 | [a, b, c, d], _ => exact ⟨rfl, rfl, rfl⟩
theorem backOthers_said : Rows.BackOthersSaid :=
 OpenClaim.holds_of_wide 5 Tryz.f5 rfl rfl rfl rfl rfl rfl rfl ⟨rfl, rfl, rfl, rfl, rfl⟩ rfl rfl rfl rfl rfl (by kernel_rfl) Tryz.func5 (by kernel_rfl)
  (of_decide_eq_true (by kernel_rfl)) (by unfold Func.isWrapper; first | (rw [if_pos (by decide +kernel)]; kernel_rfl) | (rw [if_neg (by decide +kernel)]; exact ⟨rfl, rfl⟩))
  (fun os started H enc _ => backOthers_lifted os started H enc)
theorem backOthers_holds : Rows.BackOthersCardSaid :=
 Claim7.holds_tied_plain_at .later [] [.data, .data, .data, .data] true _ false
  backOthers_said (fun _ h => by cases h) (by kernel_rfl) (fun _ h => by cases h) backOthers_row_tie rfl ⟨rfl, rfl⟩ (by kernel_rfl) rfl
  (fun f fn hf hfn => by
   obtain rfl : f = 5 := Option.some.inj ((show Tryz.prog.funcNamed Rows.backOthersRow.func = some 5 by kernel_rfl).symm.trans hf) |>.symm
   obtain rfl : fn = Tryz.f5 := (Option.some.inj (Tryz.func5.symm.trans hfn)).symm
   exact ⟨by kernel_rfl, fun j t ht => by
    have hm : t ∈ Tryz.f5.params.toList := by simpa using Array.mem_of_getElem? ht
    have hall : (Tryz.f5.params.toList.all fun u => !Tryz.prog.wantsStandIn u) = true := by kernel_rfl
    exact (show Tryz.prog.wantsStandIn t = false by simpa using List.all_eq_true.1 hall t hm)⟩)
  (by kernel_rfl)
end Go.Proofs.YtkcpgfjlmicnnaaGreatDoor
