/- What functions come to, printed by a program, checked by the kernel. -/
import Derived.Test.YtbofccnennefnaaGreatDoorCh1
import Derived.Test.YtbofccnennefnaaGreatDoorCh10
import Derived.Test.YtbofccnennefnaaGreatDoorCh5
import Derived.Test.YtbofccnennefnaaGreatDoorCh6
import Derived.Test.YtbofccnennefnaaGreatDoorRows
import Derived.Test.YtbofccnennefnaaGreatDoorTie
import Derived.Test.YtbofccnennefnaaGreatDoorCards
import Derived.ProofKit
import Derived.LaidMore
import Derived.OpenShut
import Derived.Stop.Joined
import Derived.SevenTiedAt
set_option linter.unusedSimpArgs false
set_option linter.unusedVariables false
namespace Go.Lb.LK
open Go Go.Lb Go.Proofs
noncomputable section
@[simp] def qca_0 : SE := .agg [.inp 114, .inp 115, .inp 116]
@[simp] def qca_1 : SE := bi .eql (tp 1 (.inp 118)) (zi 0)
@[simp] def qca_2 : SE := .agg (pts (tp 0 (.inp 118)) 0 74)
@[simp] def qca_3 : SE := pk qca_1 (.inp 119) bF
@[simp] def qca_4 : SE := bi .eql (.inp 120) (tp 2 (.inp 118))
@[simp] def qca_5 : SE := pk qca_3 qca_4 bF
@[simp] def qca_6 : SE := ln (pt 1 (tp 0 (.inp 118)))
@[simp] def qca_7 : SE := bi .add (ln (.inp 41)) (zi 1)
@[simp] def qca_8 : SE := bi .neq qca_6 qca_7
@[simp] def qca_9 : SE := pk (nt (.inp 119)) bT qca_8
@[simp] def qca_10 : SE := bi .neq (tp 1 (.inp 118)) (.inp 40)
@[simp] def qca_11 : SE := pk qca_9 bT qca_10
@[simp] def qca_12 : SE := bi .add (tp 1 (.inp 118)) (zi 1)
@[simp] def qca_13 : SE := bi .neq (pt 0 (tp 0 (.inp 118))) qca_12
@[simp] def qca_14 : SE := ei 23 (pt 1 (tp 0 (.inp 118))) (ln (.inp 41))
@[simp] def qca_15 : SE := el 23 qca_14
@[simp] def qca_16 : SE := ei 23 (pt 1 (tp 0 (.inp 118))) (.inp 123)
@[simp] def qca_17 : SE := .agg (pts (qca_15) 0 23)
@[simp] def qca_18 : SE := el 23 qca_16
@[simp] def qca_19 : SE := ei 23 (.inp 41) (.inp 123)
@[simp] def qca_20 : SE := pk (nt (.inp 124)) bT (nt (.inp 125))
@[simp] def qca_21 : SE := .app (.eoff 1) [qca_19]
@[simp] def qca_22 : SE := .app (.eoff 0) [qca_21]
@[simp] def qca_23 : SE := e1 qca_22
@[simp] def qca_24 : SE := bi .eql qca_23 (.inp 114)
@[simp] def qca_25 : SE := .app (.eoff 6) [qca_19]
@[simp] def qca_26 : SE := e1 qca_25
@[simp] def qca_27 : SE := bi .neq qca_26 (.int .u8 3)
@[simp] def qca_28 : SE := pk qca_24 qca_27 bF
@[simp] def qca_29 : SE := ei 1 (.inp 124) (.inp 125)
@[simp] def qca_30 : SE := e1 qca_29
@[simp] def qca_31 : SE := pt 5 qca_15
@[simp] def qca_32 : SE := ln qca_31
@[simp] def qca_33 : SE := ei 3 qca_31 (.inp 126)
@[simp] def qca_34 : SE := el 3 qca_33
@[simp] def qca_35 : SE := bi .lss (.inp 130) (zi 0)
@[simp] def qca_36 : SE := bi .geq (.inp 130) (zi 24)
@[simp] def qca_37 : SE := bi .neq (tp 0 (.inp 133)) (.inp 131)
@[simp] def qca_38 : SE := bi .eql (.inp 134) (.inp 131)
@[simp] def qca_39 : SE := pk (nt (tp 1 (.inp 133))) bT qca_37
@[simp] def qca_40 : SE := bi .neq (.inp 135) (zi (-1))
@[simp] def qca_41 : SE := pk qca_38 qca_40 bF
@[simp] def qca_42 : SE := pk qca_39 bT qca_41
@[simp] def qca_43 : SE := nt qca_38
@[simp] def qca_44 : SE := bi .neq (.inp 135) (.inp 131)
@[simp] def qca_45 : SE := .app (.aidx 24 3 4 1 false) [qca_2, .inp 130]
@[simp] def qca_46 : SE := pk qca_44 bT qca_45
@[simp] def qca_47 : SE := pk qca_43 qca_46 bF
def rt_lockbarlaw19_CommitApart : RT :=
 ck (.isAgg 11) [.agg (ips 0 11)] <|
 ck (.isAgg 29) [.agg (ips 11 29)] <|
 ck (.isAgg 74) [.agg (ips 40 74)] <|
 ck (.isAgg 3) [qca_0] <|
.seg [.call 117 [] 8 [.agg (ips 0 11), .agg (ips 40 74), qca_0] false] <|
.cond (.inp 117)
 (.seg [.call 118 [] 9 [] false] <|
.ret (.inp 118))
 (.seg [.call 118 [] 10 [.agg (ips 0 11), .agg (ips 11 29), .agg (ips 40 74), qca_0] false] <|
 ck (.tproj 0) [.inp 118] <|
 ck (.tproj 1) [.inp 118] <|
 ck (.tproj 2) [.inp 118] <|
 ck (.isAgg 74) [tp 0 (.inp 118)] <|
 ck (.bin .neq) [tp 2 (.inp 118), zi 0] <|
.cond (bi .neq (tp 2 (.inp 118)) (zi 0))
 (ck (.bin .eql) [tp 1 (.inp 118), zi 0] <|
.seg [.call 119 [(qca_1, true)] 14 [qca_2, .agg (ips 40 74)] false] <|
 ck .pick [qca_1, .inp 119, bF] <|
.seg [.call 120 [(qca_3, true)] 18 [.agg (ips 0 11), .agg (ips 11 29), .agg (ips 40 74), qca_0] false] <|
 ckg (qca_3) true (.bin .eql) [.inp 120, tp 2 (.inp 118)] <|
 ck .pick [qca_3, qca_4, bF] <|
.seg [.call 121 [(qca_5, true)] 9 [] false] <|
 ck .pick [qca_5, .inp 121, bF] <|
.seg [.bind 122 (pk qca_5 (.inp 121) bF),
.bind 123 (qca_5)] <|
.ret (.inp 122))
 (ck .len [.inp 41] <|
.seg [.call 119 [] 22 [qca_2] false] <|
 ck (.un .not) [.inp 119] <|
 ckg (nt (.inp 119)) false .len [pt 1 (tp 0 (.inp 118))] <|
 ckg (nt (.inp 119)) false (.bin .add) [ln (.inp 41), zi 1] <|
 ckg (nt (.inp 119)) false (.bin .neq) [qca_6, qca_7] <|
 ck .pick [nt (.inp 119), bT, qca_8] <|
 ckg (qca_9) false (.bin .neq) [tp 1 (.inp 118), .inp 40] <|
 ck .pick [qca_9, bT, qca_10] <|
 ckg (qca_11) false (.bin .add) [tp 1 (.inp 118), zi 1] <|
 ckg (qca_11) false (.bin .neq) [pt 0 (tp 0 (.inp 118)), qca_12] <|
 ck .pick [qca_11, bT, qca_13] <|
.seg [.bind 120 (qca_9),
.bind 121 (qca_11),
.bind 122 (pk qca_11 bT qca_13)] <|
.cond (.inp 122)
 (.ret (bF))
 (ck (.eidx 23) [pt 1 (tp 0 (.inp 118)), ln (.inp 41)] <|
 ck (.eload 23 true) [qca_14] <|
 ck (.isAgg 23) [qca_15] <|
.loop 0 123 [zi 0] <|
 ck (.bin .lss) [.inp 123, ln (.inp 41)] <|
.cond (bi .lss (.inp 123) (ln (.inp 41)))
 (.seg [.chk [] (.eidx 23) [pt 1 (tp 0 (.inp 118)), .inp 123],
.chk [] (.eload 23 true) [qca_16],
.call 124 [] 23 [qca_17, qca_18] false,
.chk [] (.un .not) [.inp 124],
.chk [(nt (.inp 124), false)] (.eidx 23) [pt 1 (tp 0 (.inp 118)), .inp 123],
.chk [(nt (.inp 124), false)] (.eload 23 true) [qca_16],
.chk [(nt (.inp 124), false)] (.eidx 23) [.inp 41, .inp 123],
.chk [(nt (.inp 124), false)] (.eload 23 true) [qca_19],
.call 125 [(nt (.inp 124), false)] 15 [qca_18, el 23 qca_19] false,
.chk [(nt (.inp 124), false)] (.un .not) [.inp 125],
.chk [] .pick [nt (.inp 124), bT, nt (.inp 125)],
.chk [(qca_20, false)] (.eidx 23) [.inp 41, .inp 123],
.chk [(qca_20, false)] (.eoff 1) [qca_19],
.chk [(qca_20, false)] (.eoff 0) [qca_21],
.chk [(qca_20, false)] (.eload 1 false) [qca_22],
.chk [(qca_20, false)] (.bin .eql) [qca_23, .inp 114],
.chk [(qca_24, true), (qca_20, false)] (.eidx 23) [.inp 41, .inp 123],
.chk [(qca_24, true), (qca_20, false)] (.eoff 6) [qca_19],
.chk [(qca_24, true), (qca_20, false)] (.eload 1 false) [qca_25],
.chk [(qca_24, true), (qca_20, false)] (.bin .neq) [qca_26, .int .u8 3],
.chk [(qca_20, false)] .pick [qca_24, qca_27, bF],
.chk [] .pick [qca_20, bT, qca_28]] <|
.seg [.bind 126 (qca_28),
.bind 127 (pk qca_20 bT qca_28)] <|
.cond (.inp 127)
 (.ret (bF))
 (ck (.bin .add) [.inp 123, zi 1] <|
.again 0 [bi .add (.inp 123) (zi 1)]))
 (.seg [.call 124 [] 24 [qca_17] false] <|
.loop 0 125 [zi 0] <|
 ck .len [.inp 124] <|
 ck (.bin .lss) [.inp 125, ln (.inp 124)] <|
.cond (bi .lss (.inp 125) (ln (.inp 124)))
 (.seg [.chk [] (.eidx 1) [.inp 124, .inp 125],
.chk [] (.eload 1 false) [qca_29],
.call 126 [] 25 [.agg (ips 40 74), qca_30] false,
.chk [] (.tproj 0) [.inp 126],
.chk [] (.tproj 1) [.inp 126]] <|
.seg [.chk [(tp 1 (.inp 126), false)] (.eidx 1) [.inp 124, .inp 125],
.chk [(tp 1 (.inp 126), false)] (.eload 1 false) [qca_29],
.call 127 [(tp 1 (.inp 126), false)] 26 [.agg (ips 0 11), .agg (ips 11 29), qca_30] false,
.chk [] .pick [tp 1 (.inp 126), bT, .inp 127]] <|
.cond (pk (tp 1 (.inp 126)) bT (.inp 127))
 (.ret (bF))
 (ck (.bin .add) [.inp 125, zi 1] <|
.again 0 [bi .add (.inp 125) (zi 1)]))
 (.loop 0 126 [zi 0] <|
 ck .len [qca_31] <|
 ck (.bin .lss) [.inp 126, qca_32] <|
.seg [.bind 127 (bi .lss (.inp 126) qca_32)] <|
.cond (.inp 127)
 (ck (.eidx 3) [qca_31, .inp 126] <|
 ck (.eload 3 true) [qca_33] <|
 ck (.isAgg 3) [qca_34] <|
.seg [.bind 128 (qca_33),
.bind 129 (qca_34),
.bind 130 (pt 0 qca_34),
.bind 131 (pt 1 qca_34),
.bind 132 (pt 2 qca_34)] <|
 ck (.bin .lss) [.inp 130, zi 0] <|
 ckg (qca_35) false (.bin .geq) [.inp 130, zi 24] <|
 ck .pick [qca_35, bT, qca_36] <|
.cond (pk qca_35 bT qca_36)
 (.ret (bF))
 (.seg [.call 133 [] 27 [qca_2, .inp 130] false] <|
 ck (.tproj 0) [.inp 133] <|
 ck (.tproj 1) [.inp 133] <|
.seg [.call 134 [] 28 [.agg (ips 0 11), .agg (ips 11 29), .inp 130] false,
.chk [] (.bin .eql) [.inp 134, .inp 131]] <|
 ck (.inr 24) [.inp 130] <|
 ck (.inr 24) [.inp 130] <|
 ck (.aidx 24 3 2 1 false) [qca_2, .inp 130] <|
.seg [.bind 135 (.app (.aidx 24 3 2 1 false) [qca_2, .inp 130])] <|
 ck (.un .not) [tp 1 (.inp 133)] <|
 ckg (nt (tp 1 (.inp 133))) false (.bin .neq) [tp 0 (.inp 133), .inp 131] <|
 ck .pick [nt (tp 1 (.inp 133)), bT, qca_37] <|
.seg [.chk [(qca_38, true), (qca_39, false)] (.bin .neq) [.inp 135, zi (-1)]] <|
 ckg (qca_39) false .pick [qca_38, qca_40, bF] <|
 ck .pick [qca_39, bT, qca_41] <|
 ckg (qca_42) false (.un .not) [qca_38] <|
.seg [.chk [(qca_43, true), (qca_42, false)] (.bin .neq) [.inp 135, .inp 131]] <|
.seg [.chk [(qca_44, false), (qca_43, true), (qca_42, false)] (.inr 24) [.inp 130]] <|
.seg [.chk [(qca_44, false), (qca_43, true), (qca_42, false)] (.inr 24) [.inp 130]] <|
.seg [.chk [(qca_44, false), (qca_43, true), (qca_42, false)] (.aidx 24 3 4 1 false) [qca_2, .inp 130]] <|
.seg [.chk [(qca_43, true), (qca_42, false)] .pick [qca_44, bT, qca_45]] <|
 ckg (qca_42) false .pick [qca_43, qca_46, bF] <|
 ck .pick [qca_42, bT, qca_47] <|
.seg [.bind 136 (qca_42),
.bind 137 (qca_45),
.bind 138 (qca_46),
.bind 139 (qca_47),
.bind 140 (pk qca_42 bT qca_47)] <|
.cond (.inp 140)
 (.ret (bF))
 (ck (.bin .add) [.inp 126, zi 1] <|
.again 0 [bi .add (.inp 126) (zi 1)])))
 (.seg [.call 128 [] 9 [] false] <|
.ret (.inp 128)))))))
theorem run_lockbarlaw19_CommitApart : runF E 4 [.agg (ips 0 11), .agg (ips 11 29), .agg (ips 40 74), .agg [.inp 114, .inp 115, .inp 116]] 117 = rt_lockbarlaw19_CommitApart := by kernel_rfl
end
end Go.Lb.LK
namespace Go.Lb.LK
open Go Go.Lb Go.Proofs Go.RowKit
theorem zsu (l : Lay) (im : Img) (k : Kern) (p : Path) : (zaJ l im k p).2.2 = zcv l im k p := by
 by_cases h : zcv l im k p = 0
 ·rw [zrP h, h]
 ·rw [zrR h]
theorem zss {l : Lay} {im : Img} {k : Kern} {p : Path} (h : Small19 l k p) (h0 : zcv l im k p = 0) : (comK l im k p).len := by
 have := zkq (im := im) h
 rw [zrP h0] at this; exact this
theorem zsB {l : Lay} {k : Kern} {p : Path} (h : Small19 l k p) : (newR l k p).len := ⟨by have := h.can.pl; simp only [newR]; omega, by have := h.can.ol; simp only [newR]; omega, by have := h.need; simp only [newR]; omega⟩
theorem likA (l : Lay) (im : Img) (k : Kern) (p : Path) : AV.pureAll (l.cells ++ im.cells ++ k.cells ++ p.cells) = true := by simp [zac]
theorem zsi (a b : AV) (w r : Nat → Int) (f : Nat → Bool) {z : Int} (h0 : 0 ≤ z) (h1 : z < 24) : pv (.aidx 24 3 2 1 false) [.agg (a :: b :: zaz w r f), I z] = I (w z.toNat) := by
 show (zaz w r f).getD (z.toNat * 3) .undef = _
 exact zsA w r f (by omega) .undef
theorem zsD {l : Lay} {im : Img} {k : Kern} {p : Path} (hc : CanFine l im k p) {s : Int} (hs : s ∈ zaI (newR l k p)) : zc1 k s = none ∧ zbO l im s = false := by
 have hs3 : s ∈ (p.steps ++ over l p.exit).map (·.s) := by simpa [zaI, newR] using hs
 obtain ⟨t, ht, rfl⟩ := List.mem_map.1 hs3
 have h1 := hc.free t ht
 simpa [zcY] using h1
theorem zsE {l : Lay} {k : Kern} {p : Path} (h : Small19 l k p) : (zaI (newR l k p)).length ≤ 2000 := by
 have h1 := zhU (newR l k p)
 have h2 := h.can.pl
 have h3 := h.can.ol
 simp only [newR] at h1 ⊢
 omega
set_option maxHeartbeats 4000000 in
theorem zr5 (l : Lay) (hl : l.ok) (im : Img) (hi : im.ok) (k : Kern) (hko : k.ok) (p : Path) : C f_lockbarlaw19_CommitApart [l.av, im.av, k.av, p.av] (.bool true) := by
 refine ctr (l.cells ++ im.cells ++ k.cells ++ p.cells) run_lockbarlaw19_CommitApart rfl (likA l im k p) rfl ?_ rfl
 unfold rt_lockbarlaw19_CommitApart
 simp [zaC, zad, Path.cells]
 refine call (zj9 l k p) (by simp [zad, zaC, Path.cells]) (by simp) ?_
 cases hg : zeg l k p
 case true =>
  simp
  exact call zcU rfl (by simp) (by simp)
 have hS := zoC hl hg
 have hk := hS.can.kl
 have hten := hS.ten
 simp
 refine call (zbt l im hi k hko p hS.can hS.lens) (by simp [zad, zaC, Path.cells]) (by simp) ?_
 simp [zae, zsu]
 refine ⟨fun h0 => ?_, fun h0 => ?_⟩
 ·rw [zrR h0]
  simp
  refine zaj (avs := [k.av, k.av]) (.bool true) rfl (fun _ => ⟨by simp [zae, zad, zaC], zoB hk⟩) (by simp) ?_
  simp
  refine zaj (avs := [l.av, im.av, k.av, p.av]) (I (zcv l im k p)) rfl (fun _ => ⟨by simp [zad, zaC, Path.cells], zcJ l im hi k hko p hS.can hS.lens⟩) (by simp) ?_
  simp
  refine zaj (avs := []) (.bool true) rfl (fun _ => ⟨rfl, zcU⟩) (by simp) ?_
  simp
 rw [zrP h0]
 have hOl := zss (im := im) hS h0
 have hr := zrY h0
 obtain ⟨hh, hnx⟩ := zrQ l im k p
 have hcal := fun x hx => zsc (x := x) h0 hx
 have hwan := fun x hx => zsd (x := x) h0 hx
 obtain ⟨z1, z2, z3, z4, z5⟩ := zhG h0
 have hcf := zr0 z5
 have hRl := zsB hS
 have hsf := fun s hs => zsD (s := s) hcf hs
 have hsl := zsE hS
 have hnl := hS.need
 have hrg := fun x hx => zhI (zlB z5 x hx)
 have hap := fun i hi => zr8 z3 hcf (i := i) hi
 have hm0 := (zlK z3).2.1
 generalize comK l im k p = O at hOl hr hh hnx hcal hwan
 have hRn : (newR l k p).needs = zak l p := rfl
 generalize newR l k p = R at hRl hsf hsl hh hap hRn
 have hOn : O.held.length = k.held.length + 1 := by rw [hh]; simp
 have hOi : ∀ i, ∀ h : i < k.held.length, O.held[i]'(by omega) = k.held[i] := fun i h => by simp only [hh]; rw [List.getElem_append_left h]
 have hOR : O.held[k.held.length]'(by omega) = R := by simp only [hh]; simp
 have hOq : O.held[k.held.length]? = some R := by rw [List.getElem?_eq_getElem (by omega), hOR]
 have hw1 : IntKind.i64.wrap ((k.held.length : Int) + 1) = (k.held.length : Int) + 1 := by rw [zbB] <;> omega
 have hw2 : IntKind.i64.wrap (k.next + 1) = k.next + 1 := by rw [zbB] <;> omega
 simp [zae]
 refine call (zmS O hOl (zc4 hr)) (by simp [zae]) (by simp) ?_
 have hlt0 : k.held.length < O.held.length := by omega
 simp [zae, hr, zej, zdz, hOn, hnx, hw1, hw2, hlt0, hOR]
 refine ⟨by omega, ?_⟩
 refine zaa (by simp) (fun vs => ∃ i : Nat, i ≤ k.held.length ∧ vs = [I i]) (fun vs => match vs with | [.int _ j] => k.held.length - j.toNat | _ => 0) ⟨0, by omega, by simp⟩ ?_
 rintro vs - ⟨i, hi2, rfl⟩
 by_cases hlt : i < k.held.length
 ·have hw := zab (i := i) (by omega)
  have hlO : i < O.held.length := by omega
  have hsg : k.held[i].path.sig = p.sig → k.held[i].stage = 3 := fun e => by
   have := hcf.sig _ (List.getElem_mem hlt)
   simpa [zbP, e] using this
  have hki : O.held[i]? = some k.held[i] := by rw [List.getElem?_eq_getElem hlO, hOi i hlt]
  have hpa := hap i hlt
  have hkl := k.at hk hlt
  generalize hX : k.held[i] = X at hsg hki hpa hkl
  have hRa := zil R X hRl hkl
  rw [hpa] at hRa
  simp [hlt, zdz, hki, hOq, hX, hOn]
  refine ⟨by omega, ?_⟩
  refine call hRa (by simp [hlt, zdz, hki, hOq, hX, zae]) (by simp) ?_
  simp [hlt, zdz, hki, hX, hOn]
  refine ⟨by omega, ?_⟩
  refine zaj (avs := [X.av, X.av]) (.bool true) rfl (fun _ => ⟨by simp [hlt, zdz, hki, hX], zdl hkl⟩) (by simp) ?_
  simp [hlt, hX, zei, zhy, hw]
  refine ⟨hsg, fun _ => ⟨⟨i + 1, by omega, by omega⟩, by omega⟩⟩
 simp [hlt, hOq, zdz]
 refine call (zfr R hRl) (by simp [hOq, zdz, zae]) (by simp) ?_
 simp
 refine zaa (by simp) (fun vs => ∃ j : Nat, j ≤ (zaI R).length ∧ vs = [I j]) (fun vs => match vs with | [.int _ j] => (zaI R).length - j.toNat | _ => 0) ⟨0, by omega, by simp⟩ ?_
 rintro vs - ⟨j, hj, rfl⟩
 by_cases hlj : j < (zaI R).length
 ·have hwj := zab (i := j) (by omega)
  obtain ⟨f1, f2⟩ := hsf _ (List.getElem_mem hlj)
  simp [hlj]
  refine call (zlv k hk (zaI R)[j]) (by simp [zad, zaC, hlj]) (by simp [optP]) ?_
  rw [f1]
  simp [optP, hlj]
  refine zaj (avs := [l.av, im.av, I (zaI R)[j]]) (.bool (zbO l im (zaI R)[j])) rfl (fun _ => ⟨by simp [zad, hlj], zjc l im hi _⟩) (by simp) ?_
  rw [f2]
  simp [hwj]
  exact ⟨⟨j + 1, by omega, by omega⟩, by omega⟩
 have g5 : ∀ h : Hd, h.cells[5]? = some (needs h.needs) := fun _ => rfl
 simp [hlj, hOq, zdz, g5, hRn]
 refine zaa (by simp) (fun vs => ∃ q : Nat, q ≤ (zak l p).length ∧ vs = [I q]) (fun vs => match vs with | [.int _ j] => (zak l p).length - j.toNat | _ => 0) ⟨0, by omega, by simp⟩ ?_
 rintro vs - ⟨q, hq, rfl⟩
 by_cases hlq : q < (zak l p).length
 ·have hwq := zab (i := q) (by omega)
  have hmq := List.getElem_mem hlq
  obtain ⟨b1, b2⟩ := hrg _ hmq
  have hca := hcal _ hmq
  have hwa := hwan _ hmq
  generalize hx : (zak l p)[q] = x at b1 b2 hca hwa
  have hW : pv (.aidx 24 3 2 1 false) [.agg O.cells, I x.p] = I (O.want x.p.toNat) := by rw [zaC]; exact zsi _ _ _ _ _ b1 b2
  have hFa : pv (.aidx 24 3 4 1 false) [.agg O.cells, I x.p] = .bool (O.fail x.p.toNat) := by rw [zaC]; exact zsq _ _ _ _ _ b1 b2
  simp [hlq, hx, hOq, zdz, g5, hRn, Need.cells, b1, b2]
  refine call (zlx O hOl x.p) (by simp [zae]) (by simp [optP]) ?_
  rw [hwa]
  simp [optP]
  refine call (znF l im hi x.p) (by simp [zad]) (by simp) ?_
  obtain ⟨k1, k2⟩ := hca
  simp [zae, hW, hFa, b1, b2, hwq, -zaf]
  exact ⟨by omega, fun _ _ _ => by omega, ⟨k1, k2⟩, fun _ _ => ⟨⟨q + 1, by omega, by omega⟩, by omega⟩⟩
 simp [hlq, hOq, zdz, g5, hRn]
 exact call zcU rfl (by simp) (by simp)
end Go.Lb.LK
namespace Go.Lb.LK
open Go Go.Lb Go.Proofs Go.RowKit
theorem args4 : zpU Tryz.prog 8 Tryz.f4.params.toList = [(true, layT), (true, imgT), (true, zoj), (true, znc)] := by kernel_rfl
theorem law4 {avs : List AV} (h : zie Tryz.prog 8 Tryz.f4.params.toList avs) : C 4 avs (.bool true) := by
 have h := zeT _ _ h
 rw [args4] at h
 obtain ⟨x0, q, rfl, h0a, h0b, x1, q, rfl, h1a, h1b, x2, q, rfl, h2a, h2b, x3, q, rfl, h3a, h3b, rfl⟩ := h
 obtain ⟨l, rfl, hl⟩ := zqg h0a h0b
 obtain ⟨im, rfl, him⟩ := zqd h1a h1b
 obtain ⟨k, rfl, hk⟩ := zmn h2a h2b
 obtain ⟨p, rfl⟩ := zpp h3a h3b
 exact zr5 l hl im him k hk p
end Go.Lb.LK
namespace Go.Proofs.YtbofccnennefnaaGreatDoor
open Go Go.ChangeShapes Go.WideShapes Go.ChangeAt Go.RowKit Go.Lb Go.Lb.LK
theorem own4 : ownKnob Tryz.prog.godebug = none := by kernel_rfl
theorem zsK : laidOutB Tryz.prog = true := by kernel_rfl
theorem zsw (os : Os) (args : Array Value) : laidMetH Tryz.prog Rows.commitApartRow.laid ((World.doorLaid Tryz.prog 400 os).forCall (fun _ _ => 0) ⟨#[], args, []⟩).memory :=
 laidMetH_of_parts3 (fuel := 8) (laidMet_of_run' 8 (by kernel_rfl) (by kernel_rfl)) (by kernel_rfl) (by kernel_rfl)
set_option maxRecDepth 100000 in
theorem commitApart_lifted (os : Os) (started : os.Started) (H : Type) (enc : TypeId × Value → H) :
  ReturnsInHanded {} Tryz.checked os 4 .any (fun w args => (Rows.commitApartSpec.pre enc Tryz.prog Tryz.f4 [] false w args ∧ laidMetH Tryz.prog Rows.commitApartRow.laid w) ∧ sizedMet enc Tryz.prog Tryz.f4 (OpenSpec.ofChange Rows.commitApartSpec) false w args)
   (Rows.commitApartSpec.post enc Tryz.prog Tryz.f4 false true false false) := by
 refine zmp (C := Tryz.checked) os started 8 H enc (G := GL) (by kernel_rfl) own4 zsK (by kernel_rfl) Tryz.func4
  (ChangeSpec.witness_shaped (enc := enc) (C := Tryz.checked) (os := os) (X := fun w _ => laidMetH Tryz.prog Rows.commitApartRow.laid w) false (World.doorLaid Tryz.prog 400 os) #[.agg #[.slice none 0 0, .slice none 0 0, .slice none 0 0, .slice none 0 0, .int .i64 0, .int .i64 0, .int .i64 0, .int .i64 0, .int .i64 0, .int .i64 0, .int .i64 0], .agg #[.int .i64 0, .int .i64 0, .int .i64 0, .int .i64 0, .int .i64 0, .int .i64 0, .int .i64 0, .int .i64 0, .int .i64 0, .int .i64 0, .int .i64 0, .int .i64 0, .int .i64 0, .int .i64 0, .int .i64 0, .int .i64 0, .int .i64 0, .int .i64 0, .int .i64 0, .int .i64 0, .int .i64 0, .int .i64 0, .int .i64 0, .int .i64 0, .int .i64 0, .int .u32 0, .int .u32 0, .int .u32 0, .int .u32 0], .agg #[.int .i64 0, .slice none 0 0, .int .i64 0, .int .i64 0, .bool false, .int .i64 0, .int .i64 0, .bool false, .int .i64 0, .int .i64 0, .bool false, .int .i64 0, .int .i64 0, .bool false, .int .i64 0, .int .i64 0, .bool false, .int .i64 0, .int .i64 0, .bool false, .int .i64 0, .int .i64 0, .bool false, .int .i64 0, .int .i64 0, .bool false, .int .i64 0, .int .i64 0, .bool false, .int .i64 0, .int .i64 0, .bool false, .int .i64 0, .int .i64 0, .bool false, .int .i64 0, .int .i64 0, .bool false, .int .i64 0, .int .i64 0, .bool false, .int .i64 0, .int .i64 0, .bool false, .int .i64 0, .int .i64 0, .bool false, .int .i64 0, .int .i64 0, .bool false, .int .i64 0, .int .i64 0, .bool false, .int .i64 0, .int .i64 0, .bool false, .int .i64 0, .int .i64 0, .bool false, .int .i64 0, .int .i64 0, .bool false, .int .i64 0, .int .i64 0, .bool false, .int .i64 0, .int .i64 0, .bool false, .int .i64 0, .int .i64 0, .bool false, .int .i64 0, .int .i64 0, .bool false], .agg #[.int .i64 0, .int .i64 0, .slice none 0 0]] 8 rfl (World.shaped_of_RefB (by kernel_rfl) (by kernel_rfl)) (by kernel_rfl) (by kernel_rfl) (by kernel_rfl) (zsw os _))
  rfl rfl (by kernel_rfl) (by kernel_rfl) (fun ds h => ?_) (fun w h => zeP 8 (by kernel_rfl) (by kernel_rfl) h) (fun avs h => law4 h)
 have h : ds.length = 4 := h
 match ds, h with
 | [a, b, c, d], _ => exact ⟨rfl, rfl, rfl⟩
theorem commitApart_said : Rows.CommitApartSaid :=
 OpenClaim.holds_of_wide 4 Tryz.f4 rfl rfl rfl rfl rfl rfl rfl ⟨rfl, rfl, rfl, rfl, rfl⟩ rfl rfl rfl rfl rfl (by kernel_rfl) Tryz.func4 (by kernel_rfl)
  (of_decide_eq_true (by kernel_rfl)) (by unfold Func.isWrapper; first | (rw [if_pos (by decide +kernel)]; kernel_rfl) | (rw [if_neg (by decide +kernel)]; exact ⟨rfl, rfl⟩))
  (fun os started H enc _ => commitApart_lifted os started H enc)
theorem commitApart_holds : Rows.CommitApartCardSaid :=
 Claim7.holds_tied_plain_at .later [] [.data, .data, .data] true _ false
  commitApart_said (fun _ h => by cases h) (by kernel_rfl) (fun _ h => by cases h) commitApart_row_tie rfl ⟨rfl, rfl⟩ (by kernel_rfl) rfl
  (fun f fn hf hfn => by
   obtain rfl : f = 4 := Option.some.inj ((show Tryz.prog.funcNamed Rows.commitApartRow.func = some 4 by kernel_rfl).symm.trans hf) |>.symm
   obtain rfl : fn = Tryz.f4 := (Option.some.inj (Tryz.func4.symm.trans hfn)).symm
   exact ⟨by kernel_rfl, fun j t ht => by
    have hm : t ∈ Tryz.f4.params.toList := by simpa using Array.mem_of_getElem? ht
    have hall : (Tryz.f4.params.toList.all fun u => !Tryz.prog.wantsStandIn u) = true := by kernel_rfl
    exact (show Tryz.prog.wantsStandIn t = false by simpa using List.all_eq_true.1 hall t hm)⟩)
  (by kernel_rfl)
end Go.Proofs.YtbofccnennefnaaGreatDoor
