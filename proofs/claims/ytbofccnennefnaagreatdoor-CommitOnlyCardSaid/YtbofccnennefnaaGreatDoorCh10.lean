/- What is too great; a signal's route, a point's need, as the document has it; one zc9 section wakes. -/
import Derived.Test.YtbofccnennefnaaGreatDoorCh9
import Derived.Test.YtbofccnennefnaaGreatDoorCh1
set_option linter.unusedSimpArgs false
set_option linter.unusedVariables false
namespace Go.Lb.LK
open Go Go.Lb Go.Proofs Go.RowKit
theorem zsG (a : List Need) (ha : a.length ≤ 1000000000) (p : Int) : C f_lockbarref13_At [needs a, I p] (ib (atN a p)) := by
 refine ctr [needs a, I p] run_lockbarref13_At rfl (by simp [AV.pureAll, AV.pure]) rfl ?_ rfl
 unfold rt_lockbarref13_At
 simp
 refine zaa (by simp) (fun vs => ∃ i : Nat, i ≤ a.length ∧ vs = [I i] ∧ ∀ x ∈ a.take i, decide (x.p = p) = false) (fun vs => match vs with | [.int _ j] => a.length - j.toNat | _ => 0) ⟨0, by simp⟩ ?_
 rintro vs - ⟨i, hi, rfl, hno⟩
 by_cases hlt : i < a.length
 ·have hw := zab (i := i) (by omega)
  by_cases hq : a[i].p = p
  ·have := zmY hno hlt (by simp [hq])
   simp [hlt, Need.cells, hq, atN, this]
  ·simp [hlt, Need.cells, hq, hw]
   refine ⟨⟨i + 1, by omega, by omega, ?_⟩, by omega⟩
   have := ziJ hno hlt (by simp [hq])
   intro x hx
   simpa using this x hx
 ·rw [List.take_of_length_le (by omega)] at hno
  have : a.find? (fun x => decide (x.p = p)) = none := List.find?_eq_none.2 (fun x hx => by rw [hno x hx]; simp)
  simp [hlt, atN, this]
theorem ziE {hs : List Hd} {n : Int} {i : Nat} (h : i < hs.length) : zcs hs n (i + 1) = if hs[i].path.sig = n then (i : Int) else zcs hs n i := by simp only [zcs, List.getElem?_eq_getElem h]
theorem zpX (k : Kern) (hk : k.len) (n : Int) : C f_lockbarref19_Of [k.av, I n] (.tup [(ofH k.held n).1.av, .bool (ofH k.held n).2]) := by
 have h1 := hk.1
 refine ctr (k.cells ++ [I n]) run_lockbarref19_Of rfl (by simp [zac, AV.pureAll, AV.pure]) (by simp [AV.pure, AV.pureAll]) ?_ rfl
 unfold rt_lockbarref19_Of
 simp [zaC, zad]
 have hw0 : IntKind.i64.wrap ((k.held.length : Int) - 1) = (k.held.length : Int) - 1 := by rw [zbB] <;> omega
 refine zaa (by simp) (fun vs => ∃ i : Nat, i ≤ k.held.length ∧ vs = [I ((i : Int) - 1)] ∧ zcs k.held n k.held.length = zcs k.held n i) (fun vs => match vs with | [.int _ j] => (j + 1).toNat | _ => 0) ⟨k.held.length, by omega, by simp [hw0], rfl⟩ ?_
 rintro vs - ⟨i, hi, rfl, hq⟩
 by_cases h0 : 0 < i
 ·obtain ⟨m, rfl⟩ : ∃ m, i = m + 1 := ⟨i - 1, by omega⟩
  have hlt : m < k.held.length := by omega
  have hw : IntKind.i64.wrap ((m : Int) - 1) = (m : Int) - 1 := by rw [zbB] <;> omega
  rw [ziE hlt] at hq
  have e1 : (((m + 1 : Nat) : Int) - 1) = (m : Int) := by omega
  rw [e1]
  by_cases he : k.held[m].path.sig = n
  ·rw [if_pos he] at hq
   have hn : ¬ ((m : Int) < 0) := by omega
   have e : ofH k.held n = (k.held[m], true) := by
    unfold ofH
    rw [hq]
    simp [zc6, hn, List.getElem?_eq_getElem hlt]
   rw [e]
   simp [hlt, zei, he]
   refine call (zjd k.held[m] (k.at hk hlt)) (by simp [hlt]) (by simp) ?_
   simp [zae]
  ·rw [if_neg he] at hq
   simp [hlt, zei, he, hw]
   exact ⟨m, by omega, rfl, hq⟩
 ·have : i = 0 := by omega
  subst this
  have e : ofH k.held n = (noHd, false) := by
   unfold ofH
   rw [hq]
   simp [zc6, zcs]
  rw [e]
  simp
  rfl
def zct : Lay := ⟨[⟨1, noP, noP, noP, noP, 0, 0⟩], [⟨0, 0⟩], [⟨⟨0, 1⟩, []⟩], [], 1, 1, 1, 1, 1, 1, 1⟩
def im19 : Img := zoH zct zgW 0 0 0 0
def p19 : Path := ⟨0, 0, [⟨0, 0, 1⟩]⟩
def e19 : Path := ⟨0, 0, []⟩
def k19 : Kern := (zaJ zct im19 zaF p19).1
theorem zju : im19.ok := ⟨⟨by decide, by decide⟩, ⟨by decide, by decide⟩, ⟨by decide, by decide⟩, ⟨by decide, by decide⟩⟩
theorem w19a : (zaJ zct im19 zaF p19).2 = (1, 0) := by decide +kernel
theorem w19b : (zaJ zct im19 k19 p19).2 = (0, 190) := by decide +kernel
theorem w19c : (zaJ zct zgW zaF p19).2 = (0, 190) := by decide +kernel
theorem w19d : (zaJ zct im19 zaF e19).2 = (0, 110) := by decide +kernel
theorem w19e : k19.held.length = 1 ∧ k19.next = 2 ∧ (k19.held.map fun h => (h.stage, h.id, h.path.sig)) = [(1, 1, 0)] := by decide +kernel
theorem w19f : zcv zct im19 zaF p19 = 0 := by decide +kernel
theorem w19g : zaO zaF = true ∧ zaO k19 = true := by decide +kernel
theorem zmq : zct.ok := by
 intro s hs
 simp only [zct, List.mem_cons, List.not_mem_nil, or_false] at hs
 rcases hs with rfl; decide
theorem zmr : zct.ovOk := by
 intro e he
 simp only [zct, List.mem_cons, List.not_mem_nil, or_false] at he
 subst he; decide
theorem zdB : zct.lens := ⟨by decide, by decide, by decide, by decide, fun e he => by simp only [zct, List.mem_cons, List.not_mem_nil, or_false] at he; subst he; decide⟩
theorem zhB : k19.len := zir zgh (by decide) (by decide) (by decide +kernel) (by decide +kernel)
theorem zoY {k : Kern} (hk : k.len) : CanOk zct k p19 := ⟨hk, zmq, zmr, by decide, by decide, by decide +kernel⟩
theorem zra : CanOk zct zaF e19 := ⟨zgh, zmq, zmr, by decide, by decide, by decide +kernel⟩
theorem zpW : C f_lockbarlaw19_one [] zct.av := by
 refine ctr [] run_lockbarlaw19_one rfl rfl (by simp [AV.pure]) ?_ rfl
 unfold rt_lockbarlaw19_one
 simp
 rfl
def zeg (l : Lay) (k : Kern) (p : Path) : Bool := (k.held.take 11).any zdL || ((zix l || decide (10 < k.held.length)) || decide (30 < p.steps.length))
theorem zj9 (l : Lay) (k : Kern) (p : Path) : C f_lockbarlaw19_great [l.av, k.av, p.av] (.bool (zeg l k p)) := by
 refine ctr (l.cells ++ k.cells ++ p.cells) run_lockbarlaw19_great rfl (by simp [zac]) rfl ?_ rfl
 unfold rt_lockbarlaw19_great
 simp [zaC, zad, Path.cells]
 refine zaa (by simp) (fun vs => ∃ i : Nat, i ≤ k.held.length ∧ i ≤ 11 ∧ vs = [I i] ∧ zal zdL (k.held.take i)) (fun vs => match vs with | [.int _ j] => 11 - j.toNat | _ => 0) ⟨0, by omega, by omega, by simp, rfl⟩ ?_
 rintro vs - ⟨i, hi, hi2, rfl, hq⟩
 by_cases hlt : i < k.held.length ∧ i < 11
 ·obtain ⟨hl1, hl2⟩ := hlt
  have hw := zab (i := i) (by omega)
  have hl3 : (i : Int) ≤ 10 := by omega
  simp [hl1, hl3]
  refine call (zmP k.held[i]) (by simp [hl1]) (by simp) ?_
  cases hg : zdL k.held[i]
  ·simp [hw]
   exact ⟨⟨i + 1, by omega, by omega, by omega, zah hl1 hq hg⟩, by omega⟩
  ·have : (k.held.take 11).any zdL = true := List.any_eq_true.2 ⟨k.held[i], List.mem_take_iff_getElem.2 ⟨i, by omega, rfl⟩, hg⟩
   simp [zeg, this]
 ·have ht : k.held.take 11 = k.held.take i := by
   by_cases h11 : i = 11
   ·rw [h11]
   ·rw [List.take_of_length_le (by omega), List.take_of_length_le (by omega)]
  have hq : (k.held.take 11).any zdL = false := by rw [ht]; exact hq
  have e : decide ((10 : Int) < k.held.length) = decide (10 < k.held.length) := decide_eq_decide.2 (by omega)
  have e2 : decide ((30 : Int) < p.steps.length) = decide (30 < p.steps.length) := decide_eq_decide.2 (by omega)
  have hstop : ¬ (i < k.held.length ∧ (i : Int) ≤ 10) := by omega
  by_cases h1 : i < k.held.length
  ·have h2 : ¬ (i : Int) ≤ 10 := by omega
   simp [h1, h2, zad]
   refine call (zhl l) (by simp [zad]) (by simp) ?_
   simp [zeg, hq, e, e2]
  ·simp [h1, zad]
   refine call (zhl l) (by simp [zad]) (by simp) ?_
   simp [zeg, hq, e, e2]
theorem zro (k : Kern) : pv (.aidx 24 3 0 3 true) [.agg (zaz k.want k.run k.fail), I 3] = Mach.av ⟨k.want 3, k.run 3, k.fail 3⟩ := zmF k.want k.run k.fail (z := 3) (by omega) (by omega)
set_option maxHeartbeats 2000000 in
theorem zcU : C f_lockbarlaw19_wakes [] (.bool true) := by
 have y1 := zbt zct im19 zju zaF (zc4 w19g.1) p19 (zoY zgh) zdB
 have y2 := zbt zct im19 zju k19 (zc4 w19g.2) p19 (zoY zhB) zdB
 have y3 := zbt zct zgW zpc zaF (zc4 w19g.1) p19 (zoY zgh) zdB
 have y4 := zbt zct im19 zju zaF (zc4 w19g.1) e19 zra zdB
 rw [w19a] at y1
 rw [w19b] at y2
 rw [w19c] at y3
 rw [w19d] at y4
 have y5 := zcJ zct im19 zju zaF (zc4 w19g.1) p19 (zoY zgh) zdB
 rw [w19f] at y5
 obtain ⟨h, hh, s1, s2, s3⟩ : ∃ h, k19.held = [h] ∧ h.stage = 1 ∧ h.id = 1 ∧ h.path.sig = 0 := by
  obtain ⟨a1, a2, a3⟩ := w19e
  obtain ⟨h, hh⟩ := List.length_eq_one_iff.1 a1
  rw [hh] at a3
  simp at a3
  exact ⟨h, hh, a3⟩
 have hkn := w19e.2.1
 have hhl : h.len := zhB.2 h (by rw [hh]; simp)
 have z1 : zeJ k19.held 1 = (h, true) := by rw [hh]; simp [zeJ, zn1, s2]
 have z2 : ofH k19.held 0 = (h, true) := by rw [hh]; simp [ofH, zcs, zc6, s3]
 have z3 : ofH k19.held 1 = (noHd, false) := by rw [hh]; simp [ofH, zcs, zc6, s3]
 have y6 := zdH k19 zhB 1
 have y7 := zdI k19 zhB 0
 have y8 := zdI k19 zhB 1
 rw [z1] at y6
 rw [z2] at y7
 rw [z3] at y8
 have y9 := zhn h h hhl
 rw [zgm] at y9
 refine ctr [] run_lockbarlaw19_wakes rfl rfl rfl ?_ rfl
 unfold rt_lockbarlaw19_wakes
 refine call zpW rfl (by simp) ?_
 simp [zae]
 refine call zmb rfl (by simp) ?_
 simp [zae]
 refine call (znG zct zgW 0 0 0 0 (by omega) (by omega) (by omega) (by omega) (by omega) (by omega) (by omega) (by omega)) (by simp [zae]) (by simp) ?_
 simp [zae, show (zoH zct zgW 0 0 0 0) = im19 from rfl]
 refine call zbW rfl (by simp) ?_
 simp [zae]
 refine call y1 (by simp [zae, Path.cells, p19, Step.cells]) (by simp) ?_
 simp [zae, show (zaJ zct im19 zaF p19).1 = k19 from rfl]
 refine call y2 (by simp [zae, Path.cells, p19, Step.cells]) (by simp) ?_
 simp [zae]
 refine call zmb rfl (by simp) ?_
 simp [zae]
 refine call zbW rfl (by simp) ?_
 simp [zae]
 refine call y3 (by simp [zae, Path.cells, p19, Step.cells]) (by simp) ?_
 simp [zae]
 refine call zbW rfl (by simp) ?_
 simp [zae]
 refine call y4 (by simp [zae, Path.cells, e19, Step.cells]) (by simp) ?_
 simp [zae, zdz, hh]
 refine call y6 (by simp [zae]) (by simp) ?_
 simp [zae]
 refine call y7 (by simp [zae]) (by simp) ?_
 simp [zae]
 refine call y8 (by simp [zae]) (by simp) ?_
 simp [zae, zej, zdz, hh, zhy, s1, hkn]
 refine zaj (avs := [h.av, h.av]) (.bool true) rfl (fun _ => ⟨by simp [zae], y9⟩) (by simp) ?_
 simp [zae, zej, zdz, hh, zhy, s1, hkn]
 refine zaj (avs := []) zaF.av (by simp [AV.pure]) (fun _ => ⟨rfl, zbW⟩) (by simp) ?_
 simp [zae, zej, zdz, hh, zhy, s1, hkn]
 refine zaj (avs := [zct.av, im19.av, zaF.av, p19.av]) (I 0) rfl (fun _ => ⟨by simp [zae, Path.cells, p19, Step.cells], y5⟩) (by simp) ?_
 simp [zae, zej, zdz, hh, zhy, s1, hkn]
 refine zaj (avs := []) zaF.av (by simp [AV.pure]) (fun _ => ⟨rfl, zbW⟩) (by simp) ?_
 have hk3 := zro zaF
 have hkc : zaF.cells.drop 2 = zaz zaF.want zaF.run zaF.fail := rfl
 simp [zae, zej, zdz, hh, zhy, s1, hkn, hk3, hkc, -zaf]
 simp [Mach.cells, zaF]
end Go.Lb.LK
namespace Go.Lb.LK
open Go Go.Lb Go.Proofs
noncomputable section
@[simp] def qct_0 : SE := .agg [.inp 114, .inp 115, .inp 116]
@[simp] def qct_1 : SE := bi .neq (tp 1 (.inp 119)) (tp 1 (.inp 120))
@[simp] def qct_2 : SE := pk (nt (.inp 123)) bT qct_1
@[simp] def qct_3 : SE := bi .neq (tp 2 (.inp 119)) (tp 2 (.inp 120))
@[simp] def qct_4 : SE := pk qct_2 bT qct_3
@[simp] def qct_5 : SE := pk qct_4 bT (nt (.inp 124))
@[simp] def qct_6 : SE := .app (.eqb true) [tp 1 (.inp 121), tp 1 (.inp 122)]
@[simp] def qct_7 : SE := .app (.eqb false) [tp 1 (.inp 128), tp 1 (.inp 129)]
@[simp] def qct_8 : SE := pk (.inp 130) qct_7 bF
@[simp] def qct_9 : SE := bi .eql (.inp 131) (.inp 132)
@[simp] def qct_10 : SE := pk qct_8 qct_9 bF
@[simp] def qct_11 : SE := pk qct_10 (.inp 135) bF
def rt_lockbarlaw19_CommitTells : RT :=
 ck (.isAgg 11) [.agg (ips 0 11)] <|
 ck (.isAgg 29) [.agg (ips 11 29)] <|
 ck (.isAgg 74) [.agg (ips 40 74)] <|
 ck (.isAgg 3) [qct_0] <|
.seg [.call 118 [] 8 [.agg (ips 0 11), .agg (ips 40 74), qct_0] false] <|
.cond (.inp 118)
 (.seg [.call 119 [] 9 [] false] <|
.ret (.inp 119))
 (.seg [.call 119 [] 10 [.agg (ips 0 11), .agg (ips 11 29), .agg (ips 40 74), qct_0] false] <|
 ck (.tproj 0) [.inp 119] <|
 ck (.tproj 1) [.inp 119] <|
 ck (.tproj 2) [.inp 119] <|
 ck (.isAgg 74) [tp 0 (.inp 119)] <|
.seg [.call 120 [] 11 [.agg (ips 0 11), .agg (ips 11 29), .agg (ips 40 74), qct_0] false] <|
 ck (.tproj 0) [.inp 120] <|
 ck (.tproj 1) [.inp 120] <|
 ck (.tproj 2) [.inp 120] <|
 ck (.isAgg 74) [tp 0 (.inp 120)] <|
.seg [.call 121 [] 12 [.agg (ips 40 74), .inp 117] false] <|
 ck (.tproj 0) [.inp 121] <|
 ck (.tproj 1) [.inp 121] <|
 ck (.isAgg 23) [tp 0 (.inp 121)] <|
.seg [.call 122 [] 13 [.agg (ips 40 74), .inp 117] false] <|
 ck (.tproj 0) [.inp 122] <|
 ck (.tproj 1) [.inp 122] <|
 ck (.isAgg 23) [tp 0 (.inp 122)] <|
.seg [.call 123 [] 14 [.agg (pts (tp 0 (.inp 119)) 0 74), .agg (pts (tp 0 (.inp 120)) 0 74)] false] <|
 ck (.un .not) [.inp 123] <|
 ckg (nt (.inp 123)) false (.bin .neq) [tp 1 (.inp 119), tp 1 (.inp 120)] <|
 ck .pick [nt (.inp 123), bT, qct_1] <|
 ckg (qct_2) false (.bin .neq) [tp 2 (.inp 119), tp 2 (.inp 120)] <|
 ck .pick [qct_2, bT, qct_3] <|
.seg [.call 124 [(qct_4, false)] 15 [.agg (pts (tp 0 (.inp 121)) 0 23), .agg (pts (tp 0 (.inp 122)) 0 23)] false] <|
 ckg (qct_4) false (.un .not) [.inp 124] <|
 ck .pick [qct_4, bT, nt (.inp 124)] <|
 ckg (qct_5) false (.eqb true) [tp 1 (.inp 121), tp 1 (.inp 122)] <|
 ck .pick [qct_5, bT, qct_6] <|
.seg [.bind 125 (qct_4),
.bind 126 (qct_5),
.bind 127 (pk qct_5 bT qct_6)] <|
.cond (.inp 127)
 (.ret (bF))
 (.seg [.call 128 [] 16 [.agg (ips 40 74), .inp 117] false] <|
 ck (.tproj 0) [.inp 128] <|
 ck (.tproj 1) [.inp 128] <|
 ck (.isAgg 23) [tp 0 (.inp 128)] <|
.seg [.call 129 [] 17 [.agg (ips 40 74), .inp 117] false] <|
 ck (.tproj 0) [.inp 129] <|
 ck (.tproj 1) [.inp 129] <|
 ck (.isAgg 23) [tp 0 (.inp 129)] <|
.seg [.call 130 [] 15 [.agg (pts (tp 0 (.inp 128)) 0 23), .agg (pts (tp 0 (.inp 129)) 0 23)] false,
.chk [(.inp 130, true)] (.eqb false) [tp 1 (.inp 128), tp 1 (.inp 129)],
.chk [] .pick [.inp 130, qct_7, bF],
.call 131 [(qct_8, true)] 18 [.agg (ips 0 11), .agg (ips 11 29), .agg (ips 40 74), qct_0] false,
.call 132 [(qct_8, true)] 19 [.agg (ips 0 11), .agg (ips 11 29), .agg (ips 40 74), qct_0] false,
.chk [(qct_8, true)] (.bin .eql) [.inp 131, .inp 132],
.chk [] .pick [qct_8, qct_9, bF],
.call 133 [(qct_10, true)] 20 [] false,
.call 134 [(qct_10, true)] 21 [] false,
.call 135 [(qct_10, true)] 14 [.inp 133, .inp 134] false,
.chk [] .pick [qct_10, .inp 135, bF],
.call 136 [(qct_11, true)] 9 [] false,
.chk [] .pick [qct_11, .inp 136, bF]] <|
.seg [.bind 137 (pk qct_11 (.inp 136) bF),
.bind 138 (qct_10),
.bind 139 (qct_11)] <|
.ret (.inp 137)))
theorem run_lockbarlaw19_CommitTells : runF E 3 [.agg (ips 0 11), .agg (ips 11 29), .agg (ips 40 74), .agg [.inp 114, .inp 115, .inp 116], .inp 117] 118 = rt_lockbarlaw19_CommitTells := by kernel_rfl
end
end Go.Lb.LK
namespace Go.Lb.LK
open Go Go.Lb Go.Proofs Go.RowKit
structure Small19 (l : Lay) (k : Kern) (p : Path) : Prop where
 can : CanOk l k p
 lens : l.lens
 ten : k.held.length ≤ 10
 need : (zak l p).length ≤ 2000
theorem zoC {l : Lay} {k : Kern} {p : Path} (hl : l.ok) (h : zeg l k p = false) : Small19 l k p := by
 simp only [zeg, Bool.or_eq_false_iff, decide_eq_false_iff_not] at h
 obtain ⟨h1, ⟨h2, h3⟩, h4⟩ := h
 rw [List.take_of_length_le (by omega)] at h1
 obtain ⟨a1, a2, a3, a4, a5⟩ := zkC h2
 have hk : k.len := ⟨by omega, fun x hx => by
  have := List.any_eq_false.1 h1 x hx
  exact (zqz (by simpa using this)).1⟩
 have ho : (over l p.exit).length ≤ 20 := by
  unfold over
  split
  ·rename_i e he
   by_cases hc : 0 ≤ p.exit ∧ p.exit < l.exits.length
   ·obtain ⟨n, hn, hlt, h2⟩ := zft hc.1 hc.2
    rw [h2] at he
    simp only [Option.some.injEq] at he; subst he
    exact a5 _ (List.getElem_mem hlt)
   ·rw [zdu hc] at he; cases he
  ·simp
 have hn : (zak l p).length ≤ 2000 := by
  have hw1 : ∀ s k, (zcA l s k).length ≤ 31 := fun s k => by have := zfQ l s k; omega
  have e1 := zfu (fun x : Int × Step => zcA l x.2 x.1) 31 (fun x => hw1 x.2 x.1) (zap l p)
  have e2 : (zap l p).length ≤ 50 := by simp [zap]; omega
  unfold zak
  omega
 exact ⟨⟨hk, hl, fun e he => by have := a5 e he; omega, by omega, by omega, by omega⟩, ⟨by omega, by omega, by omega, by omega, fun e he => by have := a5 e he; omega⟩, by omega, hn⟩
theorem zkq {l : Lay} {im : Img} {k : Kern} {p : Path} (h : Small19 l k p) : (zaJ l im k p).1.len := zir h.can.kl (by have := h.ten; omega) (by have := h.can.pl; omega) (by have := h.can.ol; omega) (by have := h.need; omega)
theorem zoB {a : Kern} (h : a.len) : C f_lockbarref18_Same [a.av, a.av] (.bool true) := by
 have := znJ a a h
 rw [zni] at this; exact this
theorem zdl {a : Hd} (h : a.len) : C f_lockbarref17_Same [a.av, a.av] (.bool true) := by
 have := zhn a a h
 rw [zgm] at this; exact this
theorem zeB : noHd.len := ⟨by decide, by decide, by decide⟩
theorem zmE {hs : List Hd} (h : ∀ x ∈ hs, x.len) (z : Int) : (zc6 hs z).1.len := by
 unfold zc6
 split
 ·exact zeB
 ·split
  ·rename_i x hx
   exact h _ (List.mem_of_getElem? hx)
  ·exact zeB
theorem zo4 {hs : List Hd} (h : ∀ x ∈ hs, x.len) (n : Int) : (zeJ hs n).1.len := by rw [← zh1]; exact zmE h _
theorem zru {hs : List Hd} (h : ∀ x ∈ hs, x.len) (n : Int) : (ofH hs n).1.len := zmE h _
theorem likn (l : Lay) (im : Img) (k : Kern) (p : Path) (n : Int) : AV.pureAll (l.cells ++ im.cells ++ k.cells ++ p.cells ++ [I n]) = true := by simp [zac, AV.pureAll, AV.pure]
set_option maxHeartbeats 2000000 in
theorem zi1 (l : Lay) (hl : l.ok) (im : Img) (hi : im.ok) (k : Kern) (hko : k.ok) (p : Path) (n : Int) : C f_lockbarlaw19_CommitTells [l.av, im.av, k.av, p.av, I n] (.bool true) := by
 refine ctr (l.cells ++ im.cells ++ k.cells ++ p.cells ++ [I n]) run_lockbarlaw19_CommitTells rfl (likn l im k p n) rfl ?_ rfl
 unfold rt_lockbarlaw19_CommitTells
 simp [zaC, zad, Path.cells]
 refine call (zj9 l k p) (by simp [zad, zaC, Path.cells]) (by simp) ?_
 cases hg : zeg l k p
 case true =>
  simp
  exact call zcU rfl (by simp) (by simp)
 have hS := zoC hl hg
 have hk := hS.can.kl
 simp
 refine call (zbt l im hi k hko p hS.can hS.lens) (by simp [zad, zaC, Path.cells]) (by simp) ?_
 simp [zae]
 refine call (zly l im hi k hko p hS.can hS.lens) (by simp [zad, zaC, Path.cells]) (by simp) ?_
 simp [zae]
 refine call (zdH k hk n) (by simp [zad, zaC]) (by simp) ?_
 simp [zae]
 refine call (znK k hk n) (by simp [zad, zaC]) (by simp) ?_
 simp [zae]
 refine call (zoB (zkq (im := im) hS)) (by simp [zae]) (by simp) ?_
 have hfl := zo4 hk.2 n
 have hol := zru hk.2 n
 simp
 refine zaj (avs := [(zeJ k.held n).1.av, (zeJ k.held n).1.av]) (.bool true) rfl (fun _ => ⟨by simp [zae], zdl hfl⟩) (by simp) ?_
 simp
 refine call (zdI k hk n) (by simp [zad, zaC]) (by simp) ?_
 simp [zae]
 refine call (zpX k hk n) (by simp [zad, zaC]) (by simp) ?_
 simp [zae]
 refine call (zdl hol) (by simp [zae]) (by simp) ?_
 simp
 refine zaj (avs := [l.av, im.av, k.av, p.av]) (I (zcv l im k p)) rfl (fun _ => ⟨by simp [zad, zaC, Path.cells], zcJ l im hi k hko p hS.can hS.lens⟩) (by simp) ?_
 simp
 refine zaj (avs := [l.av, im.av, k.av, p.av]) (I (zcv l im k p)) rfl (fun _ => ⟨by simp [zad, zaC, Path.cells], zkk l im hi k hko p hS.can hS.lens⟩) (by simp) ?_
 simp
 refine zaj (avs := []) zaF.av (by simp [AV.pure]) (fun _ => ⟨rfl, zbW⟩) (by simp) ?_
 simp
 refine zaj (avs := []) zaF.av (by simp [AV.pure]) (fun _ => ⟨rfl, zoX⟩) (by simp) ?_
 simp
 refine zaj (avs := [zaF.av, zaF.av]) (.bool true) rfl (fun _ => ⟨by simp, zoB zgh⟩) (by simp) ?_
 simp
 refine zaj (avs := []) (.bool true) rfl (fun _ => ⟨rfl, zcU⟩) (by simp) ?_
 simp
end Go.Lb.LK
