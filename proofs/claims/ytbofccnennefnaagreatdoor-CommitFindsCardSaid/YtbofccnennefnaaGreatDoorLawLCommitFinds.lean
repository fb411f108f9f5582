/- What functions come to, printed by a program, checked by the kernel. -/
import Derived.Test.YtbofccnennefnaaGreatDoorCh1
import Derived.Test.YtbofccnennefnaaGreatDoorCh10
import Derived.Test.YtbofccnennefnaaGreatDoorCh5
import Derived.Test.YtbofccnennefnaaGreatDoorCh6
import Derived.Test.YtbofccnennefnaaGreatDoorRows
import Derived.Test.YtbofccnennefnaaGreatDoorTie
import Derived.Test.YtbofccnennefnaaGreatDoorCards
import Derived.ProofKit
import Derived.LaidMore
import Derived.OpenShut
import Derived.Stop.Joined
import Derived.SevenTiedAt
set_option linter.unusedSimpArgs false
set_option linter.unusedVariables false
namespace Go.Lb.LK
open Go Go.Lb Go.Proofs
noncomputable section
@[simp] def qcf_0 : SE := ei 23 (.inp 1) (.inp 78)
@[simp] def qcf_1 : SE := .app (.eoff 0) [qcf_0]
@[simp] def qcf_2 : SE := e1 qcf_1
@[simp] def qcf_3 : SE := bi .eql qcf_2 (.inp 74)
@[simp] def qcf_4 : SE := bi .lss (.inp 76) (zi 0)
@[simp] def qcf_5 : SE := .app (.eoff 1) [qcf_0]
@[simp] def qcf_6 : SE := .app (.eoff 0) [qcf_5]
@[simp] def qcf_7 : SE := e1 qcf_6
@[simp] def qcf_8 : SE := bi .eql qcf_7 (.inp 74)
@[simp] def qcf_9 : SE := bi .add (.inp 78) (zi 1)
@[simp] def qcf_10 : SE := bi .geq (.inp 76) (zi 0)
@[simp] def qcf_11 : SE := .app (.eqb true) [tp 1 (.inp 79), qcf_10]
@[simp] def qcf_12 : SE := bi .geq (.inp 77) (zi 0)
@[simp] def qcf_13 : SE := .app (.eqb true) [tp 1 (.inp 80), qcf_12]
@[simp] def qcf_14 : SE := ei 23 (.inp 1) (.inp 76)
@[simp] def qcf_15 : SE := .agg (pts (tp 0 (.inp 79)) 0 23)
@[simp] def qcf_16 : SE := pk (nt (tp 1 (.inp 79))) bT (.inp 82)
@[simp] def qcf_17 : SE := ei 23 (.inp 1) (.inp 77)
@[simp] def qcf_18 : SE := .agg (pts (tp 0 (.inp 80)) 0 23)
@[simp] def qcf_19 : SE := pk (nt (tp 1 (.inp 80))) bT (.inp 83)
@[simp] def qcf_20 : SE := pk qcf_16 qcf_19 bF
@[simp] def qcf_21 : SE := .agg [zi 0, zi 0, zi 0, .nils, .nils, .nils, .int .u8 0, zi 0, bF, bF, bF, bF, bF, bF, bF, bF, bF, bF, bF, bF, bF, zi 0, bF]
@[simp] def qcf_22 : SE := pk (tp 1 (.inp 79)) bT (.inp 84)
@[simp] def qcf_23 : SE := pk qcf_20 qcf_22 bF
@[simp] def qcf_24 : SE := pk (tp 1 (.inp 80)) bT (.inp 85)
@[simp] def qcf_25 : SE := pk qcf_23 qcf_24 bF
def rt_lockbarlaw19_CommitFinds : RT :=
 ck (.isAgg 74) [.agg (ips 0 74)] <|
.seg [.call 75 [] 8 [.agg [.nils, .nils, .nils, .nils, zi 0, zi 0, zi 0, zi 0, zi 0, zi 0, zi 0], .agg (ips 0 74), .agg [zi 0, zi 0, .nils]] false] <|
.cond (.inp 75)
 (.seg [.call 76 [] 9 [] false] <|
.ret (.inp 76))
 (.loop 0 76 [zi (-1), zi (-1), zi 0] <|
 ck .len [.inp 1] <|
 ck (.bin .lss) [.inp 78, ln (.inp 1)] <|
.cond (bi .lss (.inp 78) (ln (.inp 1)))
 (ck (.eidx 23) [.inp 1, .inp 78] <|
 ck (.eoff 0) [qcf_0] <|
 ck (.eload 1 false) [qcf_1] <|
 ck (.bin .eql) [qcf_2, .inp 74] <|
 ckg (qcf_3) true (.bin .lss) [.inp 76, zi 0] <|
 ck .pick [qcf_3, qcf_4, bF] <|
.seg [.bind 79 (pk qcf_3 qcf_4 bF)] <|
.cond (.inp 79)
 (ck (.eidx 23) [.inp 1, .inp 78] <|
 ck (.eoff 1) [qcf_0] <|
 ck (.eoff 0) [qcf_5] <|
 ck (.eload 1 false) [qcf_6] <|
 ck (.bin .eql) [qcf_7, .inp 74] <|
.cond (qcf_8)
 (ck (.bin .add) [.inp 78, zi 1] <|
.again 0 [.inp 78, .inp 78, qcf_9])
 (ck (.bin .add) [.inp 78, zi 1] <|
.again 0 [.inp 78, .inp 77, qcf_9]))
 (ck (.eidx 23) [.inp 1, .inp 78] <|
 ck (.eoff 1) [qcf_0] <|
 ck (.eoff 0) [qcf_5] <|
 ck (.eload 1 false) [qcf_6] <|
 ck (.bin .eql) [qcf_7, .inp 74] <|
.cond (qcf_8)
 (ck (.bin .add) [.inp 78, zi 1] <|
.again 0 [.inp 76, .inp 78, qcf_9])
 (ck (.bin .add) [.inp 78, zi 1] <|
.again 0 [.inp 76, .inp 77, qcf_9])))
 (.seg [.call 79 [] 12 [.agg (ips 0 74), .inp 74] false] <|
 ck (.tproj 0) [.inp 79] <|
 ck (.tproj 1) [.inp 79] <|
 ck (.isAgg 23) [tp 0 (.inp 79)] <|
.seg [.call 80 [] 16 [.agg (ips 0 74), .inp 74] false] <|
 ck (.tproj 0) [.inp 80] <|
 ck (.tproj 1) [.inp 80] <|
 ck (.isAgg 23) [tp 0 (.inp 80)] <|
 ck (.bin .geq) [.inp 76, zi 0] <|
 ck (.eqb true) [tp 1 (.inp 79), qcf_10] <|
 ckg (qcf_11) false (.bin .geq) [.inp 77, zi 0] <|
 ckg (qcf_11) false (.eqb true) [tp 1 (.inp 80), qcf_12] <|
 ck .pick [qcf_11, bT, qcf_13] <|
.seg [.bind 81 (pk qcf_11 bT qcf_13)] <|
.cond (.inp 81)
 (.ret (bF))
 (.seg [.chk [] (.un .not) [tp 1 (.inp 79)],
.chk [(nt (tp 1 (.inp 79)), false)] (.eidx 23) [.inp 1, .inp 76],
.chk [(nt (tp 1 (.inp 79)), false)] (.eload 23 true) [qcf_14],
.call 82 [(nt (tp 1 (.inp 79)), false)] 15 [qcf_15, el 23 qcf_14] false,
.chk [] .pick [nt (tp 1 (.inp 79)), bT, .inp 82],
.chk [(qcf_16, true)] (.un .not) [tp 1 (.inp 80)],
.chk [(nt (tp 1 (.inp 80)), false), (qcf_16, true)] (.eidx 23) [.inp 1, .inp 77],
.chk [(nt (tp 1 (.inp 80)), false), (qcf_16, true)] (.eload 23 true) [qcf_17],
.call 83 [(nt (tp 1 (.inp 80)), false), (qcf_16, true)] 15 [qcf_18, el 23 qcf_17] false,
.chk [(qcf_16, true)] .pick [nt (tp 1 (.inp 80)), bT, .inp 83],
.chk [] .pick [qcf_16, qcf_19, bF],
.call 84 [(tp 1 (.inp 79), false), (qcf_20, true)] 15 [qcf_15, qcf_21] false,
.chk [(qcf_20, true)] .pick [tp 1 (.inp 79), bT, .inp 84],
.chk [] .pick [qcf_20, qcf_22, bF],
.call 85 [(tp 1 (.inp 80), false), (qcf_23, true)] 15 [qcf_18, qcf_21] false,
.chk [(qcf_23, true)] .pick [tp 1 (.inp 80), bT, .inp 85],
.chk [] .pick [qcf_23, qcf_24, bF],
.call 86 [(qcf_25, true)] 9 [] false,
.chk [] .pick [qcf_25, .inp 86, bF]] <|
.seg [.bind 87 (pk qcf_25 (.inp 86) bF),
.bind 88 (qcf_20),
.bind 89 (qcf_23),
.bind 90 (qcf_25)] <|
.ret (.inp 87))))
theorem run_lockbarlaw19_CommitFinds : runF E 7 [.agg (ips 0 74), .inp 74] 75 = rt_lockbarlaw19_CommitFinds := by kernel_rfl
end
end Go.Lb.LK
namespace Go.Lb.LK
open Go Go.Lb Go.Proofs Go.RowKit
def idxI (hs : List Hd) (n : Int) : Nat → Int
 | 0 => -1
 | i + 1 => match hs[i]? with
  | some h => if h.id = n ∧ idxI hs n i < 0 then i else idxI hs n i
  | none => idxI hs n i
theorem zfw {hs : List Hd} {n : Int} {i : Nat} (h : i < hs.length) : idxI hs n (i + 1) = if hs[i].id = n ∧ idxI hs n i < 0 then (i : Int) else idxI hs n i := by simp only [idxI, List.getElem?_eq_getElem h]
theorem ze7 {hs : List Hd} {n : Int} : ∀ i, i ≤ hs.length → (∀ j, ∀ hj : j < hs.length, j < i → ¬ hs[j].id = n) → idxI hs n i = -1
 | 0, _, _ => rfl
 | i + 1, h, hq => by
  rw [zfw (by omega), ze7 i (by omega) fun j hj hji => hq j hj (by omega)]
  simp [hq i (by omega) (by omega)]
theorem ziz {hs : List Hd} {n : Int} {m : Nat} (hm : m < hs.length) (h1 : hs[m].id = n) (h2 : ∀ j, ∀ hj : j < hs.length, j < m → ¬ hs[j].id = n) : ∀ d, m + 1 + d ≤ hs.length → idxI hs n (m + 1 + d) = m
 | 0, _ => by
  show idxI hs n (m + 1) = m
  rw [zfw hm, ze7 m (by omega) h2]
  simp [h1]
 | d + 1, h => by
  show idxI hs n (m + 1 + d + 1) = m
  rw [zfw (by omega), ziz hm h1 h2 d (by omega)]
  simp; omega
theorem zqb (hs : List Hd) (n : Int) : idxI hs n hs.length = idxH hs n := by
 unfold idxH
 cases hf : hs.findIdx? (fun x => decide (x.id = n)) with
 | none =>
  rw [List.findIdx?_eq_none_iff] at hf
  exact ze7 _ (Nat.le_refl _) fun j hj _ => by simpa using hf _ (List.getElem_mem hj)
 | some m =>
  obtain ⟨hm, h1, h2⟩ := List.findIdx?_eq_some_iff_getElem.1 hf
  have := ziz hm (by simpa using h1) (fun j hj hjm => by simpa using h2 j hjm) (hs.length - (m + 1)) (by omega)
  rw [show m + 1 + (hs.length - (m + 1)) = hs.length by omega] at this
  exact this
def lay0 : Lay := ⟨[], [], [], [], 0, 0, 0, 0, 0, 0, 0⟩
theorem zjW {hs : List Hd} {z : Int} (h0 : 0 ≤ z) (h1 : z < hs.length) : ∃ m : Nat, z = m ∧ ∃ hm : m < hs.length, zc6 hs z = (hs[m], true) := by
 obtain ⟨m, rfl⟩ : ∃ m : Nat, z = m := ⟨z.toNat, by omega⟩
 have hm : m < hs.length := by omega
 exact ⟨m, rfl, hm, by simp [zc6, show ¬ (m : Int) < 0 by omega, List.getElem?_eq_getElem hm]⟩
theorem zjV {hs : List Hd} {z : Int} (h0 : ¬ 0 ≤ z) : zc6 hs z = (noHd, false) := by simp [zc6, show z < 0 by omega]
set_option maxHeartbeats 2000000 in
theorem zi0 (k : Kern) (hko : k.ok) (n : Int) : C f_lockbarlaw19_CommitFinds [k.av, I n] (.bool true) := by
 refine ctr (k.cells ++ [I n]) run_lockbarlaw19_CommitFinds rfl (by simp [zac, AV.pureAll, AV.pure]) rfl ?_ rfl
 unfold rt_lockbarlaw19_CommitFinds
 simp [zaC, zad]
 refine call (zj9 lay0 k e19) (by simp [zad, zaC, Path.cells, Lay.cells, lay0, e19]) (by simp) ?_
 cases hg : zeg lay0 k e19
 case true =>
  simp
  exact call zcU rfl (by simp) (by simp)
 have hS := zoC (fun s hs => by simp [lay0] at hs) hg
 have hk := hS.can.kl
 have h1 := hk.1
 simp
 refine zaa (by simp) (fun vs => ∃ i : Nat, i ≤ k.held.length ∧ vs = [I (idxI k.held n i), I (zcs k.held n i), I i]) (fun vs => match vs with | [_, _, .int _ j] => k.held.length - j.toNat | _ => 0) ⟨0, by omega, by simp [idxI, zcs]⟩ ?_
 rintro vs - ⟨i, hi, rfl⟩
 have g0 : ∀ h : Hd, h.cells[0]? = some (I h.id) := fun _ => rfl
 by_cases hlt : i < k.held.length
 ·have hw := zab (i := i) (by omega)
  have e1 := zfw (n := n) hlt
  have e2 := ziE (n := n) hlt
  by_cases ha : k.held[i].id = n ∧ idxI k.held n i < 0
  ·rw [if_pos ha] at e1
   by_cases hb : k.held[i].path.sig = n
   ·rw [if_pos hb] at e2
    simp [hlt, g0, zei, ha.1, ha.2, hb, hw]
    exact ⟨⟨i + 1, by omega, by rw [e1], by rw [e2], by omega⟩, by omega⟩
   ·rw [if_neg hb] at e2
    simp [hlt, g0, zei, ha.1, ha.2, hb, hw]
    exact ⟨⟨i + 1, by omega, by rw [e1], by rw [e2], by omega⟩, by omega⟩
  ·rw [if_neg ha] at e1
   have hc : (decide (k.held[i].id = n) && decide (idxI k.held n i < 0)) = false := by
    by_cases h2 : k.held[i].id = n
    ·have : ¬ idxI k.held n i < 0 := fun h => ha ⟨h2, h⟩
     simp [this]
    ·simp [h2]
   by_cases hb : k.held[i].path.sig = n
   ·rw [if_pos hb] at e2
    simp [hlt, g0, zei, hb, hw]
    exact ⟨fun h2 h3 => absurd ⟨h2, h3⟩ ha, fun _ => ⟨⟨i + 1, by omega, by rw [e1], by rw [e2], by omega⟩, by omega⟩⟩
   ·rw [if_neg hb] at e2
    simp [hlt, g0, zei, hb, hw]
    exact ⟨fun h2 h3 => absurd ⟨h2, h3⟩ ha, fun _ => ⟨⟨i + 1, by omega, by rw [e1], by rw [e2], by omega⟩, by omega⟩⟩
 have hil : i = k.held.length := by omega
 subst hil
 rw [zqb]
 have hz := zoe k.held n
 have hw := (zjw k.held n k.held.length (Nat.le_refl _)).1
 have hfi : zeJ k.held n = zc6 k.held (idxH k.held n) := (zh1 _ _).symm
 have hof : ofH k.held n = zc6 k.held (zcs k.held n k.held.length) := rfl
 generalize idxH k.held n = z at hz hfi
 generalize zcs k.held n k.held.length = w at hw hof
 simp [zad]
 refine call (zdH k hk n) (by simp [zad, zaC]) (by simp) ?_
 simp [zae]
 refine call (zdI k hk n) (by simp [zad, zaC]) (by simp) ?_
 rw [hfi, hof]
 have hn0 : AV.agg [I 0, I 0, I 0, .sl [], .sl [], .sl [], .int .u8 0, I 0, .bool false, .bool false, .bool false, .bool false, .bool false, .bool false, .bool false, .bool false, .bool false, .bool false, .bool false, .bool false, .bool false, I 0, .bool false] = noHd.av := rfl
 by_cases z0 : 0 ≤ z
 ·obtain ⟨m, rfl, hm, e1⟩ := zjW z0 hz
  rw [e1]
  by_cases w0 : 0 ≤ w
  ·obtain ⟨q, rfl, hq, e2⟩ := zjW w0 hw
   rw [e2]
   simp [zae, hm, hq]
   refine zaj (avs := [k.held[m].av, k.held[m].av]) (.bool true) rfl (fun _ => ⟨by simp [zae, hm], zdl (k.at hk hm)⟩) (by simp) ?_
   simp [zae, hm, hq]
   refine zaj (avs := [k.held[q].av, k.held[q].av]) (.bool true) rfl (fun _ => ⟨by simp [zae, hq], zdl (k.at hk hq)⟩) (by simp) ?_
   simp [zae, hm, hq]
   refine zaj (avs := []) (.bool true) rfl (fun hh => by simp at hh) (by simp) ?_
   simp [zae, hm, hq]
   refine zaj (avs := []) (.bool true) rfl (fun hh => by simp at hh) (by simp) ?_
   simp [zae, hm, hq]
   refine zaj (avs := []) (.bool true) rfl (fun _ => ⟨rfl, zcU⟩) (by simp) ?_
   simp [zae, hm, hq]
  ·rw [zjV w0]
   have w1 : w < 0 := by omega
   simp [zae, hm, w0, w1]
   refine zaj (avs := [k.held[m].av, k.held[m].av]) (.bool true) rfl (fun _ => ⟨by simp [zae, hm], zdl (k.at hk hm)⟩) (by simp) ?_
   simp [zae, hm, w0, w1]
   refine zaj (avs := []) (.bool true) rfl (fun hh => by simp at hh) (by simp) ?_
   simp [zae, hm, w0, w1]
   refine zaj (avs := []) (.bool true) rfl (fun hh => by simp at hh) (by simp) ?_
   simp [zae, hm, w0, w1]
   refine zaj (avs := [noHd.av, noHd.av]) (.bool true) rfl (fun _ => ⟨by simp [zae, hn0], zdl zeB⟩) (by simp) ?_
   simp [zae, hm, w0, w1]
   refine zaj (avs := []) (.bool true) rfl (fun _ => ⟨rfl, zcU⟩) (by simp) ?_
   simp [zae, hm, w0, w1]
 ·rw [zjV z0]
  have z1 : z < 0 := by omega
  by_cases w0 : 0 ≤ w
  ·obtain ⟨q, rfl, hq, e2⟩ := zjW w0 hw
   rw [e2]
   simp [zae, z0, z1, hq]
   refine zaj (avs := []) (.bool true) rfl (fun hh => by simp at hh) (by simp) ?_
   simp [zae, z0, z1, hq]
   refine zaj (avs := [k.held[q].av, k.held[q].av]) (.bool true) rfl (fun _ => ⟨by simp [zae, hq], zdl (k.at hk hq)⟩) (by simp) ?_
   simp [zae, z0, z1, hq]
   refine zaj (avs := [noHd.av, noHd.av]) (.bool true) rfl (fun _ => ⟨by simp [zae, hn0], zdl zeB⟩) (by simp) ?_
   simp [zae, z0, z1, hq]
   refine zaj (avs := []) (.bool true) rfl (fun hh => by simp at hh) (by simp) ?_
   simp [zae, z0, z1, hq]
   refine zaj (avs := []) (.bool true) rfl (fun _ => ⟨rfl, zcU⟩) (by simp) ?_
   simp [zae, z0, z1, hq]
  ·rw [zjV w0]
   have w1 : w < 0 := by omega
   simp [zae, z0, z1, w0, w1]
   refine zaj (avs := []) (.bool true) rfl (fun hh => by simp at hh) (by simp) ?_
   simp [zae, z0, z1, w0, w1]
   refine zaj (avs := []) (.bool true) rfl (fun hh => by simp at hh) (by simp) ?_
   simp [zae, z0, z1, w0, w1]
   refine zaj (avs := [noHd.av, noHd.av]) (.bool true) rfl (fun _ => ⟨by simp [zae, hn0], zdl zeB⟩) (by simp) ?_
   simp [zae, z0, z1, w0, w1]
   refine zaj (avs := [noHd.av, noHd.av]) (.bool true) rfl (fun _ => ⟨by simp [zae, hn0], zdl zeB⟩) (by simp) ?_
   simp [zae, z0, z1, w0, w1]
   refine zaj (avs := []) (.bool true) rfl (fun _ => ⟨rfl, zcU⟩) (by simp) ?_
   simp [zae, z0, z1, w0, w1]
end Go.Lb.LK
namespace Go.Lb.LK
open Go Go.Lb Go.Proofs Go.RowKit
theorem args7 : zpU Tryz.prog 8 Tryz.f7.params.toList = [(true, zoj), (false, iT)] := by kernel_rfl
theorem law7 {avs : List AV} (h : zie Tryz.prog 8 Tryz.f7.params.toList avs) : C 7 avs (.bool true) := by
 have h := zeT _ _ h
 rw [args7] at h
 obtain ⟨x0, q, rfl, h0a, h0b, x1, q, rfl, h1a, h1b, rfl⟩ := h
 obtain ⟨k, rfl, hk⟩ := zmn h0a h0b
 obtain ⟨n, rfl⟩ := zof h1a h1b
 exact zi0 k hk n
end Go.Lb.LK
namespace Go.Proofs.YtbofccnennefnaaGreatDoor
open Go Go.ChangeShapes Go.WideShapes Go.ChangeAt Go.RowKit Go.Lb Go.Lb.LK
theorem own7 : ownKnob Tryz.prog.godebug = none := by kernel_rfl
theorem zpf : laidOutB Tryz.prog = true := by kernel_rfl
theorem znW (os : Os) (args : Array Value) : laidMetH Tryz.prog Rows.commitFindsRow.laid ((World.doorLaid Tryz.prog 400 os).forCall (fun _ _ => 0) ⟨#[], args, []⟩).memory :=
 laidMetH_of_parts3 (fuel := 8) (laidMet_of_run' 8 (by kernel_rfl) (by kernel_rfl)) (by kernel_rfl) (by kernel_rfl)
set_option maxRecDepth 100000 in
theorem commitFinds_lifted (os : Os) (started : os.Started) (H : Type) (enc : TypeId × Value → H) :
  ReturnsInHanded {} Tryz.checked os 7 .any (fun w args => (Rows.commitFindsSpec.pre enc Tryz.prog Tryz.f7 [] false w args ∧ laidMetH Tryz.prog Rows.commitFindsRow.laid w) ∧ sizedMet enc Tryz.prog Tryz.f7 (OpenSpec.ofChange Rows.commitFindsSpec) false w args)
   (Rows.commitFindsSpec.post enc Tryz.prog Tryz.f7 false true false false) := by
 refine zmp (C := Tryz.checked) os started 8 H enc (G := GL) (by kernel_rfl) own7 zpf (by kernel_rfl) Tryz.func7
  (ChangeSpec.witness_shaped (enc := enc) (C := Tryz.checked) (os := os) (X := fun w _ => laidMetH Tryz.prog Rows.commitFindsRow.laid w) false (World.doorLaid Tryz.prog 400 os) #[.agg #[.int .i64 0, .slice none 0 0, .int .i64 0, .int .i64 0, .bool false, .int .i64 0, .int .i64 0, .bool false, .int .i64 0, .int .i64 0, .bool false, .int .i64 0, .int .i64 0, .bool false, .int .i64 0, .int .i64 0, .bool false, .int .i64 0, .int .i64 0, .bool false, .int .i64 0, .int .i64 0, .bool false, .int .i64 0, .int .i64 0, .bool false, .int .i64 0, .int .i64 0, .bool false, .int .i64 0, .int .i64 0, .bool false, .int .i64 0, .int .i64 0, .bool false, .int .i64 0, .int .i64 0, .bool false, .int .i64 0, .int .i64 0, .bool false, .int .i64 0, .int .i64 0, .bool false, .int .i64 0, .int .i64 0, .bool false, .int .i64 0, .int .i64 0, .bool false, .int .i64 0, .int .i64 0, .bool false, .int .i64 0, .int .i64 0, .bool false, .int .i64 0, .int .i64 0, .bool false, .int .i64 0, .int .i64 0, .bool false, .int .i64 0, .int .i64 0, .bool false, .int .i64 0, .int .i64 0, .bool false, .int .i64 0, .int .i64 0, .bool false, .int .i64 0, .int .i64 0, .bool false], .int .i64 0] 8 rfl (World.shaped_of_RefB (by kernel_rfl) (by kernel_rfl)) (by kernel_rfl) (by kernel_rfl) (by kernel_rfl) (znW os _))
  rfl rfl (by kernel_rfl) (by kernel_rfl) (fun ds h => ?_) (fun w h => zeP 8 (by kernel_rfl) (by kernel_rfl) h) (fun avs h => law7 h)
 have h : ds.length = 2 := h
 match ds, h with
 | [a, b], _ => exact ⟨rfl, rfl, rfl⟩
theorem commitFinds_said : Rows.CommitFindsSaid :=
 OpenClaim.holds_of_wide 7 Tryz.f7 rfl rfl rfl rfl rfl rfl rfl ⟨rfl, rfl, rfl, rfl, rfl⟩ rfl rfl rfl rfl rfl (by kernel_rfl) Tryz.func7 (by kernel_rfl)
  (of_decide_eq_true (by kernel_rfl)) (by unfold Func.isWrapper; first | (rw [if_pos (by decide +kernel)]; kernel_rfl) | (rw [if_neg (by decide +kernel)]; exact ⟨rfl, rfl⟩))
  (fun os started H enc _ => commitFinds_lifted os started H enc)
theorem commitFinds_holds : Rows.CommitFindsCardSaid :=
 Claim7.holds_tied_plain_at .later [] [.data, .data, .data] true _ false
  commitFinds_said (fun _ h => by cases h) (by kernel_rfl) (fun _ h => by cases h) commitFinds_row_tie rfl ⟨rfl, rfl⟩ (by kernel_rfl) rfl
  (fun f fn hf hfn => by
   obtain rfl : f = 7 := Option.some.inj ((show Tryz.prog.funcNamed Rows.commitFindsRow.func = some 7 by kernel_rfl).symm.trans hf) |>.symm
   obtain rfl : fn = Tryz.f7 := (Option.some.inj (Tryz.func7.symm.trans hfn)).symm
   exact ⟨by kernel_rfl, fun j t ht => by
    have hm : t ∈ Tryz.f7.params.toList := by simpa using Array.mem_of_getElem? ht
    have hall : (Tryz.f7.params.toList.all fun u => !Tryz.prog.wantsStandIn u) = true := by kernel_rfl
    exact (show Tryz.prog.wantsStandIn t = false by simpa using List.all_eq_true.1 hall t hm)⟩)
  (by kernel_rfl)
end Go.Proofs.YtbofccnennefnaaGreatDoor
