/- What functions come to, printed by a program, checked by the kernel. -/
import Derived.Test.YtahohjgfkabacaaGreatDoorCh1
import Derived.Test.YtahohjgfkabacaaGreatDoorFw11
import Derived.Test.YtahohjgfkabacaaGreatDoorCh9
import Derived.Test.YtahohjgfkabacaaGreatDoorCh5
import Derived.Test.YtahohjgfkabacaaGreatDoorRows
import Derived.Test.YtahohjgfkabacaaGreatDoorTie
import Derived.Test.YtahohjgfkabacaaGreatDoorCards
import Derived.ProofKit
import Derived.LaidMore
import Derived.OpenShut
import Derived.Stop.Joined
import Derived.SevenTiedAt
set_option linter.unusedSimpArgs false
set_option linter.unusedVariables false
namespace Go.Lb.LK
open Go Go.Lb Go.Proofs
noncomputable section
@[simp] def qks_0 : SE := .agg (ap (ips 40 74) (ap (pts (tp 0 (.inp 118)) 0 74) (pts (tp 0 (.inp 119)) 0 74)))
@[simp] def qks_1 : SE := .app (.aidx 3 74 0 74 true) [qks_0, .inp 120]
@[simp] def qks_2 : SE := ei 23 (.inp 123) (.inp 198)
@[simp] def qks_3 : SE := ei 23 (.inp 123) (.inp 199)
@[simp] def qks_4 : SE := bi .and (tp 0 (.inp 199)) (tp 1 (.inp 199))
@[simp] def qks_5 : SE := bi .neq qks_4 (.int .u32 0)
@[simp] def qks_6 : SE := bi .or (tp 0 (.inp 199)) (tp 1 (.inp 199))
@[simp] def qks_7 : SE := bi .neq qks_6 (.int .u32 0)
@[simp] def qks_8 : SE := pk (.inp 200) qks_7 bF
@[simp] def qks_9 : SE := .app (.conv .u64) [.inp 203]
@[simp] def qks_10 : SE := bi .shr qks_6 qks_9
@[simp] def qks_11 : SE := bi .and qks_10 (.int .u32 1)
@[simp] def qks_12 : SE := pk (.inp 206) bT (.inp 207)
def rt_lockbarlaw23_KernelSafe : RT :=
 ck (.isAgg 11) [.agg (ips 0 11)] <|
 ck (.isAgg 29) [.agg (ips 11 29)] <|
 ck (.isAgg 74) [.agg (ips 40 74)] <|
.seg [.call 116 [] 8 [.agg (ips 0 11), .agg (ips 40 74)] false] <|
.seg [.call 117 [(.inp 116, false)] 20 [.agg (ips 40 74)] false] <|
 ckg (.inp 116) false (.un .not) [.inp 117] <|
 ck .pick [.inp 116, bT, nt (.inp 117)] <|
.cond (pk (.inp 116) bT (nt (.inp 117)))
 (.seg [.call 118 [] 9 [] false] <|
.ret (.inp 118))
 (.seg [.call 118 [] 10 [.agg (ips 0 11), .agg (ips 11 29), .agg (ips 40 74)] false] <|
 ck (.tproj 0) [.inp 118] <|
 ck (.tproj 1) [.inp 118] <|
 ck (.isAgg 74) [tp 0 (.inp 118)] <|
.seg [.call 119 [] 14 [.agg (ips 0 11), .agg (ips 11 29), .agg (ips 40 74), .inp 114, .inp 115] false] <|
 ck (.tproj 0) [.inp 119] <|
 ck (.tproj 1) [.inp 119] <|
 ck (.isAgg 74) [tp 0 (.inp 119)] <|
.seg [.chk [] (.isAgg 74) [.agg (ips 40 74)],
.chk [] (.isAgg 74) [.agg (pts (tp 0 (.inp 118)) 0 74)],
.chk [] (.isAgg 74) [.agg (pts (tp 0 (.inp 119)) 0 74)]] <|
 ck (.isAgg 222) [qks_0] <|
.loop 0 120 [zi 0] <|
 ck (.bin .lss) [.inp 120, zi 3] <|
.cond (bi .lss (.inp 120) (zi 3))
 (ck (.inr 3) [.inp 120] <|
 ck (.aidx 3 74 0 74 true) [qks_0, .inp 120] <|
 ck (.isAgg 74) [qks_1] <|
.seg (ap [.bind 121 (qks_1)] (ptB qks_1 122 0 74)) <|
.seg [.call 196 [] 20 [.agg (ips 122 74)] false] <|
 ck (.un .not) [.inp 196] <|
.seg [.call 197 [(nt (.inp 196), false)] 18 [.agg (ips 0 11), .agg (ips 11 29), .agg (ips 122 74)] false] <|
 ckg (nt (.inp 196)) false (.un .not) [.inp 197] <|
 ck .pick [nt (.inp 196), bT, nt (.inp 197)] <|
.cond (pk (nt (.inp 196)) bT (nt (.inp 197)))
 (.ret (bF))
 (.loop 1 198 [zi 0] <|
 ck .len [.inp 123] <|
 ck (.bin .lss) [.inp 198, ln (.inp 123)] <|
.cond (bi .lss (.inp 198) (ln (.inp 123)))
 (.loop 2 199 [zi 0] <|
 ck (.bin .lss) [.inp 199, .inp 198] <|
.cond (bi .lss (.inp 199) (.inp 198))
 (.seg [.chk [] (.eidx 23) [.inp 123, .inp 198],
.chk [] (.eload 23 true) [qks_2],
.chk [] (.eidx 23) [.inp 123, .inp 199],
.chk [] (.eload 23 true) [qks_3],
.call 200 [] 21 [el 23 qks_2, el 23 qks_3] false,
.chk [] (.un .not) [.inp 200]] <|
.cond (.inp 200)
 (ck (.bin .add) [.inp 199, zi 1] <|
.again 2 [bi .add (.inp 199) (zi 1)])
 (.ret (bF)))
 (ck (.bin .add) [.inp 198, zi 1] <|
.again 1 [bi .add (.inp 198) (zi 1)]))
 (.seg [.call 199 [] 16 [.agg (ips 0 11), .agg (ips 11 29), .agg (ips 122 74)] false] <|
 ck (.tproj 0) [.inp 199] <|
 ck (.tproj 1) [.inp 199] <|
 ck (.bin .and) [tp 0 (.inp 199), tp 1 (.inp 199)] <|
 ck (.bin .neq) [qks_4, .int .u32 0] <|
.seg [.call 200 [(qks_5, false)] 22 [.agg (ips 0 11), .agg (ips 11 29)] false] <|
.seg [.chk [(.inp 200, true), (qks_5, false)] (.bin .or) [tp 0 (.inp 199), tp 1 (.inp 199)]] <|
.seg [.chk [(.inp 200, true), (qks_5, false)] (.bin .neq) [qks_6, .int .u32 0]] <|
 ckg (qks_5) false .pick [.inp 200, qks_7, bF] <|
 ck .pick [qks_5, bT, qks_8] <|
.seg [.bind 201 (qks_8),
.bind 202 (pk qks_5 bT qks_8)] <|
.cond (.inp 202)
 (.ret (bF))
 (.loop 1 203 [zi 0] <|
 ck (.bin .lss) [.inp 203, zi 24] <|
.cond (bi .lss (.inp 203) (zi 24))
 (ck (.bin .or) [tp 0 (.inp 199), tp 1 (.inp 199)] <|
 ck (.conv .u64) [.inp 203] <|
 ck (.bin .shr) [qks_6, qks_9] <|
 ck (.bin .and) [qks_10, .int .u32 1] <|
 ck (.bin .eql) [qks_11, .int .u32 1] <|
.seg [.bind 204 (bi .eql qks_11 (.int .u32 1)),
.bind 205 (qks_11)] <|
.seg [.call 206 [(.inp 204, true)] 23 [.agg (ips 122 74), .inp 203] false] <|
.seg [.call 207 [(.inp 206, false), (.inp 204, true)] 24 [.agg (ips 0 11), .agg (ips 11 29), .inp 203] false] <|
 ckg (.inp 204) true .pick [.inp 206, bT, .inp 207] <|
 ck .pick [.inp 204, qks_12, bF] <|
.cond (pk (.inp 204) qks_12 bF)
 (.ret (bF))
 (ck (.bin .add) [.inp 203, zi 1] <|
.again 1 [bi .add (.inp 203) (zi 1)]))
 (ck (.bin .add) [.inp 120, zi 1] <|
.again 0 [bi .add (.inp 120) (zi 1)])))))
 (.seg [.call 121 [] 9 [] false] <|
.ret (.inp 121)))
theorem run_lockbarlaw23_KernelSafe : runF E 4 [.agg (ips 0 11), .agg (ips 11 29), .agg (ips 40 74), .inp 114, .inp 115] 116 = rt_lockbarlaw23_KernelSafe := by kernel_rfl
end
end Go.Lb.LK
namespace Go.Lb.LK
open Go Go.Lb Go.Proofs Go.RowKit
theorem zlE (k : Kern) (t : List AV) : (k.cells ++ t).take 74 = k.cells := by rw [zfW (zhg k) (Nat.le_refl _)]; simp
theorem zo2 (a b c : Kern) {i : Nat} (h : i < 3) : AV.cut (a.cells ++ (b.cells ++ c.cells)) (i * 74) 74 true = ([a, b, c][i]).av := by
 match i, h with
 | 0, _ => simp [AV.cut, zlE]
 | 1, _ =>
  have e : (a.cells ++ (b.cells ++ c.cells)).drop 74 = b.cells ++ c.cells := by rw [zdX (zhg a) (Nat.le_refl _)]; simp
  show AV.agg (((a.cells ++ (b.cells ++ c.cells)).drop 74).take 74) = b.av
  rw [e, zlE]
 | 2, _ =>
  have e : (a.cells ++ (b.cells ++ c.cells)).drop 148 = c.cells := by
   rw [zdX (zhg a) (by omega), zdX (zhg b) (by omega)]; simp
  show AV.agg (((a.cells ++ (b.cells ++ c.cells)).drop 148).take 74) = c.av
  rw [e, List.take_of_length_le (by simp)]
theorem ztk {a b : Nat} (ha : a < 16777216) (hb : b < 16777216) : pv (.bin .and) [W a, W b] = W ((a &&& b : Nat) : Int) := by
 rw [zep]; unfold binI; simp only []; rw [show IntKind.u32.bits = 32 from rfl]
 have h1 : (BitVec.ofInt 32 (a : Int)).toNat = a := by simp; omega
 have h2 : (BitVec.ofInt 32 (b : Int)).toNat = b := by simp; omega
 have h3 : a &&& b ≤ a := Nat.and_le_left
 rw [BitVec.toNat_and, h1, h2]
 unfold IntKind.wrap
 simp [IntKind.bits, IntKind.signed]
 omega
theorem pvShr {a s : Nat} (hs : s < 24) : pv (.bin .shr) [W a, .int .u64 (s : Int)] = W ((a >>> s : Nat) : Int) := by
 rw [zep]; unfold binI; simp only []
 have : (s : Int).toNat = s := by omega
 rw [show IntKind.u32.bits = 32 from rfl, this, Nat.min_eq_left (by omega), Int.fdiv_eq_ediv_of_nonneg _ (Int.pow_nonneg (by omega)), Nat.shiftRight_eq_div_pow]
 congr 1
theorem zsX {X s : Nat} : ((X >>> s &&& 1) = 1) ↔ X.testBit s = true := by
 rw [Nat.and_one_is_mod, Nat.shiftRight_eq_div_pow, Nat.testBit_eq_decide_div_mod_eq]
 simp
set_option maxHeartbeats 1000000 in
theorem zkM (l : Lay) (im : Img) (hi : im.ok) (k : Kern) (hko : k.ok) (p pos : Int) (hp1 : -9223372036854775808 ≤ pos) (hp2 : pos ≤ 9223372036854775807) : C f_lockbarlaw23_KernelSafe [l.av, im.av, k.av, I p, I pos] (.bool true) := by
 refine ctr (l.cells ++ im.cells ++ k.cells ++ [I p, I pos]) run_lockbarlaw23_KernelSafe rfl (by simp [zaf, AV.pureAll, AV.pure]) rfl ?_ rfl
 unfold rt_lockbarlaw23_KernelSafe
 simp [zam, zaa]
 refine call (zhF l k) (by simp [zaa, zam]) (by simp) ?_
 cases hg : zd9 l k
 case true =>
  simp
  refine zak (avs := [k.av]) (.bool true) rfl (fun h => by simp at h) (by simp) ?_
  simp
  exact call zaQ rfl (by simp) (by simp)
 obtain ⟨hk, hk10⟩ := zmx hg
 simp
 refine zak (avs := [k.av]) (.bool (zas k)) rfl (fun _ => ⟨by simp [zaa, zam], zcv k hk hko⟩) (by simp) ?_
 cases hr : zas k
 case false =>
  simp
  exact call zaQ rfl (by simp) (by simp)
 simp
 refine call (zcl l im hi k hk hko) (by simp [zaa, zam]) (by simp) ?_
 simp [zae]
 refine call (zcG l im hi k hk hko p pos hp1 hp2) (by simp [zaa, zam]) (by simp) ?_
 simp [zae]
 have hA : zas (zc1 l im k).1 = true := zmZ hr
 have hB : zas (keyK l im k p pos).1 = true := zoa hr
 have hAl : (zc1 l im k).1.len := zhO hk
 have hBl : (keyK l im k p pos).1.len := znB hk
 generalize (zc1 l im k).1 = A at hA hAl ⊢
 generalize (keyK l im k p pos).1 = B at hB hBl ⊢
 have hP : ∀ i : Nat, i < 3 → pv (.aidx 3 74 0 74 true) [.agg (I k.next :: zig k.held :: (zau k.want k.run k.fail ++ (A.cells ++ B.cells))), I i] = ([k, A, B].getD i k).av := by
  intro i hi
  have := zo2 k A B hi
  rw [List.getD_eq_getElem?_getD, List.getElem?_eq_getElem (by simpa using hi)]
  exact this
 have hO : ∀ i : Nat, i < 3 → zas ([k, A, B].getD i k) = true ∧ ([k, A, B].getD i k).len := by
  intro i hi
  match i, hi with
  | 0, _ => exact ⟨hr, hk⟩
  | 1, _ => exact ⟨hA, hAl⟩
  | 2, _ => exact ⟨hB, hBl⟩
 simp [zaa, zaE, zae, zlW]
 refine zac (by simp) (fun vs => ∃ i : Nat, i ≤ 3 ∧ vs = [I i]) (fun vs => match vs with | [.int _ j] => 3 - j.toNat | _ => 0) ⟨0, by omega, by simp⟩ ?_
 rintro vs - ⟨i, hi3, rfl⟩
 by_cases hlt : i < 3
 case neg =>
  have : i = 3 := by omega
  subst this
  simp
  exact call zaQ rfl (by simp) (by simp)
 have hw := zad (i := i) (by omega)
 have hii : (i : Int) < 3 := by omega
 have hPi := hP i hlt
 obtain ⟨hOr, hOl⟩ := hO i hlt
 generalize [k, A, B].getD i k = O at hPi hOr hOl
 have hOo := zbL hOr
 simp [hii, zaa, zaE, zae, hPi, -zab]
 refine ⟨by omega, ?_⟩
 refine zsy O.cells (by simp) rfl (by simp [zaa, zaE, zae, hPi, -zab]) (by simp) ?_
 simp [zam, zaa]
 refine call (zcv O hOl hOo) (by simp [zaa, zam]) (by simp) ?_
 simp [hOr]
 refine zak (avs := [l.av, im.av, O.av]) (.bool true) rfl (fun _ => ⟨by simp [zaa, zam], hOr ▸ zc3 l im hi O hOl hOo⟩) (by simp) ?_
 simp
 have hgd := zga hOr
 have hOn := hOl.1
 refine zac (by simp) (fun vs => ∃ x : Nat, x ≤ O.held.length ∧ vs = [I x]) (fun vs => match vs with | [.int _ j] => O.held.length - j.toNat | _ => 0) ⟨0, by omega, by simp⟩ ?_
 rintro vs - ⟨x, hx, rfl⟩
 by_cases hlx : x < O.held.length
 ·have hwx := zad (i := x) (by omega)
  simp [hlx]
  refine zac (by simp) (fun vs => ∃ y : Nat, y ≤ x ∧ vs = [I y]) (fun vs => match vs with | [.int _ j] => x - j.toNat | _ => 0) ⟨0, by omega, by simp⟩ ?_
  rintro vs - ⟨y, hy, rfl⟩
  by_cases hly : y < x
  ·have hwy := zad (i := y) (by omega)
   have hly2 : y < O.held.length := by omega
   have hap : zbm O.held[x] O.held[y] = true := (List.pairwise_iff_getElem.1 hgd.pw y x hly2 hlx hly).2
   simp [hlx, hly, hly2]
   refine call (zf9 O.held[x] O.held[y] (O.at hOl hlx) (O.at hOl hly2)) (by simp [hlx, hly2]) (by simp) ?_
   rw [hap]
   simp [hwy]
   exact ⟨⟨y + 1, by omega, by omega⟩, by omega⟩
  ·simp [hly, hwx]
   exact ⟨⟨x + 1, by omega, by omega⟩, by omega⟩
 simp [hlx, zaa]
 refine call (zck l im hi O hOl) (by simp [zaa, zam]) (fun _ => rfl) ?_
 have hn24 : norN l im O < 16777216 := zeL _ _ (Nat.le_refl _)
 have hr24 : revN l im O < 16777216 := zeL _ _ (Nat.le_refl _)
 have hAnd : pv (.bin .and) [W (norN l im O), W (revN l im O)] = W 0 := by rw [ztk hn24 hr24, zrq]; rfl
 have hOr2 := pvOr hn24 hr24
 have hX : norN l im O ||| revN l im O < 16777216 := Nat.or_lt_two_pow (n := 24) hn24 hr24
 have hst0 := zqZ (l := l) (im := im) O
 have hdr := zi4 l im O
 generalize norN l im O ||| revN l im O = X at hOr2 hX hst0 hdr
 have pvNeq : ∀ (k k' : IntKind) (a b : Int), pv (.bin .neq) [.int k a, .int k' b] = .bool (a != b) := fun _ _ _ _ => rfl
 simp [hAnd, hOr2, pvNeq, -zep]
 refine zak (avs := [l.av, im.av]) (.bool (stale l im)) rfl (fun _ => ⟨by simp [zaa], zbn l im⟩) (by simp) ?_
 have hz : stale l im = true → X = 0 := hst0
 simp [hAnd, hOr2, pvNeq, -zep]
 refine ⟨hz, fun _ => ?_⟩
 refine zac (by simp) (fun vs => ∃ y : Nat, y ≤ 24 ∧ vs = [I y]) (fun vs => match vs with | [.int _ j] => 24 - j.toNat | _ => 0) ⟨0, by omega, by simp⟩ ?_
 rintro vs - ⟨y, hy, rfl⟩
 by_cases hly : y < 24
 ·have hwy := zad (i := y) (by omega)
  have hyi : (y : Int) < 24 := by omega
  have hSh := pvShr (a := X) hly
  have hXs : X >>> y < 16777216 := by
   rw [Nat.shiftRight_eq_div_pow]
   exact Nat.lt_of_le_of_lt (Nat.div_le_self _ _) hX
  have hAn2 : pv (.bin .and) [W ((X >>> y : Nat) : Int), W 1] = W ((X >>> y &&& 1 : Nat) : Int) := ztk hXs (show 1 < 16777216 by omega)
  have hbit := zsX (X := X) (s := y)
  have hd := hdr y
  generalize X >>> y = Z at hSh hXs hAn2 hbit
  generalize Z &&& 1 = Y at hAn2 hbit
  simp [hyi, hOr2, hSh, hAn2, zm8 hly, zph, zq6, zq0, -zep]
  refine zak (avs := [O.av, I y]) (.bool (zaA O y)) rfl (fun _ => ⟨by simp [zaa, zam], zdh O hOl y⟩) (by simp) ?_
  simp
  refine zak (avs := [l.av, im.av, I y]) (.bool (zag l im y)) rfl (fun _ => ⟨by simp [zaa], zaW l im hi y⟩) (by simp) ?_
  by_cases hY : Y = 1
  ·rw [hbit, hd] at hY
   have hY2 := hbit.2 (by rw [hd]; exact hY)
   simp only [Bool.and_eq_true, decide_eq_true_eq] at hY
   rcases zmg l im O y with h1 | h1
   ·omega
   ·simp [hY2, h1.2.1, h1.2.2, hwy]
    exact ⟨⟨y + 1, by omega, by omega⟩, by omega⟩
  ·have hY2 : ¬ (Y : Int) = 1 := by omega
   simp [hY, hY2, hwy]
   exact ⟨⟨y + 1, by omega, by omega⟩, by omega⟩
 ·have : y = 24 := by omega
  subst this
  simp [hw]
  exact ⟨⟨i + 1, by omega, by omega⟩, by omega⟩
end Go.Lb.LK
namespace Go.Lb.LK
open Go Go.Lb Go.Proofs Go.RowKit
theorem args4 : zqG Tryz.prog 8 Tryz.f4.params.toList = [(true, layT), (true, imgT), (true, zot), (false, iT), (false, iT)] := by kernel_rfl
theorem law4 {avs : List AV} (h : zio Tryz.prog 8 Tryz.f4.params.toList avs) : C 4 avs (.bool true) := by
 have h := zd0 _ _ h
 rw [args4] at h
 obtain ⟨x0, q, rfl, h0a, h0b, x1, q, rfl, h1a, h1b, x2, q, rfl, h2a, h2b, x3, q, rfl, h3a, h3b, x4, q, rfl, h4a, h4b, rfl⟩ := h
 obtain ⟨l, rfl, hl⟩ := zl3 h0a h0b
 obtain ⟨im, rfl, him⟩ := zl1 h1a h1b
 obtain ⟨k, rfl, hk⟩ := zkd h2a h2b
 obtain ⟨p, rfl⟩ := zml h3a h3b
 obtain ⟨pos, rfl, hpos⟩ := zj5 h4a h4b
 exact zkM l im him k hk p pos hpos.1 hpos.2
end Go.Lb.LK
namespace Go.Proofs.YtahohjgfkabacaaGreatDoor
open Go Go.ChangeShapes Go.WideShapes Go.ChangeAt Go.RowKit Go.Lb Go.Lb.LK
theorem own4 : ownKnob Tryz.prog.godebug = none := by kernel_rfl
theorem zqu : laidOutB Tryz.prog = true := by kernel_rfl
theorem zpV (os : Os) (args : Array Value) : laidMetH Tryz.prog Rows.kernelSafeRow.laid ((World.doorLaid Tryz.prog 400 os).forCall (fun _ _ => 0) ⟨#[], args, []⟩).memory :=
 laidMetH_of_parts3 (fuel := 8) (laidMet_of_run' 8 (by kernel_rfl) (by kernel_rfl)) (by kernel_rfl) (by kernel_rfl)
set_option maxRecDepth 100000 in
theorem kernelSafe_lifted (os : Os) (started : os.Started) (H : Type) (enc : TypeId × Value → H) :
  ReturnsInHanded {} Tryz.checked os 4 .any (fun w args => (Rows.kernelSafeSpec.pre enc Tryz.prog Tryz.f4 [] false w args ∧ laidMetH Tryz.prog Rows.kernelSafeRow.laid w) ∧ sizedMet enc Tryz.prog Tryz.f4 (OpenSpec.ofChange Rows.kernelSafeSpec) false w args)
   (Rows.kernelSafeSpec.post enc Tryz.prog Tryz.f4 false true false false) := by
 refine zjY (C := Tryz.checked) os started 8 H enc (G := GL) (by kernel_rfl) own4 zqu (by kernel_rfl) Tryz.func4
  (ChangeSpec.witness_shaped (enc := enc) (C := Tryz.checked) (os := os) (X := fun w _ => laidMetH Tryz.prog Rows.kernelSafeRow.laid w) false (World.doorLaid Tryz.prog 400 os) #[.agg #[.slice none 0 0, .slice none 0 0, .slice none 0 0, .slice none 0 0, .int .i64 0, .int .i64 0, .int .i64 0, .int .i64 0, .int .i64 0, .int .i64 0, .int .i64 0], .agg #[.int .i64 0, .int .i64 0, .int .i64 0, .int .i64 0, .int .i64 0, .int .i64 0, .int .i64 0, .int .i64 0, .int .i64 0, .int .i64 0, .int .i64 0, .int .i64 0, .int .i64 0, .int .i64 0, .int .i64 0, .int .i64 0, .int .i64 0, .int .i64 0, .int .i64 0, .int .i64 0, .int .i64 0, .int .i64 0, .int .i64 0, .int .i64 0, .int .i64 0, .int .u32 0, .int .u32 0, .int .u32 0, .int .u32 0], .agg #[.int .i64 0, .slice none 0 0, .int .i64 0, .int .i64 0, .bool false, .int .i64 0, .int .i64 0, .bool false, .int .i64 0, .int .i64 0, .bool false, .int .i64 0, .int .i64 0, .bool false, .int .i64 0, .int .i64 0, .bool false, .int .i64 0, .int .i64 0, .bool false, .int .i64 0, .int .i64 0, .bool false, .int .i64 0, .int .i64 0, .bool false, .int .i64 0, .int .i64 0, .bool false, .int .i64 0, .int .i64 0, .bool false, .int .i64 0, .int .i64 0, .bool false, .int .i64 0, .int .i64 0, .bool false, .int .i64 0, .int .i64 0, .bool false, .int .i64 0, .int .i64 0, .bool false, .int .i64 0, .int .i64 0, .bool false, .int .i64 0, .int .i64 0, .bool false, .int .i64 0, .int .i64 0, .bool false, .int .i64 0, .int .i64 0, .bool false, .int .i64 0, .int .i64 0, .bool false, .int .i64 0, .int .i64 0, .bool false, .int .i64 0, .int .i64 0, .bool false, .int .i64 0, .int .i64 0, .bool false, .int .i64 0, .int .i64 0, .bool false, .int .i64 0, .int .i64 0, .bool false], .int .i64 0, .int .i64 0] 8 rfl (World.shaped_of_RefB (by kernel_rfl) (by kernel_rfl)) (by kernel_rfl) (by kernel_rfl) (by kernel_rfl) (zpV os _))
  rfl rfl (by kernel_rfl) (by kernel_rfl) (fun ds h => ?_) (fun w h => zdv 8 (by kernel_rfl) (by kernel_rfl) h) (fun avs h => law4 h)
 have h : ds.length = 5 := h
 match ds, h with
 | [a, b, c, d, e], _ => exact ⟨rfl, rfl, rfl⟩
theorem kernelSafe_said : Rows.KernelSafeSaid :=
 OpenClaim.holds_of_wide 4 Tryz.f4 rfl rfl rfl rfl rfl rfl rfl ⟨rfl, rfl, rfl, rfl, rfl⟩ rfl rfl rfl rfl rfl (by kernel_rfl) Tryz.func4 (by kernel_rfl)
  (of_decide_eq_true (by kernel_rfl)) (by unfold Func.isWrapper; first | (rw [if_pos (by decide +kernel)]; kernel_rfl) | (rw [if_neg (by decide +kernel)]; exact ⟨rfl, rfl⟩))
  (fun os started H enc _ => kernelSafe_lifted os started H enc)
theorem kernelSafe_holds : Rows.KernelSafeCardSaid :=
 Claim7.holds_tied_plain_at .later [] [.data] true _ false
  kernelSafe_said (fun _ h => by cases h) (by kernel_rfl) (fun _ h => by cases h) kernelSafe_row_tie rfl ⟨rfl, rfl⟩ (by kernel_rfl) rfl
  (fun f fn hf hfn => by
   obtain rfl : f = 4 := Option.some.inj ((show Tryz.prog.funcNamed Rows.kernelSafeRow.func = some 4 by kernel_rfl).symm.trans hf) |>.symm
   obtain rfl : fn = Tryz.f4 := (Option.some.inj (Tryz.func4.symm.trans hfn)).symm
   exact ⟨by kernel_rfl, fun j t ht => by
    have hm : t ∈ Tryz.f4.params.toList := by simpa using Array.mem_of_getElem? ht
    have hall : (Tryz.f4.params.toList.all fun u => !Tryz.prog.wantsStandIn u) = true := by kernel_rfl
    exact (show Tryz.prog.wantsStandIn t = false by simpa using List.all_eq_true.1 hall t hm)⟩)
  (by kernel_rfl)
end Go.Proofs.YtahohjgfkabacaaGreatDoor
