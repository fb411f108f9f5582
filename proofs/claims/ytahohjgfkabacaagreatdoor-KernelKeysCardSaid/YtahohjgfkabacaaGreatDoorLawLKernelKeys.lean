/- What functions come to, printed by a program, checked by the kernel. -/
import Derived.Test.YtahohjgfkabacaaGreatDoorCh1
import Derived.Test.YtahohjgfkabacaaGreatDoorCh11
import Derived.Test.YtahohjgfkabacaaGreatDoorCh6
import Derived.Test.YtahohjgfkabacaaGreatDoorRows
import Derived.Test.YtahohjgfkabacaaGreatDoorTie
import Derived.Test.YtahohjgfkabacaaGreatDoorCards
import Derived.ProofKit
import Derived.LaidMore
import Derived.OpenShut
import Derived.Stop.Joined
import Derived.SevenTiedAt
set_option linter.unusedSimpArgs false
set_option linter.unusedVariables false
namespace Go.Lb.LK
open Go Go.Lb Go.Proofs
noncomputable section
@[simp] def qkk_0 : SE := bi .lss (.inp 114) (zi 0)
@[simp] def qkk_1 : SE := bi .geq (.inp 114) (ln (.inp 0))
@[simp] def qkk_2 : SE := pk qkk_0 bT qkk_1
@[simp] def qkk_3 : SE := bi .geq (.inp 114) (zi 24)
@[simp] def qkk_4 : SE := pk qkk_2 bT qkk_3
@[simp] def qkk_5 : SE := ei 11 (.inp 0) (.inp 114)
@[simp] def qkk_6 : SE := .app (.eoff 0) [qkk_5]
@[simp] def qkk_7 : SE := e1 qkk_6
@[simp] def qkk_8 : SE := bi .neq qkk_7 (.int .u8 2)
@[simp] def qkk_9 : SE := pk qkk_4 bT qkk_8
@[simp] def qkk_10 : SE := bi .lss (.inp 115) (zi 0)
@[simp] def qkk_11 : SE := pk qkk_9 bT qkk_10
@[simp] def qkk_12 : SE := bi .gtr (.inp 115) (zi 1)
@[simp] def qkk_13 : SE := pk qkk_11 bT qkk_12
@[simp] def qkk_14 : SE := pk (nt (tp 1 (.inp 123))) (nt (tp 1 (.inp 124))) bF
@[simp] def qkk_15 : SE := pk qkk_14 (nt (.inp 125)) bF
@[simp] def qkk_16 : SE := .agg (pts (tp 0 (.inp 118)) 0 74)
@[simp] def qkk_17 : SE := .app (.aidx 24 3 2 3 true) [qkk_16, .inp 114]
@[simp] def qkk_18 : SE := .app (.aidx 24 3 2 3 true) [.agg (ips 40 74), .inp 114]
@[simp] def qkk_19 : SE := .agg [.inp 129, .inp 130, .inp 131]
@[simp] def qkk_20 : SE := .app (.eqa [ some .i64, some .i64, none] false) [qkk_19, .inp 206]
@[simp] def qkk_21 : SE := pk (.inp 205) qkk_20 bF
@[simp] def qkk_22 : SE := pk (nt (tp 1 (.inp 124))) (nt (tp 1 (.inp 125))) bF
@[simp] def qkk_23 : SE := pk qkk_22 (nt (.inp 126)) bF
def rt_lockbarlaw23_KernelKeys : RT :=
 ck (.isAgg 11) [.agg (ips 0 11)] <|
 ck (.isAgg 29) [.agg (ips 11 29)] <|
 ck (.isAgg 74) [.agg (ips 40 74)] <|
.seg [.call 116 [] 8 [.agg (ips 0 11), .agg (ips 40 74)] false] <|
.seg [.call 117 [(.inp 116, false)] 20 [.agg (ips 40 74)] false] <|
 ckg (.inp 116) false (.un .not) [.inp 117] <|
 ck .pick [.inp 116, bT, nt (.inp 117)] <|
.cond (pk (.inp 116) bT (nt (.inp 117)))
 (.seg [.call 118 [] 9 [] false] <|
.ret (.inp 118))
 (.seg [.call 118 [] 14 [.agg (ips 0 11), .agg (ips 11 29), .agg (ips 40 74), .inp 114, .inp 115] false] <|
 ck (.tproj 0) [.inp 118] <|
 ck (.tproj 1) [.inp 118] <|
 ck (.isAgg 74) [tp 0 (.inp 118)] <|
 ck (.un .not) [tp 1 (.inp 118)] <|
.cond (tp 1 (.inp 118))
 (ck (.bin .lss) [.inp 114, zi 0] <|
 ckg (qkk_0) false .len [.inp 0] <|
 ckg (qkk_0) false (.bin .geq) [.inp 114, ln (.inp 0)] <|
 ck .pick [qkk_0, bT, qkk_1] <|
 ckg (qkk_2) false (.bin .geq) [.inp 114, zi 24] <|
 ck .pick [qkk_2, bT, qkk_3] <|
 ckg (qkk_4) false (.eidx 11) [.inp 0, .inp 114] <|
 ckg (qkk_4) false (.eoff 0) [qkk_5] <|
 ckg (qkk_4) false (.eload 1 false) [qkk_6] <|
 ckg (qkk_4) false (.bin .neq) [qkk_7, .int .u8 2] <|
 ck .pick [qkk_4, bT, qkk_8] <|
 ckg (qkk_9) false (.bin .lss) [.inp 115, zi 0] <|
 ck .pick [qkk_9, bT, qkk_10] <|
 ckg (qkk_11) false (.bin .gtr) [.inp 115, zi 1] <|
 ck .pick [qkk_11, bT, qkk_12] <|
.seg [.bind 119 (qkk_4),
.bind 120 (qkk_9),
.bind 121 (qkk_11),
.bind 122 (qkk_13)] <|
.cond (.inp 122)
 (ck (.un .not) [bT] <|
.ret (bF))
 (.seg [.call 123 [] 31 [.agg (ips 40 74), .inp 114] false] <|
 ck (.tproj 0) [.inp 123] <|
 ck (.tproj 1) [.inp 123] <|
.seg [.call 124 [] 32 [.agg (ips 40 74), .inp 114] false] <|
 ck (.tproj 0) [.inp 124] <|
 ck (.tproj 1) [.inp 124] <|
 ck (.un .not) [tp 1 (.inp 123)] <|
 ckg (nt (tp 1 (.inp 123))) true (.un .not) [tp 1 (.inp 124)] <|
 ck .pick [nt (tp 1 (.inp 123)), nt (tp 1 (.inp 124)), bF] <|
.seg [.call 125 [(qkk_14, true)] 24 [.agg (ips 0 11), .agg (ips 11 29), .inp 114] false] <|
 ckg (qkk_14) true (.un .not) [.inp 125] <|
 ck .pick [qkk_14, nt (.inp 125), bF] <|
 ck (.eqb true) [bT, qkk_15] <|
.seg [.bind 126 (qkk_15),
.bind 127 (.app (.eqb true) [bT, qkk_15])] <|
.cond (.inp 127)
 (.ret (bF))
 (ck (.un .not) [bT] <|
 ck (.inr 24) [.inp 114] <|
 ck (.aidx 24 3 2 3 true) [qkk_16, .inp 114] <|
 ck (.isAgg 3) [qkk_17] <|
.seg [.bind 128 (qkk_17),
.bind 129 (pt 0 qkk_17),
.bind 130 (pt 1 qkk_17),
.bind 131 (pt 2 qkk_17)] <|
 ck (.inr 24) [.inp 114] <|
 ck (.aidx 24 3 2 3 true) [.agg (ips 40 74), .inp 114] <|
 ck (.inr 24) [.inp 114] <|
.seg [.chk [] (.inr 24) [.inp 114],
.chk [] (.isAgg 3) [qkk_18]] <|
.seg (ap [.bind 132 (qkk_18)] (csB 2 (.inp 114) (.agg [pt 0 qkk_18, pt 1 qkk_18, pt 2 qkk_18]) 133 2 (pts (tp 0 (.inp 118)) 2 72))) <|
.seg [.call 205 [] 12 [.agg (ap [pt 0 (tp 0 (.inp 118)), pt 1 (tp 0 (.inp 118))] (ips 133 72)), .agg (ips 40 74)] false,
.chk [(.inp 205, true)] (.inr 24) [.inp 114],
.chk [(.inp 205, true)] (.aidx 24 3 2 3 true) [.agg (ips 40 74), .inp 114],
.call 206 [(.inp 205, true)] 33 [qkk_18, .inp 115] false,
.chk [(.inp 205, true)] (.eqa [ some .i64, some .i64, none] false) [qkk_19, .inp 206],
.chk [] .pick [.inp 205, qkk_20, bF],
.call 207 [(qkk_21, true)] 9 [] false,
.chk [] .pick [qkk_21, .inp 207, bF]] <|
.seg [.bind 208 (pk qkk_21 (.inp 207) bF),
.bind 209 (qkk_18)] <|
.ret (.inp 208))))
 (.seg [.call 119 [] 12 [qkk_16, .agg (ips 40 74)] false] <|
 ck (.un .not) [.inp 119] <|
.cond (.inp 119)
 (ck (.bin .lss) [.inp 114, zi 0] <|
 ckg (qkk_0) false .len [.inp 0] <|
 ckg (qkk_0) false (.bin .geq) [.inp 114, ln (.inp 0)] <|
 ck .pick [qkk_0, bT, qkk_1] <|
 ckg (qkk_2) false (.bin .geq) [.inp 114, zi 24] <|
 ck .pick [qkk_2, bT, qkk_3] <|
 ckg (qkk_4) false (.eidx 11) [.inp 0, .inp 114] <|
 ckg (qkk_4) false (.eoff 0) [qkk_5] <|
 ckg (qkk_4) false (.eload 1 false) [qkk_6] <|
 ckg (qkk_4) false (.bin .neq) [qkk_7, .int .u8 2] <|
 ck .pick [qkk_4, bT, qkk_8] <|
 ckg (qkk_9) false (.bin .lss) [.inp 115, zi 0] <|
 ck .pick [qkk_9, bT, qkk_10] <|
 ckg (qkk_11) false (.bin .gtr) [.inp 115, zi 1] <|
 ck .pick [qkk_11, bT, qkk_12] <|
.seg [.bind 120 (qkk_4),
.bind 121 (qkk_9),
.bind 122 (qkk_11),
.bind 123 (qkk_13)] <|
.cond (.inp 123)
 (ck (.un .not) [bF] <|
.seg [.call 124 [] 9 [] false] <|
.ret (.inp 124))
 (.seg [.call 124 [] 31 [.agg (ips 40 74), .inp 114] false] <|
 ck (.tproj 0) [.inp 124] <|
 ck (.tproj 1) [.inp 124] <|
.seg [.call 125 [] 32 [.agg (ips 40 74), .inp 114] false] <|
 ck (.tproj 0) [.inp 125] <|
 ck (.tproj 1) [.inp 125] <|
 ck (.un .not) [tp 1 (.inp 124)] <|
 ckg (nt (tp 1 (.inp 124))) true (.un .not) [tp 1 (.inp 125)] <|
 ck .pick [nt (tp 1 (.inp 124)), nt (tp 1 (.inp 125)), bF] <|
.seg [.call 126 [(qkk_22, true)] 24 [.agg (ips 0 11), .agg (ips 11 29), .inp 114] false] <|
 ckg (qkk_22) true (.un .not) [.inp 126] <|
 ck .pick [qkk_22, nt (.inp 126), bF] <|
 ck (.eqb true) [bF, qkk_23] <|
.seg [.bind 127 (qkk_23),
.bind 128 (.app (.eqb true) [bF, qkk_23])] <|
.cond (.inp 128)
 (.ret (bF))
 (ck (.un .not) [bF] <|
.seg [.call 129 [] 9 [] false] <|
.ret (.inp 129))))
 (.ret (bF))))
theorem run_lockbarlaw23_KernelKeys : runF E 7 [.agg (ips 0 11), .agg (ips 11 29), .agg (ips 40 74), .inp 114, .inp 115] 116 = rt_lockbarlaw23_KernelKeys := by kernel_rfl
end
end Go.Lb.LK
namespace Go.Lb.LK
open Go Go.Lb Go.Proofs Go.RowKit
theorem zj7 {α : Type} (w : Nat → α) (p : Nat) (v : α) : upd (upd w p v) p (w p) = w := by
 funext j
 unfold upd
 by_cases h : j = p
 ·subst h; simp
 ·simp [h]
theorem zpZ {l : Lay} {im : Img} {k : Kern} {p pos : Int} (h : zhf l im k p pos = true) : 0 ≤ p ∧ p < 24 ∧ p.toNat < l.secs.length ∧ isPt l p.toNat = true ∧ (pos = 0 ∨ pos = 1) ∧ zcF l im k p = true ∧ zbB k p = none := by
 simp [zhf] at h
 obtain ⟨⟨h1, h2⟩, h3, h4, h5, h6, h7⟩ := h
 exact ⟨h1, h2, zmP h3, h3, h4, h6, h7⟩
set_option maxHeartbeats 1000000 in
theorem zlN (l : Lay) (im : Img) (hi : im.ok) (k : Kern) (hko : k.ok) (p pos : Int) (hp1 : -9223372036854775808 ≤ pos) (hp2 : pos ≤ 9223372036854775807) : C f_lockbarlaw23_KernelKeys [l.av, im.av, k.av, I p, I pos] (.bool true) := by
 refine ctr (l.cells ++ im.cells ++ k.cells ++ [I p, I pos]) run_lockbarlaw23_KernelKeys rfl (by simp [zaf, AV.pureAll, AV.pure]) rfl ?_ rfl
 unfold rt_lockbarlaw23_KernelKeys
 simp [zam, zaa]
 refine call (zhF l k) (by simp [zaa, zam]) (by simp) ?_
 cases hg : zd9 l k
 case true =>
  simp
  refine zak (avs := [k.av]) (.bool true) rfl (fun h => by simp at h) (by simp) ?_
  simp
  exact call zaQ rfl (by simp) (by simp)
 obtain ⟨hk, hk10⟩ := zmx hg
 simp
 refine zak (avs := [k.av]) (.bool (zas k)) rfl (fun _ => ⟨by simp [zaa, zam], zcv k hk hko⟩) (by simp) ?_
 cases hr : zas k
 case false =>
  simp
  exact call zaQ rfl (by simp) (by simp)
 simp
 refine call (zcG l im hi k hk hko p pos hp1 hp2) (by simp [zaa, zam]) (by simp) ?_
 cases hK : zhf l im k p pos
 ·have e : keyK l im k p pos = (k, false) := by simp [keyK, hK]
  rw [e]
  simp [zae]
  refine call (zng hk) (by simp [zae, zaa, zam]) (by simp) ?_
  simp
  by_cases h0 : 0 ≤ p
  case neg =>
   have n0 : p < 0 := by omega
   simp [h0, n0]
   exact call zaQ rfl (by simp) (by simp)
  by_cases h1 : p < (l.secs.length : Int)
  case neg =>
   have n1 : (l.secs.length : Int) ≤ p := by omega
   simp [h1, n1]
   exact call zaQ rfl (by simp) (by simp)
  by_cases h2 : p < 24
  case neg =>
   have n2 : 24 ≤ p := by omega
   simp [h2, n2]
   exact call zaQ rfl (by simp) (by simp)
  have hsl : p.toNat < l.secs.length := by omega
  have n0 : ¬ p < 0 := by omega
  have n1 : ¬ (l.secs.length : Int) ≤ p := by omega
  have n2 : ¬ 24 ≤ p := by omega
  by_cases h3 : l.secs[p.toNat].kind = 2
  case neg =>
   simp [h0, h1, h2, n0, n1, n2, hsl, Sec.cells, h3]
   exact call zaQ rfl (by simp) (by simp)
  by_cases h4 : pos = 0 ∨ pos = 1
  case neg =>
   by_cases h5 : pos < 0
   ·simp [h0, h1, h2, n0, n1, n2, hsl, Sec.cells, h3, h5]
    exact call zaQ rfl (by simp) (by simp)
   ·have h6 : 1 < pos := by omega
    simp [h0, h1, h2, n0, n1, n2, hsl, Sec.cells, h3, h5, h6]
    exact call zaQ rfl (by simp) (by simp)
  have n4 : ¬ pos < 0 := by omega
  have n5 : ¬ 1 < pos := by omega
  simp [h0, h1, h2, n0, n1, n2, hsl, Sec.cells, h3, n4, n5]
  refine call (zdS k hk p) (by simp [zaa, zam]) (by simp [optP]) ?_
  simp [optP]
  refine call (zfu k hk p) (by simp [zaa, zam]) (by simp [optP]) ?_
  simp [optP]
  refine zak (avs := [l.av, im.av, I p]) (.bool (zag l im p)) rfl (fun _ => ⟨by simp [zaa], zaW l im hi p⟩) (by simp) ?_
  have hno : ((zbB k p).isSome || (zbV k p).isSome || zag l im p) = true := by
   cases hx : ((zbB k p).isSome || (zbV k p).isSome || zag l im p)
   ·simp only [Bool.or_eq_false_iff] at hx
    have : zhf l im k p pos = true := by
     have w1 : zbB k p = none := by simpa using hx.1.1
     have w2 : zbV k p = none := by simpa using hx.1.2
     simp [zhf, h0, h2, isPt, hsl, h3, h4, hr, zcF, w1, w2, hx.2]
    rw [hK] at this; cases this
   ·rfl
  cases g1 : (zbB k p).isSome
  ·cases g2 : (zbV k p).isSome
   ·rw [g1, g2] at hno
    have g3 : zag l im p = true := by simpa using hno
    simp [g1, g2, g3]
    exact call zaQ rfl (by simp) (by simp)
   ·simp [g1, g2]
    exact call zaQ rfl (by simp) (by simp)
  ·simp [g1]
   exact call zaQ rfl (by simp) (by simp)
 ·have e : keyK l im k p pos = (k.put p.toNat (zbS (k.mach p.toNat) pos), true) := by simp [keyK, hK]
  rw [e]
  obtain ⟨b1, b2, b3, b4, b5, b6, b7⟩ := zpZ hK
  have b8 : l.secs[p.toNat].kind = 2 := by simpa [isPt, b3] using b4
  have n0 : ¬ p < 0 := by omega
  have n1 : ¬ (l.secs.length : Int) ≤ p := by omega
  have n2 : ¬ 24 ≤ p := by omega
  have n4 : ¬ pos < 0 := by omega
  have n5 : ¬ 1 < pos := by omega
  have n6 : p < (l.secs.length : Int) := by omega
  have b9 : zbV k p = none ∧ zag l im p = false := by simpa [zcF] using b6
  simp [zae]
  simp [b1, b2, b3, b8, n0, n1, n2, n4, n5, n6, Sec.cells]
  refine call (zdS k hk p) (by simp [zaa, zam]) (by simp [optP]) ?_
  simp [optP, b7]
  refine call (zfu k hk p) (by simp [zaa, zam]) (by simp [optP]) ?_
  simp [optP, b9.1]
  refine zak (avs := [l.av, im.av, I p]) (.bool false) rfl (fun _ => ⟨by simp [zaa], b9.2 ▸ zaW l im hi p⟩) (by simp) ?_
  have hcK : (k.put p.toNat (zbS (k.mach p.toNat) pos)).cells = I k.next :: zig k.held :: zau (upd k.want p.toNat (zbS (k.mach p.toNat) pos).want) (upd k.run p.toNat (zbS (k.mach p.toNat) pos).run) (upd k.fail p.toNat (zbS (k.mach p.toNat) pos).fail) := rfl
  simp [zae, zaa, hcK, zaN, b1, b2, -zab]
  refine ⟨by omega, ?_⟩
  refine zdy (.inr rfl) p (k.mach p.toNat) (upd k.want p.toNat (zbS (k.mach p.toNat) pos).want) (upd k.run p.toNat (zbS (k.mach p.toNat) pos).run) (upd k.fail p.toNat (zbS (k.mach p.toNat) pos).fail) b1 (by simp) rfl (by simp) (by simp [zaa, zaN, b1, b2, Kern.mach, Mach.cells, -zab]) (by simp [zae, hcK]) ?_
  rw [show upd (upd k.want p.toNat (zbS (k.mach p.toNat) pos).want) p.toNat (k.mach p.toNat).want = k.want from zj7 .., show upd (upd k.run p.toNat (zbS (k.mach p.toNat) pos).run) p.toNat (k.mach p.toNat).run = k.run from zj7 .., show upd (upd k.fail p.toNat (zbS (k.mach p.toNat) pos).fail) p.toNat (k.mach p.toNat).fail = k.fail from zj7 ..]
  refine call (zng hk) (by simp [zaa, zae, hcK, zam]) (by simp) ?_
  simp [zaa, zaN, b1, b2, -zab]
  refine ⟨by omega, ?_⟩
  refine zak (avs := [(k.mach p.toNat).av, I pos]) (zbS (k.mach p.toNat) pos).av (by simp [AV.pure]) (fun _ => ⟨by simp [zaa, zaN, b1, b2, Kern.mach, -zab], zfP (k.mach p.toNat) pos⟩) (by simp) ?_
  simp [zaa, zaN, b1, b2, Mach.cells, upd, -zab]
  refine zak (avs := []) (.bool true) rfl (fun _ => ⟨rfl, zaQ⟩) (by simp) ?_
  simp [Mach.cells]
end Go.Lb.LK
namespace Go.Lb.LK
open Go Go.Lb Go.Proofs Go.RowKit
theorem args7 : zqG Tryz.prog 8 Tryz.f7.params.toList = [(true, layT), (true, imgT), (true, zot), (false, iT), (false, iT)] := by kernel_rfl
theorem law7 {avs : List AV} (h : zio Tryz.prog 8 Tryz.f7.params.toList avs) : C 7 avs (.bool true) := by
 have h := zd0 _ _ h
 rw [args7] at h
 obtain ⟨x0, q, rfl, h0a, h0b, x1, q, rfl, h1a, h1b, x2, q, rfl, h2a, h2b, x3, q, rfl, h3a, h3b, x4, q, rfl, h4a, h4b, rfl⟩ := h
 obtain ⟨l, rfl, hl⟩ := zl3 h0a h0b
 obtain ⟨im, rfl, him⟩ := zl1 h1a h1b
 obtain ⟨k, rfl, hk⟩ := zkd h2a h2b
 obtain ⟨p, rfl⟩ := zml h3a h3b
 obtain ⟨pos, rfl, hpos⟩ := zj5 h4a h4b
 exact zlN l im him k hk p pos hpos.1 hpos.2
end Go.Lb.LK
namespace Go.Proofs.YtahohjgfkabacaaGreatDoor
open Go Go.ChangeShapes Go.WideShapes Go.ChangeAt Go.RowKit Go.Lb Go.Lb.LK
theorem own7 : ownKnob Tryz.prog.godebug = none := by kernel_rfl
theorem zqp : laidOutB Tryz.prog = true := by kernel_rfl
theorem zpu (os : Os) (args : Array Value) : laidMetH Tryz.prog Rows.kernelKeysRow.laid ((World.doorLaid Tryz.prog 400 os).forCall (fun _ _ => 0) ⟨#[], args, []⟩).memory :=
 laidMetH_of_parts3 (fuel := 8) (laidMet_of_run' 8 (by kernel_rfl) (by kernel_rfl)) (by kernel_rfl) (by kernel_rfl)
set_option maxRecDepth 100000 in
theorem kernelKeys_lifted (os : Os) (started : os.Started) (H : Type) (enc : TypeId × Value → H) :
  ReturnsInHanded {} Tryz.checked os 7 .any (fun w args => (Rows.kernelKeysSpec.pre enc Tryz.prog Tryz.f7 [] false w args ∧ laidMetH Tryz.prog Rows.kernelKeysRow.laid w) ∧ sizedMet enc Tryz.prog Tryz.f7 (OpenSpec.ofChange Rows.kernelKeysSpec) false w args)
   (Rows.kernelKeysSpec.post enc Tryz.prog Tryz.f7 false true false false) := by
 refine zjY (C := Tryz.checked) os started 8 H enc (G := GL) (by kernel_rfl) own7 zqp (by kernel_rfl) Tryz.func7
  (ChangeSpec.witness_shaped (enc := enc) (C := Tryz.checked) (os := os) (X := fun w _ => laidMetH Tryz.prog Rows.kernelKeysRow.laid w) false (World.doorLaid Tryz.prog 400 os) #[.agg #[.slice none 0 0, .slice none 0 0, .slice none 0 0, .slice none 0 0, .int .i64 0, .int .i64 0, .int .i64 0, .int .i64 0, .int .i64 0, .int .i64 0, .int .i64 0], .agg #[.int .i64 0, .int .i64 0, .int .i64 0, .int .i64 0, .int .i64 0, .int .i64 0, .int .i64 0, .int .i64 0, .int .i64 0, .int .i64 0, .int .i64 0, .int .i64 0, .int .i64 0, .int .i64 0, .int .i64 0, .int .i64 0, .int .i64 0, .int .i64 0, .int .i64 0, .int .i64 0, .int .i64 0, .int .i64 0, .int .i64 0, .int .i64 0, .int .i64 0, .int .u32 0, .int .u32 0, .int .u32 0, .int .u32 0], .agg #[.int .i64 0, .slice none 0 0, .int .i64 0, .int .i64 0, .bool false, .int .i64 0, .int .i64 0, .bool false, .int .i64 0, .int .i64 0, .bool false, .int .i64 0, .int .i64 0, .bool false, .int .i64 0, .int .i64 0, .bool false, .int .i64 0, .int .i64 0, .bool false, .int .i64 0, .int .i64 0, .bool false, .int .i64 0, .int .i64 0, .bool false, .int .i64 0, .int .i64 0, .bool false, .int .i64 0, .int .i64 0, .bool false, .int .i64 0, .int .i64 0, .bool false, .int .i64 0, .int .i64 0, .bool false, .int .i64 0, .int .i64 0, .bool false, .int .i64 0, .int .i64 0, .bool false, .int .i64 0, .int .i64 0, .bool false, .int .i64 0, .int .i64 0, .bool false, .int .i64 0, .int .i64 0, .bool false, .int .i64 0, .int .i64 0, .bool false, .int .i64 0, .int .i64 0, .bool false, .int .i64 0, .int .i64 0, .bool false, .int .i64 0, .int .i64 0, .bool false, .int .i64 0, .int .i64 0, .bool false, .int .i64 0, .int .i64 0, .bool false, .int .i64 0, .int .i64 0, .bool false], .int .i64 0, .int .i64 0] 8 rfl (World.shaped_of_RefB (by kernel_rfl) (by kernel_rfl)) (by kernel_rfl) (by kernel_rfl) (by kernel_rfl) (zpu os _))
  rfl rfl (by kernel_rfl) (by kernel_rfl) (fun ds h => ?_) (fun w h => zdv 8 (by kernel_rfl) (by kernel_rfl) h) (fun avs h => law7 h)
 have h : ds.length = 5 := h
 match ds, h with
 | [a, b, c, d, e], _ => exact ⟨rfl, rfl, rfl⟩
theorem kernelKeys_said : Rows.KernelKeysSaid :=
 OpenClaim.holds_of_wide 7 Tryz.f7 rfl rfl rfl rfl rfl rfl rfl ⟨rfl, rfl, rfl, rfl, rfl⟩ rfl rfl rfl rfl rfl (by kernel_rfl) Tryz.func7 (by kernel_rfl)
  (of_decide_eq_true (by kernel_rfl)) (by unfold Func.isWrapper; first | (rw [if_pos (by decide +kernel)]; kernel_rfl) | (rw [if_neg (by decide +kernel)]; exact ⟨rfl, rfl⟩))
  (fun os started H enc _ => kernelKeys_lifted os started H enc)
theorem kernelKeys_holds : Rows.KernelKeysCardSaid :=
 Claim7.holds_tied_plain_at .later [] [.data] true _ false
  kernelKeys_said (fun _ h => by cases h) (by kernel_rfl) (fun _ h => by cases h) kernelKeys_row_tie rfl ⟨rfl, rfl⟩ (by kernel_rfl) rfl
  (fun f fn hf hfn => by
   obtain rfl : f = 7 := Option.some.inj ((show Tryz.prog.funcNamed Rows.kernelKeysRow.func = some 7 by kernel_rfl).symm.trans hf) |>.symm
   obtain rfl : fn = Tryz.f7 := (Option.some.inj (Tryz.func7.symm.trans hfn)).symm
   exact ⟨by kernel_rfl, fun j t ht => by
    have hm : t ∈ Tryz.f7.params.toList := by simpa using Array.mem_of_getElem? ht
    have hall : (Tryz.f7.params.toList.all fun u => !Tryz.prog.wantsStandIn u) = true := by kernel_rfl
    exact (show Tryz.prog.wantsStandIn t = false by simpa using List.all_eq_true.1 hall t hm)⟩)
  (by kernel_rfl)
end Go.Proofs.YtahohjgfkabacaaGreatDoor
