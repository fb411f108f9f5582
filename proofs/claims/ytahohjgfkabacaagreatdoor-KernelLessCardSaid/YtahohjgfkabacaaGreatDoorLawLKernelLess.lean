/- What functions come to, printed by a program, checked by the kernel. -/
import Derived.Test.YtahohjgfkabacaaGreatDoorCh1
import Derived.Test.YtahohjgfkabacaaGreatDoorCh9
import Derived.Test.YtahohjgfkabacaaGreatDoorCh5
import Derived.Test.YtahohjgfkabacaaGreatDoorRows
import Derived.Test.YtahohjgfkabacaaGreatDoorTie
import Derived.Test.YtahohjgfkabacaaGreatDoorCards
import Derived.ProofKit
import Derived.LaidMore
import Derived.OpenShut
import Derived.Stop.Joined
import Derived.SevenTiedAt
set_option linter.unusedSimpArgs false
set_option linter.unusedVariables false
namespace Go.Lb.LK
open Go Go.Lb Go.Proofs
noncomputable section
@[simp] def qkl_0 : SE := bi .neq (pt 0 (tp 0 (.inp 116))) (.inp 40)
@[simp] def qkl_1 : SE := .agg (pts (tp 0 (.inp 116)) 0 74)
@[simp] def qkl_2 : SE := bi .neq (ln (tp 1 (.inp 116))) (zi 0)
@[simp] def qkl_3 : SE := pk (nt (.inp 118)) bT qkl_2
@[simp] def qkl_4 : SE := pk (.inp 117) qkl_3 bF
@[simp] def qkl_5 : SE := ln (pt 1 (tp 0 (.inp 116)))
@[simp] def qkl_6 : SE := ei 23 (pt 1 (tp 0 (.inp 116))) (.inp 121)
@[simp] def qkl_7 : SE := .app (.eoff 0) [qkl_6]
@[simp] def qkl_8 : SE := e1 qkl_7
@[simp] def qkl_9 : SE := bi .gtr (.inp 121) (zi 0)
@[simp] def qkl_10 : SE := bi .sub (.inp 121) (zi 1)
@[simp] def qkl_11 : SE := ei 23 (pt 1 (tp 0 (.inp 116))) qkl_10
@[simp] def qkl_12 : SE := .app (.eoff 0) [qkl_11]
@[simp] def qkl_13 : SE := e1 qkl_12
@[simp] def qkl_14 : SE := bi .leq qkl_8 qkl_13
@[simp] def qkl_15 : SE := pk qkl_9 qkl_14 bF
@[simp] def qkl_16 : SE := ei 1 (.inp 126) (.inp 127)
@[simp] def qkl_17 : SE := ei 23 (.inp 41) (.inp 122)
@[simp] def qkl_18 : SE := el 23 qkl_17
@[simp] def qkl_19 : SE := pt 0 qkl_18
@[simp] def qkl_20 : SE := ei 1 (tp 1 (.inp 116)) (.inp 125)
@[simp] def qkl_21 : SE := e1 qkl_20
@[simp] def qkl_22 : SE := bi .eql qkl_21 qkl_19
@[simp] def qkl_23 : SE := pt 6 qkl_18
@[simp] def qkl_24 : SE := bi .neq qkl_23 (.int .u8 1)
@[simp] def qkl_25 : SE := pk (tp 1 (.inp 123)) bT qkl_24
@[simp] def qkl_26 : SE := bi .eql qkl_23 (.int .u8 4)
@[simp] def qkl_27 : SE := bi .add (.inp 122) (zi 1)
@[simp] def qkl_28 : SE := pt 3 qkl_18
@[simp] def qkl_29 : SE := ln qkl_28
@[simp] def qkl_30 : SE := ei 3 qkl_28 (.inp 129)
@[simp] def qkl_31 : SE := .app (.eoff 0) [qkl_30]
@[simp] def qkl_32 : SE := bi .gtr (pt 7 (tp 0 (.inp 123))) (.inp 129)
@[simp] def qkl_33 : SE := bi .eql qkl_23 (.int .u8 1)
@[simp] def qkl_34 : SE := pk (.inp 131) bT qkl_33
def rt_lockbarlaw23_KernelLess : RT :=
 ck (.isAgg 11) [.agg (ips 0 11)] <|
 ck (.isAgg 29) [.agg (ips 11 29)] <|
 ck (.isAgg 74) [.agg (ips 40 74)] <|
.seg [.call 114 [] 8 [.agg (ips 0 11), .agg (ips 40 74)] false] <|
.seg [.call 115 [(.inp 114, false)] 20 [.agg (ips 40 74)] false] <|
 ckg (.inp 114) false (.un .not) [.inp 115] <|
 ck .pick [.inp 114, bT, nt (.inp 115)] <|
.cond (pk (.inp 114) bT (nt (.inp 115)))
 (.seg [.call 116 [] 9 [] false] <|
.ret (.inp 116))
 (.seg [.call 116 [] 10 [.agg (ips 0 11), .agg (ips 11 29), .agg (ips 40 74)] false] <|
 ck (.tproj 0) [.inp 116] <|
 ck (.tproj 1) [.inp 116] <|
 ck (.isAgg 74) [tp 0 (.inp 116)] <|
 ck (.bin .neq) [pt 0 (tp 0 (.inp 116)), .inp 40] <|
.seg [.call 117 [(qkl_0, false)] 22 [.agg (ips 0 11), .agg (ips 11 29)] false] <|
.seg [.call 118 [(.inp 117, true), (qkl_0, false)] 12 [qkl_1, .agg (ips 40 74)] false] <|
.seg [.chk [(.inp 117, true), (qkl_0, false)] (.un .not) [.inp 118]] <|
.seg [.chk [(nt (.inp 118), false), (.inp 117, true), (qkl_0, false)] .len [tp 1 (.inp 116)]] <|
.seg [.chk [(nt (.inp 118), false), (.inp 117, true), (qkl_0, false)] (.bin .neq) [ln (tp 1 (.inp 116)), zi 0]] <|
.seg [.chk [(.inp 117, true), (qkl_0, false)] .pick [nt (.inp 118), bT, qkl_2]] <|
 ckg (qkl_0) false .pick [.inp 117, qkl_3, bF] <|
 ck .pick [qkl_0, bT, qkl_4] <|
.seg [.bind 119 (qkl_4),
.bind 120 (pk qkl_0 bT qkl_4)] <|
.cond (.inp 120)
 (.ret (bF))
 (.loop 0 121 [zi 0] <|
 ck .len [pt 1 (tp 0 (.inp 116))] <|
 ck (.bin .lss) [.inp 121, qkl_5] <|
.cond (bi .lss (.inp 121) qkl_5)
 (.seg [.chk [] (.eidx 23) [pt 1 (tp 0 (.inp 116)), .inp 121],
.chk [] (.eoff 0) [qkl_6],
.chk [] (.eload 1 false) [qkl_7],
.call 122 [] 25 [.agg (ips 40 74), qkl_8] false,
.chk [] (.tproj 0) [.inp 122],
.chk [] (.tproj 1) [.inp 122],
.chk [] (.isAgg 23) [tp 0 (.inp 122)]] <|
.seg [.chk [] (.un .not) [tp 1 (.inp 122)],
.chk [(nt (tp 1 (.inp 122)), false)] (.bin .gtr) [.inp 121, zi 0],
.chk [(qkl_9, true), (nt (tp 1 (.inp 122)), false)] (.eidx 23) [pt 1 (tp 0 (.inp 116)), .inp 121],
.chk [(qkl_9, true), (nt (tp 1 (.inp 122)), false)] (.eoff 0) [qkl_6],
.chk [(qkl_9, true), (nt (tp 1 (.inp 122)), false)] (.eload 1 false) [qkl_7],
.chk [(qkl_9, true), (nt (tp 1 (.inp 122)), false)] (.bin .sub) [.inp 121, zi 1],
.chk [(qkl_9, true), (nt (tp 1 (.inp 122)), false)] (.eidx 23) [pt 1 (tp 0 (.inp 116)), qkl_10],
.chk [(qkl_9, true), (nt (tp 1 (.inp 122)), false)] (.eoff 0) [qkl_11],
.chk [(qkl_9, true), (nt (tp 1 (.inp 122)), false)] (.eload 1 false) [qkl_12],
.chk [(qkl_9, true), (nt (tp 1 (.inp 122)), false)] (.bin .leq) [qkl_8, qkl_13],
.chk [(nt (tp 1 (.inp 122)), false)] .pick [qkl_9, qkl_14, bF],
.chk [] .pick [nt (tp 1 (.inp 122)), bT, qkl_15]] <|
.seg [.bind 123 (qkl_14),
.bind 124 (qkl_15),
.bind 125 (pk (nt (tp 1 (.inp 122))) bT qkl_15)] <|
.cond (.inp 125)
 (.ret (bF))
 (ck (.eidx 23) [pt 1 (tp 0 (.inp 116)), .inp 121] <|
 ck (.eload 23 true) [qkl_6] <|
.seg [.call 126 [] 26 [el 23 qkl_6] false] <|
.loop 1 127 [zi 0] <|
 ck .len [.inp 126] <|
 ck (.bin .lss) [.inp 127, ln (.inp 126)] <|
.cond (bi .lss (.inp 127) (ln (.inp 126)))
 (.seg [.chk [] (.eidx 1) [.inp 126, .inp 127],
.chk [] (.eload 1 false) [qkl_16],
.call 128 [] 27 [.agg (pts (tp 0 (.inp 122)) 0 23), e1 qkl_16] false,
.chk [] (.un .not) [.inp 128]] <|
.cond (.inp 128)
 (ck (.bin .add) [.inp 127, zi 1] <|
.again 1 [bi .add (.inp 127) (zi 1)])
 (.ret (bF)))
 (ck (.bin .add) [.inp 121, zi 1] <|
.again 0 [bi .add (.inp 121) (zi 1)])))
 (.loop 0 122 [zi 0] <|
 ck .len [.inp 41] <|
 ck (.bin .lss) [.inp 122, ln (.inp 41)] <|
.cond (bi .lss (.inp 122) (ln (.inp 41)))
 (ck (.eidx 23) [.inp 41, .inp 122] <|
 ck (.eload 23 true) [qkl_17] <|
 ck (.isAgg 23) [qkl_18] <|
.seg [.call 123 [] 25 [qkl_1, qkl_19] false] <|
 ck (.tproj 0) [.inp 123] <|
 ck (.tproj 1) [.inp 123] <|
 ck (.isAgg 23) [tp 0 (.inp 123)] <|
.loop 1 124 [bF, zi 0] <|
 ck .len [tp 1 (.inp 116)] <|
 ck (.bin .lss) [.inp 125, ln (tp 1 (.inp 116))] <|
.cond (bi .lss (.inp 125) (ln (tp 1 (.inp 116))))
 (.seg [.chk [(.inp 124, false)] (.eidx 1) [tp 1 (.inp 116), .inp 125],
.chk [(.inp 124, false)] (.eload 1 false) [qkl_20],
.chk [(.inp 124, false)] (.bin .eql) [qkl_21, qkl_19],
.chk [] .pick [.inp 124, bT, qkl_22]] <|
.seg [.bind 126 (pk (.inp 124) bT qkl_22),
.bind 127 (qkl_22)] <|
 ck (.bin .add) [.inp 125, zi 1] <|
.again 1 [.inp 126, bi .add (.inp 125) (zi 1)])
 (.seg [.chk [(tp 1 (.inp 123), false), (.inp 124, true)] (.bin .neq) [qkl_23, .int .u8 1]] <|
 ckg (.inp 124) true .pick [tp 1 (.inp 123), bT, qkl_24] <|
 ck .pick [.inp 124, qkl_25, bF] <|
.seg [.bind 126 (qkl_25),
.bind 127 (pk (.inp 124) qkl_25 bF)] <|
.cond (.inp 127)
 (.ret (bF))
 (ckg (.inp 124) false (.bin .eql) [qkl_23, .int .u8 4] <|
 ck .pick [.inp 124, bT, qkl_26] <|
.seg [.bind 128 (pk (.inp 124) bT qkl_26)] <|
.cond (.inp 128)
 (ck (.bin .add) [.inp 122, zi 1] <|
.again 0 [qkl_27])
 (.loop 1 129 [pt 7 qkl_18] <|
 ck .len [qkl_28] <|
 ck (.bin .lss) [.inp 129, qkl_29] <|
.cond (bi .lss (.inp 129) qkl_29)
 (ck (.eidx 3) [qkl_28, .inp 129] <|
 ck (.eoff 0) [qkl_30] <|
 ck (.eload 1 false) [qkl_31] <|
 ck (.un .not) [tp 1 (.inp 123)] <|
 ckg (nt (tp 1 (.inp 123))) false (.bin .gtr) [pt 7 (tp 0 (.inp 123)), .inp 129] <|
 ck .pick [nt (tp 1 (.inp 123)), bT, qkl_32] <|
.seg [.bind 130 (pk (nt (tp 1 (.inp 123))) bT qkl_32)] <|
.seg [.call 131 [(.inp 130, true)] 24 [.agg (ips 0 11), .agg (ips 11 29), e1 qkl_31] false] <|
.seg [.chk [(.inp 131, false), (.inp 130, true)] (.bin .eql) [qkl_23, .int .u8 1]] <|
 ckg (.inp 130) true .pick [.inp 131, bT, qkl_33] <|
 ck .pick [.inp 130, qkl_34, bF] <|
.seg [.bind 132 (qkl_34),
.bind 133 (pk (.inp 130) qkl_34 bF)] <|
.cond (.inp 133)
 (.ret (bF))
 (ck (.bin .add) [.inp 129, zi 1] <|
.again 1 [bi .add (.inp 129) (zi 1)]))
 (ck (.bin .add) [.inp 122, zi 1] <|
.again 0 [qkl_27])))))
 (.seg [.call 123 [] 9 [] false] <|
.ret (.inp 123)))))
theorem run_lockbarlaw23_KernelLess : runF E 5 [.agg (ips 0 11), .agg (ips 11 29), .agg (ips 40 74)] 114 = rt_lockbarlaw23_KernelLess := by kernel_rfl
end
end Go.Lb.LK
namespace Go.Lb.LK
open Go Go.Lb Go.Proofs Go.RowKit
structure TickF (l : Lay) (im : Img) (k o : Kern) (F : List Int) (f : Hd → Option Hd) (q : Hd → Bool) : Prop where
 held : o.held = k.held.filterMap f
 next : o.next = k.next
 ids : F = (k.held.filter q).map (·.id)
 less : ∀ h o, f h = some o → Less o h
 fails : ∀ h, q h = true → f h = none ∧ h.stage = 1
 free : ∀ h, zay h = true → q h = false → ¬ h.stage = 4 → ∀ j (hj : j < h.path.steps.length), h.gone ≤ j → (∀ o, f h = some o → (j : Int) < o.gone) → zag l im h.path.steps[j].s = false ∧ ¬ h.stage = 1
 good : GoodL k.next o.held
 lens : ∀ h ∈ o.held, h.len
 still : stale l im = true → o = k ∧ F = []
theorem ztO {l : Lay} {im : Img} {k : Kern} (hk : k.len) (hr : zas k = true) : ∃ f q, TickF l im k (zc1 l im k).1 (zc1 l im k).2 f q := by
 cases hs : stale l im
 ·refine ⟨zbi l im (zbX l im k), za0 l im (zbX l im k), ?_⟩
  rw [zdO hr hs]
  obtain ⟨h1, h2⟩ := zje l im k
  refine ⟨h1, h2, rfl, fun h o ho => ?_, fun h hq => ⟨zoI hq, ?_⟩, fun h hR hq h4 j hj hj2 ho => ?_, ?_, ?_, fun hc => by rw [hs] at hc; cases hc⟩
  ·obtain ⟨rfl, _⟩ := ziO ho
   exact zor l im h
  ·simp only [za0, Bool.and_eq_true, decide_eq_true_eq] at hq
   exact hq.1
  ·have hlt : (j : Int) < (zbW l im h).gone := by
    cases hov : zfB (zbW l im h)
    ·refine ho _ ?_
     rw [zqd hq h4, hov]; rfl
    ·have h5 := ztN hov (zmK hR)
     rw [(zir l im h).1] at h5
     omega
   have := ztD hR j hj hj2 hlt
   exact ⟨this.1, this.2⟩
  ·rw [h1]; exact zhK (zga hr)
  ·rw [h1]; exact zkr hk
 ·refine ⟨some, fun _ => false, ?_⟩
  rw [zb6 (.inr hs)]
  refine ⟨by simp, rfl, by simp, fun h o ho => ?_, fun h hq => (by cases hq), fun h _ _ _ j _ hj2 ho => ?_, zga hr, hk.2, fun _ => ⟨rfl, rfl⟩⟩
  ·cases ho; exact Less.refl _
  ·have := ho h rfl
   omega
theorem ztu {hs : List Hd} {n : Int} {h : Hd} (e : ztn hs n = some h) : ztm hs n = (h, true) := by simp [ztm, e]
theorem ztB {hs : List Hd} {n : Int} (e : ztn hs n = none) : ztm hs n = (noHd, false) := by simp [ztm, e]
def inFl (F : List Int) (x : Int) (j : Nat) : Bool := (F.take j).any fun n => decide (n = x)
theorem ztK {F : List Int} {x : Int} {j : Nat} (h : j < F.length) : inFl F x (j + 1) = (inFl F x j || decide (F[j] = x)) := by
 unfold inFl
 rw [List.take_succ_eq_append_getElem h, List.any_append]
 simp
theorem ztL (F : List Int) (x : Int) : inFl F x 0 = false := rfl
theorem ztP (F : List Int) (x : Int) : inFl F x F.length = F.any fun n => decide (n = x) := by unfold inFl; rw [List.take_length]
set_option maxHeartbeats 2000000 in
theorem zty (l : Lay) (im : Img) (hi : im.ok) (k : Kern) (hko : k.ok) : C f_lockbarlaw23_KernelLess [l.av, im.av, k.av] (.bool true) := by
 refine ctr (l.cells ++ im.cells ++ k.cells) run_lockbarlaw23_KernelLess rfl (lik3 l im k) rfl ?_ rfl
 unfold rt_lockbarlaw23_KernelLess
 simp [zam, zaa]
 refine call (zhF l k) (by simp [zaa, zam]) (by simp) ?_
 cases hg : zd9 l k
 case true =>
  simp
  refine zak (avs := [k.av]) (.bool true) rfl (fun h => by simp at h) (by simp) ?_
  simp
  exact call zaQ rfl (by simp) (by simp)
 obtain ⟨hk, hk10⟩ := zmx hg
 simp
 refine zak (avs := [k.av]) (.bool (zas k)) rfl (fun _ => ⟨by simp [zaa, zam], zcv k hk hko⟩) (by simp) ?_
 cases hr : zas k
 case false =>
  simp
  exact call zaQ rfl (by simp) (by simp)
 simp
 refine call (zcl l im hi k hk hko) (by simp [zaa, zam]) (by simp) ?_
 obtain ⟨f, q, hT⟩ := ztO (l := l) (im := im) hk hr
 have hol : (zc1 l im k).1.len := zhO hk
 have hFl := zqx l im k hk
 generalize (zc1 l im k).1 = o at hT hol ⊢
 generalize (zc1 l im k).2 = F at hT hFl ⊢
 have hgk := zga hr
 simp [zhv, hT.next]
 refine zak (avs := [l.av, im.av]) (.bool (stale l im)) rfl (fun _ => ⟨by simp [zaa], zbn l im⟩) (by simp) ?_
 simp
 refine zak (avs := [o.av, k.av]) (.bool (zmA o k)) rfl (fun _ => ⟨by simp [zaa, zae, zam], zpX o k hol⟩) (by simp) ?_
 have hst : stale l im = true → zmA o k = true ∧ F.length = 0 := fun h => by
  obtain ⟨rfl, rfl⟩ := hT.still h
  exact ⟨zod _, rfl⟩
 simp [zhv, hT.next]
 refine ⟨fun h => ?_, fun _ => ?_⟩
 ·have := hst h
  exact ⟨this.1, List.eq_nil_of_length_eq_zero this.2⟩
 have hon := hol.1
 have hkn := hk.1
 have hpw := List.pairwise_iff_getElem.1 hT.good.pw
 have hwas : ∀ x ∈ o.held, ∃ h ∈ k.held, ztm k.held x.id = (h, true) ∧ Less x h := by
  intro x hx
  rw [hT.held] at hx
  obtain ⟨h, hh, he⟩ := List.mem_filterMap.1 hx
  have hl := hT.less h x he
  refine ⟨h, hh, ztu ?_, hl⟩
  rw [hl.id]; exact zto hgk hh
 refine zac (by simp) (fun vs => ∃ i : Nat, i ≤ o.held.length ∧ vs = [I i]) (fun vs => match vs with | [.int _ j] => o.held.length - j.toNat | _ => 0) ⟨0, by omega, by simp⟩ ?_
 rintro vs - ⟨i, hi1, rfl⟩
 by_cases hlt : i < o.held.length
 ·have hw := zad (i := i) (by omega)
  obtain ⟨h, hh, hf, hl⟩ := hwas _ (List.getElem_mem hlt)
  simp [hlt, zaR, zr4]
  refine call (ztq k hk o.held[i].id) (by simp [zaa, zam, hlt, zaR, zr4]) (by simp) ?_
  rw [hf]
  have hp1 : 0 < i → IntKind.i64.wrap ((i : Int) - 1) = ((i - 1 : Nat) : Int) := fun h0 => by rw [zaI (by omega) (by omega)]; omega
  have hp2 : 0 < i → i - 1 < o.held.length := fun _ => by omega
  have hid : ∀ h0 : 0 < i, (o.held[i - 1]'(hp2 h0)).id < o.held[i].id := fun h0 => (hpw (i - 1) i (hp2 h0) hlt (by omega)).1
  simp [hlt, zaR, zr4]
  refine ⟨fun h0 => ?_, fun h0 => ?_, fun h0 => ?_, fun h0 => ?_, ?_⟩
  ·rw [hp1 h0]; simp [hp2 h0]
  ·rw [hp1 h0]; simp [hp2 h0]
  ·rw [hp1 h0]; simp [hp2 h0, zr4]
  ·have := hid h0
   rw [hp1 h0]; simp [hp2 h0, zr4]; omega
  have hsl := zh2 o.held[i]
  obtain ⟨hs1, hs2, _⟩ := o.at hol hlt
  refine call (zfV o.held[i] (o.at hol hlt)) (by simp [hlt, zaR, zr4]) (by simp) ?_
  simp
  refine zac (by simp) (fun vs => ∃ j : Nat, j ≤ (zaG o.held[i]).length ∧ vs = [I j]) (fun vs => match vs with | [.int _ j] => (zaG o.held[i]).length - j.toNat | _ => 0) ⟨0, by omega, by simp⟩ ?_
  rintro vs - ⟨j, hj1, rfl⟩
  by_cases hlj : j < (zaG o.held[i]).length
  ·have hwj := zad (i := j) (by omega)
   have hin : decide ((zaG o.held[i])[j] ∈ zaG h) = true := decide_eq_true (hl.secs _ (List.getElem_mem hlj))
   simp [hlj]
   refine call (znE h (hk.2 h hh) (zaG o.held[i])[j]) (by simp [hlj, zae]) (by simp) ?_
   rw [hin]
   simp [hwj]
   exact ⟨⟨j + 1, by omega, by omega⟩, by omega⟩
  ·simp [hlj, hw]
   exact ⟨⟨i + 1, by omega, by omega⟩, by omega⟩
 simp [hlt, zaR]
 have hnow : ∀ h ∈ k.held, ztm o.held h.id = (match f h with | some x => (x, true) | none => (noHd, false)) := by
  intro h hh
  have e := ztv (f := f) (fun h o he => (hT.less h o he).id) hgk hh
  rw [← hT.held] at e
  cases hf : f h
  ·rw [hf] at e; exact ztB e
  ·rw [hf] at e; exact ztu e
 have hin : ∀ h ∈ k.held, (F.any fun n => decide (n = h.id)) = q h := by
  intro h hh
  rw [hT.ids]; exact ztU hgk hh
 refine zac (by simp) (fun vs => ∃ m : Nat, m ≤ k.held.length ∧ vs = [I m]) (fun vs => match vs with | [.int _ j] => k.held.length - j.toNat | _ => 0) ⟨0, by omega, by simp⟩ ?_
 rintro vs - ⟨m, hm1, rfl⟩
 by_cases hlm : m < k.held.length
 case neg =>
  simp [hlm]
  exact call zaQ rfl (by simp) (by simp)
 have hwm := zad (i := m) (by omega)
 have hhm := List.getElem_mem hlm
 have hR := hgk.right _ hhm
 have hnw := hnow _ hhm
 have hinm := hin _ hhm
 have hlen := k.at hk hlm
 generalize hH : k.held[m] = h at hhm hR hnw hinm hlen
 simp [hlm, hH, zr4]
 refine call (ztq o hol h.id) (by simp [zae, hlm, hH, zr4]) (by simp) ?_
 simp
 refine zac (by simp) (fun vs => ∃ j : Nat, j ≤ F.length ∧ vs = [.bool (inFl F h.id j), I j]) (fun vs => match vs with | [_, .int _ j] => F.length - j.toNat | _ => 0) ⟨0, by omega, by simp [ztL]⟩ ?_
 rintro vs - ⟨j, hj1, rfl⟩
 by_cases hlj : j < F.length
 ·have hwj := zad (i := j) (by omega)
  have hs := ztK (x := h.id) hlj
  simp [hlm, hH, zr4, hlj, hwj]
  exact ⟨⟨j + 1, by omega, hs.symm, by omega⟩, by omega⟩
 have hjF : j = F.length := by omega
 subst hjF
 rw [ztP, hinm]
 have hd3 : ∀ x : Hd, x.cells[3]? = some (steps x.path.steps) := fun _ => rfl
 have hd7 : ∀ x : Hd, x.cells[7]? = some (I x.gone) := fun _ => rfl
 generalize ztm o.held h.id = nw at hnw ⊢
 obtain ⟨_, ⟨_, _, d3, _⟩, _⟩ := zaM hR
 cases hq : q h
 case true =>
  obtain ⟨q1, q2⟩ := hT.fails h hq
  rw [q1] at hnw
  subst hnw
  simp [hlm, hH, hwm, q2, zge]
  exact ⟨⟨m + 1, by omega, by omega⟩, by omega⟩
 by_cases h4 : h.stage = 4
 ·simp [hlm, hH, hwm, zge, h4]
  exact ⟨⟨m + 1, by omega, by omega⟩, by omega⟩
 have hfr : ∀ (j : Nat) (hj : j < h.path.steps.length), h.gone ≤ j → (nw.2 = true → (j : Int) < nw.1.gone) → zag l im h.path.steps[j].s = false ∧ ¬ h.stage = 1 := fun j hj h2 hc => hT.free h hR hq h4 j hj h2 (fun o' ho => by rw [ho] at hnw; rw [hnw] at hc; exact hc rfl)
 simp [hlm, hH, hwm, zge, h4]
 refine zac (by simp) (fun vs => ∃ j : Nat, h.gone ≤ j ∧ vs = [I j]) (fun vs => match vs with | [.int _ j] => h.path.steps.length - j.toNat | _ => 0) ⟨h.gone.toNat, by omega, by simp [hlm, hH, hd7]; omega⟩ ?_
 rintro vs - ⟨j, hgj, rfl⟩
 have hst1 := hlen.1
 by_cases hlj2 : j < h.path.steps.length
 ·have hwj := zad (i := j) (by omega)
  simp [hlm, hH, zge, hd3, hd7, hlj2, Step.cells]
  refine zak (avs := [l.av, im.av, I h.path.steps[j].s]) (.bool (zag l im h.path.steps[j].s)) rfl (fun _ => ⟨by simp [zaa, hlm, hH, hd3, hlj2, Step.cells], zaW l im hi _⟩) (by simp) ?_
  by_cases hfree : nw.2 = true → (j : Int) < nw.1.gone
  ·obtain ⟨e1, e2⟩ := hfr j hlj2 hgj hfree
   simp [hlm, hH, zge, e1, e2, hwj]
   exact ⟨⟨j + 1, by omega, by omega⟩, by omega⟩
  ·have hf1 : nw.2 = true ∧ ¬ (j : Int) < nw.1.gone := by
    cases hb : nw.2
    ·exact absurd (fun h => by rw [hb] at h; cases h) hfree
    ·exact ⟨rfl, fun hc => hfree fun _ => hc⟩
   simp [hlm, hH, zge, hf1.1, hf1.2, hwj]
   exact ⟨⟨j + 1, by omega, by omega⟩, by omega⟩
 ·simp [hlm, hH, hd3, hlj2, hwm]
  exact ⟨⟨m + 1, by omega, by omega⟩, by omega⟩
end Go.Lb.LK
namespace Go.Lb.LK
open Go Go.Lb Go.Proofs Go.RowKit
theorem args5 : zqG Tryz.prog 8 Tryz.f5.params.toList = [(true, layT), (true, imgT), (true, zot)] := by kernel_rfl
theorem law5 {avs : List AV} (h : zio Tryz.prog 8 Tryz.f5.params.toList avs) : C 5 avs (.bool true) := by
 have h := zd0 _ _ h
 rw [args5] at h
 obtain ⟨x0, q, rfl, h0a, h0b, x1, q, rfl, h1a, h1b, x2, q, rfl, h2a, h2b, rfl⟩ := h
 obtain ⟨l, rfl, hl⟩ := zl3 h0a h0b
 obtain ⟨im, rfl, him⟩ := zl1 h1a h1b
 obtain ⟨k, rfl, hk⟩ := zkd h2a h2b
 exact zty l im him k hk
end Go.Lb.LK
namespace Go.Proofs.YtahohjgfkabacaaGreatDoor
open Go Go.ChangeShapes Go.WideShapes Go.ChangeAt Go.RowKit Go.Lb Go.Lb.LK
theorem own5 : ownKnob Tryz.prog.godebug = none := by kernel_rfl
theorem ztQ : laidOutB Tryz.prog = true := by kernel_rfl
theorem ztF (os : Os) (args : Array Value) : laidMetH Tryz.prog Rows.kernelLessRow.laid ((World.doorLaid Tryz.prog 400 os).forCall (fun _ _ => 0) ⟨#[], args, []⟩).memory :=
 laidMetH_of_parts3 (fuel := 8) (laidMet_of_run' 8 (by kernel_rfl) (by kernel_rfl)) (by kernel_rfl) (by kernel_rfl)
set_option maxRecDepth 100000 in
theorem kernelLess_lifted (os : Os) (started : os.Started) (H : Type) (enc : TypeId × Value → H) :
  ReturnsInHanded {} Tryz.checked os 5 .any (fun w args => (Rows.kernelLessSpec.pre enc Tryz.prog Tryz.f5 [] false w args ∧ laidMetH Tryz.prog Rows.kernelLessRow.laid w) ∧ sizedMet enc Tryz.prog Tryz.f5 (OpenSpec.ofChange Rows.kernelLessSpec) false w args)
   (Rows.kernelLessSpec.post enc Tryz.prog Tryz.f5 false true false false) := by
 refine zjY (C := Tryz.checked) os started 8 H enc (G := GL) (by kernel_rfl) own5 ztQ (by kernel_rfl) Tryz.func5
  (ChangeSpec.witness_shaped (enc := enc) (C := Tryz.checked) (os := os) (X := fun w _ => laidMetH Tryz.prog Rows.kernelLessRow.laid w) false (World.doorLaid Tryz.prog 400 os) #[.agg #[.slice none 0 0, .slice none 0 0, .slice none 0 0, .slice none 0 0, .int .i64 0, .int .i64 0, .int .i64 0, .int .i64 0, .int .i64 0, .int .i64 0, .int .i64 0], .agg #[.int .i64 0, .int .i64 0, .int .i64 0, .int .i64 0, .int .i64 0, .int .i64 0, .int .i64 0, .int .i64 0, .int .i64 0, .int .i64 0, .int .i64 0, .int .i64 0, .int .i64 0, .int .i64 0, .int .i64 0, .int .i64 0, .int .i64 0, .int .i64 0, .int .i64 0, .int .i64 0, .int .i64 0, .int .i64 0, .int .i64 0, .int .i64 0, .int .i64 0, .int .u32 0, .int .u32 0, .int .u32 0, .int .u32 0], .agg #[.int .i64 0, .slice none 0 0, .int .i64 0, .int .i64 0, .bool false, .int .i64 0, .int .i64 0, .bool false, .int .i64 0, .int .i64 0, .bool false, .int .i64 0, .int .i64 0, .bool false, .int .i64 0, .int .i64 0, .bool false, .int .i64 0, .int .i64 0, .bool false, .int .i64 0, .int .i64 0, .bool false, .int .i64 0, .int .i64 0, .bool false, .int .i64 0, .int .i64 0, .bool false, .int .i64 0, .int .i64 0, .bool false, .int .i64 0, .int .i64 0, .bool false, .int .i64 0, .int .i64 0, .bool false, .int .i64 0, .int .i64 0, .bool false, .int .i64 0, .int .i64 0, .bool false, .int .i64 0, .int .i64 0, .bool false, .int .i64 0, .int .i64 0, .bool false, .int .i64 0, .int .i64 0, .bool false, .int .i64 0, .int .i64 0, .bool false, .int .i64 0, .int .i64 0, .bool false, .int .i64 0, .int .i64 0, .bool false, .int .i64 0, .int .i64 0, .bool false, .int .i64 0, .int .i64 0, .bool false, .int .i64 0, .int .i64 0, .bool false, .int .i64 0, .int .i64 0, .bool false]] 8 rfl (World.shaped_of_RefB (by kernel_rfl) (by kernel_rfl)) (by kernel_rfl) (by kernel_rfl) (by kernel_rfl) (ztF os _))
  rfl rfl (by kernel_rfl) (by kernel_rfl) (fun ds h => ?_) (fun w h => zdv 8 (by kernel_rfl) (by kernel_rfl) h) (fun avs h => law5 h)
 have h : ds.length = 3 := h
 match ds, h with
 | [a, b, c], _ => exact ⟨rfl, rfl, rfl⟩
theorem kernelLess_said : Rows.KernelLessSaid :=
 OpenClaim.holds_of_wide 5 Tryz.f5 rfl rfl rfl rfl rfl rfl rfl ⟨rfl, rfl, rfl, rfl, rfl⟩ rfl rfl rfl rfl rfl (by kernel_rfl) Tryz.func5 (by kernel_rfl)
  (of_decide_eq_true (by kernel_rfl)) (by unfold Func.isWrapper; first | (rw [if_pos (by decide +kernel)]; kernel_rfl) | (rw [if_neg (by decide +kernel)]; exact ⟨rfl, rfl⟩))
  (fun os started H enc _ => kernelLess_lifted os started H enc)
theorem kernelLess_holds : Rows.KernelLessCardSaid :=
 Claim7.holds_tied_plain_at .later [] [.data] true _ false
  kernelLess_said (fun _ h => by cases h) (by kernel_rfl) (fun _ h => by cases h) kernelLess_row_tie rfl ⟨rfl, rfl⟩ (by kernel_rfl) rfl
  (fun f fn hf hfn => by
   obtain rfl : f = 5 := Option.some.inj ((show Tryz.prog.funcNamed Rows.kernelLessRow.func = some 5 by kernel_rfl).symm.trans hf) |>.symm
   obtain rfl : fn = Tryz.f5 := (Option.some.inj (Tryz.func5.symm.trans hfn)).symm
   exact ⟨by kernel_rfl, fun j t ht => by
    have hm : t ∈ Tryz.f5.params.toList := by simpa using Array.mem_of_getElem? ht
    have hall : (Tryz.f5.params.toList.all fun u => !Tryz.prog.wantsStandIn u) = true := by kernel_rfl
    exact (show Tryz.prog.wantsStandIn t = false by simpa using List.all_eq_true.1 hall t hm)⟩)
  (by kernel_rfl)
end Go.Proofs.YtahohjgfkabacaaGreatDoor
