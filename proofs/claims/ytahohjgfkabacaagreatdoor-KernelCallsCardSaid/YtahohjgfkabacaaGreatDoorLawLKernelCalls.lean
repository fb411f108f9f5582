/- What functions come to, printed by a program, checked by the kernel. -/
import Derived.Test.YtahohjgfkabacaaGreatDoorCh1
import Derived.Test.YtahohjgfkabacaaGreatDoorCh9
import Derived.Test.YtahohjgfkabacaaGreatDoorCh5
import Derived.Test.YtahohjgfkabacaaGreatDoorRows
import Derived.Test.YtahohjgfkabacaaGreatDoorTie
import Derived.Test.YtahohjgfkabacaaGreatDoorCards
import Derived.ProofKit
import Derived.LaidMore
import Derived.OpenShut
import Derived.Stop.Joined
import Derived.SevenTiedAt
set_option linter.unusedSimpArgs false
set_option linter.unusedVariables false
namespace Go.Lb.LK
open Go Go.Lb Go.Proofs
noncomputable section
@[simp] def qkc_0 : SE := pk (.inp 114) bT (nt (.inp 115))
@[simp] def qkc_1 : SE := ln (pt 1 (tp 0 (.inp 117)))
@[simp] def qkc_2 : SE := ei 23 (pt 1 (tp 0 (.inp 117))) (.inp 118)
@[simp] def qkc_3 : SE := el 23 qkc_2
@[simp] def qkc_4 : SE := ei 3 (.inp 120) (.inp 121)
@[simp] def qkc_5 : SE := el 3 qkc_4
@[simp] def qkc_6 : SE := pt 0 qkc_5
@[simp] def qkc_7 : SE := pt 1 qkc_5
@[simp] def qkc_8 : SE := bi .lss qkc_6 (zi 0)
@[simp] def qkc_9 : SE := bi .geq qkc_6 (zi 24)
@[simp] def qkc_10 : SE := pk qkc_8 bT qkc_9
@[simp] def qkc_11 : SE := pt 6 qkc_3
@[simp] def qkc_12 : SE := bi .eql qkc_11 (.int .u8 2)
@[simp] def qkc_13 : SE := bi .eql (pt 6 (tp 0 (.inp 119))) (.int .u8 1)
@[simp] def qkc_14 : SE := pk qkc_12 qkc_13 bF
@[simp] def qkc_15 : SE := bi .eql (.inp 122) qkc_7
@[simp] def qkc_16 : SE := nt qkc_15
@[simp] def qkc_17 : SE := pk qkc_14 qkc_16 bF
@[simp] def qkc_18 : SE := bi .eql qkc_11 (.int .u8 1)
@[simp] def qkc_19 : SE := pk qkc_18 qkc_16 bF
@[simp] def qkc_20 : SE := .agg (pts (tp 0 (.inp 117)) 0 74)
@[simp] def qkc_21 : SE := .app (.aidx 24 3 2 1 false) [qkc_20, qkc_6]
@[simp] def qkc_22 : SE := bi .neq qkc_21 qkc_7
@[simp] def qkc_23 : SE := .app (.aidx 24 3 4 1 false) [qkc_20, qkc_6]
@[simp] def qkc_24 : SE := pk qkc_22 bT qkc_23
@[simp] def qkc_25 : SE := .app (.aidx 24 3 2 3 true) [qkc_20, .inp 119]
def rt_lockbarlaw23_KernelCalls : RT :=
 ck (.isAgg 11) [.agg (ips 0 11)] <|
 ck (.isAgg 29) [.agg (ips 11 29)] <|
 ck (.isAgg 74) [.agg (ips 40 74)] <|
.seg [.call 114 [] 8 [.agg (ips 0 11), .agg (ips 40 74)] false] <|
.seg [.call 115 [(.inp 114, false)] 20 [.agg (ips 40 74)] false] <|
 ckg (.inp 114) false (.un .not) [.inp 115] <|
 ck .pick [.inp 114, bT, nt (.inp 115)] <|
.seg [.call 116 [(qkc_0, false)] 22 [.agg (ips 0 11), .agg (ips 11 29)] false] <|
 ck .pick [qkc_0, bT, .inp 116] <|
.cond (pk qkc_0 bT (.inp 116))
 (.seg [.call 117 [] 9 [] false] <|
.ret (.inp 117))
 (.seg [.call 117 [] 10 [.agg (ips 0 11), .agg (ips 11 29), .agg (ips 40 74)] false] <|
 ck (.tproj 0) [.inp 117] <|
 ck (.tproj 1) [.inp 117] <|
 ck (.isAgg 74) [tp 0 (.inp 117)] <|
.loop 0 118 [zi 0] <|
 ck .len [pt 1 (tp 0 (.inp 117))] <|
 ck (.bin .lss) [.inp 118, qkc_1] <|
.cond (bi .lss (.inp 118) qkc_1)
 (ck (.eidx 23) [pt 1 (tp 0 (.inp 117)), .inp 118] <|
 ck (.eload 23 true) [qkc_2] <|
 ck (.isAgg 23) [qkc_3] <|
.seg [.call 119 [] 25 [.agg (ips 40 74), pt 0 qkc_3] false] <|
 ck (.tproj 0) [.inp 119] <|
 ck (.tproj 1) [.inp 119] <|
 ck (.isAgg 23) [tp 0 (.inp 119)] <|
 ck (.un .not) [tp 1 (.inp 119)] <|
.cond (tp 1 (.inp 119))
 (.seg [.call 120 [] 28 [.agg (pts (qkc_3) 0 23)] false] <|
.loop 1 121 [zi 0] <|
 ck .len [.inp 120] <|
 ck (.bin .lss) [.inp 121, ln (.inp 120)] <|
.cond (bi .lss (.inp 121) (ln (.inp 120)))
 (ck (.eidx 3) [.inp 120, .inp 121] <|
 ck (.eload 3 true) [qkc_4] <|
 ck (.isAgg 3) [qkc_5] <|
.seg [.call 122 [] 29 [.agg (ips 0 11), .agg (ips 11 29), qkc_6] false,
.chk [] (.bin .eql) [.inp 122, qkc_7]] <|
 ck (.bin .lss) [qkc_6, zi 0] <|
 ckg (qkc_8) false (.bin .geq) [qkc_6, zi 24] <|
 ck .pick [qkc_8, bT, qkc_9] <|
 ckg (qkc_10) false (.bin .eql) [qkc_11, .int .u8 2] <|
.seg [.chk [(qkc_12, true), (qkc_10, false)] (.bin .eql) [pt 6 (tp 0 (.inp 119)), .int .u8 1]] <|
 ckg (qkc_10) false .pick [qkc_12, qkc_13, bF] <|
.seg [.chk [(qkc_14, true), (qkc_10, false)] (.un .not) [qkc_15]] <|
 ckg (qkc_10) false .pick [qkc_14, qkc_16, bF] <|
 ck .pick [qkc_10, bT, qkc_17] <|
.seg [.bind 123 (qkc_10),
.bind 124 (qkc_14),
.bind 125 (qkc_17),
.bind 126 (pk qkc_10 bT qkc_17)] <|
.cond (.inp 126)
 (.ret (bF))
 (.seg [.chk [] (.bin .eql) [qkc_11, .int .u8 1],
.chk [(qkc_18, true)] (.un .not) [qkc_15],
.chk [] .pick [qkc_18, qkc_16, bF],
.chk [(qkc_19, true)] (.inr 24) [qkc_6],
.chk [(qkc_19, true)] (.inr 24) [qkc_6],
.chk [(qkc_19, true)] (.aidx 24 3 2 1 false) [qkc_20, qkc_6],
.chk [(qkc_19, true)] (.bin .neq) [qkc_21, qkc_7],
.chk [(qkc_22, false), (qkc_19, true)] (.inr 24) [qkc_6],
.chk [(qkc_22, false), (qkc_19, true)] (.inr 24) [qkc_6],
.chk [(qkc_22, false), (qkc_19, true)] (.aidx 24 3 4 1 false) [qkc_20, qkc_6],
.chk [(qkc_19, true)] .pick [qkc_22, bT, qkc_23],
.chk [] .pick [qkc_19, qkc_24, bF]] <|
.seg [.bind 127 (qkc_19),
.bind 128 (qkc_21),
.bind 129 (qkc_22),
.bind 130 (qkc_23),
.bind 131 (qkc_24),
.bind 132 (pk qkc_19 qkc_24 bF)] <|
.cond (.inp 132)
 (.ret (bF))
 (ck (.bin .add) [.inp 121, zi 1] <|
.again 1 [bi .add (.inp 121) (zi 1)])))
 (ck (.bin .add) [.inp 118, zi 1] <|
.again 0 [bi .add (.inp 118) (zi 1)]))
 (.ret (bF)))
 (.loop 0 119 [zi 0] <|
 ck (.bin .lss) [.inp 119, zi 24] <|
.cond (bi .lss (.inp 119) (zi 24))
 (ck (.inr 24) [.inp 119] <|
 ck (.aidx 24 3 2 3 true) [qkc_20, .inp 119] <|
.seg [.call 120 [] 30 [qkc_25] false] <|
 ck (.un .not) [.inp 120] <|
.seg [.bind 121 (qkc_25)] <|
.cond (.inp 120)
 (ck (.bin .add) [.inp 119, zi 1] <|
.again 0 [bi .add (.inp 119) (zi 1)])
 (.ret (bF)))
 (.seg [.call 120 [] 9 [] false] <|
.ret (.inp 120))))
theorem run_lockbarlaw23_KernelCalls : runF E 6 [.agg (ips 0 11), .agg (ips 11 29), .agg (ips 40 74)] 114 = rt_lockbarlaw23_KernelCalls := by kernel_rfl
end
end Go.Lb.LK
namespace Go.Lb.LK
open Go Go.Lb Go.Proofs Go.RowKit
theorem ztE (a b : AV) (w r : Nat → Int) (f : Nat → Bool) {z : Int} (h0 : 0 ≤ z) (h1 : z < 24) : pv (.aidx 24 3 2 1 false) [.agg (a :: b :: zau w r f), I z] = I (w z.toNat) := by
 show (zau w r f).getD (z.toNat * 3) .undef = _
 exact ztM w r f (by omega) .undef
theorem ztH {hs : List Hd} {n : Int} {h : Hd} (e : ztn hs n = some h) : ztm hs n = (h, true) := by simp [ztm, e]
set_option maxHeartbeats 2000000 in
theorem ztx (l : Lay) (im : Img) (hi : im.ok) (k : Kern) (hko : k.ok) : C f_lockbarlaw23_KernelCalls [l.av, im.av, k.av] (.bool true) := by
 refine ctr (l.cells ++ im.cells ++ k.cells) run_lockbarlaw23_KernelCalls rfl (lik3 l im k) rfl ?_ rfl
 unfold rt_lockbarlaw23_KernelCalls
 simp [zam, zaa]
 refine call (zhF l k) (by simp [zaa, zam]) (by simp) ?_
 cases hg : zd9 l k
 case true =>
  simp
  refine zak (avs := [k.av]) (.bool true) rfl (fun h => by simp at h) (by simp) ?_
  simp
  refine zak (avs := [l.av, im.av]) (.bool true) rfl (fun h => by simp at h) (by simp) ?_
  simp
  exact call zaQ rfl (by simp) (by simp)
 obtain ⟨hk, hk10⟩ := zmx hg
 simp
 refine zak (avs := [k.av]) (.bool (zas k)) rfl (fun _ => ⟨by simp [zaa, zam], zcv k hk hko⟩) (by simp) ?_
 cases hr : zas k
 case false =>
  simp
  refine zak (avs := [l.av, im.av]) (.bool true) rfl (fun h => by simp at h) (by simp) ?_
  simp
  exact call zaQ rfl (by simp) (by simp)
 simp
 refine zak (avs := [l.av, im.av]) (.bool (stale l im)) rfl (fun _ => ⟨by simp [zaa], zbn l im⟩) (by simp) ?_
 cases hs : stale l im
 case true =>
  simp
  exact call zaQ rfl (by simp) (by simp)
 simp
 refine call (zcl l im hi k hk hko) (by simp [zaa, zam]) (by simp) ?_
 have hol : (zc1 l im k).1.len := zhO hk
 rw [zdO hr hs] at hol ⊢
 have hgk := zga hr
 have hgo : GoodL k.next (zlR l im k).held := by rw [(zje l im k).1]; exact zhK hgk
 have hwas : ∀ x ∈ (zlR l im k).held, ∃ h ∈ k.held, ztm k.held x.id = (h, true) ∧ x = (zgm l im h).1 := by
  intro x hx
  rw [(zje l im k).1] at hx
  obtain ⟨h, hh, he⟩ := List.mem_filterMap.1 hx
  refine ⟨h, hh, ztH ?_, (ziO he).1⟩
  rw [ztS h x he]; exact zto hgk hh
 have hcalled : ∀ h ∈ (zlR l im k).held, h.stage = 1 → ∀ x ∈ zai h, ¬ atP l im x.p = x.pos → (zlR l im k).want x.p.toNat = x.pos ∧ (zlR l im k).fail x.p.toNat = false := fun h hh h1 x hx ha => ztA hr hh h1 hx ha
 have hmach : ∀ p, p < 24 → zaZ ((zlR l im k).mach p) = true := (zmu _).1 (zmp (zl4 hr)).2.2.2
 have hset : ∀ h : Hd, h.stage = 1 → (zgm l im h).1.stage = 2 → ∀ x ∈ zai (zgm l im h).1, atP l im x.p = x.pos := fun h h1 h2 x hx => ztT h1 h2 hx
 generalize (k.held.filter (za0 l im (zbX l im k))).map (·.id) = F
 simp only at hol
 generalize zlR l im k = o at hol hgo hwas hcalled hmach ⊢
 have hon := hol.1
 simp [zaR]
 refine zac (by simp) (fun vs => ∃ i : Nat, i ≤ o.held.length ∧ vs = [I i]) (fun vs => match vs with | [.int _ j] => o.held.length - j.toNat | _ => 0) ⟨0, by omega, by simp⟩ ?_
 rintro vs - ⟨i, hi1, rfl⟩
 by_cases hlt : i < o.held.length
 ·have hw := zad (i := i) (by omega)
  have hm := List.getElem_mem hlt
  obtain ⟨h, hh, hf, he⟩ := hwas _ hm
  have hR := hgo.right _ hm
  have hC := hcalled _ hm
  have hS : h.stage = 1 → o.held[i].stage = 2 → ∀ x ∈ zai o.held[i], atP l im x.p = x.pos := by
   rw [he]; exact hset h
  have hxl := o.at hol hlt
  generalize hX : o.held[i] = X at hf hR hC hS hxl
  simp [hlt, zaR, hX]
  refine call (ztq k hk X.id) (by simp [zaa, zam, hlt, zaR, zr4, hX]) (by simp) ?_
  rw [hf]
  simp [hlt, zaR, hX]
  refine call (zc6 X hxl) (by simp [hlt, zaR, hX, zae]) (by simp) ?_
  have hnl := zbb X
  have hnl2 := hxl.2.2
  simp
  refine zac (by simp) (fun vs => ∃ j : Nat, j ≤ (zai X).length ∧ vs = [I j]) (fun vs => match vs with | [.int _ j] => (zai X).length - j.toNat | _ => 0) ⟨0, by omega, by simp⟩ ?_
  rintro vs - ⟨j, hj1, rfl⟩
  by_cases hlj : j < (zai X).length
  ·have hwj := zad (i := j) (by omega)
   have hmj := List.getElem_mem hlj
   obtain ⟨p0, p1, p2⟩ := zhm hR hmj
   have hSj := fun h1 h2 => hS h1 h2 _ hmj
   have hCj := fun h1 => hC h1 _ hmj
   generalize hx : (zai X)[j] = x at p0 p1 p2 hSj hCj
   simp [hlj, hx, Need.cells]
   refine call (zfi l im hi x.p) (by simp [zaa, hlj, hx, Need.cells]) (by simp) ?_
   have hW : pv (.aidx 24 3 2 1 false) [.agg o.cells, I x.p] = I (o.want x.p.toNat) := by rw [zam]; exact ztE _ _ _ _ _ p0 p1
   have hFa : pv (.aidx 24 3 4 1 false) [.agg o.cells, I x.p] = .bool (o.fail x.p.toNat) := by rw [zam]; exact zk3 _ _ _ _ _ p0 p1
   simp [hlj, hx, Need.cells, hlt, zaR, hX, zge, zae, hW, hFa, p0, p1, -zab]
   refine ⟨fun h1 h2 => hSj h2 h1, fun _ => ⟨fun _ _ => by omega, fun _ _ _ => by omega, hCj, fun _ => ?_⟩⟩
   rw [hwj]
   exact ⟨⟨j + 1, by omega, rfl⟩, by omega⟩
  ·simp [hlj, hw]
   exact ⟨⟨i + 1, by omega, by omega⟩, by omega⟩
 simp [hlt, zaR]
 refine zac (by simp) (fun vs => ∃ y : Nat, y ≤ 24 ∧ vs = [I y]) (fun vs => match vs with | [.int _ j] => 24 - j.toNat | _ => 0) ⟨0, by omega, by simp⟩ ?_
 rintro vs - ⟨y, hy, rfl⟩
 by_cases hly : y < 24
 ·have hwy := zad (i := y) (by omega)
  have hyi : (y : Int) < 24 := by omega
  have hM := hmach y hly
  have hA : pv (.aidx 24 3 2 3 true) [.agg o.cells, I y] = (o.mach y).av := by
   rw [zam]; exact zaN _ _ _ _ _ (by omega) hyi
  simp [hyi, zae, hA, -zab]
  refine ⟨by omega, ?_⟩
  refine call (zeX (o.mach y)) (by simp [hA, zae, -zab]) (by simp) ?_
  rw [hM]
  simp [hwy]
  exact ⟨⟨y + 1, by omega, by omega⟩, by omega⟩
 ·simp [hly]
  have : y = 24 := by omega
  subst this
  simp
  exact call zaQ rfl (by simp) (by simp)
end Go.Lb.LK
namespace Go.Lb.LK
open Go Go.Lb Go.Proofs Go.RowKit
theorem args6 : zqG Tryz.prog 8 Tryz.f6.params.toList = [(true, layT), (true, imgT), (true, zot)] := by kernel_rfl
theorem law6 {avs : List AV} (h : zio Tryz.prog 8 Tryz.f6.params.toList avs) : C 6 avs (.bool true) := by
 have h := zd0 _ _ h
 rw [args6] at h
 obtain ⟨x0, q, rfl, h0a, h0b, x1, q, rfl, h1a, h1b, x2, q, rfl, h2a, h2b, rfl⟩ := h
 obtain ⟨l, rfl, hl⟩ := zl3 h0a h0b
 obtain ⟨im, rfl, him⟩ := zl1 h1a h1b
 obtain ⟨k, rfl, hk⟩ := zkd h2a h2b
 exact ztx l im him k hk
end Go.Lb.LK
namespace Go.Proofs.YtahohjgfkabacaaGreatDoor
open Go Go.ChangeShapes Go.WideShapes Go.ChangeAt Go.RowKit Go.Lb Go.Lb.LK
theorem own6 : ownKnob Tryz.prog.godebug = none := by kernel_rfl
theorem ztR : laidOutB Tryz.prog = true := by kernel_rfl
theorem ztG (os : Os) (args : Array Value) : laidMetH Tryz.prog Rows.kernelCallsRow.laid ((World.doorLaid Tryz.prog 400 os).forCall (fun _ _ => 0) ⟨#[], args, []⟩).memory :=
 laidMetH_of_parts3 (fuel := 8) (laidMet_of_run' 8 (by kernel_rfl) (by kernel_rfl)) (by kernel_rfl) (by kernel_rfl)
set_option maxRecDepth 100000 in
theorem kernelCalls_lifted (os : Os) (started : os.Started) (H : Type) (enc : TypeId × Value → H) :
  ReturnsInHanded {} Tryz.checked os 6 .any (fun w args => (Rows.kernelCallsSpec.pre enc Tryz.prog Tryz.f6 [] false w args ∧ laidMetH Tryz.prog Rows.kernelCallsRow.laid w) ∧ sizedMet enc Tryz.prog Tryz.f6 (OpenSpec.ofChange Rows.kernelCallsSpec) false w args)
   (Rows.kernelCallsSpec.post enc Tryz.prog Tryz.f6 false true false false) := by
 refine zjY (C := Tryz.checked) os started 8 H enc (G := GL) (by kernel_rfl) own6 ztR (by kernel_rfl) Tryz.func6
  (ChangeSpec.witness_shaped (enc := enc) (C := Tryz.checked) (os := os) (X := fun w _ => laidMetH Tryz.prog Rows.kernelCallsRow.laid w) false (World.doorLaid Tryz.prog 400 os) #[.agg #[.slice none 0 0, .slice none 0 0, .slice none 0 0, .slice none 0 0, .int .i64 0, .int .i64 0, .int .i64 0, .int .i64 0, .int .i64 0, .int .i64 0, .int .i64 0], .agg #[.int .i64 0, .int .i64 0, .int .i64 0, .int .i64 0, .int .i64 0, .int .i64 0, .int .i64 0, .int .i64 0, .int .i64 0, .int .i64 0, .int .i64 0, .int .i64 0, .int .i64 0, .int .i64 0, .int .i64 0, .int .i64 0, .int .i64 0, .int .i64 0, .int .i64 0, .int .i64 0, .int .i64 0, .int .i64 0, .int .i64 0, .int .i64 0, .int .i64 0, .int .u32 0, .int .u32 0, .int .u32 0, .int .u32 0], .agg #[.int .i64 0, .slice none 0 0, .int .i64 0, .int .i64 0, .bool false, .int .i64 0, .int .i64 0, .bool false, .int .i64 0, .int .i64 0, .bool false, .int .i64 0, .int .i64 0, .bool false, .int .i64 0, .int .i64 0, .bool false, .int .i64 0, .int .i64 0, .bool false, .int .i64 0, .int .i64 0, .bool false, .int .i64 0, .int .i64 0, .bool false, .int .i64 0, .int .i64 0, .bool false, .int .i64 0, .int .i64 0, .bool false, .int .i64 0, .int .i64 0, .bool false, .int .i64 0, .int .i64 0, .bool false, .int .i64 0, .int .i64 0, .bool false, .int .i64 0, .int .i64 0, .bool false, .int .i64 0, .int .i64 0, .bool false, .int .i64 0, .int .i64 0, .bool false, .int .i64 0, .int .i64 0, .bool false, .int .i64 0, .int .i64 0, .bool false, .int .i64 0, .int .i64 0, .bool false, .int .i64 0, .int .i64 0, .bool false, .int .i64 0, .int .i64 0, .bool false, .int .i64 0, .int .i64 0, .bool false, .int .i64 0, .int .i64 0, .bool false, .int .i64 0, .int .i64 0, .bool false]] 8 rfl (World.shaped_of_RefB (by kernel_rfl) (by kernel_rfl)) (by kernel_rfl) (by kernel_rfl) (by kernel_rfl) (ztG os _))
  rfl rfl (by kernel_rfl) (by kernel_rfl) (fun ds h => ?_) (fun w h => zdv 8 (by kernel_rfl) (by kernel_rfl) h) (fun avs h => law6 h)
 have h : ds.length = 3 := h
 match ds, h with
 | [a, b, c], _ => exact ⟨rfl, rfl, rfl⟩
theorem kernelCalls_said : Rows.KernelCallsSaid :=
 OpenClaim.holds_of_wide 6 Tryz.f6 rfl rfl rfl rfl rfl rfl rfl ⟨rfl, rfl, rfl, rfl, rfl⟩ rfl rfl rfl rfl rfl (by kernel_rfl) Tryz.func6 (by kernel_rfl)
  (of_decide_eq_true (by kernel_rfl)) (by unfold Func.isWrapper; first | (rw [if_pos (by decide +kernel)]; kernel_rfl) | (rw [if_neg (by decide +kernel)]; exact ⟨rfl, rfl⟩))
  (fun os started H enc _ => kernelCalls_lifted os started H enc)
theorem kernelCalls_holds : Rows.KernelCallsCardSaid :=
 Claim7.holds_tied_plain_at .later [] [.data] true _ false
  kernelCalls_said (fun _ h => by cases h) (by kernel_rfl) (fun _ h => by cases h) kernelCalls_row_tie rfl ⟨rfl, rfl⟩ (by kernel_rfl) rfl
  (fun f fn hf hfn => by
   obtain rfl : f = 6 := Option.some.inj ((show Tryz.prog.funcNamed Rows.kernelCallsRow.func = some 6 by kernel_rfl).symm.trans hf) |>.symm
   obtain rfl : fn = Tryz.f6 := (Option.some.inj (Tryz.func6.symm.trans hfn)).symm
   exact ⟨by kernel_rfl, fun j t ht => by
    have hm : t ∈ Tryz.f6.params.toList := by simpa using Array.mem_of_getElem? ht
    have hall : (Tryz.f6.params.toList.all fun u => !Tryz.prog.wantsStandIn u) = true := by kernel_rfl
    exact (show Tryz.prog.wantsStandIn t = false by simpa using List.all_eq_true.1 hall t hm)⟩)
  (by kernel_rfl)
end Go.Proofs.YtahohjgfkabacaaGreatDoor
