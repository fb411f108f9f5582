/- What functions come to, printed by a program, checked by the kernel. -/
import Derived.Test.YtmaldhbaihlmbaaGreatDoorCh1
import Derived.Test.YtmaldhbaihlmbaaGreatDoorCh6
import Derived.Test.YtmaldhbaihlmbaaGreatDoorCh4
import Derived.Test.YtmaldhbaihlmbaaGreatDoorRows
import Derived.Test.YtmaldhbaihlmbaaGreatDoorTie
import Derived.Test.YtmaldhbaihlmbaaGreatDoorCards
import Derived.ProofKit
import Derived.LaidMore
import Derived.OpenShut
import Derived.Stop.Joined
import Derived.SevenTiedAt
set_option linter.unusedSimpArgs false
set_option linter.unusedVariables false
namespace Go.Lb.LK
open Go Go.Lb Go.Proofs
noncomputable section
@[simp] def qfm_0 : SE := .agg [.inp 114, .inp 115, .inp 116]
@[simp] def qfm_1 : SE := bi .lss (.inp 114) (zi 0)
@[simp] def qfm_2 : SE := bi .geq (.inp 114) (zi 24)
@[simp] def qfm_3 : SE := bi .neq (tp 0 (.inp 121)) (.inp 115)
@[simp] def qfm_4 : SE := .app (.eqb false) [.inp 119, nt (.inp 122)]
@[simp] def qfm_5 : SE := .app (.aidx 24 3 4 1 false) [.agg (ipx 40 74), .inp 114]
@[simp] def qfm_6 : SE := nt qfm_5
@[simp] def qfm_7 : SE := pk qfm_6 (.inp 122) bF
@[simp] def qfm_8 : SE := .app (.eqb false) [.inp 119, qfm_7]
def rt_lockbarlaw18_FreeMeets : RT :=
 ck (.isAgg 11) [.agg (ipx 0 11)] <|
 ck (.isAgg 29) [.agg (ipx 11 29)] <|
 ck (.isAgg 74) [.agg (ipx 40 74)] <|
 ck (.isAgg 3) [qfm_0] <|
.seg [.call 117 [] 8 [.agg (ipx 0 11)] false] <|
.seg [.call 118 [(.inp 117, false)] 25 [.agg (ipx 40 74)] false] <|
 ckg (.inp 117) false (.un .not) [.inp 118] <|
 ck .pick [.inp 117, bT, nt (.inp 118)] <|
.cond (pk (.inp 117) bT (nt (.inp 118)))
 (.seg [.call 119 [] 11 [] false] <|
.ret (.inp 119))
 (.seg [.call 119 [] 20 [.agg (ipx 0 11), .agg (ipx 11 29), .agg (ipx 40 74), qfm_0] false] <|
 ck (.bin .lss) [.inp 114, zi 0] <|
 ckg (qfm_1) false (.bin .geq) [.inp 114, zi 24] <|
 ck .pick [qfm_1, bT, qfm_2] <|
.cond (pk qfm_1 bT qfm_2)
 (ck (.un .not) [.inp 119] <|
.seg [.call 120 [(nt (.inp 119), true)] 11 [] false] <|
 ck .pick [nt (.inp 119), .inp 120, bF] <|
.ret (pk (nt (.inp 119)) (.inp 120) bF))
 (.seg [.call 120 [] 38 [.agg (ipx 0 11), .agg (ipx 11 29), .inp 114] false,
.chk [] (.bin .eql) [.inp 120, .inp 115]] <|
.seg [.call 121 [] 14 [.agg (ipx 40 74), .inp 114] false] <|
 ck (.tproj 0) [.inp 121] <|
 ck (.tproj 1) [.inp 121] <|
 ckg (tp 1 (.inp 121)) true (.bin .neq) [tp 0 (.inp 121), .inp 115] <|
 ck .pick [tp 1 (.inp 121), qfm_3, bF] <|
.cond (pk (tp 1 (.inp 121)) qfm_3 bF)
 (ck (.un .not) [.inp 119] <|
.seg [.call 122 [(nt (.inp 119), true)] 11 [] false] <|
 ck .pick [nt (.inp 119), .inp 122, bF] <|
.ret (pk (nt (.inp 119)) (.inp 122) bF))
 (.cond (bi .eql (.inp 120) (.inp 115))
 (.seg [.call 122 [(.inp 119, true)] 11 [] false] <|
 ck .pick [.inp 119, .inp 122, bF] <|
.ret (pk (.inp 119) (.inp 122) bF))
 (.cond (tp 1 (.inp 121))
 (.seg [.call 122 [] 16 [.agg (ipx 40 74), .inp 114] false] <|
 ck (.un .not) [.inp 122] <|
 ck (.eqb false) [.inp 119, nt (.inp 122)] <|
.seg [.call 123 [(qfm_4, true)] 11 [] false] <|
 ck .pick [qfm_4, .inp 123, bF] <|
.ret (pk qfm_4 (.inp 123) bF))
 (ck (.inr 24) [.inp 114] <|
 ck (.inr 24) [.inp 114] <|
 ck (.aidx 24 3 4 1 false) [.agg (ipx 40 74), .inp 114] <|
 ck (.un .not) [qfm_5] <|
.seg [.call 122 [(qfm_6, true)] 18 [.agg (ipx 0 11), .agg (ipx 11 29), .agg (ipx 40 74), .inp 114] false] <|
 ck .pick [qfm_6, .inp 122, bF] <|
 ck (.eqb false) [.inp 119, qfm_7] <|
.seg [.call 123 [(qfm_8, true)] 11 [] false] <|
 ck .pick [qfm_8, .inp 123, bF] <|
.seg [.bind 124 (pk qfm_8 (.inp 123) bF),
.bind 125 (qfm_5),
.bind 126 (qfm_6),
.bind 127 (qfm_7),
.bind 128 (qfm_8)] <|
.ret (.inp 124))))))
theorem run_lockbarlaw18_FreeMeets : runF E 7 [.agg (ips 0 11), .agg (ips 11 29), .agg (ips 40 74), .agg [.inp 114, .inp 115, .inp 116]] 117 = rt_lockbarlaw18_FreeMeets := by kernel_rfl
end
end Go.Lb.LK
namespace Go.Lb.LK
open Go Go.Lb Go.Proofs Go.RowKit
set_option maxRecDepth 100000 in
set_option maxHeartbeats 4000000 in
theorem zjZ (l : Lay) (im : Img) (hi : im.ok) (k : Kern) (hkw : k.wide) (hk : k.ok) (n : Need) : C f_lockbarlaw18_FreeMeets [l.av, im.av, k.av, n.av] (.bool true) := by
 refine ctr (l.cells ++ im.cells ++ k.cells ++ n.cells) run_lockbarlaw18_FreeMeets rfl (liks l im k _ (by simp)) rfl ?_ rfl
 unfold rt_lockbarlaw18_FreeMeets
 simp [Lay.cells, Img.cells, Kern.cells, Need.cells, -zad]
 refine call (zgg l) (by simp [Lay.cells]) (by simp) ?_
 simp [-zad]
 refine zai (avs := [k.av]) (.bool (zay k)) rfl (fun _ => ⟨by simp [Kern.cells], zee k hkw hk⟩) (fun _ => rfl) ?_
 cases g1 : zd6 l
 case true =>
  simp [-zad]
  exact call zaB rfl (by simp) (by simp)
 cases g2 : zay k
 case false =>
  simp [-zad]
  exact call zaB rfl (by simp) (by simp)
 have hkl := zda hkw g2
 simp [-zad]
 refine call (zcF l im hi k hkl n) (by simp [Lay.cells, Img.cells, Kern.cells, Need.cells]) (fun _ => rfl) ?_
 simp [-zad]
 refine ⟨fun hb => ?_, fun h0 h24 => ?_⟩
 ·have hf : za5 l im k n = false := by unfold za5; rw [decide_eq_false (by omega)]; rfl
  simp [hf, -zad]
  exact zai (avs := []) (.bool true) rfl (fun _ => ⟨rfl, zaB⟩) (fun _ => rfl) (by simp)
 have hA := zps k (i := n.p.toNat) (z := n.p) (by omega) (by omega)
 simp only [Kern.cells] at hA
 refine call (zok l im hi n.p) (by simp [Lay.cells, Img.cells]) (fun _ => rfl) ?_
 simp [-zad]
 refine call (zch k hkl n.p) (by simp [Kern.cells]) (by simp [optP]) ?_
 have hr : decide (0 ≤ n.p ∧ n.p < 24) = true := decide_eq_true ⟨h0, h24⟩
 cases hm : zcc k n.p with
 | some pos =>
  by_cases hp : pos = n.pos
  ·by_cases ha : atP l im n.p = n.pos
   ·have hf : za5 l im k n = true := by simp [za5, hr, hm, hp, ha]
    simp [optP, hp, ha, hf, -zad]
    exact zai (avs := []) (.bool true) rfl (fun _ => ⟨rfl, zaB⟩) (fun _ => rfl) (by simp)
   ·have hf : za5 l im k n = !zb8 k n.p := by simp [za5, hr, hm, hp, ha]
    simp [optP, hp, ha, -zad]
    refine call (zbE k hkl n.p) (by simp [Kern.cells]) (fun _ => rfl) ?_
    simp [hf, -zad]
    exact zai (avs := []) (.bool true) rfl (fun _ => ⟨rfl, zaB⟩) (fun _ => rfl) (by simp)
  ·have hf : za5 l im k n = false := by simp [za5, hm, hp]
   simp [optP, hp, hf, -zad]
   exact zai (avs := []) (.bool true) rfl (fun _ => ⟨rfl, zaB⟩) (fun _ => rfl) (by simp)
 | none =>
  by_cases ha : atP l im n.p = n.pos
  ·have hf : za5 l im k n = true := by simp [za5, hr, hm, ha]
   simp [optP, ha, hf, -zad]
   exact zai (avs := []) (.bool true) rfl (fun _ => ⟨rfl, zaB⟩) (fun _ => rfl) (by simp)
  ·have hf : za5 l im k n = (!k.fail n.p.toNat && zcN l im k n.p) := by simp [za5, hr, hm, ha]
   simp [optP, ha, hA, -zad]
   repeat refine And.intro (by intros; omega) ?_
   refine zai (avs := [l.av, im.av, k.av, I n.p]) (.bool (zcN l im k n.p)) rfl (fun _ => ⟨by simp [Lay.cells, Img.cells, Kern.cells], zbP l im hi k hkl n.p⟩) (fun _ => rfl) ?_
   simp [hA, hf, -zad]
   refine zai (avs := []) (.bool true) rfl (fun _ => ⟨rfl, zaB⟩) (fun _ => rfl) ?_
   simp [hA, hf, -zad]
end Go.Lb.LK
namespace Go.Lb.LK
open Go Go.Lb Go.Proofs Go.RowKit
theorem args7 : znj Tryz.prog 8 Tryz.f7.params.toList = [(true, layT), (true, imgT), (true, zlu), (true, zmK)] := by kernel_rfl
theorem law7 {avs : List AV} (h : zgb Tryz.prog 8 Tryz.f7.params.toList avs) (hb : AV.wgts reachBytes avs) : C 7 avs (.bool true) := by
 have h := zc3 _ _ h
 rw [args7] at h
 obtain ⟨x0, q, rfl, h0a, h0b, x1, q, rfl, h1a, h1b, x2, q, rfl, h2a, h2b, x3, q, rfl, h3a, h3b, rfl⟩ := h
 obtain ⟨l, rfl, hl⟩ := zmD h0a h0b
 obtain ⟨im, rfl, him⟩ := zmx h1a h1b
 obtain ⟨k, rfl, hk⟩ := zic h2a h2b
 obtain ⟨n, rfl⟩ := znK h3a h3b
 have hkw : k.wide := zid (zcK hb _ (by simp))
 exact zjZ l im him k hkw hk n
end Go.Lb.LK
namespace Go.Proofs.YtmaldhbaihlmbaaGreatDoor
open Go Go.ChangeShapes Go.WideShapes Go.ChangeAt Go.RowKit Go.Lb Go.Lb.LK
theorem own7 : ownKnob Tryz.prog.godebug = none := by kernel_rfl
theorem znC : laidOutB Tryz.prog = true := by kernel_rfl
theorem zmh (os : Os) (args : Array Value) : laidMetH Tryz.prog Rows.freeMeetsRow.laid ((World.doorLaid Tryz.prog 400 os).forCall (fun _ _ => 0) ⟨#[], args, []⟩).memory :=
 laidMetH_of_parts3 (fuel := 8) (laidMet_of_run' 8 (by kernel_rfl) (by kernel_rfl)) (by kernel_rfl) (by kernel_rfl)
set_option maxRecDepth 100000 in
theorem freeMeets_lifted (os : Os) (started : os.Started) (H : Type) (enc : TypeId × Value → H) :
  ReturnsInHanded {} Tryz.checked os 7 .any (fun w args => (Rows.freeMeetsSpec.pre enc Tryz.prog Tryz.f7 [] false w args ∧ laidMetH Tryz.prog Rows.freeMeetsRow.laid w) ∧ sizedMet enc Tryz.prog Tryz.f7 (OpenSpec.ofChange Rows.freeMeetsSpec) false w args)
   (Rows.freeMeetsSpec.post enc Tryz.prog Tryz.f7 false true false false) := by
 refine zcP (C := Tryz.checked) os started 8 H enc (G := GL) (by kernel_rfl) own7 znC (by kernel_rfl) Tryz.func7
  (ChangeSpec.witness_shaped (enc := enc) (C := Tryz.checked) (os := os) (X := fun w _ => laidMetH Tryz.prog Rows.freeMeetsRow.laid w) false (World.doorLaid Tryz.prog 400 os) #[.agg #[.slice none 0 0, .slice none 0 0, .slice none 0 0, .slice none 0 0, .int .i64 0, .int .i64 0, .int .i64 0, .int .i64 0, .int .i64 0, .int .i64 0, .int .i64 0], .agg #[.int .i64 0, .int .i64 0, .int .i64 0, .int .i64 0, .int .i64 0, .int .i64 0, .int .i64 0, .int .i64 0, .int .i64 0, .int .i64 0, .int .i64 0, .int .i64 0, .int .i64 0, .int .i64 0, .int .i64 0, .int .i64 0, .int .i64 0, .int .i64 0, .int .i64 0, .int .i64 0, .int .i64 0, .int .i64 0, .int .i64 0, .int .i64 0, .int .i64 0, .int .u32 0, .int .u32 0, .int .u32 0, .int .u32 0], .agg #[.int .i64 0, .slice none 0 0, .int .i64 0, .int .i64 0, .bool false, .int .i64 0, .int .i64 0, .bool false, .int .i64 0, .int .i64 0, .bool false, .int .i64 0, .int .i64 0, .bool false, .int .i64 0, .int .i64 0, .bool false, .int .i64 0, .int .i64 0, .bool false, .int .i64 0, .int .i64 0, .bool false, .int .i64 0, .int .i64 0, .bool false, .int .i64 0, .int .i64 0, .bool false, .int .i64 0, .int .i64 0, .bool false, .int .i64 0, .int .i64 0, .bool false, .int .i64 0, .int .i64 0, .bool false, .int .i64 0, .int .i64 0, .bool false, .int .i64 0, .int .i64 0, .bool false, .int .i64 0, .int .i64 0, .bool false, .int .i64 0, .int .i64 0, .bool false, .int .i64 0, .int .i64 0, .bool false, .int .i64 0, .int .i64 0, .bool false, .int .i64 0, .int .i64 0, .bool false, .int .i64 0, .int .i64 0, .bool false, .int .i64 0, .int .i64 0, .bool false, .int .i64 0, .int .i64 0, .bool false, .int .i64 0, .int .i64 0, .bool false, .int .i64 0, .int .i64 0, .bool false], .agg #[.int .i64 0, .int .i64 0, .int .i64 0]] 8 rfl (World.shaped_of_RefB (by kernel_rfl) (by kernel_rfl)) (by kernel_rfl) (by kernel_rfl) (by kernel_rfl) (zmh os _))
  rfl rfl (by kernel_rfl) (by kernel_rfl) (fun ds h => ?_) (fun w h => zcO 8 (by kernel_rfl) (by kernel_rfl) h) (by kernel_rfl) (fun avs h hb => law7 h hb)
 have h : ds.length = 4 := h
 match ds, h with
 | [a, b, c, d], _ => exact ⟨rfl, rfl, rfl⟩
theorem freeMeets_said : Rows.FreeMeetsSaid :=
 OpenClaim.holds_of_wide 7 Tryz.f7 rfl rfl rfl rfl rfl rfl rfl ⟨rfl, rfl, rfl, rfl, rfl⟩ rfl rfl rfl rfl rfl (by kernel_rfl) Tryz.func7 (by kernel_rfl)
  (of_decide_eq_true (by kernel_rfl)) (by unfold Func.isWrapper; first | (rw [if_pos (by decide +kernel)]; kernel_rfl) | (rw [if_neg (by decide +kernel)]; exact ⟨rfl, rfl⟩))
  (fun os started H enc _ => freeMeets_lifted os started H enc)
theorem freeMeets_holds : Rows.FreeMeetsCardSaid :=
 Claim7.holds_tied_plain_at .later [] [.data] true _ false
  freeMeets_said (fun _ h => by cases h) (by kernel_rfl) (fun _ h => by cases h) freeMeets_row_tie rfl ⟨rfl, rfl⟩ (by kernel_rfl) rfl
  (fun f fn hf hfn => by
   obtain rfl : f = 7 := Option.some.inj ((show Tryz.prog.funcNamed Rows.freeMeetsRow.func = some 7 by kernel_rfl).symm.trans hf) |>.symm
   obtain rfl : fn = Tryz.f7 := (Option.some.inj (Tryz.func7.symm.trans hfn)).symm
   exact ⟨by kernel_rfl, fun j t ht => by
    have hm : t ∈ Tryz.f7.params.toList := by simpa using Array.mem_of_getElem? ht
    have hall : (Tryz.f7.params.toList.all fun u => !Tryz.prog.wantsStandIn u) = true := by kernel_rfl
    exact (show Tryz.prog.wantsStandIn t = false by simpa using List.all_eq_true.1 hall t hm)⟩)
  (by kernel_rfl)
end Go.Proofs.YtmaldhbaihlmbaaGreatDoor
