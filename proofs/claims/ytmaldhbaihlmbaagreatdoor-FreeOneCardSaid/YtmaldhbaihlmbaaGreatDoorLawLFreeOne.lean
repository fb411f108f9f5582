/- What functions come to, printed by a program, checked by the kernel. -/
import Derived.Test.YtmaldhbaihlmbaaGreatDoorCh1
import Derived.Test.YtmaldhbaihlmbaaGreatDoorCh6
import Derived.Test.YtmaldhbaihlmbaaGreatDoorCh4
import Derived.Test.YtmaldhbaihlmbaaGreatDoorRows
import Derived.Test.YtmaldhbaihlmbaaGreatDoorTie
import Derived.Test.YtmaldhbaihlmbaaGreatDoorCards
import Derived.ProofKit
import Derived.LaidMore
import Derived.OpenShut
import Derived.Stop.Joined
import Derived.SevenTiedAt
set_option linter.unusedSimpArgs false
set_option linter.unusedVariables false
namespace Go.Lb.LK
open Go Go.Lb Go.Proofs
noncomputable section
@[simp] def qfo_0 : SE := ei 23 (.inp 1) (.inp 81)
@[simp] def qfo_1 : SE := el 23 qfo_0
@[simp] def qfo_2 : SE := .app (.eoff 0) [qfo_0]
@[simp] def qfo_3 : SE := e1 qfo_2
@[simp] def qfo_4 : SE := bi .neq qfo_3 (tp 0 (.inp 76))
@[simp] def qfo_5 : SE := .app (.eoff 6) [qfo_0]
@[simp] def qfo_6 : SE := e1 qfo_5
@[simp] def qfo_7 : SE := bi .gtr qfo_6 (.int .u8 1)
@[simp] def qfo_8 : SE := pk (.inp 80) bT qfo_7
@[simp] def qfo_9 : SE := bi .neq (tp 0 (.inp 84)) (tp 0 (.inp 77))
@[simp] def qfo_10 : SE := bi .add (.inp 78) (zi 1)
@[simp] def qfo_11 : SE := bi .add (.inp 79) (zi 1)
@[simp] def qfo_12 : SE := bi .add (.inp 81) (zi 1)
@[simp] def qfo_13 : SE := bi .neq (tp 0 (.inp 83)) (tp 0 (.inp 77))
@[simp] def qfo_14 : SE := bi .leq (.inp 78) (zi 1)
@[simp] def qfo_15 : SE := bi .eql (.inp 78) (zi 1)
@[simp] def qfo_16 : SE := .app (.eqb false) [tp 1 (.inp 76), qfo_15]
@[simp] def qfo_17 : SE := pk qfo_14 qfo_16 bF
@[simp] def qfo_18 : SE := bi .gtr (.inp 79) (zi 0)
@[simp] def qfo_19 : SE := .app (.eqb false) [tp 1 (.inp 77), qfo_18]
@[simp] def qfo_20 : SE := pk qfo_17 qfo_19 bF
@[simp] def qfo_21 : SE := .app (.eqb false) [.inp 82, .inp 80]
@[simp] def qfo_22 : SE := pk qfo_20 qfo_21 bF
@[simp] def qfo_23 : SE := bi .eql (tp 0 (.inp 76)) (zi 0)
@[simp] def qfo_24 : SE := pk (tp 1 (.inp 76)) bT qfo_23
@[simp] def qfo_25 : SE := pk qfo_22 qfo_24 bF
def rt_lockbarlaw18_FreeOne : RT :=
 ck (.isAgg 74) [.agg (ipx 0 74)] <|
.seg [.call 75 [] 25 [.agg (ipx 0 74)] false] <|
 ck (.un .not) [.inp 75] <|
.cond (.inp 75)
 (.seg [.call 76 [] 12 [.agg (ipx 0 74), .inp 74] false] <|
 ck (.tproj 0) [.inp 76] <|
 ck (.tproj 1) [.inp 76] <|
.seg [.call 77 [] 14 [.agg (ipx 0 74), .inp 74] false] <|
 ck (.tproj 0) [.inp 77] <|
 ck (.tproj 1) [.inp 77] <|
.loop 0 78 [zi 0, zi 0, bF, zi 0] <|
 ck .len [.inp 1] <|
 ck (.bin .lss) [.inp 81, ln (.inp 1)] <|
.cond (bi .lss (.inp 81) (ln (.inp 1)))
 (ck (.eidx 23) [.inp 1, .inp 81] <|
 ck (.eload 23 true) [qfo_0] <|
.seg [.call 82 [] 36 [qfo_1, .inp 74] false] <|
.cond (.inp 82)
 (ck (.bin .add) [.inp 78, zi 1] <|
 ck (.un .not) [tp 1 (.inp 76)] <|
 ckg (nt (tp 1 (.inp 76))) false (.eidx 23) [.inp 1, .inp 81] <|
 ckg (nt (tp 1 (.inp 76))) false (.eoff 0) [qfo_0] <|
 ckg (nt (tp 1 (.inp 76))) false (.eload 1 false) [qfo_2] <|
 ckg (nt (tp 1 (.inp 76))) false (.bin .neq) [qfo_3, tp 0 (.inp 76)] <|
 ck .pick [nt (tp 1 (.inp 76)), bT, qfo_4] <|
.seg [.bind 83 (pk (nt (tp 1 (.inp 76))) bT qfo_4)] <|
.cond (.inp 83)
 (.ret (bF))
 (ck (.eidx 23) [.inp 1, .inp 81] <|
 ck (.eload 23 true) [qfo_0] <|
.seg [.call 84 [] 37 [qfo_1, .inp 74] false] <|
 ck (.tproj 0) [.inp 84] <|
 ck (.tproj 1) [.inp 84] <|
.cond (tp 1 (.inp 84))
 (ck (.bin .add) [.inp 79, zi 1] <|
 ckg (.inp 80) false (.eidx 23) [.inp 1, .inp 81] <|
 ckg (.inp 80) false (.eoff 6) [qfo_0] <|
 ckg (.inp 80) false (.eload 1 false) [qfo_5] <|
 ckg (.inp 80) false (.bin .gtr) [qfo_6, .int .u8 1] <|
 ck .pick [.inp 80, bT, qfo_7] <|
.seg [.bind 85 (qfo_8)] <|
 ck (.un .not) [tp 1 (.inp 77)] <|
 ckg (nt (tp 1 (.inp 77))) false (.bin .neq) [tp 0 (.inp 84), tp 0 (.inp 77)] <|
 ck .pick [nt (tp 1 (.inp 77)), bT, qfo_9] <|
.seg [.bind 86 (pk (nt (tp 1 (.inp 77))) bT qfo_9)] <|
.cond (.inp 86)
 (.ret (bF))
 (ck (.bin .add) [.inp 81, zi 1] <|
.again 0 [qfo_10, qfo_11, .inp 85, qfo_12]))
 (ck (.bin .add) [.inp 81, zi 1] <|
.again 0 [qfo_10, .inp 79, .inp 80, qfo_12])))
 (ck (.eidx 23) [.inp 1, .inp 81] <|
 ck (.eload 23 true) [qfo_0] <|
.seg [.call 83 [] 37 [qfo_1, .inp 74] false] <|
 ck (.tproj 0) [.inp 83] <|
 ck (.tproj 1) [.inp 83] <|
.cond (tp 1 (.inp 83))
 (ck (.bin .add) [.inp 79, zi 1] <|
 ckg (.inp 80) false (.eidx 23) [.inp 1, .inp 81] <|
 ckg (.inp 80) false (.eoff 6) [qfo_0] <|
 ckg (.inp 80) false (.eload 1 false) [qfo_5] <|
 ckg (.inp 80) false (.bin .gtr) [qfo_6, .int .u8 1] <|
 ck .pick [.inp 80, bT, qfo_7] <|
.seg [.bind 84 (qfo_8)] <|
 ck (.un .not) [tp 1 (.inp 77)] <|
 ckg (nt (tp 1 (.inp 77))) false (.bin .neq) [tp 0 (.inp 83), tp 0 (.inp 77)] <|
 ck .pick [nt (tp 1 (.inp 77)), bT, qfo_13] <|
.seg [.bind 85 (pk (nt (tp 1 (.inp 77))) bT qfo_13)] <|
.cond (.inp 85)
 (.ret (bF))
 (ck (.bin .add) [.inp 81, zi 1] <|
.again 0 [.inp 78, qfo_11, .inp 84, qfo_12]))
 (ck (.bin .add) [.inp 81, zi 1] <|
.again 0 [.inp 78, .inp 79, .inp 80, qfo_12])))
 (ck (.bin .leq) [.inp 78, zi 1] <|
 ckg (qfo_14) true (.bin .eql) [.inp 78, zi 1] <|
 ckg (qfo_14) true (.eqb false) [tp 1 (.inp 76), qfo_15] <|
 ck .pick [qfo_14, qfo_16, bF] <|
 ckg (qfo_17) true (.bin .gtr) [.inp 79, zi 0] <|
 ckg (qfo_17) true (.eqb false) [tp 1 (.inp 77), qfo_18] <|
 ck .pick [qfo_17, qfo_19, bF] <|
.seg [.call 82 [(qfo_20, true)] 16 [.agg (ipx 0 74), .inp 74] false] <|
 ckg (qfo_20) true (.eqb false) [.inp 82, .inp 80] <|
 ck .pick [qfo_20, qfo_21, bF] <|
.seg [.chk [(tp 1 (.inp 76), false), (qfo_22, true)] (.bin .eql) [tp 0 (.inp 76), zi 0]] <|
 ckg (qfo_22) true .pick [tp 1 (.inp 76), bT, qfo_23] <|
 ck .pick [qfo_22, qfo_24, bF] <|
.seg [.call 83 [(qfo_25, true)] 11 [] false] <|
 ck .pick [qfo_25, .inp 83, bF] <|
.seg [.bind 84 (pk qfo_25 (.inp 83) bF),
.bind 85 (qfo_17),
.bind 86 (qfo_20),
.bind 87 (qfo_22),
.bind 88 (qfo_25)] <|
.ret (.inp 84)))
 (.seg [.call 76 [] 11 [] false] <|
.ret (.inp 76))
theorem run_lockbarlaw18_FreeOne : runF E 5 [.agg (ips 0 74), .inp 74] 75 = rt_lockbarlaw18_FreeOne := by kernel_rfl
end
end Go.Lb.LK
namespace Go.Lb.LK
open Go Go.Lb Go.Proofs Go.RowKit
theorem znh {q : Hd → Bool} {l : List Hd} {i : Nat} (hi : i < l.length) : (l.take (i + 1)).any q = ((l.take i).any q || q l[i]) := by
 rw [List.take_add_one, List.getElem?_eq_getElem hi, List.any_append]
 simp
theorem zoo (s : Int) (l : List Hd) (i : Nat) : cntS s (l.take i) ≤ i := by
 unfold cntS
 have := List.countP_le_length (p := fun h => decide (s ∈ zat h)) (l := l.take i)
 have h2 : (l.take i).length ≤ i := by simp; omega
 omega
theorem zop (s : Int) (l : List Hd) (i : Nat) : cntW s (l.take i) ≤ i := by
 unfold cntW
 have := List.countP_le_length (p := fun h => (zaW h s).isSome) (l := l.take i)
 have h2 : (l.take i).length ≤ i := by simp; omega
 omega
theorem zmc {s : Int} {l : List Hd} {i : Nat} (hi : i < l.length) : cntS s (l.take (i + 1)) = cntS s (l.take i) + (if s ∈ zat l[i] then 1 else 0) := by
 unfold cntS; rw [zej hi]; simp
theorem zmd {s : Int} {l : List Hd} {i : Nat} (hi : i < l.length) : cntW s (l.take (i + 1)) = cntW s (l.take i) + (if (zaW l[i] s).isSome = true then 1 else 0) := by
 unfold cntW; rw [zej hi]
def lckS (s : Int) (l : List Hd) : Bool := l.any fun h => (zaW h s).isSome && decide (1 < h.stage)
theorem zmF {s : Int} {l : List Hd} {i : Nat} (hi : i < l.length) : lckS s (l.take (i + 1)) = (lckS s (l.take i) || ((zaW l[i] s).isSome && decide (1 < l[i].stage))) := znh hi
set_option maxRecDepth 100000 in
set_option maxHeartbeats 4000000 in
theorem zlW (k : Kern) (hkw : k.wide) (hk : k.ok) (s : Int) : C f_lockbarlaw18_FreeOne [k.av, I s] (.bool true) := by
 refine ctr (k.cells ++ [I s]) run_lockbarlaw18_FreeOne rfl (by simp [zac, AV.pureAll, AV.pure]) rfl ?_ rfl
 unfold rt_lockbarlaw18_FreeOne
 simp [Kern.cells]
 refine call (zee k hkw hk) (by simp [Kern.cells]) (fun _ => rfl) ?_
 cases hr : zay k
 case false =>
  simp
  exact call zaB rfl (by simp) (by simp)
 have hkl := zda hkw hr
 have h1 := hkl.1
 simp
 refine call (zcg k hkl s) (by simp [Kern.cells]) (by simp [optP]) ?_
 simp [optP]
 refine call (zch k hkl s) (by simp [Kern.cells]) (by simp [optP]) ?_
 simp [optP]
 refine zaa rfl (fun vs => ∃ i : Nat, i ≤ k.held.length ∧ vs = [I (cntS s (k.held.take i)), I (cntW s (k.held.take i)), .bool (lckS s (k.held.take i)), I i]) (fun vs => match vs with | [_, _, _, .int _ j] => k.held.length - j.toNat | _ => 0) ⟨0, by omega, by simp [cntS, cntW, lckS]⟩ ?_
 rintro vs - ⟨i, hi, rfl⟩
 simp [optP]
 refine ⟨fun hlt => ?_, fun hge => ?_⟩
 ·have hw := zab (i := i) (by omega)
  have b1 := zoo s k.held i
  have b2 := zop s k.held i
  have hw1 := zab (i := cntS s (k.held.take i)) (by omega)
  have hw2 := zab (i := cntW s (k.held.take i)) (by omega)
  have e1 := zmc (s := s) hlt
  have e2 := zmd (s := s) hlt
  have e3 := zmF (s := s) hlt
  simp [hlt, Hd.cells]
  refine call (zkJ k.held[i] (k.at hkl hlt) s) (by simp [hlt, Hd.cells]) (by simp) ?_
  by_cases hs : s ∈ zat k.held[i]
  ·have hh := zgs hr hlt hs
   simp [hs, hh, hlt, Hd.cells, hw1]
   refine call (zhe k.held[i] (k.at hkl hlt) s) (by simp [hlt, Hd.cells]) (by simp [optP]) ?_
   cases hm : zaW k.held[i] s with
   | none =>
    simp [optP, hw]
    refine ⟨⟨i + 1, by omega, ?_, ?_, ?_, by omega⟩, by omega⟩
    ·rw [e1]; simp [hs, hw1]
    ·rw [e2]; simp [hm, hw2]
    ·rw [e3]; simp [hm]
   | some a =>
    have hwa := zgV hr hlt hm
    simp [optP, hw, hw2, hwa, hlt, Hd.cells]
    refine ⟨⟨i + 1, by omega, ?_, ?_, ?_, by omega⟩, by omega⟩
    ·rw [e1]; simp [hs, hw1]
    ·rw [e2]; simp [hm, hw2]
    ·rw [e3]; simp [hm]
  ·simp [hs, hlt, Hd.cells]
   refine call (zhe k.held[i] (k.at hkl hlt) s) (by simp [hlt, Hd.cells]) (by simp [optP]) ?_
   cases hm : zaW k.held[i] s with
   | none =>
    simp [optP, hw]
    refine ⟨⟨i + 1, by omega, ?_, ?_, ?_, by omega⟩, by omega⟩
    ·rw [e1]; simp [hs, hw1]
    ·rw [e2]; simp [hm, hw2]
    ·rw [e3]; simp [hm]
   | some a =>
    have hwa := zgV hr hlt hm
    simp [optP, hw, hw2, hwa, hlt, Hd.cells]
    refine ⟨⟨i + 1, by omega, ?_, ?_, ?_, by omega⟩, by omega⟩
    ·rw [e1]; simp [hs, hw1]
    ·rw [e2]; simp [hm, hw2]
    ·rw [e3]; simp [hm]
 ·have ht : k.held.take i = k.held := List.take_of_length_le (by omega)
  rw [ht]
  have q1 := zkL hr s k.held.length (Nat.le_refl _)
  rw [List.take_of_length_le (Nat.le_refl _)] at q1
  have q2 := zls hr s
  have q3 := zlP k s
  have q4 : zb8 k s = lckS s k.held := zkl hr s
  refine zai (avs := [k.av, I s]) (.bool (zb8 k s)) rfl (fun _ => ⟨by simp [Kern.cells], zbE k hkl s⟩) (fun _ => rfl) ?_
  simp [q2, q3, q4]
  refine zai (avs := []) (.bool true) rfl (fun _ => ⟨rfl, zaB⟩) (fun _ => rfl) ?_
  simp [q2, q3, q4]
  refine ⟨⟨by omega, ?_⟩, ?_⟩
  ·by_cases h : cntS s k.held = 1
   ·simp [h]
   ·have h2 : ¬ ((cntS s k.held : Int) = 1) := by omega
    rw [decide_eq_false h, beq_eq_false_iff_ne.2 h2]
  ·by_cases h : cntS s k.held = 1
   ·exact .inl h
   ·right
    rw [decide_eq_false h] at q2
    cases hh : zbR k s with
    | none => rfl
    | some x => rw [hh] at q2; cases q2
end Go.Lb.LK
namespace Go.Lb.LK
open Go Go.Lb Go.Proofs Go.RowKit
theorem args5 : znj Tryz.prog 8 Tryz.f5.params.toList = [(true, zlu), (false, iT)] := by kernel_rfl
theorem law5 {avs : List AV} (h : zgb Tryz.prog 8 Tryz.f5.params.toList avs) (hb : AV.wgts reachBytes avs) : C 5 avs (.bool true) := by
 have h := zc3 _ _ h
 rw [args5] at h
 obtain ⟨x0, q, rfl, h0a, h0b, x1, q, rfl, h1a, h1b, rfl⟩ := h
 obtain ⟨k, rfl, hk⟩ := zic h0a h0b
 obtain ⟨s, rfl⟩ := zoB h1a h1b
 have hkw : k.wide := zid (zcK hb _ (by simp))
 exact zlW k hkw hk s
end Go.Lb.LK
namespace Go.Proofs.YtmaldhbaihlmbaaGreatDoor
open Go Go.ChangeShapes Go.WideShapes Go.ChangeAt Go.RowKit Go.Lb Go.Lb.LK
theorem own5 : ownKnob Tryz.prog.godebug = none := by kernel_rfl
theorem znB : laidOutB Tryz.prog = true := by kernel_rfl
theorem zmg (os : Os) (args : Array Value) : laidMetH Tryz.prog Rows.freeOneRow.laid ((World.doorLaid Tryz.prog 400 os).forCall (fun _ _ => 0) ⟨#[], args, []⟩).memory :=
 laidMetH_of_parts3 (fuel := 8) (laidMet_of_run' 8 (by kernel_rfl) (by kernel_rfl)) (by kernel_rfl) (by kernel_rfl)
set_option maxRecDepth 100000 in
theorem freeOne_lifted (os : Os) (started : os.Started) (H : Type) (enc : TypeId × Value → H) :
  ReturnsInHanded {} Tryz.checked os 5 .any (fun w args => (Rows.freeOneSpec.pre enc Tryz.prog Tryz.f5 [] false w args ∧ laidMetH Tryz.prog Rows.freeOneRow.laid w) ∧ sizedMet enc Tryz.prog Tryz.f5 (OpenSpec.ofChange Rows.freeOneSpec) false w args)
   (Rows.freeOneSpec.post enc Tryz.prog Tryz.f5 false true false false) := by
 refine zcP (C := Tryz.checked) os started 8 H enc (G := GL) (by kernel_rfl) own5 znB (by kernel_rfl) Tryz.func5
  (ChangeSpec.witness_shaped (enc := enc) (C := Tryz.checked) (os := os) (X := fun w _ => laidMetH Tryz.prog Rows.freeOneRow.laid w) false (World.doorLaid Tryz.prog 400 os) #[.agg #[.int .i64 0, .slice none 0 0, .int .i64 0, .int .i64 0, .bool false, .int .i64 0, .int .i64 0, .bool false, .int .i64 0, .int .i64 0, .bool false, .int .i64 0, .int .i64 0, .bool false, .int .i64 0, .int .i64 0, .bool false, .int .i64 0, .int .i64 0, .bool false, .int .i64 0, .int .i64 0, .bool false, .int .i64 0, .int .i64 0, .bool false, .int .i64 0, .int .i64 0, .bool false, .int .i64 0, .int .i64 0, .bool false, .int .i64 0, .int .i64 0, .bool false, .int .i64 0, .int .i64 0, .bool false, .int .i64 0, .int .i64 0, .bool false, .int .i64 0, .int .i64 0, .bool false, .int .i64 0, .int .i64 0, .bool false, .int .i64 0, .int .i64 0, .bool false, .int .i64 0, .int .i64 0, .bool false, .int .i64 0, .int .i64 0, .bool false, .int .i64 0, .int .i64 0, .bool false, .int .i64 0, .int .i64 0, .bool false, .int .i64 0, .int .i64 0, .bool false, .int .i64 0, .int .i64 0, .bool false, .int .i64 0, .int .i64 0, .bool false, .int .i64 0, .int .i64 0, .bool false], .int .i64 0] 8 rfl (World.shaped_of_RefB (by kernel_rfl) (by kernel_rfl)) (by kernel_rfl) (by kernel_rfl) (by kernel_rfl) (zmg os _))
  rfl rfl (by kernel_rfl) (by kernel_rfl) (fun ds h => ?_) (fun w h => zcO 8 (by kernel_rfl) (by kernel_rfl) h) (by kernel_rfl) (fun avs h hb => law5 h hb)
 have h : ds.length = 2 := h
 match ds, h with
 | [a, b], _ => exact ⟨rfl, rfl, rfl⟩
theorem freeOne_said : Rows.FreeOneSaid :=
 OpenClaim.holds_of_wide 5 Tryz.f5 rfl rfl rfl rfl rfl rfl rfl ⟨rfl, rfl, rfl, rfl, rfl⟩ rfl rfl rfl rfl rfl (by kernel_rfl) Tryz.func5 (by kernel_rfl)
  (of_decide_eq_true (by kernel_rfl)) (by unfold Func.isWrapper; first | (rw [if_pos (by decide +kernel)]; kernel_rfl) | (rw [if_neg (by decide +kernel)]; exact ⟨rfl, rfl⟩))
  (fun os started H enc _ => freeOne_lifted os started H enc)
theorem freeOne_holds : Rows.FreeOneCardSaid :=
 Claim7.holds_tied_plain_at .later [] [.data] true _ false
  freeOne_said (fun _ h => by cases h) (by kernel_rfl) (fun _ h => by cases h) freeOne_row_tie rfl ⟨rfl, rfl⟩ (by kernel_rfl) rfl
  (fun f fn hf hfn => by
   obtain rfl : f = 5 := Option.some.inj ((show Tryz.prog.funcNamed Rows.freeOneRow.func = some 5 by kernel_rfl).symm.trans hf) |>.symm
   obtain rfl : fn = Tryz.f5 := (Option.some.inj (Tryz.func5.symm.trans hfn)).symm
   exact ⟨by kernel_rfl, fun j t ht => by
    have hm : t ∈ Tryz.f5.params.toList := by simpa using Array.mem_of_getElem? ht
    have hall : (Tryz.f5.params.toList.all fun u => !Tryz.prog.wantsStandIn u) = true := by kernel_rfl
    exact (show Tryz.prog.wantsStandIn t = false by simpa using List.all_eq_true.1 hall t hm)⟩)
  (by kernel_rfl)
end Go.Proofs.YtmaldhbaihlmbaaGreatDoor
