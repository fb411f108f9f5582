/- What functions come to, printed by a program, checked by the kernel. -/
import Derived.Test.YtbofccnennefnaaGreatDoorCh1
import Derived.Test.YtbofccnennefnaaGreatDoorCh10
import Derived.Test.YtbofccnennefnaaGreatDoorCh5
import Derived.Test.YtbofccnennefnaaGreatDoorCh6
import Derived.Test.YtbofccnennefnaaGreatDoorRows
import Derived.Test.YtbofccnennefnaaGreatDoorTie
import Derived.Test.YtbofccnennefnaaGreatDoorCards
import Derived.ProofKit
import Derived.LaidMore
import Derived.OpenShut
import Derived.Stop.Joined
import Derived.SevenTiedAt
set_option linter.unusedSimpArgs false
set_option linter.unusedVariables false
namespace Go.Lb.LK
open Go Go.Lb Go.Proofs
noncomputable section
@[simp] def qco_0 : SE := .agg [.inp 114, .inp 115, .inp 116]
@[simp] def qco_1 : SE := bi .neq (tp 2 (.inp 118)) (zi 0)
@[simp] def qco_2 : SE := pk (nt (tp 1 (.inp 121))) bT qco_1
@[simp] def qco_3 : SE := .agg (pts (tp 0 (.inp 118)) 0 74)
@[simp] def qco_4 : SE := .app (.aidx 24 3 2 3 true) [qco_3, .inp 120]
@[simp] def qco_5 : SE := .app (.aidx 24 3 2 3 true) [.agg (ips 40 74), .inp 120]
@[simp] def qco_6 : SE := .app (.eqa [ some .i64, some .i64, none] true) [qco_4, qco_5]
@[simp] def qco_7 : SE := bi .eql (tp 2 (.inp 121)) (zi 190)
@[simp] def qco_8 : SE := bi .eql (tp 2 (.inp 121)) (zi 2)
@[simp] def qco_9 : SE := bi .geq (pt 0 (tp 0 (.inp 118))) (zi 1073741824)
@[simp] def qco_10 : SE := pk qco_8 qco_9 bF
@[simp] def qco_11 : SE := pk qco_7 bT qco_10
@[simp] def qco_12 : SE := bi .eql (tp 1 (.inp 121)) (zi 0)
@[simp] def qco_13 : SE := pk qco_11 qco_12 bF
def rt_lockbarlaw19_CommitOnly : RT :=
 ck (.isAgg 11) [.agg (ips 0 11)] <|
 ck (.isAgg 29) [.agg (ips 11 29)] <|
 ck (.isAgg 74) [.agg (ips 40 74)] <|
 ck (.isAgg 3) [qco_0] <|
.seg [.call 117 [] 8 [.agg (ips 0 11), .agg (ips 40 74), qco_0] false] <|
.cond (.inp 117)
 (.seg [.call 118 [] 9 [] false] <|
.ret (.inp 118))
 (.seg [.call 118 [] 10 [.agg (ips 0 11), .agg (ips 11 29), .agg (ips 40 74), qco_0] false] <|
 ck (.tproj 0) [.inp 118] <|
 ck (.tproj 1) [.inp 118] <|
 ck (.tproj 2) [.inp 118] <|
 ck (.isAgg 74) [tp 0 (.inp 118)] <|
.seg [.call 119 [] 32 [.agg (ips 0 11), qco_0] false] <|
.loop 0 120 [zi 0] <|
 ck (.bin .lss) [.inp 120, zi 24] <|
.cond (bi .lss (.inp 120) (zi 24))
 (.seg [.call 121 [] 33 [.inp 119, .inp 120] false] <|
 ck (.tproj 0) [.inp 121] <|
 ck (.tproj 1) [.inp 121] <|
.seg [.chk [] (.un .not) [tp 1 (.inp 121)],
.chk [(nt (tp 1 (.inp 121)), false)] (.bin .neq) [tp 2 (.inp 118), zi 0],
.chk [] .pick [nt (tp 1 (.inp 121)), bT, qco_1],
.chk [(qco_2, true)] (.inr 24) [.inp 120],
.chk [(qco_2, true)] (.aidx 24 3 2 3 true) [qco_3, .inp 120],
.chk [(qco_2, true)] (.inr 24) [.inp 120],
.chk [(qco_2, true)] (.aidx 24 3 2 3 true) [.agg (ips 40 74), .inp 120],
.chk [(qco_2, true)] (.eqa [ some .i64, some .i64, none] true) [qco_4, qco_5],
.chk [] .pick [qco_2, qco_6, bF]] <|
.seg [.bind 122 (qco_4),
.bind 123 (qco_5),
.bind 124 (qco_6),
.bind 125 (pk qco_2 qco_6 bF)] <|
.cond (.inp 125)
 (.ret (bF))
 (ck (.bin .add) [.inp 120, zi 1] <|
.again 0 [bi .add (.inp 120) (zi 1)]))
 (ck (.bin .neq) [tp 2 (.inp 118), zi 0] <|
.cond (qco_1)
 (.seg [.call 121 [] 9 [] false] <|
.ret (.inp 121))
 (.seg [.call 121 [] 10 [.agg (ips 0 11), .agg (ips 11 29), qco_3, qco_0] false] <|
 ck (.tproj 0) [.inp 121] <|
 ck (.tproj 1) [.inp 121] <|
 ck (.tproj 2) [.inp 121] <|
 ck (.isAgg 74) [tp 0 (.inp 121)] <|
 ck (.bin .eql) [tp 2 (.inp 121), zi 190] <|
 ckg (qco_7) false (.bin .eql) [tp 2 (.inp 121), zi 2] <|
.seg [.chk [(qco_8, true), (qco_7, false)] (.bin .geq) [pt 0 (tp 0 (.inp 118)), zi 1073741824]] <|
 ckg (qco_7) false .pick [qco_8, qco_9, bF] <|
 ck .pick [qco_7, bT, qco_10] <|
 ckg (qco_11) true (.bin .eql) [tp 1 (.inp 121), zi 0] <|
 ck .pick [qco_11, qco_12, bF] <|
.seg [.call 122 [(qco_13, true)] 9 [] false] <|
 ck .pick [qco_13, .inp 122, bF] <|
.seg [.bind 123 (pk qco_13 (.inp 122) bF),
.bind 124 (qco_10),
.bind 125 (qco_11),
.bind 126 (qco_13)] <|
.ret (.inp 123))))
theorem run_lockbarlaw19_CommitOnly : runF E 6 [.agg (ips 0 11), .agg (ips 11 29), .agg (ips 40 74), .agg [.inp 114, .inp 115, .inp 116]] 117 = rt_lockbarlaw19_CommitOnly := by kernel_rfl
end
end Go.Lb.LK
namespace Go.Lb.LK
open Go Go.Lb Go.Proofs Go.RowKit
theorem zsv (l : Lay) (im : Img) (k : Kern) (p : Path) : (zaJ l im k p).2.2 = zcv l im k p := by
 by_cases h : zcv l im k p = 0
 ·rw [zrP h, h]
 ·rw [zrR h]
theorem zst {l : Lay} {im : Img} {k : Kern} {p : Path} (h : Small19 l k p) (h0 : zcv l im k p = 0) : (comK l im k p).len := by
 have := zkq (im := im) h
 rw [zrP h0] at this; exact this
theorem zsp {l : Lay} {im : Img} {k : Kern} {p : Path} {q : Nat} (h : (atN (zak l p) q).2 = false ∨ ¬ zcv l im k p = 0) : (zaJ l im k p).1.mach q = k.mach q := by
 by_cases h0 : zcv l im k p = 0
 ·rw [zrP h0]
  have h2 := h.resolve_right (fun e => e h0)
  obtain ⟨z1, z2, z3, z4, z5⟩ := zhG h0
  show (comK l im k p).mach q = k.mach q
  unfold comK
  rw [zrS]
  ·rfl
  ·intro x hx e
   have hx0 := (zhI (zlB z5 x hx)).1
   unfold atN at h2
   cases hf : (zak l p).find? (fun x => decide (x.p = (q : Int))) with
   | some y => rw [hf] at h2; cases h2
   | none =>
    rw [List.find?_eq_none] at hf
    exact hf x hx (by simp; omega)
 ·rw [zrR h0]
theorem likq' (l : Lay) (im : Img) (k : Kern) (p : Path) : AV.pureAll (l.cells ++ im.cells ++ k.cells ++ p.cells) = true := by simp [zac]
set_option maxHeartbeats 2000000 in
theorem zr7 (l : Lay) (hl : l.ok) (im : Img) (hi : im.ok) (k : Kern) (hko : k.ok) (p : Path) : C f_lockbarlaw19_CommitOnly [l.av, im.av, k.av, p.av] (.bool true) := by
 refine ctr (l.cells ++ im.cells ++ k.cells ++ p.cells) run_lockbarlaw19_CommitOnly rfl (likq' l im k p) rfl ?_ rfl
 unfold rt_lockbarlaw19_CommitOnly
 simp [zaC, zad, Path.cells]
 refine call (zj9 l k p) (by simp [zad, zaC, Path.cells]) (by simp) ?_
 cases hg : zeg l k p
 case true =>
  simp
  exact call zcU rfl (by simp) (by simp)
 have hS := zoC hl hg
 have hk := hS.can.kl
 simp
 refine call (zbt l im hi k hko p hS.can hS.lens) (by simp [zad, zaC, Path.cells]) (by simp) ?_
 simp [zae, zsv]
 refine call (zjb l hS.can.ov hS.can.fl p hS.can.pl hS.can.ol) (by simp [zad, Path.cells]) (by simp) ?_
 have hmo := fun q : Nat => zsp (l := l) (im := im) (k := k) (p := p) (q := q)
 have hnd := hS.need
 obtain ⟨K, hK⟩ : ∃ K, K = (zaJ l im k p).1 := ⟨_, rfl⟩
 rw [← hK] at hmo ⊢
 simp
 refine zaa (by simp) (fun vs => ∃ i : Nat, i ≤ 24 ∧ vs = [I i]) (fun vs => match vs with | [.int _ j] => 24 - j.toNat | _ => 0) ⟨0, by omega, by simp⟩ ?_
 rintro vs - ⟨i, hi2, rfl⟩
 by_cases hlt : i < 24
 ·have hw := zab (i := i) (by omega)
  have hii : (i : Int) < 24 := by omega
  have hA : pv (.aidx 24 3 2 3 true) [.agg K.cells, I i] = (K.mach i).av := by rw [zaC]; exact za0 _ _ _ _ _ (by omega) hii
  have hB : pv (.aidx 24 3 2 3 true) [.agg (I k.next :: zm0 k.held :: zaz k.want k.run k.fail), I i] = (k.mach i).av := za0 _ _ _ _ _ (by omega) hii
  simp [hii]
  refine call (zsG (zak l p) (by omega) i) (by simp) (by simp) ?_
  have hm := hmo i
  generalize K.mach i = M at hA hm
  generalize k.mach i = N at hB hm
  generalize atN (zak l p) i = a at hm
  simp [hii, zae, zad, hA, hB, Mach.cells, AV.eqs, AV.eq1, hw, -zaf]
  refine ⟨fun _ => by omega, fun h => ?_, fun _ => ⟨⟨i + 1, by omega, by omega⟩, by omega⟩⟩
  rw [hm h]
  exact ⟨rfl, rfl, rfl⟩
 have : i = 24 := by omega
 subst this
 simp
 refine ⟨fun h0 => ?_, fun h0 => ?_⟩
 ·exact call zcU rfl (by simp) (by simp)
 rw [zrP h0] at hK
 have hK : K = comK l im k p := hK
 subst hK
 have hr := zrY h0
 have hcan : CanOk l (comK l im k p) p := ⟨zst hS h0, hS.can.lo, hS.can.ov, hS.can.fl, hS.can.pl, hS.can.ol⟩
 have hag := zsl h0
 have hn0 : ¬ zcv l im (comK l im k p) p = 0 := by rw [hag]; split <;> omega
 have hnx := (zrQ l im k p).2
 refine call (zbt l im hi (comK l im k p) (zc4 hr) p hcan hS.lens) (by simp [zad, zae, zaC, Path.cells]) (by simp) ?_
 rw [zrR hn0, hag]
 by_cases hm : 1073741824 ≤ k.next + 1
 ·simp [hm, zae, zej, hnx]
  refine zaj (avs := []) (.bool true) rfl (fun _ => ⟨rfl, zcU⟩) (by simp) ?_
  simp [hm, zae, zej, hnx]
 ·simp [hm, zae, zej, hnx]
  refine zaj (avs := []) (.bool true) rfl (fun _ => ⟨rfl, zcU⟩) (by simp) ?_
  simp [hm, zae, zej, hnx]
end Go.Lb.LK
namespace Go.Lb.LK
open Go Go.Lb Go.Proofs Go.RowKit
theorem args6 : zpU Tryz.prog 8 Tryz.f6.params.toList = [(true, layT), (true, imgT), (true, zoj), (true, znc)] := by kernel_rfl
theorem law6 {avs : List AV} (h : zie Tryz.prog 8 Tryz.f6.params.toList avs) : C 6 avs (.bool true) := by
 have h := zeT _ _ h
 rw [args6] at h
 obtain ⟨x0, q, rfl, h0a, h0b, x1, q, rfl, h1a, h1b, x2, q, rfl, h2a, h2b, x3, q, rfl, h3a, h3b, rfl⟩ := h
 obtain ⟨l, rfl, hl⟩ := zqg h0a h0b
 obtain ⟨im, rfl, him⟩ := zqd h1a h1b
 obtain ⟨k, rfl, hk⟩ := zmn h2a h2b
 obtain ⟨p, rfl⟩ := zpp h3a h3b
 exact zr7 l hl im him k hk p
end Go.Lb.LK
namespace Go.Proofs.YtbofccnennefnaaGreatDoor
open Go Go.ChangeShapes Go.WideShapes Go.ChangeAt Go.RowKit Go.Lb Go.Lb.LK
theorem own6 : ownKnob Tryz.prog.godebug = none := by kernel_rfl
theorem zsM : laidOutB Tryz.prog = true := by kernel_rfl
theorem zsy (os : Os) (args : Array Value) : laidMetH Tryz.prog Rows.commitOnlyRow.laid ((World.doorLaid Tryz.prog 400 os).forCall (fun _ _ => 0) ⟨#[], args, []⟩).memory :=
 laidMetH_of_parts3 (fuel := 8) (laidMet_of_run' 8 (by kernel_rfl) (by kernel_rfl)) (by kernel_rfl) (by kernel_rfl)
set_option maxRecDepth 100000 in
theorem commitOnly_lifted (os : Os) (started : os.Started) (H : Type) (enc : TypeId × Value → H) :
  ReturnsInHanded {} Tryz.checked os 6 .any (fun w args => (Rows.commitOnlySpec.pre enc Tryz.prog Tryz.f6 [] false w args ∧ laidMetH Tryz.prog Rows.commitOnlyRow.laid w) ∧ sizedMet enc Tryz.prog Tryz.f6 (OpenSpec.ofChange Rows.commitOnlySpec) false w args)
   (Rows.commitOnlySpec.post enc Tryz.prog Tryz.f6 false true false false) := by
 refine zmp (C := Tryz.checked) os started 8 H enc (G := GL) (by kernel_rfl) own6 zsM (by kernel_rfl) Tryz.func6
  (ChangeSpec.witness_shaped (enc := enc) (C := Tryz.checked) (os := os) (X := fun w _ => laidMetH Tryz.prog Rows.commitOnlyRow.laid w) false (World.doorLaid Tryz.prog 400 os) #[.agg #[.slice none 0 0, .slice none 0 0, .slice none 0 0, .slice none 0 0, .int .i64 0, .int .i64 0, .int .i64 0, .int .i64 0, .int .i64 0, .int .i64 0, .int .i64 0], .agg #[.int .i64 0, .int .i64 0, .int .i64 0, .int .i64 0, .int .i64 0, .int .i64 0, .int .i64 0, .int .i64 0, .int .i64 0, .int .i64 0, .int .i64 0, .int .i64 0, .int .i64 0, .int .i64 0, .int .i64 0, .int .i64 0, .int .i64 0, .int .i64 0, .int .i64 0, .int .i64 0, .int .i64 0, .int .i64 0, .int .i64 0, .int .i64 0, .int .i64 0, .int .u32 0, .int .u32 0, .int .u32 0, .int .u32 0], .agg #[.int .i64 0, .slice none 0 0, .int .i64 0, .int .i64 0, .bool false, .int .i64 0, .int .i64 0, .bool false, .int .i64 0, .int .i64 0, .bool false, .int .i64 0, .int .i64 0, .bool false, .int .i64 0, .int .i64 0, .bool false, .int .i64 0, .int .i64 0, .bool false, .int .i64 0, .int .i64 0, .bool false, .int .i64 0, .int .i64 0, .bool false, .int .i64 0, .int .i64 0, .bool false, .int .i64 0, .int .i64 0, .bool false, .int .i64 0, .int .i64 0, .bool false, .int .i64 0, .int .i64 0, .bool false, .int .i64 0, .int .i64 0, .bool false, .int .i64 0, .int .i64 0, .bool false, .int .i64 0, .int .i64 0, .bool false, .int .i64 0, .int .i64 0, .bool false, .int .i64 0, .int .i64 0, .bool false, .int .i64 0, .int .i64 0, .bool false, .int .i64 0, .int .i64 0, .bool false, .int .i64 0, .int .i64 0, .bool false, .int .i64 0, .int .i64 0, .bool false, .int .i64 0, .int .i64 0, .bool false, .int .i64 0, .int .i64 0, .bool false, .int .i64 0, .int .i64 0, .bool false], .agg #[.int .i64 0, .int .i64 0, .slice none 0 0]] 8 rfl (World.shaped_of_RefB (by kernel_rfl) (by kernel_rfl)) (by kernel_rfl) (by kernel_rfl) (by kernel_rfl) (zsy os _))
  rfl rfl (by kernel_rfl) (by kernel_rfl) (fun ds h => ?_) (fun w h => zeP 8 (by kernel_rfl) (by kernel_rfl) h) (fun avs h => law6 h)
 have h : ds.length = 4 := h
 match ds, h with
 | [a, b, c, d], _ => exact ⟨rfl, rfl, rfl⟩
theorem commitOnly_said : Rows.CommitOnlySaid :=
 OpenClaim.holds_of_wide 6 Tryz.f6 rfl rfl rfl rfl rfl rfl rfl ⟨rfl, rfl, rfl, rfl, rfl⟩ rfl rfl rfl rfl rfl (by kernel_rfl) Tryz.func6 (by kernel_rfl)
  (of_decide_eq_true (by kernel_rfl)) (by unfold Func.isWrapper; first | (rw [if_pos (by decide +kernel)]; kernel_rfl) | (rw [if_neg (by decide +kernel)]; exact ⟨rfl, rfl⟩))
  (fun os started H enc _ => commitOnly_lifted os started H enc)
theorem commitOnly_holds : Rows.CommitOnlyCardSaid :=
 Claim7.holds_tied_plain_at .later [] [.data, .data, .data] true _ false
  commitOnly_said (fun _ h => by cases h) (by kernel_rfl) (fun _ h => by cases h) commitOnly_row_tie rfl ⟨rfl, rfl⟩ (by kernel_rfl) rfl
  (fun f fn hf hfn => by
   obtain rfl : f = 6 := Option.some.inj ((show Tryz.prog.funcNamed Rows.commitOnlyRow.func = some 6 by kernel_rfl).symm.trans hf) |>.symm
   obtain rfl : fn = Tryz.f6 := (Option.some.inj (Tryz.func6.symm.trans hfn)).symm
   exact ⟨by kernel_rfl, fun j t ht => by
    have hm : t ∈ Tryz.f6.params.toList := by simpa using Array.mem_of_getElem? ht
    have hall : (Tryz.f6.params.toList.all fun u => !Tryz.prog.wantsStandIn u) = true := by kernel_rfl
    exact (show Tryz.prog.wantsStandIn t = false by simpa using List.all_eq_true.1 hall t hm)⟩)
  (by kernel_rfl)
end Go.Proofs.YtbofccnennefnaaGreatDoor
