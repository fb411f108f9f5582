/- What functions come to, printed by a program, checked by the kernel. -/
import Derived.Test.YtbofccnennefnaaGreatDoorCh1
import Derived.Test.YtbofccnennefnaaGreatDoorCh10
import Derived.Test.YtbofccnennefnaaGreatDoorCh5
import Derived.Test.YtbofccnennefnaaGreatDoorCh6
import Derived.Test.YtbofccnennefnaaGreatDoorRows
import Derived.Test.YtbofccnennefnaaGreatDoorTie
import Derived.Test.YtbofccnennefnaaGreatDoorCards
import Derived.ProofKit
import Derived.LaidMore
import Derived.OpenShut
import Derived.Stop.Joined
import Derived.SevenTiedAt
set_option linter.unusedSimpArgs false
set_option linter.unusedVariables false
namespace Go.Lb.LK
open Go Go.Lb Go.Proofs
noncomputable section
@[simp] def qci_0 : SE := .agg [.inp 114, .inp 115, .inp 116]
@[simp] def qci_1 : SE := bi .neq (.inp 119) (zi 0)
@[simp] def qci_2 : SE := bi .neq (.inp 118) (.inp 119)
@[simp] def qci_3 : SE := pk qci_1 qci_2 bF
@[simp] def qci_4 : SE := bi .eql (.inp 119) (zi 0)
@[simp] def qci_5 : SE := pk qci_4 (nt (.inp 120)) bF
@[simp] def qci_6 : SE := bi .neq (.inp 118) (zi 110)
@[simp] def qci_7 : SE := pk qci_5 qci_6 bF
@[simp] def qci_8 : SE := .agg (pts (tp 0 (.inp 123)) 0 74)
@[simp] def qci_9 : SE := .agg [tp 1 (.inp 123), .inp 114, .inp 115, .inp 116, .inp 125, .inp 126, .int .u8 1, zi 0, bF, bF, bF, bF, bF, bF, bF, bF, bF, bF, bF, bF, bF, zi 0, bF]
@[simp] def qci_10 : SE := pk (tp 1 (.inp 124)) (tp 1 (.inp 127)) bF
@[simp] def qci_11 : SE := pk qci_10 (.inp 128) bF
@[simp] def qci_12 : SE := pk qci_11 (.inp 129) bF
def rt_lockbarlaw19_CommitIs : RT :=
 ck (.isAgg 11) [.agg (ips 0 11)] <|
 ck (.isAgg 29) [.agg (ips 11 29)] <|
 ck (.isAgg 74) [.agg (ips 40 74)] <|
 ck (.isAgg 3) [qci_0] <|
.seg [.call 117 [] 8 [.agg (ips 0 11), .agg (ips 40 74), qci_0] false] <|
.cond (.inp 117)
 (.seg [.call 118 [] 9 [] false] <|
.ret (.inp 118))
 (.seg [.call 118 [] 18 [.agg (ips 0 11), .agg (ips 11 29), .agg (ips 40 74), qci_0] false] <|
.seg [.call 119 [] 29 [.agg (ips 0 11), qci_0, .nils] false] <|
 ck (.bin .neq) [.inp 119, zi 0] <|
 ckg (qci_1) true (.bin .neq) [.inp 118, .inp 119] <|
 ck .pick [qci_1, qci_2, bF] <|
 ckg (qci_3) false (.bin .eql) [.inp 119, zi 0] <|
.seg [.call 120 [(qci_4, true), (qci_3, false)] 30 [.agg (ips 0 11), qci_0] false] <|
.seg [.chk [(qci_4, true), (qci_3, false)] (.un .not) [.inp 120]] <|
 ckg (qci_3) false .pick [qci_4, nt (.inp 120), bF] <|
.seg [.chk [(qci_5, true), (qci_3, false)] (.bin .neq) [.inp 118, zi 110]] <|
 ckg (qci_3) false .pick [qci_5, qci_6, bF] <|
 ck .pick [qci_3, bT, qci_7] <|
.seg [.bind 121 (qci_7),
.bind 122 (pk qci_3 bT qci_7)] <|
.cond (.inp 122)
 (.ret (bF))
 (.seg [.call 123 [] 10 [.agg (ips 0 11), .agg (ips 11 29), .agg (ips 40 74), qci_0] false] <|
 ck (.tproj 0) [.inp 123] <|
 ck (.tproj 1) [.inp 123] <|
 ck (.tproj 2) [.inp 123] <|
 ck (.isAgg 74) [tp 0 (.inp 123)] <|
 ck (.bin .neq) [tp 2 (.inp 123), .inp 118] <|
.cond (bi .neq (tp 2 (.inp 123)) (.inp 118))
 (.ret (bF))
 (ck (.bin .neq) [.inp 118, zi 0] <|
.cond (bi .neq (.inp 118) (zi 0))
 (.seg [.call 124 [] 9 [] false] <|
.ret (.inp 124))
 (.seg [.call 124 [] 12 [qci_8, tp 1 (.inp 123)] false] <|
 ck (.tproj 0) [.inp 124] <|
 ck (.tproj 1) [.inp 124] <|
 ck (.isAgg 23) [tp 0 (.inp 124)] <|
.seg [.call 125 [] 31 [.agg (ips 0 11), .inp 115] false,
.call 126 [] 32 [.agg (ips 0 11), qci_0] false,
.chk [] .isOne [tp 1 (.inp 123)],
.chk [] (.isAgg 3) [qci_0],
.chk [] .isOne [.inp 125],
.chk [] .isOne [.inp 126],
.chk [] (.isAgg 23) [qci_9]] <|
.seg [.call 127 [] 16 [qci_8, .inp 114] false] <|
 ck (.tproj 0) [.inp 127] <|
 ck (.tproj 1) [.inp 127] <|
 ck (.isAgg 23) [tp 0 (.inp 127)] <|
 ck .pick [tp 1 (.inp 124), tp 1 (.inp 127), bF] <|
.seg [.call 128 [(qci_10, true)] 15 [.agg (pts (tp 0 (.inp 124)) 0 23), qci_9] false] <|
 ck .pick [qci_10, .inp 128, bF] <|
.seg [.call 129 [(qci_11, true)] 15 [.agg (pts (tp 0 (.inp 127)) 0 23), qci_9] false] <|
 ck .pick [qci_11, .inp 129, bF] <|
.seg [.call 130 [(qci_12, true)] 9 [] false] <|
 ck .pick [qci_12, .inp 130, bF] <|
.seg [.bind 131 (pk qci_12 (.inp 130) bF),
.bind 132 (qci_12)] <|
.ret (.inp 131)))))
theorem run_lockbarlaw19_CommitIs : runF E 5 [.agg (ips 0 11), .agg (ips 11 29), .agg (ips 40 74), .agg [.inp 114, .inp 115, .inp 116]] 117 = rt_lockbarlaw19_CommitIs := by kernel_rfl
end
end Go.Lb.LK
namespace Go.Lb.LK
open Go Go.Lb Go.Proofs Go.RowKit
theorem zsJ (l : Lay) (im : Img) (k : Kern) (p : Path) : (zaJ l im k p).2.2 = zcv l im k p := by
 by_cases h : zcv l im k p = 0
 ·rw [zrP h, h]
 ·rw [zrR h]
theorem zsm {l : Lay} {im : Img} {k : Kern} {p : Path} (h : ¬ zds l p = 0) : zcv l im k p = zds l p := by simp [zcv, h]
theorem zsn {l : Lay} {im : Img} {k : Kern} {p : Path} (h : zds l p = 0) (h2 : zcq (zak l p) = true) : zcv l im k p = 110 := by simp [zcv, h, h2]
theorem zsQ (hs : List Hd) (h : Hd) : ofH (hs ++ [h]) h.path.sig = (h, true) := by
 have hl : hs.length < (hs ++ [h]).length := by simp
 have e : (hs ++ [h]).length = hs.length + 1 := by simp
 have hn : ¬ ((hs.length : Nat) : Int) < 0 := by omega
 unfold ofH
 rw [e, ziE hl]
 simp [zc6, hn]
theorem zsI {l : Lay} {im : Img} {k : Kern} {p : Path} (h : Small19 l k p) (h0 : zcv l im k p = 0) : (comK l im k p).len := by
 have := zkq (im := im) h
 rw [zrP h0] at this; exact this
theorem zsN {l : Lay} {k : Kern} {p : Path} (h : Small19 l k p) : (newR l k p).len := ⟨by have := h.can.pl; simp only [newR]; omega, by have := h.can.ol; simp only [newR]; omega, by have := h.need; simp only [newR]; omega⟩
theorem likq (l : Lay) (im : Img) (k : Kern) (p : Path) : AV.pureAll (l.cells ++ im.cells ++ k.cells ++ p.cells) = true := by simp [zac]
set_option maxHeartbeats 2000000 in
theorem zsk (l : Lay) (hl : l.ok) (im : Img) (hi : im.ok) (k : Kern) (hko : k.ok) (p : Path) : C f_lockbarlaw19_CommitIs [l.av, im.av, k.av, p.av] (.bool true) := by
 refine ctr (l.cells ++ im.cells ++ k.cells ++ p.cells) run_lockbarlaw19_CommitIs rfl (likq l im k p) rfl ?_ rfl
 unfold rt_lockbarlaw19_CommitIs
 simp [zaC, zad, Path.cells]
 refine call (zj9 l k p) (by simp [zad, zaC, Path.cells]) (by simp) ?_
 cases hg : zeg l k p
 case true =>
  simp
  exact call zcU rfl (by simp) (by simp)
 have hS := zoC hl hg
 have hk := hS.can.kl
 simp
 refine call (zcJ l im hi k hko p hS.can hS.lens) (by simp [zad, zaC, Path.cells]) (by simp) ?_
 simp
 refine call (zlt l hS.lens p) (by simp [zad, Path.cells]) (by simp) ?_
 simp
 refine zaj (avs := [l.av, p.av]) (.bool (!zcq (zak l p))) rfl (fun _ => ⟨by simp [zad, Path.cells], zmO l hS.can.ov hS.can.fl p hS.can.pl hS.can.ol (by have := hS.need; omega)⟩) (by simp) ?_
 simp
 refine ⟨⟨zsm, zsn⟩, fun _ _ => ?_⟩
 refine call (zbt l im hi k hko p hS.can hS.lens) (by simp [zad, zaC, Path.cells]) (by simp) ?_
 simp [zae, zsJ]
 refine ⟨fun h0 => ?_, fun h0 => ?_⟩
 ·exact call zcU rfl (by simp) (by simp)
 rw [zrP h0]
 have hcl := zsI (im := im) hS h0
 have hh := (zrQ l im k p).1
 have hfi := zsr h0
 have hof : ofH (comK l im k p).held p.sig = (newR l k p, true) := by rw [hh]; exact zsQ k.held (newR l k p)
 have hnl := zsN hS
 simp [zae]
 refine call (zdH (comK l im k p) hcl k.next) (by simp [zae]) (by simp) ?_
 rw [hfi]
 simp [zae]
 refine call (zfX l hS.can.ov p.exit) (by simp [zad]) (by simp) ?_
 refine call (zjb l hS.can.ov hS.can.fl p hS.can.pl hS.can.ol) (by simp [zad, Path.cells]) (by simp) ?_
 simp [zae]
 refine call (zdI (comK l im k p) hcl p.sig) (by simp [zae]) (by simp) ?_
 rw [hof]
 simp [zae]
 refine zaj (avs := [(newR l k p).av, (newR l k p).av]) (.bool true) rfl (fun _ => ⟨by simp [zae]; rfl, zdl hnl⟩) (by simp) ?_
 simp
 refine zaj (avs := [(newR l k p).av, (newR l k p).av]) (.bool true) rfl (fun _ => ⟨by simp [zae]; rfl, zdl hnl⟩) (by simp) ?_
 simp
 refine zaj (avs := []) (.bool true) rfl (fun _ => ⟨rfl, zcU⟩) (by simp) ?_
 simp
end Go.Lb.LK
namespace Go.Lb.LK
open Go Go.Lb Go.Proofs Go.RowKit
theorem args5 : zpU Tryz.prog 8 Tryz.f5.params.toList = [(true, layT), (true, imgT), (true, zoj), (true, znc)] := by kernel_rfl
theorem law5 {avs : List AV} (h : zie Tryz.prog 8 Tryz.f5.params.toList avs) : C 5 avs (.bool true) := by
 have h := zeT _ _ h
 rw [args5] at h
 obtain ⟨x0, q, rfl, h0a, h0b, x1, q, rfl, h1a, h1b, x2, q, rfl, h2a, h2b, x3, q, rfl, h3a, h3b, rfl⟩ := h
 obtain ⟨l, rfl, hl⟩ := zqg h0a h0b
 obtain ⟨im, rfl, him⟩ := zqd h1a h1b
 obtain ⟨k, rfl, hk⟩ := zmn h2a h2b
 obtain ⟨p, rfl⟩ := zpp h3a h3b
 exact zsk l hl im him k hk p
end Go.Lb.LK
namespace Go.Proofs.YtbofccnennefnaaGreatDoor
open Go Go.ChangeShapes Go.WideShapes Go.ChangeAt Go.RowKit Go.Lb Go.Lb.LK
theorem own5 : ownKnob Tryz.prog.godebug = none := by kernel_rfl
theorem zsL : laidOutB Tryz.prog = true := by kernel_rfl
theorem zsx (os : Os) (args : Array Value) : laidMetH Tryz.prog Rows.commitIsRow.laid ((World.doorLaid Tryz.prog 400 os).forCall (fun _ _ => 0) ⟨#[], args, []⟩).memory :=
 laidMetH_of_parts3 (fuel := 8) (laidMet_of_run' 8 (by kernel_rfl) (by kernel_rfl)) (by kernel_rfl) (by kernel_rfl)
set_option maxRecDepth 100000 in
theorem commitIs_lifted (os : Os) (started : os.Started) (H : Type) (enc : TypeId × Value → H) :
  ReturnsInHanded {} Tryz.checked os 5 .any (fun w args => (Rows.commitIsSpec.pre enc Tryz.prog Tryz.f5 [] false w args ∧ laidMetH Tryz.prog Rows.commitIsRow.laid w) ∧ sizedMet enc Tryz.prog Tryz.f5 (OpenSpec.ofChange Rows.commitIsSpec) false w args)
   (Rows.commitIsSpec.post enc Tryz.prog Tryz.f5 false true false false) := by
 refine zmp (C := Tryz.checked) os started 8 H enc (G := GL) (by kernel_rfl) own5 zsL (by kernel_rfl) Tryz.func5
  (ChangeSpec.witness_shaped (enc := enc) (C := Tryz.checked) (os := os) (X := fun w _ => laidMetH Tryz.prog Rows.commitIsRow.laid w) false (World.doorLaid Tryz.prog 400 os) #[.agg #[.slice none 0 0, .slice none 0 0, .slice none 0 0, .slice none 0 0, .int .i64 0, .int .i64 0, .int .i64 0, .int .i64 0, .int .i64 0, .int .i64 0, .int .i64 0], .agg #[.int .i64 0, .int .i64 0, .int .i64 0, .int .i64 0, .int .i64 0, .int .i64 0, .int .i64 0, .int .i64 0, .int .i64 0, .int .i64 0, .int .i64 0, .int .i64 0, .int .i64 0, .int .i64 0, .int .i64 0, .int .i64 0, .int .i64 0, .int .i64 0, .int .i64 0, .int .i64 0, .int .i64 0, .int .i64 0, .int .i64 0, .int .i64 0, .int .i64 0, .int .u32 0, .int .u32 0, .int .u32 0, .int .u32 0], .agg #[.int .i64 0, .slice none 0 0, .int .i64 0, .int .i64 0, .bool false, .int .i64 0, .int .i64 0, .bool false, .int .i64 0, .int .i64 0, .bool false, .int .i64 0, .int .i64 0, .bool false, .int .i64 0, .int .i64 0, .bool false, .int .i64 0, .int .i64 0, .bool false, .int .i64 0, .int .i64 0, .bool false, .int .i64 0, .int .i64 0, .bool false, .int .i64 0, .int .i64 0, .bool false, .int .i64 0, .int .i64 0, .bool false, .int .i64 0, .int .i64 0, .bool false, .int .i64 0, .int .i64 0, .bool false, .int .i64 0, .int .i64 0, .bool false, .int .i64 0, .int .i64 0, .bool false, .int .i64 0, .int .i64 0, .bool false, .int .i64 0, .int .i64 0, .bool false, .int .i64 0, .int .i64 0, .bool false, .int .i64 0, .int .i64 0, .bool false, .int .i64 0, .int .i64 0, .bool false, .int .i64 0, .int .i64 0, .bool false, .int .i64 0, .int .i64 0, .bool false, .int .i64 0, .int .i64 0, .bool false, .int .i64 0, .int .i64 0, .bool false, .int .i64 0, .int .i64 0, .bool false], .agg #[.int .i64 0, .int .i64 0, .slice none 0 0]] 8 rfl (World.shaped_of_RefB (by kernel_rfl) (by kernel_rfl)) (by kernel_rfl) (by kernel_rfl) (by kernel_rfl) (zsx os _))
  rfl rfl (by kernel_rfl) (by kernel_rfl) (fun ds h => ?_) (fun w h => zeP 8 (by kernel_rfl) (by kernel_rfl) h) (fun avs h => law5 h)
 have h : ds.length = 4 := h
 match ds, h with
 | [a, b, c, d], _ => exact ⟨rfl, rfl, rfl⟩
theorem commitIs_said : Rows.CommitIsSaid :=
 OpenClaim.holds_of_wide 5 Tryz.f5 rfl rfl rfl rfl rfl rfl rfl ⟨rfl, rfl, rfl, rfl, rfl⟩ rfl rfl rfl rfl rfl (by kernel_rfl) Tryz.func5 (by kernel_rfl)
  (of_decide_eq_true (by kernel_rfl)) (by unfold Func.isWrapper; first | (rw [if_pos (by decide +kernel)]; kernel_rfl) | (rw [if_neg (by decide +kernel)]; exact ⟨rfl, rfl⟩))
  (fun os started H enc _ => commitIs_lifted os started H enc)
theorem commitIs_holds : Rows.CommitIsCardSaid :=
 Claim7.holds_tied_plain_at .later [] [.data, .data, .data] true _ false
  commitIs_said (fun _ h => by cases h) (by kernel_rfl) (fun _ h => by cases h) commitIs_row_tie rfl ⟨rfl, rfl⟩ (by kernel_rfl) rfl
  (fun f fn hf hfn => by
   obtain rfl : f = 5 := Option.some.inj ((show Tryz.prog.funcNamed Rows.commitIsRow.func = some 5 by kernel_rfl).symm.trans hf) |>.symm
   obtain rfl : fn = Tryz.f5 := (Option.some.inj (Tryz.func5.symm.trans hfn)).symm
   exact ⟨by kernel_rfl, fun j t ht => by
    have hm : t ∈ Tryz.f5.params.toList := by simpa using Array.mem_of_getElem? ht
    have hall : (Tryz.f5.params.toList.all fun u => !Tryz.prog.wantsStandIn u) = true := by kernel_rfl
    exact (show Tryz.prog.wantsStandIn t = false by simpa using List.all_eq_true.1 hall t hm)⟩)
  (by kernel_rfl)
end Go.Proofs.YtbofccnennefnaaGreatDoor
