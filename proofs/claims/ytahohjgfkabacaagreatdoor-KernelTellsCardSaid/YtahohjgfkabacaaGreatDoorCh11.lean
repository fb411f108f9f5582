/- A layout of one point; what is too great; numbers compared; a new kernel wakes: the values. -/
import Derived.Test.YtahohjgfkabacaaGreatDoorCh10
import Derived.Test.YtahohjgfkabacaaGreatDoorCh7
import Derived.Test.YtahohjgfkabacaaGreatDoorCh1
set_option linter.unusedSimpArgs false
set_option linter.unusedVariables false
namespace Go.Lb.LK
open Go Go.Lb Go.Proofs Go.RowKit
@[simp] theorem prts_lay (l : Lay) : prts l.av 0 11 = l.cells := by rw [zfZ _ _ _ (by simp)]; simp
@[simp] theorem prts_img (l : Img) : prts l.av 0 29 = l.cells := by rw [zfZ _ _ _ (by simp)]; simp
theorem zj5 {x : AV} (h : iT.fits x.cells) (h2 : zgg false x) : ∃ n, x = I n ∧ -9223372036854775808 ≤ n ∧ n ≤ 9223372036854775807 := by
 obtain ⟨n, h1, hb⟩ := zhs.1 h
 have : x = I n := by
  cases x <;> simp_all [AV.cells, zgg]
 exact ⟨n, this, by simpa using hb⟩
theorem zbL {k : Kern} (h : zas k = true) : k.ok := by
 intro x hx
 have := zhG ((zga h).right x hx)
 omega
theorem zhO {l : Lay} {im : Img} {k : Kern} (hk : k.len) : (zc1 l im k).1.len := by
 by_cases h : zas k = true ∧ stale l im = false
 ·rw [zdO h.1 h.2]
  unfold Kern.len
  rw [(zje l im k).1]
  exact ⟨Nat.le_trans (List.length_filterMap_le _ _) hk.1, zkr hk⟩
 ·rw [zb6]
  ·exact hk
  ·cases h1 : zas k
   ·exact .inl rfl
   ·right
    cases h2 : stale l im
    ·exact absurd ⟨h1, h2⟩ h
    ·rfl
theorem znB {l : Lay} {im : Img} {k : Kern} {p pos : Int} (hk : k.len) : (keyK l im k p pos).1.len := by
 unfold keyK
 split
 ·exact hk
 ·exact hk
def zaS : Lay := ⟨[⟨2, noP, noP, noP, noP, 0, 0⟩], [⟨0, 0⟩], [⟨⟨0, 2⟩, []⟩], [], 1, 2, 1, 1, 1, 1, 1⟩
def im23 : Img := zmd zaS zk7 0 1 0 0
def p23 : Path := ⟨0, 0, [⟨0, 0, 2⟩]⟩
def k23 : Kern := (zcP zaS im23 zbA p23).1
def zgq : Kern := (zc1 zaS im23 k23).1
def zs0 : Kern := (zc1 zaS im23 zgq).1
def th23 : Img := zmd zaS im23 0 0 1 0
def zo6 : Kern := (zc1 zaS th23 zgq).1
def x23 : Kern := (keyK zaS im23 zbA 0 1).1
theorem zdT : im23.ok := ⟨⟨by decide, by decide⟩, ⟨by decide, by decide⟩, ⟨by decide, by decide⟩, ⟨by decide, by decide⟩⟩
theorem zrk : th23.ok := ⟨⟨by decide, by decide⟩, ⟨by decide, by decide⟩, ⟨by decide, by decide⟩, ⟨by decide, by decide⟩⟩
theorem w23a : (zcP zaS im23 zbA p23).2.2 = 0 := by decide +kernel
theorem w23b : norN zaS im23 zbA = 0 ∧ revN zaS im23 zbA = 0 ∧ norN zaS im23 k23 = 0 ∧ revN zaS im23 k23 = 1 := by decide +kernel
theorem w23c : (zc1 zaS im23 k23).2 = [] ∧ zgq.held.length = 1 ∧ zgq.run 0 = 1 := by decide +kernel
theorem w23d : (zc1 zaS im23 zgq).2 = [1] ∧ zs0.held.length = 0 := by decide +kernel
theorem w23e : zo6.held.length = 1 ∧ (zo6.held.map fun h => h.stage) = [2] ∧ zo6.want 0 = -1 := by decide +kernel
theorem w23f : (keyK zaS im23 zbA 0 1).2 = true ∧ x23.want 0 = 1 ∧ (keyK zaS im23 k23 0 0).2 = false := by decide +kernel
theorem w23g : zas zbA = true ∧ zas k23 = true ∧ zas zgq = true ∧ zas zmo = false := by decide +kernel
theorem zqg : zaS.ok := by
 intro s hs
 simp only [zaS, List.mem_cons, List.not_mem_nil, or_false] at hs
 rcases hs with rfl; decide
theorem zjr : zbA.len := ⟨by decide, fun h hh => by simp [zbA] at hh⟩
theorem zqA : zaS.ovOk := by
 intro e he
 simp only [zaS, List.mem_cons, List.not_mem_nil, or_false] at he
 subst he; decide
theorem can23 : CanOk zaS zbA p23 := ⟨zjr, zqg, zqA, by decide, by decide, by decide +kernel⟩
theorem zov {l : Lay} {im : Img} {k : Kern} {p : Path} (hk : k.len) (hk2 : k.held.length ≤ 1000000) (hp : p.steps.length ≤ 1048576) (ho : (over l p.exit).length ≤ 1048576) (hn : (zaB l p).length ≤ 1048576) : (zcP l im k p).1.len := by
 unfold zcP
 split
 ·have := (zcM (l := l) (im := im) (zaB l p) { k with held := k.held ++ [newR l k p], next := k.next + 1 }).1
  unfold Kern.len
  rw [this]
  refine ⟨by simp; omega, fun h hh => ?_⟩
  rcases List.mem_append.1 hh with hh | hh
  ·exact hk.2 h hh
  ·rw [List.mem_singleton] at hh
   subst hh
   exact ⟨hp, ho, hn⟩
 ·exact hk
theorem zit : k23.len := zov zjr (by decide) (by decide) (by decide +kernel) (by decide +kernel)
theorem zkP : zgq.len := zhO zit
theorem zpz : C f_lockbarlaw23_point [] zaS.av := by
 refine ctr [] run_lockbarlaw23_point rfl rfl (by simp [AV.pure]) ?_ rfl
 unfold rt_lockbarlaw23_point
 simp
 rfl
def zd9 (l : Lay) (k : Kern) : Bool := (k.held.take 11).any zdZ || (znc l || decide (10 < k.held.length))
theorem zhF (l : Lay) (k : Kern) : C f_lockbarlaw23_great [l.av, k.av] (.bool (zd9 l k)) := by
 refine ctr (l.cells ++ k.cells) run_lockbarlaw23_great rfl (by simp [zaf]) rfl ?_ rfl
 unfold rt_lockbarlaw23_great
 simp [zam, zaa]
 refine zac rfl (fun vs => ∃ i : Nat, i ≤ k.held.length ∧ i ≤ 11 ∧ vs = [I i] ∧ zar zdZ (k.held.take i)) (fun vs => match vs with | [.int _ j] => 11 - j.toNat | _ => 0) ⟨0, by omega, by omega, by simp, rfl⟩ ?_
 rintro vs - ⟨i, hi, hi2, rfl, hq⟩
 by_cases hlt : i < k.held.length ∧ i < 11
 ·obtain ⟨hl1, hl2⟩ := hlt
  have hw := zad (i := i) (by omega)
  have hl3 : (i : Int) ≤ 10 := by omega
  simp [hl1, hl3]
  refine call (zoe k.held[i]) (by simp [hl1]) (by simp) ?_
  cases hg : zdZ k.held[i]
  ·simp [hw]
   exact ⟨⟨i + 1, by omega, by omega, by omega, zao hl1 hq hg⟩, by omega⟩
  ·have : (k.held.take 11).any zdZ = true := List.any_eq_true.2 ⟨k.held[i], List.mem_take_iff_getElem.2 ⟨i, by omega, rfl⟩, hg⟩
   simp [zd9, this]
 ·have ht : k.held.take 11 = k.held.take i := by
   by_cases h11 : i = 11
   ·rw [h11]
   ·rw [List.take_of_length_le (by omega), List.take_of_length_le (by omega)]
  have hq : (k.held.take 11).any zdZ = false := by rw [ht]; exact hq
  by_cases h1 : i < k.held.length
  ·have h2 : ¬ (i : Int) ≤ 10 := by omega
   have h3 : 10 < k.held.length := by omega
   simp [h1, h2, zaa]
   refine call (zif l) (by simp [zaa]) (by simp) ?_
   simp [zd9, hq, h3]
   omega
  ·simp [h1, zaa]
   refine call (zif l) (by simp [zaa]) (by simp) ?_
   have e : decide ((10 : Int) < k.held.length) = decide (10 < k.held.length) := decide_eq_decide.2 (by omega)
   simp [zd9, hq, e]
theorem zqF (a b : List Int) (ha : a.length ≤ 1048576) : C f_lockbarlaw23_ints [ints a, ints b] (.bool (decide (a = b))) := by
 refine ctr [ints a, ints b] run_lockbarlaw23_ints rfl (by simp [AV.pureAll, AV.pure, zdN]) rfl ?_ rfl
 unfold rt_lockbarlaw23_ints
 simp
 refine ⟨fun hne he => hne (by rw [he]), fun he => ?_⟩
 have he : a.length = b.length := by omega
 refine zac rfl (fun vs => ∃ i : Nat, i ≤ a.length ∧ vs = [I i] ∧ a.take i = b.take i) (fun vs => match vs with | [.int _ j] => a.length - j.toNat | _ => 0) ⟨0, by omega, by simp, rfl⟩ ?_
 rintro vs - ⟨i, hi, rfl, hq⟩
 by_cases hlt : i < a.length
 ·have hw := zad (i := i) (by omega)
  have hlb : i < b.length := by omega
  by_cases hab : a[i] = b[i]
  ·simp [hlt, hlb, hab, hw]
   refine ⟨⟨i + 1, by omega, by omega, ?_⟩, by omega⟩
   rw [List.take_add_one, List.take_add_one, hq, List.getElem?_eq_getElem hlt, List.getElem?_eq_getElem hlb, hab]
  ·simp [hlt, hlb, hab]
   intro hc; subst hc; exact hab rfl
 ·rw [List.take_of_length_le (by omega), List.take_of_length_le (by omega)] at hq
  subst hq
  simp [hlt]
end Go.Lb.LK
namespace Go.Lb.LK
open Go Go.Lb Go.Proofs Go.RowKit
theorem y23a : C f_lockbarref19_Commit [zaS.av, im23.av, zbA.av, p23.av] (.tup [k23.av, I (zcP zaS im23 zbA p23).2.1, I 0]) := by
 have := zlQ zaS im23 zdT zbA (zbL w23g.1) p23 can23 ⟨by decide, by decide, by decide, by decide, fun e he => by simp only [zaS, List.mem_cons, List.not_mem_nil, or_false] at he; subst he; decide⟩
 rw [w23a] at this; exact this
theorem y23b : C f_kernel_Drives [zaS.av, im23.av, zbA.av] (.tup [W 0, W 0]) := by
 have := zck zaS im23 zdT zbA zjr
 rw [w23b.1, w23b.2.1] at this; exact this
theorem y23c : C f_kernel_Drives [zaS.av, im23.av, k23.av] (.tup [W 0, W 1]) := by
 have := zck zaS im23 zdT k23 zit
 rw [w23b.2.2.1, w23b.2.2.2] at this; exact this
theorem y23d : C f_kernel_Tick [zaS.av, im23.av, k23.av] (.tup [zgq.av, ints []]) := by
 have := zcl zaS im23 zdT k23 zit (zbL w23g.2.1)
 rw [w23c.1] at this; exact this
theorem y23e : C f_kernel_Tick [zaS.av, im23.av, zgq.av] (.tup [zs0.av, ints [1]]) := by
 have := zcl zaS im23 zdT zgq zkP (zbL w23g.2.2.1)
 rw [w23d.1] at this; exact this
theorem y23f : C f_kernel_Tick [zaS.av, th23.av, zgq.av] (.tup [zo6.av, ints (zc1 zaS th23 zgq).2]) := zcl zaS th23 zrk zgq zkP (zbL w23g.2.2.1)
theorem y23g : C f_kernel_Key [zaS.av, im23.av, zbA.av, I 0, I 1] (.tup [x23.av, .bool true]) := by
 have := zcG zaS im23 zdT zbA zjr (zbL w23g.1) 0 1 (by decide) (by decide)
 rw [w23f.1] at this; exact this
theorem y23h : C f_kernel_Key [zaS.av, im23.av, k23.av, I 0, I 0] (.tup [(keyK zaS im23 k23 0 0).1.av, .bool false]) := by
 have := zcG zaS im23 zdT k23 zit (zbL w23g.2.1) 0 0 (by decide) (by decide)
 rw [w23f.2.2] at this; exact this
theorem y23i : C f_kernel_Safe [zaS.av, im23.av, k23.av] (.bool true) := by
 have := zc3 zaS im23 zdT k23 zit (zbL w23g.2.1)
 rw [w23g.2.1] at this; exact this
theorem y23j : C f_kernel_Safe [zaS.av, im23.av, zmo.av] (.bool false) := by
 have := zc3 zaS im23 zdT zmo ⟨by decide, fun h hh => by simp [zmo] at hh⟩ (fun h hh => by simp [zmo] at hh)
 rw [w23g.2.2.2] at this; exact this
theorem zh0 (k : Kern) : k.cells[2]? = some (I (k.want 0)) := rfl
theorem zhE (k : Kern) : k.cells[3]? = some (I (k.run 0)) := rfl
theorem w23s : ∃ h, zo6.held = [h] ∧ h.stage = 2 := by
 obtain ⟨h1, h2, _⟩ := w23e
 obtain ⟨h, hh⟩ := List.length_eq_one_iff.1 h1
 rw [hh] at h2
 exact ⟨h, hh, by simpa using h2⟩
set_option maxHeartbeats 2000000 in
theorem zaQ : C f_lockbarlaw23_wakes [] (.bool true) := by
 refine ctr [] run_lockbarlaw23_wakes rfl rfl rfl ?_ rfl
 unfold rt_lockbarlaw23_wakes
 refine call zpz rfl (by simp) ?_
 simp [zae]
 refine call zqy rfl (by simp) ?_
 simp [zae]
 refine call (zk4 zaS zk7 0 1 0 0 (by omega) (by omega) (by omega) (by omega) (by omega) (by omega) (by omega) (by omega)) (by simp [zae]) (by simp) ?_
 simp [zae, show (zmd zaS zk7 0 1 0 0) = im23 from rfl]
 refine call zjJ rfl (by simp) ?_
 simp [zae]
 refine call y23a (by simp [zae, Path.cells, p23, Step.cells]) (by simp) ?_
 simp [zae]
 refine call zjJ rfl (by simp) ?_
 simp [zae]
 refine call y23b (by simp [zae]) (fun _ => rfl) ?_
 simp [zae]
 refine call y23c (by simp [zae]) (fun _ => rfl) ?_
 simp [zae]
 refine call y23d (by simp [zae]) (by simp) ?_
 simp [zae]
 refine call y23e (by simp [zae]) (by simp) ?_
 simp [zae]
 refine call (zk4 zaS im23 0 0 1 0 (by omega) (by omega) (by omega) (by omega) (by omega) (by omega) (by omega) (by omega)) (by simp [zae]) (by simp) ?_
 simp [zae, show (zmd zaS im23 0 0 1 0) = th23 from rfl]
 refine call y23f (by simp [zae]) (by simp) ?_
 simp [zae]
 refine call zjJ rfl (by simp) ?_
 simp [zae]
 refine call y23g (by simp [zae]) (by simp) ?_
 simp [zae]
 refine call y23h (by simp [zae]) (by simp) ?_
 obtain ⟨hs, s1, s2⟩ := w23s
 have f1 := w23c.2.1
 have f2 := w23c.2.2
 have f3 := w23d.2
 have f4 := w23e.2.2
 have f5 := w23f.2.1
 simp [zae, zaR, zh0, zhE, f1, f2, f3, f4, f5, s1, s2, zge]
 refine zak (avs := [zaS.av, im23.av, k23.av]) (.bool true) rfl (fun _ => ⟨by simp [zae], y23i⟩) (by simp) ?_
 simp [zae, zaR, zh0, zhE, f1, f2, f3, f4, f5, s1, s2, zge]
 refine zak (avs := [zaS.av, im23.av, zmo.av]) (.bool false) rfl (fun _ => ⟨by simp [zae]; rfl, y23j⟩) (by simp) ?_
 simp [zae, zaR, zh0, zhE, f1, f2, f3, f4, f5, s1, s2, zge]
end Go.Lb.LK
namespace Go.Lb.LK
open Go Go.Lb Go.Proofs
noncomputable section
@[simp] def qkt_0 : SE := .app (.eqb false) [tp 1 (.inp 121), tp 1 (.inp 122)]
@[simp] def qkt_1 : SE := pk (.inp 125) qkt_0 bF
@[simp] def qkt_2 : SE := bi .eql (tp 0 (.inp 123)) (tp 0 (.inp 124))
@[simp] def qkt_3 : SE := pk qkt_1 qkt_2 bF
@[simp] def qkt_4 : SE := bi .eql (tp 1 (.inp 123)) (tp 1 (.inp 124))
@[simp] def qkt_5 : SE := pk qkt_3 qkt_4 bF
@[simp] def qkt_6 : SE := .app (.eqb false) [.inp 126, .inp 127]
@[simp] def qkt_7 : SE := pk qkt_5 qkt_6 bF
def rt_lockbarlaw23_KernelTells : RT :=
 ck (.isAgg 11) [.agg (ips 0 11)] <|
 ck (.isAgg 29) [.agg (ips 11 29)] <|
 ck (.isAgg 74) [.agg (ips 40 74)] <|
.seg [.call 116 [] 8 [.agg (ips 0 11), .agg (ips 40 74)] false] <|
.cond (.inp 116)
 (.seg [.call 117 [] 9 [] false] <|
.ret (.inp 117))
 (.seg [.call 117 [] 10 [.agg (ips 0 11), .agg (ips 11 29), .agg (ips 40 74)] false] <|
 ck (.tproj 0) [.inp 117] <|
 ck (.tproj 1) [.inp 117] <|
 ck (.isAgg 74) [tp 0 (.inp 117)] <|
.seg [.call 118 [] 11 [.agg (ips 0 11), .agg (ips 11 29), .agg (ips 40 74)] false] <|
 ck (.tproj 0) [.inp 118] <|
 ck (.tproj 1) [.inp 118] <|
 ck (.isAgg 74) [tp 0 (.inp 118)] <|
.seg [.call 119 [] 12 [.agg (pts (tp 0 (.inp 117)) 0 74), .agg (pts (tp 0 (.inp 118)) 0 74)] false] <|
 ck (.un .not) [.inp 119] <|
.seg [.call 120 [(nt (.inp 119), false)] 13 [tp 1 (.inp 117), tp 1 (.inp 118)] false] <|
 ckg (nt (.inp 119)) false (.un .not) [.inp 120] <|
 ck .pick [nt (.inp 119), bT, nt (.inp 120)] <|
.cond (pk (nt (.inp 119)) bT (nt (.inp 120)))
 (.ret (bF))
 (.seg [.call 121 [] 14 [.agg (ips 0 11), .agg (ips 11 29), .agg (ips 40 74), .inp 114, .inp 115] false] <|
 ck (.tproj 0) [.inp 121] <|
 ck (.tproj 1) [.inp 121] <|
 ck (.isAgg 74) [tp 0 (.inp 121)] <|
.seg [.call 122 [] 15 [.agg (ips 0 11), .agg (ips 11 29), .agg (ips 40 74), .inp 114, .inp 115] false] <|
 ck (.tproj 0) [.inp 122] <|
 ck (.tproj 1) [.inp 122] <|
 ck (.isAgg 74) [tp 0 (.inp 122)] <|
.seg [.call 123 [] 16 [.agg (ips 0 11), .agg (ips 11 29), .agg (ips 40 74)] false] <|
 ck (.tproj 0) [.inp 123] <|
 ck (.tproj 1) [.inp 123] <|
.seg [.call 124 [] 17 [.agg (ips 0 11), .agg (ips 11 29), .agg (ips 40 74)] false] <|
 ck (.tproj 0) [.inp 124] <|
 ck (.tproj 1) [.inp 124] <|
.seg [.call 125 [] 12 [.agg (pts (tp 0 (.inp 121)) 0 74), .agg (pts (tp 0 (.inp 122)) 0 74)] false,
.chk [(.inp 125, true)] (.eqb false) [tp 1 (.inp 121), tp 1 (.inp 122)],
.chk [] .pick [.inp 125, qkt_0, bF],
.chk [(qkt_1, true)] (.bin .eql) [tp 0 (.inp 123), tp 0 (.inp 124)],
.chk [] .pick [qkt_1, qkt_2, bF],
.chk [(qkt_3, true)] (.bin .eql) [tp 1 (.inp 123), tp 1 (.inp 124)],
.chk [] .pick [qkt_3, qkt_4, bF],
.call 126 [(qkt_5, true)] 18 [.agg (ips 0 11), .agg (ips 11 29), .agg (ips 40 74)] false,
.call 127 [(qkt_5, true)] 19 [.agg (ips 0 11), .agg (ips 11 29), .agg (ips 40 74)] false,
.chk [(qkt_5, true)] (.eqb false) [.inp 126, .inp 127],
.chk [] .pick [qkt_5, qkt_6, bF],
.call 128 [(qkt_7, true)] 9 [] false,
.chk [] .pick [qkt_7, .inp 128, bF]] <|
.seg [.bind 129 (pk qkt_7 (.inp 128) bF),
.bind 130 (qkt_3),
.bind 131 (qkt_5),
.bind 132 (qkt_7)] <|
.ret (.inp 129)))
theorem run_lockbarlaw23_KernelTells : runF E 3 [.agg (ips 0 11), .agg (ips 11 29), .agg (ips 40 74), .inp 114, .inp 115] 116 = rt_lockbarlaw23_KernelTells := by kernel_rfl
end
end Go.Lb.LK
namespace Go.Lb.LK
open Go Go.Lb Go.Proofs Go.RowKit
theorem zmx {l : Lay} {k : Kern} (h : zd9 l k = false) : k.len ∧ k.held.length ≤ 10 := by
 simp only [zd9, Bool.or_eq_false_iff, decide_eq_false_iff_not] at h
 obtain ⟨h1, _, h2⟩ := h
 rw [List.take_of_length_le (by omega)] at h1
 refine ⟨⟨by omega, fun x hx => ?_⟩, by omega⟩
 have := List.any_eq_false.1 h1 x hx
 exact (zrr (by simpa using this)).1
theorem zng {a : Kern} (h : a.len) : C f_lockbarref18_Same [a.av, a.av] (.bool true) := by
 have := zpX a a h
 rw [zod] at this; exact this
theorem zqx (l : Lay) (im : Img) (k : Kern) (hk : k.len) : (zc1 l im k).2.length ≤ 1048576 := by
 by_cases h : zas k = true ∧ stale l im = false
 ·rw [zdO h.1 h.2]
  have := List.length_filter_le (za0 l im (zbX l im k)) k.held
  have := hk.1
  simp; omega
 ·rw [zb6]
  ·simp
  ·cases h1 : zas k
   ·exact .inl rfl
   ·right
    cases h2 : stale l im
    ·exact absurd ⟨h1, h2⟩ h
    ·rfl
theorem zj2 (l : Lay) (im : Img) (hi : im.ok) (k : Kern) (hko : k.ok) (p pos : Int) (hp1 : -9223372036854775808 ≤ pos) (hp2 : pos ≤ 9223372036854775807) : C f_lockbarlaw23_KernelTells [l.av, im.av, k.av, I p, I pos] (.bool true) := by
 refine ctr (l.cells ++ im.cells ++ k.cells ++ [I p, I pos]) run_lockbarlaw23_KernelTells rfl (by simp [zaf, AV.pureAll, AV.pure]) rfl ?_ rfl
 unfold rt_lockbarlaw23_KernelTells
 simp [zam, zaa]
 refine call (zhF l k) (by simp [zaa, zam]) (by simp) ?_
 cases hg : zd9 l k
 case true =>
  simp
  exact call zaQ rfl (by simp) (by simp)
 obtain ⟨hk, hk10⟩ := zmx hg
 simp
 refine call (zcl l im hi k hk hko) (by simp [zaa, zam]) (by simp) ?_
 simp [zae]
 refine call (zpo l im hi k hk hko) (by simp [zaa, zam]) (by simp) ?_
 simp [zae]
 refine call (zng (zhO (l := l) (im := im) hk)) (by simp [zae]) (by simp) ?_
 simp
 have hE := zqF (zc1 l im k).2 (zc1 l im k).2 (zqx l im k hk)
 rw [decide_eq_true rfl] at hE
 refine zak (avs := [ints (zc1 l im k).2, ints (zc1 l im k).2]) (.bool true) rfl (fun _ => ⟨by simp, hE⟩) (by simp) ?_
 simp
 refine call (zcG l im hi k hk hko p pos hp1 hp2) (by simp [zaa, zam]) (by simp) ?_
 simp [zae]
 refine call (zqK l im hi k hk hko p pos) (by simp [zaa, zam]) (by simp) ?_
 simp [zae]
 refine call (zck l im hi k hk) (by simp [zaa, zam]) (fun _ => rfl) ?_
 simp [zae]
 refine call (zmH l im hi k hk) (by simp [zaa, zam]) (fun _ => rfl) ?_
 simp [zae]
 refine call (zng (znB (l := l) (im := im) (p := p) (pos := pos) hk)) (by simp [zae]) (by simp) ?_
 simp
 refine zak (avs := [l.av, im.av, k.av]) (.bool (zas k)) rfl (fun _ => ⟨by simp [zaa, zam], zc3 l im hi k hk hko⟩) (by simp) ?_
 simp
 refine zak (avs := [l.av, im.av, k.av]) (.bool (zas k)) rfl (fun _ => ⟨by simp [zaa, zam], zoX l im hi k hk hko⟩) (by simp) ?_
 simp
 refine zak (avs := []) (.bool true) rfl (fun _ => ⟨rfl, zaQ⟩) (by simp) ?_
 simp
end Go.Lb.LK
