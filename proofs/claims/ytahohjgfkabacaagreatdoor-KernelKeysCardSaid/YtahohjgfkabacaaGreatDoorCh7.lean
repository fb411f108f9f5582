/- Whether a path can be had, as the document has it: the walk. -/
import Derived.Test.YtahohjgfkabacaaGreatDoorCh6
import Derived.Test.YtahohjgfkabacaaGreatDoorFw11
import Derived.Test.YtahohjgfkabacaaGreatDoorCh5
set_option linter.unusedSimpArgs false
set_option linter.unusedVariables false
namespace Go.Lb.LK
open Go Go.Lb Go.Proofs Go.RowKit
set_option maxHeartbeats 2000000 in
theorem zqC (l : Lay) (im : Img) (hi : im.ok) (k : Kern) (p : Path) (hc : CanOk l k p) : C f_lockbarref18_Can [l.av, im.av, k.av, p.av] (I (canN l im k p)) := by
 have hk1 := hc.kl.1
 have hp1 := hc.pl
 have ho1 := hc.ol
 have hn1 := zgx hc
 refine ctr (l.cells ++ im.cells ++ k.cells ++ p.cells) run_lockbarref18_Can rfl (likp l im k p) rfl ?_ rfl
 unfold rt_lockbarref18_Can
 simp [Lay.cells, Img.cells, Kern.cells, Path.cells]
 refine zac rfl (fun vs => ∃ i : Nat, i ≤ k.held.length ∧ vs = [I i] ∧ zar (zd2 p) (k.held.take i)) (fun vs => match vs with | [.int _ j] => k.held.length - j.toNat | _ => 0) ⟨0, by omega, by simp, rfl⟩ ?_
 rintro vs - ⟨i, hii, rfl, hq1⟩
 simp
 refine ⟨fun hlt => ?_, fun hge => ?_⟩
 ·have hw := zad (i := i) (by omega)
  cases hs : zd2 p k.held[i]
  ·have hs2 : k.held[i].path.sig = p.sig → k.held[i].stage = 3 := by
    intro h; simpa [zd2, h] using hs
   simp [hlt, Hd.cells, hw]
   left
   exact ⟨hs2, ⟨i + 1, by omega, by omega, zao hlt hq1 hs⟩, by omega⟩
  ·have hs2 : k.held[i].path.sig = p.sig ∧ ¬ k.held[i].stage = 3 := by simpa [zd2] using hs
   simp [hlt, Hd.cells, hw, hs2.1, hs2.2, zrM (l := l) (im := im) (zcc hlt hs)]
 ·have ht : k.held.take i = k.held := List.take_of_length_le (by omega)
  rw [ht] at hq1
  have hst : ∀ x : Step, x.cells.length = 3 ∧ AV.ones x.cells = true := fun x => by simp [Step.cells]
  refine ⟨fun x _ => hst x, by omega, ?_⟩
  refine call (zgb l hc.ov p.exit) (by simp [Lay.cells]) (by simp) ?_
  simp
  refine ⟨fun x _ => hst x, by omega, ?_⟩
  generalize hall : p.steps ++ over l p.exit = all
  have hmap : List.map Step.av p.steps ++ List.map Step.av (over l p.exit) = all.map Step.av := by rw [← hall, List.map_append]
  have hlen : all.length = p.steps.length + (over l p.exit).length := by rw [← hall]; simp
  refine zac rfl (fun vs => ∃ i : Nat, i ≤ all.length ∧ vs = [I i] ∧ zar (fun s : Step => !zcF l im k s.s) (all.take i)) (fun vs => match vs with | [.int _ j] => all.length - j.toNat | _ => 0) ⟨0, by omega, by simp, rfl⟩ ?_
  rintro vs - ⟨j, hj, rfl, hq2⟩
  simp [hmap, ← hlen]
  refine ⟨fun hlt2 => ?_, fun hge2 => ?_⟩
  ·have hw := zad (i := j) (by omega)
   simp [hmap, hlt2, Step.cells]
   repeat refine And.intro (by omega) ?_
   refine call (zhM l im hi k hc.kl all[j].s) (by simp [Lay.cells, Img.cells, Kern.cells, hmap, hlt2, Step.cells]) (by simp) ?_
   cases hf : zcF l im k all[j].s
   ·have : canN l im k p = 190 := zqq (s := all[j]) (by rw [hall]; exact List.getElem_mem hlt2) hf
    simp [this]
   ·simp [hw]
    exact ⟨⟨j + 1, by omega, by omega, zao hlt2 hq2 (by simp [hf])⟩, by omega⟩
  ·have ht2 : all.take j = all := List.take_of_length_le (by omega)
   rw [ht2] at hq2
   have hq23 : zar (fun s : Step => !zcF l im k s.s) p.steps ∧ zar (fun s : Step => !zcF l im k s.s) (over l p.exit) := by
    unfold zar at hq2 ⊢
    rw [← hall, List.any_append, Bool.or_eq_false_iff] at hq2
    exact hq2
   refine call (zj9 l hc.ov hc.fl p hc.pl hc.ol) (by simp [Lay.cells, Path.cells]) (by simp) ?_
   simp
   refine zac rfl (fun vs => ∃ i : Nat, i ≤ (zaB l p).length ∧ vs = [I i] ∧ zar (fun n => !zcT l im k n) ((zaB l p).take i)) (fun vs => match vs with | [.int _ j] => (zaB l p).length - j.toNat | _ => 0) ⟨0, by omega, by simp, rfl⟩ ?_
   rintro vs - ⟨q, hqq, rfl, hq4⟩
   simp
   refine ⟨fun hlt4 => ?_, fun hge4 => ?_⟩
   ·have hw := zad (i := q) (by omega)
    simp [hlt4, Need.cells]
    refine call (zoh l im hi k hc.kl (zaB l p)[q]) (by simp [Lay.cells, Img.cells, Kern.cells, hlt4, Need.cells]) (by simp) ?_
    cases hf : zcT l im k (zaB l p)[q]
    ·simp [znx (List.getElem_mem hlt4) hf]
    ·simp [hw]
     exact ⟨⟨q + 1, by omega, by omega, zao hlt4 hq4 (by simp [hf])⟩, by omega⟩
   ·have ht4 : (zaB l p).take q = zaB l p := List.take_of_length_le (by omega)
    rw [ht4] at hq4
    rw [zqH hq1 hq23.1 hq23.2 hq4]
    by_cases h6 : 6 ≤ k.held.length
    ·have h6' : (6 : Int) ≤ k.held.length := by omega
     simp [h6, h6']
    ·have h6' : ¬ (6 : Int) ≤ k.held.length := by omega
     simp [h6, h6']
end Go.Lb.LK
namespace Go.Lb.LK
open Go Go.Lb Go.Proofs Go.RowKit
def znW : Kern := ⟨1, [], fun _ => -1, fun _ => 0, fun _ => false⟩
def znZ : Port := ⟨-1, 0⟩
def zk1 : Lay := ⟨[⟨1, znZ, ⟨1, 0⟩, znZ, znZ, 0, 0⟩, ⟨1, ⟨0, 1⟩, znZ, znZ, znZ, 0, 0⟩], [⟨0, 0⟩], [⟨⟨0, 1⟩, [⟨1, 0, 1⟩]⟩], [], 1, 1, 9, 1, 1, 1, 1⟩
def im18 : Img := zmd zk1 zk7 0 0 0 0
end Go.Lb.LK
namespace Go.Lb.LK
open Go Go.Lb Go.Proofs Go.RowKit
end Go.Lb.LK
namespace Go.Lb.LK
open Go Go.Lb Go.Proofs Go.RowKit
def zhi (a b : Kern) : Bool := AV.eqs (zau a.want a.run a.fail) (zau b.want b.run b.fail)
def zfs (a b : List Hd) : Bool := (List.zipWith zgv a b).all id
def zmA (a b : Kern) : Bool := decide (a.held.length = b.held.length) && (zfs a.held b.held && (decide (a.next = b.next) && zhi a b))
theorem zjG (a : Kern) : zhi a a = true := by
 unfold zhi zau
 simp [AV.eqs, AV.eq1]
theorem zlA : ∀ l : List Hd, zfs l l = true
 | [] => rfl
 | x :: l => by simp [zfs, zoo]
theorem zod (a : Kern) : zmA a a = true := by simp [zmA, zjG, zlA]
theorem kk (a b : Kern) : AV.pureAll (a.cells ++ b.cells) = true := by simp [zaf]
theorem zs3 {a b : List Hd} {i : Nat} (h1 : i < a.length) (h2 : i < b.length) : (List.zipWith zgv a b)[i]'(by simp; omega) = zgv a[i] b[i] := by simp
theorem zlt (a b : Kern) : AV.eqs (zau a.want a.run a.fail) (zau b.want b.run b.fail) = zhi a b := rfl
set_option maxHeartbeats 1000000 in
theorem zpX (a b : Kern) (ha : a.len) : C f_lockbarref18_Same [a.av, b.av] (.bool (zmA a b)) := by
 have h1 := ha.1
 have hm := zlt a b
 simp only [zau] at hm
 refine ctr (a.cells ++ b.cells) run_lockbarref18_Same rfl (kk a b) rfl ?_ rfl
 unfold rt_lockbarref18_Same
 simp [Kern.cells, -AV.eqs]
 by_cases hl : a.held.length = b.held.length
 ·simp [hl, -AV.eqs]
  refine zac rfl (fun vs => ∃ i : Nat, i ≤ a.held.length ∧ vs = [I i] ∧ zar (fun x => !x) ((List.zipWith zgv a.held b.held).take i)) (fun vs => match vs with | [.int _ j] => a.held.length - j.toNat | _ => 0) ⟨0, by simp, by simp, rfl⟩ ?_
  rintro vs - ⟨i, hi, rfl, hq⟩
  simp [-AV.eqs]
  refine ⟨fun hlt => ?_, fun hge => ?_⟩
  ·have hlt2 : i < b.held.length := by omega
   have hw := zad (i := i) (by omega)
   have hz := zs3 hlt hlt2
   simp [hlt, hlt2, Hd.cells, -AV.eqs]
   refine call (zpn a.held[i] b.held[i] (a.at ha hlt)) (by simp [hlt, hlt2, Hd.cells]) (by simp) ?_
   cases hs : zgv a.held[i] b.held[i]
   ·have : zfs a.held b.held = false := by
     unfold zfs
     rw [List.all_eq_false]
     exact ⟨(List.zipWith zgv a.held b.held)[i]'(by simp; omega), List.getElem_mem _, by rw [hz, hs]; simp⟩
    simp [zmA, this, -AV.eqs]
   ·simp [hw, -AV.eqs]
    exact ⟨⟨i + 1, by omega, by omega, zao (i := i) (l := List.zipWith zgv a.held b.held) (by simp; omega) hq (by rw [hz, hs]; rfl)⟩, by omega⟩
  ·have ht : (List.zipWith zgv a.held b.held).take i = List.zipWith zgv a.held b.held := List.take_of_length_le (by simp; omega)
   rw [ht] at hq
   have hall : zfs a.held b.held = true := by
    unfold zfs
    unfold zar at hq
    rw [List.all_eq_true]
    intro x hx
    have := List.any_eq_false.1 hq x hx
    simpa using this
   simp [hm, zmA, hl, hall, -AV.eqs]
 ·have hl2 : ¬ (a.held.length : Int) = b.held.length := by omega
  simp [hl, zmA, -AV.eqs]
  exact fun h => absurd h hl2
end Go.Lb.LK
namespace Go.Lb.LK
open Go Go.Lb Go.Proofs Go.RowKit
def p18 : Path := ⟨0, 0, [⟨0, 0, 1⟩]⟩
def q18 : Path := ⟨5, 0, [⟨1, 0, 0⟩]⟩
def hd18 (st : Int) : Hd := ⟨3, p18, [⟨1, 0, 1⟩], [⟨7, 1, 0⟩], st, 0, fun _ => false, false, 0, false⟩
def k18 (st : Int) : Kern := ⟨4, [hd18 st], fun _ => -1, fun _ => 0, fun _ => false⟩
def zmo : Kern := ⟨0, [], fun _ => 0, fun _ => 0, fun _ => false⟩
theorem f1 : canN zk1 im18 znW p18 = 0 := by decide +kernel
theorem f2 : canN zk1 zk7 znW p18 = 190 := by decide +kernel
theorem f3 : zcF zk1 im18 znW 1 = true ∧ zcF zk1 zk7 znW 1 = false := by decide +kernel
theorem f4 : zbV (k18 1) 1 = some 3 ∧ zbV (k18 1) 2 = none := by decide +kernel
theorem f5 : zbB (k18 1) 7 = some 1 := by decide +kernel
theorem f6 : zaA (k18 1) 7 = false ∧ zaA (k18 2) 7 = true := by decide +kernel
theorem f7 : canN zk1 im18 (k18 2) q18 = 190 := by decide +kernel
theorem f8 : zcT zk1 im18 (k18 2) ⟨7, 0, 0⟩ = false ∧ zcT zk1 im18 (k18 2) ⟨-1, 0, 0⟩ = false := by decide +kernel
theorem f9 : zas (k18 2) = true ∧ zas znW = true ∧ zas zmo = false := by decide +kernel
theorem f10 : zmA (k18 2) znW = false := by decide +kernel
end Go.Lb.LK
namespace Go.Lb.LK
open Go Go.Lb Go.Proofs Go.RowKit
end Go.Lb.LK
namespace Go.Lb.LK
open Go Go.Lb Go.Proofs Go.RowKit
end Go.Lb.LK
namespace Go.Lb.LK
open Go Go.Lb Go.Proofs Go.RowKit
theorem zdG {k : Kern} (h : zas k = true) {i : Nat} (hi : i < k.held.length) : zay k.held[i] = true ∧ k.held[i].id < k.next ∧ zda k i < k.held[i].id ∧ ∀ j, j < i → ∀ hj : j < k.held.length, zbm k.held[i] k.held[j] = true := by
 simp only [zas, Bool.and_eq_true] at h
 have h1 := List.all_eq_true.1 h.2.1 i (List.mem_range.2 hi)
 rw [zkm hi] at h1
 simp only [Bool.and_eq_true, decide_eq_true_eq] at h1
 refine ⟨h1.1, h1.2.1, h1.2.2.1, fun j hj hj2 => ?_⟩
 exact List.all_eq_true.1 h1.2.2.2 _ (List.mem_take_iff_getElem.2 ⟨j, by omega, rfl⟩)
end Go.Lb.LK
namespace Go.Lb.LK
open Go Go.Lb Go.Proofs Go.RowKit
structure GoodL (nx : Int) (hs : List Hd) : Prop where
 right : ∀ h ∈ hs, zay h = true
 lt : ∀ h ∈ hs, h.id < nx
 pw : hs.Pairwise fun a b => a.id < b.id ∧ zbm b a = true
theorem zri {k : Kern} (hr : zas k = true) : ∀ j, ∀ hj : j < k.held.length, ∀ i, ∀ hi : i < j, k.held[i].id < k.held[j].id := by
 intro j
 induction j with
 | zero => intro _ i hi; omega
 | succ j ih =>
  intro hj i hi
  have h1 := (zdG hr hj).2.2.1
  rw [zfq (by omega)] at h1
  by_cases hij : i = j
  ·subst hij; exact h1
  ·have := ih (by omega) i (by omega)
   omega
theorem zga {k : Kern} (hr : zas k = true) : GoodL k.next k.held := by
 refine ⟨fun h hh => ?_, fun h hh => ?_, ?_⟩
 ·obtain ⟨i, hi, rfl⟩ := List.mem_iff_getElem.1 hh
  exact (zdG hr hi).1
 ·obtain ⟨i, hi, rfl⟩ := List.mem_iff_getElem.1 hh
  exact (zdG hr hi).2.1
 ·rw [List.pairwise_iff_getElem]
  exact fun i j hi hj hij => ⟨zri hr j hj i hij, (zdG hr hj).2.2.2 i hij hi⟩
theorem znv {k : Kern} (h1 : k.held.length ≤ 6) (h2 : 1 ≤ k.next) (h3 : k.next ≤ 1073741824) (hg : GoodL k.next k.held) (hm : zbU k = true) : zas k = true := by
 have hp := List.pairwise_iff_getElem.1 hg.pw
 have : (List.range k.held.length).all (okAt k) = true := by
  refine za6 fun i hi => ?_
  rw [zkm hi]
  have hr := hg.right _ (List.getElem_mem hi)
  have hl := hg.lt _ (List.getElem_mem hi)
  have hid : zda k i < k.held[i].id := by
   by_cases h0 : i = 0
   ·subst h0
    have := (zaM hr).1
    unfold Hd.g1 at this
    simp only [zda, if_true]
    omega
   ·obtain ⟨j, rfl⟩ : ∃ j, i = j + 1 := ⟨i - 1, by omega⟩
    rw [zfq (by omega)]
    exact (hp j (j + 1) (by omega) hi (by omega)).1
  have hap : (k.held.take i).all (zbm k.held[i]) = true := by
   rw [List.all_eq_true]
   intro x hx
   obtain ⟨j, hj, rfl⟩ := List.mem_take_iff_getElem.1 hx
   exact (hp j i (by omega) hi (by omega)).2
  simp [hr, hl, hid, hap]
 simp [zas, h1, h2, h3, this, hm]
theorem zmp {k : Kern} (hr : zas k = true) : k.held.length ≤ 6 ∧ 1 ≤ k.next ∧ k.next ≤ 1073741824 ∧ zbU k = true := by
 simp only [zas, Bool.and_eq_true, decide_eq_true_eq] at hr
 exact ⟨hr.1.1, hr.1.2.1, hr.1.2.2, hr.2.2⟩
theorem GoodL.sub {nx : Int} {a b : List Hd} (h : GoodL nx b) (hs : a.Sublist b) : GoodL nx a :=
 ⟨fun x hx => h.right x (hs.subset hx), fun x hx => h.lt x (hs.subset hx), h.pw.sublist hs⟩
structure Less (a b : Hd) : Prop where
 id : a.id = b.id
 secs : ∀ s ∈ zaG a, s ∈ zaG b
 needs : ∀ n ∈ zai a, n ∈ zai b
theorem Less.refl (a : Hd) : Less a a := ⟨rfl, fun _ h => h, fun _ h => h⟩
theorem Less.apart {a b c d : Hd} (h1 : Less a b) (h2 : Less c d) (h : zbm b d = true) : zbm a c = true := by
 unfold zbm at h ⊢
 rw [Bool.and_eq_true, Bool.not_eq_true', Bool.not_eq_true'] at h ⊢
 constructor
 ·refine List.any_eq_false.2 fun s hs => ?_
  have := List.any_eq_false.1 h.1 s (h1.secs s hs)
  simp only [decide_eq_true_eq] at this ⊢
  exact fun hc => this (h2.secs s hc)
 ·refine List.any_eq_false.2 fun x hx => ?_
  have h3 := List.any_eq_false.1 h.2 x (h1.needs x hx)
  rw [Bool.not_eq_true] at h3 ⊢
  refine List.any_eq_false.2 fun y hy => ?_
  exact List.any_eq_false.1 h3 y (h2.needs y hy)
theorem GoodL.put {nx : Int} {hs : List Hd} {m : Nat} (hm : m < hs.length) {h : Hd} (hg : GoodL nx hs) (hl : Less h hs[m]) (hr : zay h = true) : GoodL nx (hs.set m h) := by
 refine ⟨fun x hx => ?_, fun x hx => ?_, ?_⟩
 ·rcases List.mem_or_eq_of_mem_set hx with hx | rfl
  ·exact hg.right x hx
  ·exact hr
 ·rcases List.mem_or_eq_of_mem_set hx with hx | rfl
  ·exact hg.lt x hx
  ·rw [hl.id]; exact hg.lt _ (List.getElem_mem hm)
 ·rw [List.pairwise_iff_getElem]
  intro i j hi hj hij
  have hp := List.pairwise_iff_getElem.1 hg.pw i j (by simpa using hi) (by simpa using hj) hij
  simp only [List.getElem_set]
  by_cases h1 : m = i
  ·subst h1
   rw [if_pos rfl, if_neg (by omega)]
   exact ⟨by rw [hl.id]; exact hp.1, (Less.refl _).apart hl hp.2⟩
  ·by_cases h2 : m = j
   ·subst h2
    rw [if_neg h1, if_pos rfl]
    exact ⟨by rw [hl.id]; exact hp.1, hl.apart (Less.refl _) hp.2⟩
   ·rw [if_neg h1, if_neg h2]; exact hp
theorem zln (h : Hd) (t : Int) (st : Int) : Less { h with stage := st, timer := t } h := ⟨rfl, fun _ h => h, fun _ h => h⟩
theorem zeV {h : Hd} (hr : zay h = true) {st t : Int} (h1 : 1 ≤ st ∧ st < 5) (h2 : 0 ≤ t ∧ t ≤ 1073741824) : zay { h with stage := st, timer := t } = true := by
 unfold zay at hr ⊢
 simp only [Bool.and_eq_true, decide_eq_true_eq] at hr ⊢
 obtain ⟨a, b, c⟩ := hr
 refine ⟨?_, ?_, c⟩
 ·unfold Hd.g1 at a ⊢
  exact ⟨a.1, a.2.1, h2.1, h2.2, a.2.2.2.2⟩
 ·unfold Hd.g2 at b ⊢
  exact ⟨h1.1, h1.2, b.2.2⟩
end Go.Lb.LK
namespace Go.Lb.LK
open Go Go.Lb Go.Proofs Go.RowKit
def zbf (k : Int) : Int := if k = 1 then 2 else if k = 2 then 3 else if k = 3 then 4 else 0
theorem zkU (k : Int) : 0 ≤ zbf k ∧ zbf k ≤ 4 := by unfold zbf; split <;> (try split) <;> (try split) <;> omega
theorem zct (k : Int) : C f_lockbarref05_Ports [U k] (I (zbf k)) := by
 refine ctr [U k] run_lockbarref05_Ports rfl rfl rfl ?_ rfl
 unfold rt_lockbarref05_Ports
 by_cases h1 : k = 1
 ·simp [zbf, h1]
 ·by_cases h2 : k = 2
  ·simp [zbf, h2]
  ·by_cases h3 : k = 3 <;> simp [zbf, h1, h2, h3]
def noP : Port := ⟨-1, 0⟩
def Sec.join (s : Sec) (i : Nat) : Port := if i = 0 then s.j0 else if i = 1 then s.j1 else if i = 2 then s.j2 else s.j3
def Sec.cls (s : Sec) (i : Nat) : Int := if i = 0 then s.c0 else s.c1
theorem zrh (s : Sec) {i : Nat} {z : Int} (hz : z = i) (h : i < 4) : pv (.aidx 4 2 1 2 true) [.agg s.cells, I z] = (s.join i).av := by
 subst hz
 match i, h with
 | 0, _ => rfl
 | 1, _ => rfl
 | 2, _ => rfl
 | 3, _ => rfl
theorem zsB (s : Sec) {i : Nat} {z : Int} (hz : z = i) (h : i < 4) : pv (.aidx 4 2 1 1 false) [.agg s.cells, I z] = I (s.join i).s := by
 subst hz
 match i, h with
 | 0, _ => rfl
 | 1, _ => rfl
 | 2, _ => rfl
 | 3, _ => rfl
theorem aidxC (s : Sec) {i : Nat} {z : Int} (hz : z = i) (h : i < 2) : pv (.aidx 2 1 9 1 false) [.agg s.cells, I z] = I (s.cls i) := by
 subst hz
 match i, h with
 | 0, _ => rfl
 | 1, _ => rfl
theorem zeU (x y : Port) : AV.eqs x.cells y.cells = decide (x = y) := by
 obtain ⟨a, b⟩ := x
 obtain ⟨d, e⟩ := y
 simp [Port.cells, AV.eqs, AV.eq1]
 by_cases h1 : a = d <;> by_cases h2 : b = e <;> simp [h1, h2]
def hasP (l : Lay) (p : Port) : Bool := match zis l p.s with
 | some s => decide (0 ≤ p.p) && decide (p.p < zbf s.kind)
 | none => false
def za5 (l : Lay) (p : Port) : Port := match zis l p.s with
 | some s => if 0 ≤ p.p ∧ p.p < zbf s.kind then s.join p.p.toNat else noP
 | none => noP
theorem zkE (l : Lay) (p : Port) : C f_lockbarref07_Has [l.av, p.av] (.bool (hasP l p)) := by
 refine ctr (l.cells ++ p.cells) run_lockbarref07_Has rfl (by simp [zaf]) rfl ?_ rfl
 unfold rt_lockbarref07_Has
 simp [Lay.cells, Port.cells]
 by_cases hc : 0 ≤ p.s ∧ p.s < l.secs.length
 ·obtain ⟨n, hn, hlt, he⟩ := zch hc.1 hc.2
  have hls : hasP l p = (decide (0 ≤ p.p) && decide (p.p < zbf l.secs[n].kind)) := by simp [hasP, he]
  rw [hls]
  simp [hn, hlt, Sec.cells]
  refine zak (avs := [U l.secs[n].kind]) (I (zbf l.secs[n].kind)) rfl (fun _ => ⟨by simp [hlt, Sec.cells], zct _⟩) (fun _ => rfl) ?_
  by_cases h0 : 0 ≤ p.p <;> simp [h0, hlt]
 ·have hls : hasP l p = false := by simp [hasP, zdf hc]
  rw [hls]
  have hc2 : 0 ≤ p.s → ¬ p.s < l.secs.length := fun h1 h2 => hc ⟨h1, h2⟩
  by_cases h0 : 0 ≤ p.s
  ·have h1 := hc2 h0
   simp [h0, h1]
   refine zak (avs := []) (I 0) rfl (fun hh => ?_) (fun _ => rfl) ?_
   ·simp [h0, h1] at hh
   ·simp [h0, h1]
  ·simp [h0]
   refine zak (avs := []) (I 0) rfl (fun hh => ?_) (fun _ => rfl) ?_
   ·simp [h0] at hh
   ·simp [h0]
theorem zjj : C f_lockbarref07_none [] noP.av := by
 refine ctr [] run_lockbarref07_none rfl rfl rfl ?_ rfl
 unfold rt_lockbarref07_none
 simp [noP, Port.cells]
theorem zqU {l : Lay} {p : Port} : hasP l p = true ↔ ∃ n : Nat, ∃ m : Nat, p.s = n ∧ p.p = m ∧ m < 4 ∧ ∃ h : n < l.secs.length, (m : Int) < zbf l.secs[n].kind := by
 unfold hasP
 constructor
 ·intro h
  by_cases hc : 0 ≤ p.s ∧ p.s < l.secs.length
  ·obtain ⟨n, hn, hlt, he⟩ := zch hc.1 hc.2
   rw [he] at h
   simp only [Bool.and_eq_true, decide_eq_true_eq] at h
   have := zkU l.secs[n].kind
   exact ⟨n, p.p.toNat, hn, by omega, by omega, hlt, by omega⟩
  ·rw [zdf hc] at h; cases h
 ·rintro ⟨n, m, h1, h2, h3, hlt, h4⟩
  obtain ⟨n', hn', hlt', he⟩ := zch (l := l) (s := p.s) (by omega) (by omega)
  have : n' = n := by omega
  subst this
  rw [he]
  simp only [Bool.and_eq_true, decide_eq_true_eq]
  exact ⟨by omega, by omega⟩
theorem zmn {l : Lay} {p : Port} (h : hasP l p = true) : ∃ n : Nat, ∃ m : Nat, p.s = n ∧ p.p = m ∧ m < 4 ∧ ∃ h : n < l.secs.length, za5 l p = l.secs[n].join m := by
 obtain ⟨n, m, h1, h2, h3, hlt, h4⟩ := zqU.1 h
 obtain ⟨n', hn', hlt', he⟩ := zch (l := l) (s := p.s) (by omega) (by omega)
 have : n' = n := by omega
 subst this
 refine ⟨n', m, h1, h2, h3, hlt, ?_⟩
 unfold za5
 rw [he]
 simp only
 rw [if_pos ⟨by omega, by omega⟩, h2]; rfl
theorem zmN {l : Lay} {p : Port} (h : hasP l p = false) : za5 l p = noP := by
 unfold hasP at h
 unfold za5
 split
 ·rename_i s hs
  rw [hs] at h
  simp only [Bool.and_eq_false_iff, decide_eq_false_iff_not] at h
  rw [if_neg (by omega)]
 ·rfl
theorem zet (l : Lay) (p : Port) : C f_lockbarref07_Beyond [l.av, p.av] (za5 l p).av := by
 refine ctr (l.cells ++ p.cells) run_lockbarref07_Beyond rfl (by simp [zaf]) (by simp [AV.pure]) ?_ rfl
 unfold rt_lockbarref07_Beyond
 simp [Lay.cells, Port.cells]
 refine call (zkE l p) (by simp [Lay.cells, Port.cells]) (fun _ => rfl) ?_
 cases hh : hasP l p
 ·simp
  refine call zjj rfl (by simp) ?_
  simp [zmN hh, noP, Port.cells]
 ·obtain ⟨n, m, h1, h2, h3, hlt, h4⟩ := zmn hh
  have hm : m = 0 ∨ m = 1 ∨ m = 2 ∨ m = 3 := by omega
  rcases hm with rfl | rfl | rfl | rfl <;> simp [h1, h2, h4, hlt, Sec.cells, Sec.join, Port.cells]
end Go.Lb.LK
namespace Go.Lb.LK
open Go Go.Lb Go.Proofs Go.RowKit
def zkf (n : Int) : Int := min (min (max n 0) 1073741824 + 1) 1073741824
theorem znJ (n : Int) : C f_tick_on [I 0, I n, I 1] (I (zkf n)) := by
 refine ctr [I 0, I n, I 1] run_tick_on rfl rfl rfl ?_ rfl
 unfold rt_tick_on
 simp
 have e1 : max 0 (min n 1073741824) = min (max n 0) 1073741824 := by omega
 rw [e1]
 have e2 : IntKind.i64.wrap (1073741824 - min (max n 0) 1073741824) = 1073741824 - min (max n 0) 1073741824 := by rw [zaI] <;> omega
 rw [e2, show max (1 : Int) 0 = 1 from rfl]
 by_cases h : min (max n 0) 1073741824 = 1073741824
 ·rw [h]; simp [zkf, h, show min (1 : Int) 0 = 0 from rfl, show min (1073741825 : Int) 1073741824 = 1073741824 from rfl]
 ·have e3 : min 1 (1073741824 - min (max n 0) 1073741824) = 1 := by omega
  rw [e3]
  have e4 : IntKind.i64.wrap (min (max n 0) 1073741824 + 1) = min (max n 0) 1073741824 + 1 := by rw [zaI] <;> omega
  simp [e4, zkf]
  omega
theorem zal (n : Int) : C f_tick_Next [I n] (I (zkf n)) := by
 refine ctr [I n] run_tick_Next rfl rfl rfl ?_ rfl
 unfold rt_tick_Next
 refine call (znJ n) (by simp) (by simp) ?_
 simp
theorem zoz (n : Int) : C f_lockbarref03_Clock [I n] (I (min (max n 0) 1073741824)) := by
 refine ctr [I n] run_lockbarref03_Clock rfl rfl rfl ?_ rfl
 unfold rt_lockbarref03_Clock
 refine call (zid n 1073741824) (by simp) (by simp) ?_
 simp
theorem zdD (n : Int) : C f_lockbarref03_Next [I n] (I (zkf n)) := by
 refine ctr [I n] run_lockbarref03_Next rfl rfl rfl ?_ rfl
 unfold rt_lockbarref03_Next
 refine call (zoz n) (by simp) (by simp) ?_
 simp
 rw [zaI (by omega) (by omega)]; rfl
def zqN : Port := ⟨0, 0⟩
def zc9 : Sec := ⟨1, zqN, zqN, zqN, zqN, 0, 0⟩
end Go.Lb.LK
namespace Go.Lb.LK
open Go Go.Lb Go.Proofs Go.RowKit
def Hd.n (h : Hd) : Nat := h.path.steps.length
def zce (l : Lay) (im : Img) (h : Hd) : Bool := (zai h).all fun x => decide (atP l im x.p = x.pos)
def zbz (l : Lay) (im : Img) (h : Hd) : Bool := !zay h || stale l im
def zaK (h : Hd) (k : Nat) : Int := (h.path.steps[k]?.map (·.s)).getD 0
def wr (l : Lay) (im : Img) (h : Hd) : Nat → Bool
 | 0 => h.was 0 || (decide (h.gone ≤ 0 ∧ 0 < h.n) && told l im (zaK h 0))
 | k + 1 => h.was (k + 1) || (decide (h.gone ≤ (k + 1 : Nat) ∧ k + 1 < h.n) && (told l im (zaK h (k + 1)) && wr l im h k))
def wrM (l : Lay) (im : Img) (h : Hd) (m : Nat) : Nat → Bool := fun j => if j < m then wr l im h j else h.was j
def zbk (l : Lay) (im : Img) (h : Hd) (g : Nat) : Bool := decide (g < h.n) && (wr l im h g && ((decide (g + 1 = h.n) || wr l im h (g + 1)) && !zag l im (zaK h g)))
def goF (l : Lay) (im : Img) (h : Hd) : Nat → Nat → Nat
 | 0, g => g
 | f + 1, g => if zbk l im h g = true then goF l im h f (g + 1) else g
def goX (l : Lay) (im : Img) (h : Hd) (g : Nat) : Nat := goF l im h (h.n - g) g
theorem znh {l : Lay} {im : Img} {h : Hd} {g : Nat} (hc : zbk l im h g = true) : g < h.n := by
 simp only [zbk, Bool.and_eq_true, decide_eq_true_eq] at hc; exact hc.1
theorem zhR {l : Lay} {im : Img} {h : Hd} {g : Nat} (hc : zbk l im h g = true) : goX l im h g = goX l im h (g + 1) := by
 have := znh hc
 unfold goX
 obtain ⟨f, hf⟩ : ∃ f, h.n - g = f + 1 := ⟨h.n - g - 1, by omega⟩
 rw [hf, show h.n - (g + 1) = f by omega]
 simp [goF, hc]
theorem zbE {l : Lay} {im : Img} {h : Hd} {g : Nat} (hc : zbk l im h g = false) : goX l im h g = g := by
 unfold goX
 cases h.n - g with
 | zero => rfl
 | succ f => simp [goF, hc]
theorem zrb {l : Lay} {im : Img} {h : Hd} : ∀ {f g : Nat}, g ≤ goF l im h f g
 | 0, g => Nat.le_refl _
 | f + 1, g => by
  simp only [goF]
  split
  ·have := @zrb l im h f (g + 1); omega
  ·exact Nat.le_refl _
theorem zrc {l : Lay} {im : Img} {h : Hd} : ∀ {f g : Nat}, g ≤ h.n → goF l im h f g ≤ h.n
 | 0, g, hg => hg
 | f + 1, g, hg => by
  simp only [goF]
  split
  ·rename_i hc
   exact zrc (znh hc)
  ·exact hg
def zos (l : Lay) (im : Img) (h : Hd) : Bool := wr l im h (h.n - 1)
def zan (l : Lay) (im : Img) (h : Hd) : Int := if zos l im h = true then zkf h.timer else h.timer
def opnS (l : Lay) (im : Img) (h : Hd) : Bool := h.opn || (decide (goX l im h h.gone.toNat = h.n) || (zos l im h && decide (l.over ≤ zan l im h)))
def runS (l : Lay) (im : Img) (h : Hd) : Hd :=
 if zbz l im h = true then h else { h with was := wr l im h, gone := goX l im h h.gone.toNat, timer := zan l im h, opn := opnS l im h }
def zbW (l : Lay) (im : Img) (h : Hd) : Hd :=
 if zbz l im h = true then h
 else if h.stage = 1 then (if zce l im h = true then { h with stage := 2 } else h)
 else if h.stage = 2 then (if told l im (zaK h 0) = true then runS l im { h with stage := 3, timer := 0 } else h)
 else if h.stage = 3 then runS l im h else h
theorem zsQ {l : Lay} {im : Img} {h : Hd} {k : Nat} (hk : (k : Int) < h.gone) : wr l im h k = h.was k := by
 cases k with
 | zero => simp only [wr]; rw [decide_eq_false (by omega)]; simp
 | succ k => simp only [wr]; rw [decide_eq_false (by omega)]; simp
theorem zpb {l : Lay} {im : Img} {h : Hd} {k : Nat} (hk : h.n ≤ k) : wr l im h k = h.was k := by
 cases k with
 | zero => simp only [wr]; rw [decide_eq_false (by omega)]; simp
 | succ k => simp only [wr]; rw [decide_eq_false (by omega)]; simp
theorem zm1 {l : Lay} {im : Img} {h : Hd} {m : Nat} (hm : (m : Int) ≤ h.gone) : wrM l im h m = h.was := by
 funext j
 unfold wrM
 split
 ·exact zsQ (by omega)
 ·rfl
theorem zo0 {l : Lay} {im : Img} {h : Hd} {m : Nat} (hm : h.n ≤ m) : wrM l im h m = wr l im h := by
 funext j
 unfold wrM
 split
 ·rfl
 ·exact (zpb (by omega)).symm
theorem zhj {l : Lay} {im : Img} {h : Hd} {m : Nat} (j : Nat) : wrM l im h (m + 1) j = if j = m then wr l im h m else wrM l im h m j := by
 unfold wrM
 by_cases h1 : j = m
 ·subst h1; simp
 ·by_cases h2 : j < m
  ·simp [h1, h2, show j < m + 1 by omega]
  ·simp [h1, h2, show ¬ j < m + 1 by omega]
theorem zsN {l : Lay} {im : Img} {h : Hd} {k : Nat} (h1 : h.gone ≤ k) (h2 : k < h.n) : wr l im h k = (h.was k || (told l im (zaK h k) && (decide (k = 0) || wr l im h (k - 1)))) := by
 cases k with
 | zero => simp only [wr]; rw [decide_eq_true (by omega : h.gone ≤ 0 ∧ 0 < h.n)]; simp
 | succ k => simp only [wr]; rw [decide_eq_true (by omega : h.gone ≤ (k + 1 : Nat) ∧ k + 1 < h.n)]; simp
theorem zna {l : Lay} {im : Img} {h : Hd} {k : Nat} (hk : wr l im h k = h.was k) : wrM l im h (k + 1) = wrM l im h k := by
 funext j
 rw [zhj]
 split
 ·rename_i h1; subst h1; rw [hk]; simp [wrM]
 ·rfl
theorem zpw {l : Lay} {im : Img} {h : Hd} {k : Nat} (hk : wr l im h k = true) (j : Nat) : wrM l im h (k + 1) j = (decide (j = k) || wrM l im h k j) := by
 rw [zhj]
 by_cases h1 : j = k
 ·subst h1; simp [hk]
 ·simp [h1]
theorem zpm (w : Nat → Bool) (t : List AV) {i : Nat} (h : i < 12) : ((AV.bool (w 0) :: AV.bool (w 1) :: AV.bool (w 2) :: AV.bool (w 3) :: AV.bool (w 4) :: AV.bool (w 5) :: AV.bool (w 6) :: AV.bool (w 7) :: AV.bool (w 8) :: AV.bool (w 9) :: AV.bool (w 10) :: AV.bool (w 11) :: t)[i]?).getD .undef = .bool (w i) := by
 match i, h with
 | 0, _ => rfl
 | 1, _ => rfl
 | 2, _ => rfl
 | 3, _ => rfl
 | 4, _ => rfl
 | 5, _ => rfl
 | 6, _ => rfl
 | 7, _ => rfl
 | 8, _ => rfl
 | 9, _ => rfl
 | 10, _ => rfl
 | 11, _ => rfl
 | n + 12, h => exact absurd h (by omega)
theorem zqm (w : Nat → Bool) (a0 a1 a2 a3 a4 a5 a6 a7 : AV) (t : List AV) {i : Nat} {z : Int} (hz : z = i) (h : i < 12) : pv (.aidx 12 1 8 1 false) [.agg (a0 :: a1 :: a2 :: a3 :: a4 :: a5 :: a6 :: a7 :: AV.bool (w 0) :: AV.bool (w 1) :: AV.bool (w 2) :: AV.bool (w 3) :: AV.bool (w 4) :: AV.bool (w 5) :: AV.bool (w 6) :: AV.bool (w 7) :: AV.bool (w 8) :: AV.bool (w 9) :: AV.bool (w 10) :: AV.bool (w 11) :: t), I z] = .bool (w i) := by
 subst hz
 match i, h with
 | 0, _ => rfl
 | 1, _ => rfl
 | 2, _ => rfl
 | 3, _ => rfl
 | 4, _ => rfl
 | 5, _ => rfl
 | 6, _ => rfl
 | 7, _ => rfl
 | 8, _ => rfl
 | 9, _ => rfl
 | 10, _ => rfl
 | 11, _ => rfl
 | n + 12, h => exact absurd h (by omega)
theorem zeZ (w : Nat → Bool) {i : Nat} {z : Int} (hz : z = i) (h : i < 12) : pv (.aidx 12 1 0 1 false) [.agg [AV.bool (w 0), AV.bool (w 1), AV.bool (w 2), AV.bool (w 3), AV.bool (w 4), AV.bool (w 5), AV.bool (w 6), AV.bool (w 7), AV.bool (w 8), AV.bool (w 9), AV.bool (w 10), AV.bool (w 11)], I z] = .bool (w i) := by
 subst hz
 match i, h with
 | 0, _ => rfl
 | 1, _ => rfl
 | 2, _ => rfl
 | 3, _ => rfl
 | 4, _ => rfl
 | 5, _ => rfl
 | 6, _ => rfl
 | 7, _ => rfl
 | 8, _ => rfl
 | 9, _ => rfl
 | 10, _ => rfl
 | 11, _ => rfl
 | n + 12, h => exact absurd h (by omega)
end Go.Lb.LK
namespace Go.Lb.LK
open Go Go.Lb Go.Proofs Go.RowKit
theorem zjP (l : Lay) (im : Img) (hi : im.ok) (h : Hd) (hl : h.len) : C f_pass_Stands [l.av, im.av, h.av] (.bool (zce l im h)) := by
 refine ctr (l.cells ++ im.cells ++ h.cells) run_pass_Stands rfl (lih l im h) rfl ?_ rfl
 unfold rt_pass_Stands
 have hn := zbb h
 have hl3 := hl.2.2
 simp [Lay.cells, Img.cells, Hd.cells]
 refine call (zb8 h hl) (by simp [Hd.cells]) (by simp) ?_
 simp
 refine zac rfl (fun vs => ∃ i : Nat, i ≤ (zai h).length ∧ vs = [I i] ∧ zar (fun x => !decide (atP l im x.p = x.pos)) ((zai h).take i)) (fun vs => match vs with | [.int _ j] => (zai h).length - j.toNat | _ => 0) ⟨0, by simp, by simp, rfl⟩ ?_
 rintro vs - ⟨i, hik, rfl, hq⟩
 simp
 refine ⟨fun hlt => ?_, fun hge => ?_⟩
 ·have hw := zad (i := i) (by omega)
  simp [hlt, Need.cells]
  refine call (zc5 l im hi (zai h)[i].p) (by simp [Lay.cells, Img.cells, hlt, Need.cells]) (by simp) ?_
  simp [hlt, Need.cells]
  cases hq2 : decide (atP l im (zai h)[i].p = (zai h)[i].pos)
  ·have hq3 : ¬ atP l im (zai h)[i].p = (zai h)[i].pos := by simpa using hq2
   simp [hq3]
   have : zce l im h = false := by
    unfold zce
    rw [List.all_eq_false]
    exact ⟨_, List.getElem_mem hlt, by simpa using hq3⟩
   simp [this]
  ·have hq3 : atP l im (zai h)[i].p = (zai h)[i].pos := by simpa using hq2
   simp [hq3, hw]
   exact ⟨⟨i + 1, by omega, rfl, zao hlt hq (by simp [hq3])⟩, by omega⟩
 ·have : (zai h).take i = zai h := List.take_of_length_le (by omega)
  rw [this] at hq
  unfold zar at hq
  have : zce l im h = true := by
   unfold zce
   simpa using hq
  simp [this]
theorem zm0 (l : Lay) (im : Img) (hi : im.ok) (h : Hd) (hl : h.len) : C f_lockbarref21_Stands [l.av, im.av, h.av] (.bool (zce l im h)) := by
 refine ctr (l.cells ++ im.cells ++ h.cells) run_lockbarref21_Stands rfl (lih l im h) rfl ?_ rfl
 unfold rt_lockbarref21_Stands
 have hn := zbb h
 have hl3 := hl.2.2
 simp [Lay.cells, Img.cells, Hd.cells]
 refine call (zc6 h hl) (by simp [Hd.cells]) (by simp) ?_
 simp
 refine zac rfl (fun vs => ∃ i : Nat, i ≤ (zai h).length ∧ vs = [I i] ∧ zar (fun x => !decide (atP l im x.p = x.pos)) ((zai h).take i)) (fun vs => match vs with | [.int _ j] => (zai h).length - j.toNat | _ => 0) ⟨0, by simp, by simp, rfl⟩ ?_
 rintro vs - ⟨i, hik, rfl, hq⟩
 simp
 refine ⟨fun hlt => ?_, fun hge => ?_⟩
 ·have hw := zad (i := i) (by omega)
  simp [hlt, Need.cells]
  refine call (zfi l im hi (zai h)[i].p) (by simp [Lay.cells, Img.cells, hlt, Need.cells]) (by simp) ?_
  simp [hlt, Need.cells]
  cases hq2 : decide (atP l im (zai h)[i].p = (zai h)[i].pos)
  ·have hq3 : ¬ atP l im (zai h)[i].p = (zai h)[i].pos := by simpa using hq2
   simp [hq3]
   have : zce l im h = false := by
    unfold zce
    rw [List.all_eq_false]
    exact ⟨_, List.getElem_mem hlt, by simpa using hq3⟩
   simp [this]
  ·have hq3 : atP l im (zai h)[i].p = (zai h)[i].pos := by simpa using hq2
   simp [hq3, hw]
   exact ⟨⟨i + 1, by omega, rfl, zao hlt hq (by simp [hq3])⟩, by omega⟩
 ·have : (zai h).take i = zai h := List.take_of_length_le (by omega)
  rw [this] at hq
  unfold zar at hq
  have : zce l im h = true := by
   unfold zce
   simpa using hq
  simp [this]
theorem zfD (l : Lay) (im : Img) (h : Hd) (hl : h.len) (hs : 0 ≤ h.stage ∧ h.stage ≤ 255) : C f_pass_asleep [l.av, im.av, h.av] (.bool (zbz l im h)) := by
 refine ctr (l.cells ++ im.cells ++ h.cells) run_pass_asleep rfl (lih l im h) rfl ?_ rfl
 unfold rt_pass_asleep
 simp [Lay.cells, Img.cells, Hd.cells]
 refine call (zgX h hl hs) (by simp [Hd.cells]) (by simp) ?_
 simp
 refine zak (avs := [l.av, im.av]) (.bool (stale l im)) rfl (fun _ => ⟨by simp [Lay.cells, Img.cells], zbe l im⟩) (by simp) ?_
 cases hq : zay h <;> simp [zbz, hq]
end Go.Lb.LK
namespace Go.Lb.LK
open Go Go.Lb Go.Proofs Go.RowKit
theorem zbt {h : Hd} {k : Nat} (hk : k < h.path.steps.length) : zaK h k = h.path.steps[k].s := by
 simp [zaK, hk]
theorem zfe {l : Lay} {im : Img} {h : Hd} (ha : zbz l im h = true) : runS l im h = h := by simp [runS, ha]
theorem zdB {l : Lay} {im : Img} {h : Hd} (ha : zbz l im h = false) : runS l im h = { h with was := wr l im h, gone := goX l im h h.gone.toNat, timer := zan l im h, opn := opnS l im h } := by simp [runS, ha]
set_option maxHeartbeats 2000000 in
theorem zjD (l : Lay) (im : Img) (hi : im.ok) (h : Hd) (hl : h.len) (hs : 0 ≤ h.stage ∧ h.stage ≤ 255) : C f_lockbarref21_Run [l.av, im.av, h.av] (runS l im h).av := by
 refine ctr (l.cells ++ im.cells ++ h.cells) run_lockbarref21_Run rfl (lih l im h) (by simp [AV.pure]) ?_ rfl
 unfold rt_lockbarref21_Run
 simp [Lay.cells, Img.cells, Hd.cells]
 refine call (zeT h hl) (by simp [Hd.cells]) (by simp) ?_
 simp [Hd.av, Hd.cells]
 refine call (zgr h hl hs) (by simp [Hd.cells]) (by simp) ?_
 simp
 refine zak (avs := [l.av, im.av]) (.bool (stale l im)) rfl (fun _ => ⟨by simp [Lay.cells, Img.cells], zbn l im⟩) (by simp) ?_
 simp
 cases ha : zbz l im h
 ·rw [zdB ha]
  simp only [zbz, Bool.or_eq_false_iff, Bool.not_eq_false'] at ha
  obtain ⟨⟨a1, a2, a3, a4, a5, a6, a7⟩, ⟨d1, d2, d3, d4⟩, _⟩ := zaM ha.1
  simp [ha.1, ha.2]
  obtain ⟨g, hg⟩ : ∃ g : Nat, h.gone = g := ⟨h.gone.toNat, by omega⟩
  refine zac rfl (fun vs => ∃ k : Nat, g ≤ k ∧ k ≤ h.n ∧ vs = I k :: zeb (wrM l im h k)) (fun vs => match vs with | .int _ j :: _ => h.n - j.toNat | _ => 0) ⟨g, by omega, by unfold Hd.n; omega, by simp [zm1 (l := l) (im := im) (h := h) (m := g) (by omega), hg, zeb]⟩ ?_
  rintro vs - ⟨k, hk1, hk2, rfl⟩
  have hn : h.n = h.path.steps.length := rfl
  simp [zeb]
  refine ⟨fun hlt => ?_, fun hge => ?_⟩
  ·simp [hlt, Step.cells]
   refine call (zh8 l im hi (zaK h k)) (by simp [Lay.cells, Img.cells, hlt, Step.cells, zbt]) (by simp) ?_
   simp [hlt, Step.cells]
   have hw := zad (i := k) (by omega)
   have hat := zsN (l := l) (im := im) (h := h) (k := k) (by omega) (by omega)
   have hprev : ¬ k = 0 → IntKind.i64.wrap ((k : Int) - 1) = ((k - 1 : Nat) : Int) := fun hk0 => by rw [zaI] <;> omega
   have hpw : ¬ k = 0 → wrM l im h k (k - 1) = wr l im h (k - 1) := fun hk0 => by unfold wrM; rw [if_pos (by omega)]
   have hcell : ¬ k = 0 → _ := fun hk0 => zpm (wrM l im h k) [AV.bool h.opn, I h.timer, AV.bool h.shown] (i := k - 1) (by omega)
   rw [hw]
   refine ⟨fun h1 h2 => by rw [hprev h1]; omega, fun h1 h2 => by rw [hprev h1]; omega, ?_⟩
   cases ht : told l im (zaK h k)
   ·left
    rw [ht] at hat
    refine ⟨fun hh => (by cases hh), ⟨k + 1, by omega, by omega, rfl, ?_⟩, by omega⟩
    rw [zna (by simpa using hat)]
    simp
   ·by_cases hk0 : k = 0
    ·right
     refine ⟨by simp [hk0], by omega, ⟨k + 1, by omega, by omega, rfl, ?_⟩, by omega⟩
     have : wr l im h k = true := by rw [hat, ht]; simp [hk0]
     simp only [zpw this]
     subst hk0
     simp
    ·rw [hprev hk0]
     simp only [Int.toNat_natCast, hcell hk0, hpw hk0, if_neg hk0]
     cases hp : wr l im h (k - 1)
     ·left
      refine ⟨fun _ => rfl, ⟨k + 1, by omega, by omega, rfl, ?_⟩, by omega⟩
      rw [zna (by rw [hat, hp]; simp [hk0])]
      simp
     ·right
      refine ⟨rfl, by omega, ⟨k + 1, by omega, by omega, rfl, ?_⟩, by omega⟩
      have : wr l im h k = true := by rw [hat, ht, hp]; simp
      simp only [zpw this]
      have hd : ∀ a b : Nat, b = 8 + a → decide (b = 8 + k) = decide (a = k) := fun a b e => decide_eq_decide.2 (by omega)
      rw [hd 1 9 rfl, hd 2 10 rfl, hd 3 11 rfl, hd 4 12 rfl, hd 5 13 rfl, hd 6 14 rfl, hd 7 15 rfl, hd 8 16 rfl, hd 9 17 rfl, hd 10 18 rfl, hd 11 19 rfl]
      simp [eq_comm]
  ·have hkn : k = h.n := by omega
   subst hkn
   rw [zo0 (Nat.le_refl _)]
   refine zac rfl (fun vs => ∃ k : Nat, g ≤ k ∧ k ≤ h.n ∧ vs = [I k] ∧ goX l im h h.gone.toNat = goX l im h k) (fun vs => match vs with | .int _ j :: _ => h.n + 1 - j.toNat | _ => 0) ⟨g, by omega, by omega, by simp [hg], by rw [hg]; rfl⟩ ?_
   rintro vs - ⟨k, hk1, hk2, rfl, hgo⟩
   by_cases hlt : k < h.path.steps.length
   ·have hk12 : k < 12 := by omega
    have hwn : IntKind.i64.wrap ((h.path.steps.length : Int) - 1) = ((h.path.steps.length - 1 : Nat) : Int) := by rw [zaI] <;> omega
    have hw := zad (i := k) (by omega)
    have hAk := fun a0 a1 a2 a3 a4 a5 a6 a7 t => zqm (wr l im h) a0 a1 a2 a3 a4 a5 a6 a7 t (i := k) (z := (k : Int)) rfl (by omega)
    have hAk1 := fun (hk : ¬ k = h.path.steps.length - 1) a0 a1 a2 a3 a4 a5 a6 a7 t => zqm (wr l im h) a0 a1 a2 a3 a4 a5 a6 a7 t (i := k + 1) (z := (k : Int) + 1) rfl (by omega)
    have hAn := fun a0 a1 a2 a3 a4 a5 a6 a7 t => zqm (wr l im h) a0 a1 a2 a3 a4 a5 a6 a7 t (i := h.path.steps.length - 1) (z := ((h.path.steps.length - 1 : Nat) : Int)) rfl (by omega)
    rw [show wr l im h (h.path.steps.length - 1) = zos l im h from rfl] at hAn
    simp [hlt, hAk, -zab, Step.cells]
    repeat refine ⟨by omega, ?_⟩
    refine zak (avs := [l.av, im.av, I (zaK h k)]) (.bool (zag l im (zaK h k))) rfl (fun _ => ⟨by simp [Lay.cells, Img.cells, hlt, Step.cells, zbt], zaW l im hi _⟩) (by simp) ?_
    have hkn2 : ¬ k = h.path.steps.length := by omega
    have hcan : zbk l im h k = (wr l im h k && ((decide (k = h.path.steps.length - 1) || wr l im h (k + 1)) && !zag l im (zaK h k))) := by
     have e : decide (k + 1 = h.path.steps.length) = decide (k = h.path.steps.length - 1) := decide_eq_decide.2 (by omega)
     unfold zbk
     rw [hn, e]; simp [hlt]
    have hstop : zbk l im h k = false → goX l im h h.gone.toNat = k := fun hc => by rw [hgo]; exact zbE hc
    have hgoon : zbk l im h k = true → goX l im h h.gone.toNat = goX l im h (k + 1) := fun hc => by rw [hgo]; exact zhR hc
    have hbnd : ((h.path.steps.length - 1 : Nat) : Int) < 12 ∧ h.path.steps.length - 1 + 8 < 23 := by omega
    have hdz2 : ((k : Int) = (h.path.steps.length : Int)) = False := by simp only [eq_iff_iff, iff_false]; omega
    by_cases hgo2 : zbk l im h k = true
    ·have hgo3 := hgo2
     rw [hcan] at hgo2
     simp at hgo2
     by_cases hkn : k = h.path.steps.length - 1
     ·have hdz : ((k : Int) = ((h.path.steps.length - 1 : Nat) : Int)) = True := by simp only [eq_iff_iff, iff_true]; omega
      simp [hlt, hAk, hAn, hwn, hw, hgo2.1, hgo2.2.2, hdz, hdz2, -zab]
      exact ⟨⟨k + 1, by omega, by omega, by omega, hgoon hgo3⟩, by omega⟩
     ·have hdz : ((k : Int) = ((h.path.steps.length - 1 : Nat) : Int)) = False := by simp only [eq_iff_iff, iff_false]; omega
      have hk1 : wr l im h (k + 1) = true := by
       rcases hgo2.2.1 with h1 | h1
       ·exact absurd h1 hkn
       ·exact h1
      simp [hlt, hAk, hAk1 hkn, hAn, hwn, hw, hgo2.1, hgo2.2.2, hk1, hdz, hdz2, -zab]
      repeat refine ⟨by omega, ?_⟩
      exact ⟨⟨k + 1, by omega, by omega, by omega, hgoon hgo3⟩, by omega⟩
    ·have hst := hstop (by simpa using hgo2)
     rw [hcan] at hgo2
     simp at hgo2
     by_cases hkn : k = h.path.steps.length - 1
     ·have hdz : ((k : Int) = ((h.path.steps.length - 1 : Nat) : Int)) = True := by simp only [eq_iff_iff, iff_true]; omega
      cases hwk : wr l im h k
      ·simp [hlt, hAk, hAn, hwn, hw, hdz, hdz2, hwk, -zab]
       repeat refine ⟨by omega, ?_⟩
       refine ⟨fun hL => ?_, fun hL => ?_⟩
       ·refine call (zdD h.timer) (by simp) (by simp) ?_
        simp [hAn, hL, hst, hwn, hdz2, opnS, zan, hn, hkn2, -zab]
        and_intros <;> intros <;> omega
       ·simp [hAn, hL, hst, hwn, hdz2, opnS, zan, hn, hkn2, -zab]
        and_intros <;> intros <;> omega
      ·have hoc : zag l im (zaK h k) = true := hgo2 hwk (.inl hkn)
       simp [hlt, hAk, hAn, hwn, hw, hdz, hdz2, hwk, hoc, -zab]
       repeat refine ⟨by omega, ?_⟩
       refine ⟨fun hL => ?_, fun hL => ?_⟩
       ·refine call (zdD h.timer) (by simp) (by simp) ?_
        simp [hAn, hL, hst, hwn, hdz2, opnS, zan, hn, hkn2, -zab]
        and_intros <;> intros <;> omega
       ·simp [hAn, hL, hst, hwn, hdz2, opnS, zan, hn, hkn2, -zab]
        and_intros <;> intros <;> omega
     ·have hdz : ((k : Int) = ((h.path.steps.length - 1 : Nat) : Int)) = False := by simp only [eq_iff_iff, iff_false]; omega
      cases hwk : wr l im h k
      ·simp [hlt, hAk, hAn, hwn, hw, hdz, hdz2, hwk, -zab]
       repeat refine ⟨by omega, ?_⟩
       refine ⟨fun hL => ?_, fun hL => ?_⟩
       ·refine call (zdD h.timer) (by simp) (by simp) ?_
        simp [hAn, hL, hst, hwn, hdz2, opnS, zan, hn, hkn2, -zab]
        and_intros <;> intros <;> omega
       ·simp [hAn, hL, hst, hwn, hdz2, opnS, zan, hn, hkn2, -zab]
        and_intros <;> intros <;> omega
      ·cases hoc : zag l im (zaK h k)
       ·have hk1 : wr l im h (k + 1) = false := by
         cases hk1 : wr l im h (k + 1)
         ·rfl
         ·rw [hgo2 hwk (.inr hk1)] at hoc; cases hoc
        simp [hlt, hAk, hAk1 hkn, hAn, hwn, hw, hdz, hdz2, hwk, hoc, hk1, -zab]
        repeat refine ⟨by omega, ?_⟩
        refine ⟨fun hL => ?_, fun hL => ?_⟩
        ·refine call (zdD h.timer) (by simp) (by simp) ?_
         simp [hAn, hL, hst, hwn, hdz2, opnS, zan, hn, hkn2, -zab]
         and_intros <;> intros <;> omega
        ·simp [hAn, hL, hst, hwn, hdz2, opnS, zan, hn, hkn2, -zab]
         and_intros <;> intros <;> omega
       ·simp [hlt, hAk, hAk1 hkn, hAn, hwn, hw, hdz, hdz2, hwk, hoc, -zab]
        repeat refine ⟨by omega, ?_⟩
        refine ⟨fun hL => ?_, fun hL => ?_⟩
        ·refine call (zdD h.timer) (by simp) (by simp) ?_
         simp [hAn, hL, hst, hwn, hdz2, opnS, zan, hn, hkn2, -zab]
         and_intros <;> intros <;> omega
        ·simp [hAn, hL, hst, hwn, hdz2, opnS, zan, hn, hkn2, -zab]
         and_intros <;> intros <;> omega
   ·have hkn : k = h.path.steps.length := by omega
    have hwn : IntKind.i64.wrap ((h.path.steps.length : Int) - 1) = ((h.path.steps.length - 1 : Nat) : Int) := by rw [zaI] <;> omega
    have hAn := fun a0 a1 a2 a3 a4 a5 a6 a7 t => zqm (wr l im h) a0 a1 a2 a3 a4 a5 a6 a7 t (i := h.path.steps.length - 1) (z := ((h.path.steps.length - 1 : Nat) : Int)) rfl (by omega)
    rw [show wr l im h (h.path.steps.length - 1) = zos l im h from rfl] at hAn
    have hst : goX l im h h.gone.toNat = k := by
     rw [hgo]; refine zbE ?_
     unfold zbk; rw [hn]; simp [hlt]
    have hdz2 : ((k : Int) = (h.path.steps.length : Int)) = True := by simp only [eq_iff_iff, iff_true]; omega
    simp [hlt, hwn, hAn, -zab]
    refine zak (avs := []) (.bool false) rfl (fun hh => ?_) (by simp) ?_
    ·simp [hlt] at hh
    simp [hlt, hwn, hAn, -zab]
    repeat refine ⟨by omega, ?_⟩
    refine ⟨fun hL => ?_, fun hL => ?_⟩
    ·refine call (zdD h.timer) (by simp) (by simp) ?_
     simp [hAn, hL, hst, hwn, hdz2, opnS, zan, hn, hkn, -zab]
    ·simp [hAn, hL, hst, hwn, hdz2, opnS, zan, hn, hkn, -zab]
 ·rw [zfe ha]
  have : zay h = false ∨ stale l im = true := by simpa [zbz] using ha
  rcases this with this | this <;> simp [this, Hd.cells]
end Go.Lb.LK
