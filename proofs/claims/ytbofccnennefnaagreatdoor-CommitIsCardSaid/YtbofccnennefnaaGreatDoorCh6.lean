/- A kernel, as pure values. -/
import Derived.Test.YtbofccnennefnaaGreatDoorCh5
set_option linter.unusedSimpArgs false
set_option linter.unusedVariables false
namespace Go.Lb.LK
open Go Go.Lb
structure Kern where
 next : Int
 held : List Hd
 want : Nat → Int
 run : Nat → Int
 fail : Nat → Bool
def zaz (w r : Nat → Int) (f : Nat → Bool) : List AV := [I (w 0), I (r 0), .bool (f 0), I (w 1), I (r 1), .bool (f 1), I (w 2), I (r 2), .bool (f 2), I (w 3), I (r 3), .bool (f 3), I (w 4), I (r 4), .bool (f 4), I (w 5), I (r 5), .bool (f 5), I (w 6), I (r 6), .bool (f 6), I (w 7), I (r 7), .bool (f 7), I (w 8), I (r 8), .bool (f 8), I (w 9), I (r 9), .bool (f 9), I (w 10), I (r 10), .bool (f 10), I (w 11), I (r 11), .bool (f 11), I (w 12), I (r 12), .bool (f 12), I (w 13), I (r 13), .bool (f 13), I (w 14), I (r 14), .bool (f 14), I (w 15), I (r 15), .bool (f 15), I (w 16), I (r 16), .bool (f 16), I (w 17), I (r 17), .bool (f 17), I (w 18), I (r 18), .bool (f 18), I (w 19), I (r 19), .bool (f 19), I (w 20), I (r 20), .bool (f 20), I (w 21), I (r 21), .bool (f 21), I (w 22), I (r 22), .bool (f 22), I (w 23), I (r 23), .bool (f 23)]
def Kern.cells (k : Kern) : List AV := [I k.next, .sl (k.held.map Hd.av), I (k.want 0), I (k.run 0), .bool (k.fail 0), I (k.want 1), I (k.run 1), .bool (k.fail 1), I (k.want 2), I (k.run 2), .bool (k.fail 2), I (k.want 3), I (k.run 3), .bool (k.fail 3), I (k.want 4), I (k.run 4), .bool (k.fail 4), I (k.want 5), I (k.run 5), .bool (k.fail 5), I (k.want 6), I (k.run 6), .bool (k.fail 6), I (k.want 7), I (k.run 7), .bool (k.fail 7), I (k.want 8), I (k.run 8), .bool (k.fail 8), I (k.want 9), I (k.run 9), .bool (k.fail 9), I (k.want 10), I (k.run 10), .bool (k.fail 10), I (k.want 11), I (k.run 11), .bool (k.fail 11), I (k.want 12), I (k.run 12), .bool (k.fail 12), I (k.want 13), I (k.run 13), .bool (k.fail 13), I (k.want 14), I (k.run 14), .bool (k.fail 14), I (k.want 15), I (k.run 15), .bool (k.fail 15), I (k.want 16), I (k.run 16), .bool (k.fail 16), I (k.want 17), I (k.run 17), .bool (k.fail 17), I (k.want 18), I (k.run 18), .bool (k.fail 18), I (k.want 19), I (k.run 19), .bool (k.fail 19), I (k.want 20), I (k.run 20), .bool (k.fail 20), I (k.want 21), I (k.run 21), .bool (k.fail 21), I (k.want 22), I (k.run 22), .bool (k.fail 22), I (k.want 23), I (k.run 23), .bool (k.fail 23)]
abbrev Kern.av (k : Kern) : AV := .agg k.cells
abbrev zm0 (l : List Hd) : AV := .sl (l.map Hd.av)
@[simp] theorem zqN (l : List Hd) : AV.pureAll (l.map Hd.av) = true := zaV _ (fun x => by simp [AV.pure]) l
@[simp] theorem Kern.pure (k : Kern) : AV.pureAll k.cells = true := by simp [Kern.cells, AV.pureAll, AV.pure]
structure Mach where
 want : Int
 run : Int
 fail : Bool
 deriving DecidableEq
def Mach.cells (m : Mach) : List AV := [I m.want, I m.run, .bool m.fail]
abbrev Mach.av (m : Mach) : AV := .agg m.cells
@[simp] theorem Mach.pure (m : Mach) : AV.pureAll m.cells = true := by simp [Mach.cells, AV.pureAll, AV.pure]
def Kern.mach (k : Kern) (i : Nat) : Mach := ⟨k.want i, k.run i, k.fail i⟩
theorem zsA (w r : Nat → Int) (f : Nat → Bool) {i : Nat} (h : i < 24) (d : AV) : (zaz w r f).getD (i * 3) d = I (w i) := by
 match i, h with
 | 0, _ => rfl
 | 1, _ => rfl
 | 2, _ => rfl
 | 3, _ => rfl
 | 4, _ => rfl
 | 5, _ => rfl
 | 6, _ => rfl
 | 7, _ => rfl
 | 8, _ => rfl
 | 9, _ => rfl
 | 10, _ => rfl
 | 11, _ => rfl
 | 12, _ => rfl
 | 13, _ => rfl
 | 14, _ => rfl
 | 15, _ => rfl
 | 16, _ => rfl
 | 17, _ => rfl
 | 18, _ => rfl
 | 19, _ => rfl
 | 20, _ => rfl
 | 21, _ => rfl
 | 22, _ => rfl
 | 23, _ => rfl
 | n + 24, h => exact absurd h (by omega)
theorem zop (w r : Nat → Int) (f : Nat → Bool) {i : Nat} (h : i < 24) (d : AV) : (zaz w r f).getD (i * 3 + 2) d = .bool (f i) := by
 match i, h with
 | 0, _ => rfl
 | 1, _ => rfl
 | 2, _ => rfl
 | 3, _ => rfl
 | 4, _ => rfl
 | 5, _ => rfl
 | 6, _ => rfl
 | 7, _ => rfl
 | 8, _ => rfl
 | 9, _ => rfl
 | 10, _ => rfl
 | 11, _ => rfl
 | 12, _ => rfl
 | 13, _ => rfl
 | 14, _ => rfl
 | 15, _ => rfl
 | 16, _ => rfl
 | 17, _ => rfl
 | 18, _ => rfl
 | 19, _ => rfl
 | 20, _ => rfl
 | 21, _ => rfl
 | 22, _ => rfl
 | 23, _ => rfl
 | n + 24, h => exact absurd h (by omega)
def Kern.ok (k : Kern) : Prop := ∀ h ∈ k.held, 0 ≤ h.stage ∧ h.stage ≤ 255
def zck : TS := .agg [iT, iT, .bool]
def zoj : TS := .agg [iT, .sl true zp8, .agg [zck, zck, zck, zck, zck, zck, zck, zck, zck, zck, zck, zck, zck, zck, zck, zck, zck, zck, zck, zck, zck, zck, zck, zck]]
theorem zmu : ∀ (n : Nat) (vals : List AV), TS.fitsAll (List.replicate n zck) vals → ∃ ms : List Mach, ms.length = n ∧ vals = ms.flatMap Mach.cells
 | 0, vals, h => ⟨[], rfl, by rw [List.replicate_zero, zaT] at h; rw [h]; rfl⟩
 | n + 1, vals, h => by
  rw [List.replicate_succ, zck, zaR] at h
  simp only [iT, List.cons_append, List.nil_append, zaS, zgC] at h
  obtain ⟨w, q, rfl, _, r, q, rfl, _, f, q, rfl, h⟩ := h
  obtain ⟨ms, h1, rfl⟩ := zmu n q h
  exact ⟨⟨w, r, f⟩ :: ms, by simp [h1], rfl⟩
theorem zoq {ms : List Mach} (h : ms.length = 24) : ms.flatMap Mach.cells = zaz (fun i => (ms[i]?.map (·.want)).getD 0) (fun i => (ms[i]?.map (·.run)).getD 0) (fun i => (ms[i]?.map (·.fail)).getD false) := by
 match ms, h with
 | [m0, m1, m2, m3, m4, m5, m6, m7, m8, m9, m10, m11, m12, m13, m14, m15, m16, m17, m18, m19, m20, m21, m22, m23], _ => rfl
theorem zaC (k : Kern) : k.cells = I k.next :: zm0 k.held :: zaz k.want k.run k.fail := rfl
theorem zqf {cs : List AV} (h : zoj.fits cs) : ∃ x : Kern, AV.agg cs = x.av ∧ x.ok := by
 rw [zoj, zbN, iT, zaS] at h
 obtain ⟨n, q, rfl, _, h⟩ := h
 rw [zbE] at h
 obtain ⟨hs, q, rfl, hh, h⟩ := h
 rw [zaR, List.append_nil] at h
 obtain ⟨ms, h1, rfl⟩ := zmu 24 q h
 obtain ⟨hs, rfl, hq⟩ := zlY (g := Hd.av) (Q := fun h => 0 ≤ h.stage ∧ h.stage ≤ 255) (fun cs h => zp9 h) hs hh.2
 rw [zoq h1]
 exact ⟨⟨n, hs, fun i => (ms[i]?.map (·.want)).getD 0, fun i => (ms[i]?.map (·.run)).getD 0, fun i => (ms[i]?.map (·.fail)).getD false⟩, rfl, hq⟩
theorem zmn {x : AV} (h : zoj.fits x.cells) (h2 : zgO true x) : ∃ l : Kern, x = l.av ∧ l.ok := by
 obtain ⟨cs, rfl⟩ := h2.1 rfl
 exact zqf h
end Go.Lb.LK
namespace Go.Lb.LK
open Go Go.Lb Go.Proofs Go.RowKit
def zbn (a b : Hd) : Bool := !((zaI a).any fun s => decide (s ∈ zaI b)) && !zeN (zbi a) (zbi b)
theorem hh (a b : Hd) : AV.pureAll (a.cells ++ b.cells) = true := by simp [zac]
theorem zhd {a b : Hd} {s : Int} (h1 : s ∈ zaI a) (h2 : s ∈ zaI b) : zbn a b = false := by
 have : ((zaI a).any fun s => decide (s ∈ zaI b)) = true := List.any_eq_true.2 ⟨s, h1, by simpa using h2⟩
 simp [zbn, this]
theorem zka (a b : Hd) (ha : a.len) (hb : b.len) : C f_held_Apart [a.av, b.av] (.bool (zbn a b)) := by
 have hna := zcS a
 have hnb := zcS b
 have ha' := ha
 have hb' := hb
 obtain ⟨h1, h2, h3⟩ := ha
 obtain ⟨k1, k2, k3⟩ := hb
 refine ctr (a.cells ++ b.cells) run_held_Apart rfl (hh a b) rfl ?_ rfl
 unfold rt_held_Apart
 simp [Hd.cells]
 obtain ⟨g, hg⟩ : ∃ g : Nat, g = a.gone.toNat := ⟨_, rfl⟩
 refine zaa rfl (fun vs => ∃ i : Nat, i ≤ a.path.steps.length ∧ vs = [I i] ∧ zal (fun s => decide (s ∈ zaI b)) (((a.path.steps.map fun x => x.s).take i).drop g)) (fun vs => match vs with | [.int _ j] => a.path.steps.length - j.toNat | _ => 0) ⟨0, by omega, by simp, by simp [zal]⟩ ?_
 rintro vs - ⟨i, hi, rfl, hq⟩
 simp
 refine ⟨fun hlt => ?_, fun hge => ?_⟩
 ·have hw := zab (i := i) (by omega)
  simp [hlt, Step.cells, hw]
  refine ⟨fun hle => ?_, fun hle => ?_⟩
  ·have hgi : g ≤ i := by omega
   have htd := zdm (a.path.steps.map fun x => x.s) hgi (by simpa using hlt)
   refine call (zfT b hb' a.path.steps[i].s) (by simp [Hd.cells, hlt, Step.cells]) (by simp) ?_
   by_cases hm : a.path.steps[i].s ∈ zaI b
   ·have hma : a.path.steps[i].s ∈ zaI a := by
     unfold zaI
     refine List.mem_append_left _ (List.mem_map.2 ⟨a.path.steps[i], ?_, rfl⟩)
     rw [← hg]
     exact List.mem_drop_iff_getElem.2 ⟨i - g, by omega, by simp [show g + (i - g) = i by omega]⟩
    simp [hm, zhd hma hm]
   ·simp [hm, hw]
    refine ⟨⟨i + 1, by omega, by omega, ?_⟩, by omega⟩
    unfold zal at hq ⊢
    rw [htd, List.any_append, hq]
    simpa using hm
  ·refine ⟨⟨i + 1, by omega, by omega, ?_⟩, by omega⟩
   rw [List.drop_of_length_le (by simp; omega)]; simp [zal]
 ·have ht : (a.path.steps.map fun x => x.s).take i = a.path.steps.map fun x => x.s := List.take_of_length_le (by simp; omega)
  rw [ht] at hq
  refine zaa rfl (fun vs => ∃ k : Nat, k ≤ a.over.length ∧ vs = [I k] ∧ (a.opn = false → zal (fun s => decide (s ∈ zaI b)) ((a.over.map fun x => x.s).take k))) (fun vs => match vs with | [.int _ j] => a.over.length - j.toNat | _ => 0) ⟨0, by omega, by simp, fun _ => by simp [zal]⟩ ?_
  rintro vs - ⟨k, hk, rfl, hq2⟩
  simp
  refine ⟨fun hlt => ?_, fun hge => ?_⟩
  ·have hw := zab (i := k) (by omega)
   simp [hlt, Step.cells, hw]
   cases ho : a.opn
   ·simp
    refine call (zfT b hb' a.over[k].s) (by simp [Hd.cells, hlt, Step.cells, ho]) (by simp) ?_
    by_cases hm : a.over[k].s ∈ zaI b
    ·have hma : a.over[k].s ∈ zaI a := by
      unfold zaI
      refine List.mem_append_right _ ?_
      simp only [ho, Bool.false_eq_true, if_false]
      exact List.mem_map_of_mem (List.getElem_mem hlt)
     simp [hm, zhd hma hm]
    ·simp [hm, hw]
     refine ⟨⟨k + 1, by omega, by omega, ?_⟩, by omega⟩
     exact zah (q := fun s => decide (s ∈ zaI b)) (by simpa using hlt) (hq2 ho) (by simpa using hm)
   ·simp
    exact ⟨⟨k + 1, by omega, by omega⟩, by omega⟩
  ·have hov : (a.over.map fun x => x.s).take k = a.over.map fun x => x.s := List.take_of_length_le (by simp; omega)
   rw [hov] at hq2
   have hsa : zaI a = (a.path.steps.map fun x => x.s).drop g ++ if a.opn = true then [] else a.over.map fun x => x.s := by
    unfold zaI; rw [← hg, List.map_drop]
   have hnone : ((zaI a).any fun s => decide (s ∈ zaI b)) = false := by
    rw [hsa, List.any_append]
    unfold zal at hq hq2
    rw [hq]
    cases ho : a.opn
    ·simpa using hq2 ho
    ·simp
   refine call (zd5 a ha') (by simp [Hd.cells]) (by simp) ?_
   simp
   refine call (zd5 b hb') (by simp [Hd.cells]) (by simp) ?_
   simp
   refine call (zgs (zbi a) (zbi b) (by omega) (by omega)) (by simp) (by simp) ?_
   simp only [zbn, hnone]
   simp
theorem zil (a b : Hd) (ha : a.len) (hb : b.len) : C f_lockbarref17_Apart [a.av, b.av] (.bool (zbn a b)) := by
 have hna := zcS a
 have hnb := zcS b
 have hsl := zhU a
 have ha' := ha
 have hb' := hb
 obtain ⟨h1, h2, h3⟩ := ha
 obtain ⟨k1, k2, k3⟩ := hb
 refine ctr (a.cells ++ b.cells) run_lockbarref17_Apart rfl (hh a b) rfl ?_ rfl
 unfold rt_lockbarref17_Apart
 simp [Hd.cells]
 refine call (zfr a ha') (by simp [Hd.cells]) (by simp) ?_
 simp
 refine zaa rfl (fun vs => ∃ i : Nat, i ≤ (zaI a).length ∧ vs = [I i] ∧ zal (fun s => decide (s ∈ zaI b)) ((zaI a).take i)) (fun vs => match vs with | [.int _ j] => (zaI a).length - j.toNat | _ => 0) ⟨0, by omega, by simp, rfl⟩ ?_
 rintro vs - ⟨i, hi, rfl, hq⟩
 simp
 refine ⟨fun hlt => ?_, fun hge => ?_⟩
 ·have hw := zab (i := i) (by omega)
  simp [hlt]
  refine call (zmc b hb' (zaI a)[i]) (by simp [Hd.cells, hlt]) (by simp) ?_
  by_cases hm : (zaI a)[i] ∈ zaI b
  ·simp [hm, zhd (List.getElem_mem hlt) hm]
  ·simp [hm, hw]
   exact ⟨⟨i + 1, by omega, by omega, zah hlt hq (by simpa using hm)⟩, by omega⟩
 ·have ht : (zaI a).take i = zaI a := List.take_of_length_le (by omega)
  rw [ht] at hq
  unfold zal at hq
  refine call (zfY a ha') (by simp [Hd.cells]) (by simp) ?_
  simp
  refine call (zfY b hb') (by simp [Hd.cells]) (by simp) ?_
  simp
  refine call (zin (zbi a) (zbi b) (by omega) (by omega)) (by simp) (by simp) ?_
  simp only [zbn, hq]
  simp
def zdC (m : Mach) : Bool := (decide (m.want = 0 ∨ m.want = 1) && decide (0 ≤ m.run ∧ m.run ≤ 1000)) || decide (m = ⟨-1, 0, false⟩)
theorem zph {a b : Mach} : a = b ↔ a.want = b.want ∧ a.run = b.run ∧ a.fail = b.fail := by
 cases a; cases b; simp
theorem zdQ (n : Int) : C f_point_position [I n] (.bool (decide (n = 0 ∨ n = 1))) := by
 refine ctr [I n] run_point_position rfl rfl rfl ?_ rfl
 unfold rt_point_position
 simp
 by_cases h1 : n = 0 <;> by_cases h2 : n = 1 <;> simp [h1, h2]
theorem zbX : C f_point_Rest [] (Mach.av ⟨-1, 0, false⟩) := by
 refine ctr [] run_point_Rest rfl rfl rfl ?_ rfl
 unfold rt_point_Rest
 simp [Mach.cells]
theorem zd7 : C f_lockbarref16_Rest [] (Mach.av ⟨-1, 0, false⟩) := by
 refine ctr [] run_lockbarref16_Rest rfl rfl rfl ?_ rfl
 unfold rt_lockbarref16_Rest
 simp [Mach.cells]
theorem zmt (a b c d : Int) (e f : Bool) : AV.eqs [I a, I b, .bool e] [I c, I d, .bool f] = decide ((⟨a, b, e⟩ : Mach) = ⟨c, d, f⟩) := by
 by_cases h1 : a = c <;> by_cases h2 : b = d <;> cases e <;> cases f <;> simp [AV.eqs, AV.eq1, h1, h2]
theorem zfq (m : Mach) : C f_point_Right [m.av] (.bool (zdC m)) := by
 refine ctr m.cells run_point_Right rfl (by simp) rfl ?_ rfl
 unfold rt_point_Right
 obtain ⟨w, r, f⟩ := m
 simp [Mach.cells]
 refine call (zdQ w) (by simp) (by simp) ?_
 simp
 refine zaj (avs := []) (Mach.av ⟨-1, 0, false⟩) rfl (fun _ => ⟨rfl, zbX⟩) (fun _ => rfl) ?_
 simp [Mach.cells, zmt, zdC]
 by_cases h1 : w = 0 <;> by_cases h2 : w = 1 <;> by_cases h3 : w = -1 <;> by_cases h4 : r = 0 <;> cases f <;> simp [h1, h2, h3, h4, Bool.and_assoc]
theorem zik (m : Mach) : C f_lockbarref16_Right [m.av] (.bool (zdC m)) := by
 refine ctr m.cells run_lockbarref16_Right rfl (by simp) rfl ?_ rfl
 unfold rt_lockbarref16_Right
 obtain ⟨w, r, f⟩ := m
 simp [Mach.cells]
 refine ⟨fun hb => ?_, fun h1 h2 h3 h4 => ?_⟩
 ·have e1 : ¬ (w = 0 ∨ w = 1) ∨ ¬ (0 ≤ r ∧ r ≤ 1000) := by omega
  have e2 : (⟨w, r, f⟩ : Mach) ≠ ⟨-1, 0, false⟩ := by
   intro h; rw [zph] at h; simp at h; omega
  simp only [zdC, e2, decide_false, Bool.or_false]
  rcases e1 with e1 | e1 <;> simp [e1]
 ·refine zaj (avs := []) (Mach.av ⟨-1, 0, false⟩) rfl (fun _ => ⟨rfl, zd7⟩) (fun _ => rfl) ?_
  have hw : w = -1 ∨ w = 0 ∨ w = 1 := by omega
  rcases hw with rfl | rfl | rfl <;> simp [Mach.cells, zmt, zdC, h3, h4] <;> rfl
end Go.Lb.LK
namespace Go.Lb.LK
open Go Go.Lb Go.Proofs Go.RowKit
def Kern.len (k : Kern) : Prop := k.held.length ≤ 1048576 ∧ ∀ h ∈ k.held, h.len
theorem ks (k : Kern) (s : Int) : AV.pureAll (k.cells ++ [I s]) = true := by simp [zac, AV.pureAll, AV.pure]
theorem Kern.at (k : Kern) (hl : k.len) {i : Nat} (h : i < k.held.length) : k.held[i].len := hl.2 _ (List.getElem_mem h)
def zc1 (k : Kern) (s : Int) : Option Int := (k.held.find? fun h => decide (s ∈ zaI h)).map (·.id)
theorem zi3 (k : Kern) (hl : k.len) (s : Int) : C f_free_Holder [k.av, I s] (optP (zc1 k s)) := by
 have h1 := hl.1
 refine ctr (k.cells ++ [I s]) run_free_Holder rfl (ks k s) rfl ?_ rfl
 unfold rt_free_Holder
 simp [Kern.cells]
 refine zaa rfl (fun vs => ∃ i : Nat, i ≤ k.held.length ∧ vs = [I i] ∧ zal (fun h => decide (s ∈ zaI h)) (k.held.take i)) (fun vs => match vs with | [.int _ j] => k.held.length - j.toNat | _ => 0) ⟨0, by omega, by simp, rfl⟩ ?_
 rintro vs - ⟨i, hi, rfl, hq⟩
 simp
 refine ⟨fun hlt => ?_, fun hge => ?_⟩
 ·have hw := zab (i := i) (by omega)
  simp [hlt, Hd.cells]
  refine call (zfT k.held[i] (k.at hl hlt) s) (by simp [hlt, Hd.cells]) (by simp) ?_
  by_cases hm : s ∈ zaI k.held[i]
  ·simp [hm, hlt, Hd.cells, zc1, zbM hlt hq (by simpa using hm), optP]
  ·simp [hm, hw]
   exact ⟨⟨i + 1, by omega, by omega, zah hlt hq (by simpa using hm)⟩, by omega⟩
 ·have : k.held.take i = k.held := List.take_of_length_le (by omega)
  rw [this] at hq
  simp [zc1, zee hq, optP]
theorem zlv (k : Kern) (hl : k.len) (s : Int) : C f_lockbarref18_Holder [k.av, I s] (optP (zc1 k s)) := by
 have h1 := hl.1
 refine ctr (k.cells ++ [I s]) run_lockbarref18_Holder rfl (ks k s) rfl ?_ rfl
 unfold rt_lockbarref18_Holder
 simp [Kern.cells]
 refine zaa rfl (fun vs => ∃ i : Nat, i ≤ k.held.length ∧ vs = [I i] ∧ zal (fun h => decide (s ∈ zaI h)) (k.held.take i)) (fun vs => match vs with | [.int _ j] => k.held.length - j.toNat | _ => 0) ⟨0, by omega, by simp, rfl⟩ ?_
 rintro vs - ⟨i, hi, rfl, hq⟩
 simp
 refine ⟨fun hlt => ?_, fun hge => ?_⟩
 ·have hw := zab (i := i) (by omega)
  simp [hlt, Hd.cells]
  refine call (zmc k.held[i] (k.at hl hlt) s) (by simp [hlt, Hd.cells]) (by simp) ?_
  by_cases hm : s ∈ zaI k.held[i]
  ·simp [hm, hlt, Hd.cells, zc1, zbM hlt hq (by simpa using hm), optP]
  ·simp [hm, hw]
   exact ⟨⟨i + 1, by omega, by omega, zah hlt hq (by simpa using hm)⟩, by omega⟩
 ·have : k.held.take i = k.held := List.take_of_length_le (by omega)
  rw [this] at hq
  simp [zc1, zee hq, optP]
def zdn (k : Kern) (p : Int) : Option Int := k.held.findSome? fun h => zcF h p
theorem zpD {α β : Type} {q : α → Option β} {l : List α} {i : Nat} {b : β} (hi : i < l.length) (h : zal (fun x => (q x).isSome) (l.take i)) (hq : q l[i] = some b) : l.findSome? q = some b := by
 have e : l.findSome? q = (l.take i ++ l.drop i).findSome? q := by rw [List.take_append_drop]
 rw [e, List.findSome?_append]
 have h1 : (l.take i).findSome? q = none := by
  rw [List.findSome?_eq_none_iff]
  intro x hx
  have := List.any_eq_false.1 h x hx
  simpa using this
 rw [h1, List.drop_eq_getElem_cons hi, List.findSome?_cons, hq]
 rfl
theorem zn9 {α β : Type} {q : α → Option β} {l : List α} (h : zal (fun x => (q x).isSome) l) : l.findSome? q = none := by
 rw [List.findSome?_eq_none_iff]
 intro x hx
 have := List.any_eq_false.1 h x hx
 simpa using this
theorem zi5 (k : Kern) (hl : k.len) (p : Int) : C f_free_Wanted [k.av, I p] (optP (zdn k p)) := by
 have h1 := hl.1
 refine ctr (k.cells ++ [I p]) run_free_Wanted rfl (ks k p) rfl ?_ rfl
 unfold rt_free_Wanted
 simp [Kern.cells]
 refine zaa rfl (fun vs => ∃ i : Nat, i ≤ k.held.length ∧ vs = [I i] ∧ zal (fun h => (zcF h p).isSome) (k.held.take i)) (fun vs => match vs with | [.int _ j] => k.held.length - j.toNat | _ => 0) ⟨0, by omega, by simp, rfl⟩ ?_
 rintro vs - ⟨i, hi, rfl, hq⟩
 simp
 refine ⟨fun hlt => ?_, fun hge => ?_⟩
 ·have hw := zab (i := i) (by omega)
  simp [hlt, Hd.cells]
  refine call (zgr k.held[i] (k.at hl hlt) p) (by simp [hlt, Hd.cells]) (by simp [optP]) ?_
  cases hm : zcF k.held[i] p with
  | some b => simp [optP, zdn, zpD hlt hq hm]
  | none =>
   simp [optP, hw]
   exact ⟨⟨i + 1, by omega, by omega, zah hlt hq (by simp [hm])⟩, by omega⟩
 ·have : k.held.take i = k.held := List.take_of_length_le (by omega)
  rw [this] at hq
  simp [zdn, zn9 hq, optP]
theorem zlx (k : Kern) (hl : k.len) (p : Int) : C f_lockbarref18_Wanted [k.av, I p] (optP (zdn k p)) := by
 have h1 := hl.1
 refine ctr (k.cells ++ [I p]) run_lockbarref18_Wanted rfl (ks k p) rfl ?_ rfl
 unfold rt_lockbarref18_Wanted
 simp [Kern.cells]
 refine zaa rfl (fun vs => ∃ i : Nat, i ≤ k.held.length ∧ vs = [I i] ∧ zal (fun h => (zcF h p).isSome) (k.held.take i)) (fun vs => match vs with | [.int _ j] => k.held.length - j.toNat | _ => 0) ⟨0, by omega, by simp, rfl⟩ ?_
 rintro vs - ⟨i, hi, rfl, hq⟩
 simp
 refine ⟨fun hlt => ?_, fun hge => ?_⟩
 ·have hw := zab (i := i) (by omega)
  simp [hlt, Hd.cells]
  refine call (zim k.held[i] (k.at hl hlt) p) (by simp [hlt, Hd.cells]) (by simp [optP]) ?_
  cases hm : zcF k.held[i] p with
  | some b => simp [optP, zdn, zpD hlt hq hm]
  | none =>
   simp [optP, hw]
   exact ⟨⟨i + 1, by omega, by omega, zah hlt hq (by simp [hm])⟩, by omega⟩
 ·have : k.held.take i = k.held := List.take_of_length_le (by omega)
  rw [this] at hq
  simp [zdn, zn9 hq, optP]
def zcu (k : Kern) (p : Int) : Bool := k.held.any fun h => (zcF h p).isSome && !decide (h.stage = 1)
theorem zi4 (k : Kern) (hl : k.len) (p : Int) : C f_free_Locked [k.av, I p] (.bool (zcu k p)) := by
 have h1 := hl.1
 refine ctr (k.cells ++ [I p]) run_free_Locked rfl (ks k p) rfl ?_ rfl
 unfold rt_free_Locked
 simp [Kern.cells]
 refine zaa rfl (fun vs => ∃ i : Nat, i ≤ k.held.length ∧ vs = [I i] ∧ zal (fun h => (zcF h p).isSome && !decide (h.stage = 1)) (k.held.take i)) (fun vs => match vs with | [.int _ j] => k.held.length - j.toNat | _ => 0) ⟨0, by omega, by simp, rfl⟩ ?_
 rintro vs - ⟨i, hi, rfl, hq⟩
 simp
 refine ⟨fun hlt => ?_, fun hge => ?_⟩
 ·have hw := zab (i := i) (by omega)
  simp [hlt, Hd.cells]
  refine call (zgr k.held[i] (k.at hl hlt) p) (by simp [hlt, Hd.cells]) (by simp [optP]) ?_
  cases hm : zcF k.held[i] p with
  | some b =>
   by_cases hs : k.held[i].stage = 1
   ·simp [optP, hlt, Hd.cells, hs, hw]
    exact ⟨⟨i + 1, by omega, by omega, zah hlt hq (by simp [hs])⟩, by omega⟩
   ·have : zcu k p = true := zbj hlt (by simp [hm, hs])
    simp [optP, hlt, Hd.cells, hs, this]
  | none =>
   simp [optP, hlt, Hd.cells, hw]
   exact ⟨⟨i + 1, by omega, by omega, zah hlt hq (by simp [hm])⟩, by omega⟩
 ·have : k.held.take i = k.held := List.take_of_length_le (by omega)
  rw [this] at hq
  have : zcu k p = false := hq
  simp [this]
theorem zlw (k : Kern) (hl : k.len) (p : Int) : C f_lockbarref18_Locked [k.av, I p] (.bool (zcu k p)) := by
 have h1 := hl.1
 refine ctr (k.cells ++ [I p]) run_lockbarref18_Locked rfl (ks k p) rfl ?_ rfl
 unfold rt_lockbarref18_Locked
 simp [Kern.cells]
 refine zaa rfl (fun vs => ∃ i : Nat, i ≤ k.held.length ∧ vs = [I i] ∧ zal (fun h => (zcF h p).isSome && !decide (h.stage = 1)) (k.held.take i)) (fun vs => match vs with | [.int _ j] => k.held.length - j.toNat | _ => 0) ⟨0, by omega, by simp, rfl⟩ ?_
 rintro vs - ⟨i, hi, rfl, hq⟩
 simp
 refine ⟨fun hlt => ?_, fun hge => ?_⟩
 ·have hw := zab (i := i) (by omega)
  simp [hlt, Hd.cells]
  refine call (zim k.held[i] (k.at hl hlt) p) (by simp [hlt, Hd.cells]) (by simp [optP]) ?_
  cases hm : zcF k.held[i] p with
  | some b =>
   by_cases hs : k.held[i].stage = 1
   ·simp [optP, hlt, Hd.cells, hs, hw]
    exact ⟨⟨i + 1, by omega, by omega, zah hlt hq (by simp [hs])⟩, by omega⟩
   ·have : zcu k p = true := zbj hlt (by simp [hm, hs])
    simp [optP, hlt, Hd.cells, hs, this]
  | none =>
   simp [optP, hlt, Hd.cells, hw]
   exact ⟨⟨i + 1, by omega, by omega, zah hlt hq (by simp [hm])⟩, by omega⟩
 ·have : k.held.take i = k.held := List.take_of_length_le (by omega)
  rw [this] at hq
  have : zcu k p = false := hq
  simp [this]
end Go.Lb.LK
namespace Go.Lb.LK
open Go Go.Lb Go.Proofs Go.RowKit
theorem Hd.one (h : Hd) : h.cells.length = 23 ∧ AV.ones h.cells = true := by simp [Hd.cells]
theorem zpt (l : List Hd) {i : Nat} (h : i < l.length) : (l.map Hd.av).set i l[i].av = l.map Hd.av := by
 have : (l.map Hd.av)[i]'(by simpa using h) = l[i].av := by simp
 rw [← this, List.set_getElem_self]
end Go.Lb.LK
namespace Go.Lb.LK
open Go Go.Lb Go.Proofs Go.RowKit
theorem zhQ {h : Hd} (hr : zbf h = true) : h.g1 ∧ h.g2 ∧ zeN h.needs h.needs = false ∧ h.wasOk = true ∧ h.secs.Nodup ∧ h.needs.all (zdR h.path.steps.length) = true := by
 simp only [zbf, Bool.and_eq_true, decide_eq_true_eq, Bool.not_eq_true'] at hr
 exact ⟨hr.1, hr.2.1, hr.2.2.1, hr.2.2.2.1, hr.2.2.2.2.1, hr.2.2.2.2.2⟩
theorem zpA (h : Hd) (k : Nat) (hk : k < 12) : (h.cells[k * 1 + 8]?).getD .undef = .bool (h.was k) := by
 rw [Nat.mul_one, ← List.getD_eq_getElem?_getD]; exact zqG h hk _
theorem zkN {l : List Int} {i j : Nat} (hij : i < j) (hj : j < l.length) (he : l[i] = l[j]) : ¬ l.Nodup := by
 intro hn
 have := List.pairwise_iff_getElem.1 hn i j (by omega) hj hij
 exact this he
theorem zm7 {l : List Int} {k : Nat} (hk : k < l.length) (hn : (l.take k).Nodup) (hi : ∀ i, (h : i < k) → l[i] ≠ l[k]) : (l.take (k + 1)).Nodup := by
 rw [List.take_add_one, List.getElem?_eq_getElem hk]
 simp only [Option.toList_some]
 rw [List.nodup_append]
 refine ⟨hn, by simp, ?_⟩
 intro a ha b hb
 simp at hb; subst hb
 obtain ⟨i, hi2, rfl⟩ := List.mem_iff_getElem.1 ha
 rw [List.length_take] at hi2
 rw [List.getElem_take]
 exact hi i (by omega)
theorem zmQ (h : Hd) (hl : h.len) (hs : 0 ≤ h.stage ∧ h.stage ≤ 255) : C f_lockbarref17_Right [h.av] (.bool (zbf h)) := by
 obtain ⟨l1, l2, l3⟩ := hl
 refine ctr h.cells run_lockbarref17_Right rfl (by simp) rfl ?_ rfl
 unfold rt_lockbarref17_Right
 simp [Hd.cells]
 refine zaj (avs := [needs h.needs, needs h.needs]) (.bool (zeN h.needs h.needs)) rfl (fun _ => ⟨by simp, zin _ _ (by omega) (by omega)⟩) (by simp) ?_
 by_cases g1 : h.g1 ∧ h.g2
 ·have g1' := g1.1
  have g2' := g1.2
  obtain ⟨⟨a1, a2, a3, a4, a5, a6, a7⟩, d1, d2, d3, d4⟩ := g1
  have b1 : ¬ h.id < 1 := by omega
  have b2 : ¬ 1073741824 < h.id := by omega
  have b2' : ¬ 1073741824 < h.timer := by omega
  have b3 : ¬ h.timer < 0 := by omega
  have b4 : ¬ ((h.path.steps.length : Int) < 1) := by omega
  have b5 : ¬ (12 < (h.path.steps.length : Int)) := by omega
  have b6 : ¬ (2 < (h.over.length : Int)) := by omega
  have e1 : ¬ h.stage < 1 := by omega
  have e2 : ¬ 5 ≤ h.stage := by omega
  have e3 : ¬ h.gone < 0 := by omega
  have e4 : ¬ (h.path.steps.length : Int) < h.gone := by omega
  simp [b1, b2, b2', b3, b4, b5, b6, e1, e2, e3, e4]
  refine ⟨fun hc => by simp [zbf, hc], fun hc => ⟨fun a _ => by simp [Step.cells], by omega, fun a _ => by simp [Step.cells], by omega, ?_⟩⟩
  have hsecs : h.secs = (h.path.steps ++ h.over).map (·.s) := rfl
  have hlen : (h.path.steps ++ h.over).length = h.path.steps.length + h.over.length := by simp
  generalize hall : h.path.steps ++ h.over = all at hsecs hlen
  have hmap : List.map Step.av h.path.steps ++ List.map Step.av h.over = all.map Step.av := by rw [← hall, List.map_append]
  refine zaa rfl (fun vs => ∃ k : Nat, k ≤ all.length ∧ vs = [I k] ∧ ((all.map (·.s)).take k).Nodup) (fun vs => match vs with | [.int _ j] => all.length - j.toNat | _ => 0) ⟨0, by simp, by simp, by simp⟩ ?_
  rintro vs - ⟨k, hk, rfl, hnd⟩
  simp [hmap, ← hlen]
  refine ⟨fun hlt => ?_, fun hge => ?_⟩
  ·have hltm : k < (all.map (·.s)).length := by simpa using hlt
   refine zaa rfl (fun vs => ∃ j : Nat, j ≤ k ∧ vs = [I j] ∧ ∀ i, i < j → ∀ x, all[i]? = some x → ¬ x.s = all[k].s) (fun vs => match vs with | [.int _ j] => k - j.toNat | _ => 0) ⟨0, by simp, by simp, by simp⟩ ?_
   rintro vs - ⟨j, hj, rfl, hne⟩
   simp [hmap]
   refine ⟨fun hjk => ?_, fun hjk => ?_⟩
   ·have hja : j < all.length := by omega
    have hwr := zab (i := j) (by omega)
    simp [hlt, hja, Step.cells, hwr]
    refine ⟨by omega, by omega, ?_⟩
    by_cases he : all[j].s = all[k].s
    ·right
     refine ⟨he, ?_⟩
     have : ¬ h.secs.Nodup := by
      rw [hsecs]
      exact zkN (i := j) (j := k) (by omega) (by simpa using hlt) (by simpa using he)
     simp [zbf, this]
    ·left
     refine ⟨he, ⟨j + 1, by omega, by omega, fun i hi x hx => ?_⟩, by omega⟩
     by_cases hij : i = j
     ·subst hij
      rw [List.getElem?_eq_getElem hja] at hx
      cases hx; exact he
     ·exact hne i (by omega) x hx
   ·have hwr := zab (i := k) (by omega)
    have hjk2 : j = k := by omega
    subst hjk2
    simp [hwr]
    refine ⟨⟨j + 1, by omega, by omega, ?_⟩, by omega⟩
    have := zm7 hltm hnd (fun i hi he => hne i hi all[i] (List.getElem?_eq_getElem (by omega)) (by simpa using he))
    simpa using this
  ·have hta : (all.map (·.s)).take k = all.map (·.s) := List.take_of_length_le (by simp; omega)
   rw [hta] at hnd
   have hno : h.secs.Nodup := by rw [hsecs]; exact hnd
   refine zaa rfl (fun vs => ∃ k : Nat, h.path.steps.length ≤ k ∧ k ≤ 12 ∧ vs = [I k] ∧ ∀ m, h.path.steps.length ≤ m → m < k → h.was m = false) (fun vs => match vs with | [.int _ j] => 12 - j.toNat | _ => 0) ⟨h.path.steps.length, by simp, by omega, by simp, fun m h1 h2 => by omega⟩ ?_
   rintro vs - ⟨m, hm1, hm2, rfl, hwm⟩
   simp
   refine ⟨fun hlt => ?_, fun hge => ?_⟩
   ·have hlt2 : m < 12 := by omega
    have hwr := zab (i := m) (by omega)
    have hc2 := zpA h m hlt2
    simp only [Hd.cells] at hc2
    simp at hc2
    simp [hc2, hwr]
    refine ⟨by omega, by omega, ?_⟩
    cases hw : h.was m
    ·left
     refine ⟨rfl, ⟨m + 1, by omega, by omega, by omega, fun i h1 h2 => ?_⟩, by omega⟩
     by_cases him : i = m
     ·subst him; exact hw
     ·exact hwm i h1 (by omega)
    ·right
     refine ⟨rfl, ?_⟩
     have : h.wasOk = false := by
      unfold Hd.wasOk
      rw [List.all_eq_false]
      refine ⟨m, by simpa using hlt2, ?_⟩
      simp [hw]; omega
     simp [zbf, this]
   ·have hwo : h.wasOk = true := by
     unfold Hd.wasOk
     rw [List.all_eq_true]
     intro i hi
     simp only [List.mem_range] at hi
     by_cases hin : i < h.path.steps.length
     ·simp [hin]
     ·rw [hwm i (by omega) (by omega)]; simp
    have hr : zbf h = h.needs.all (zdR h.path.steps.length) := by simp [zbf, g1', g2', hc, hwo, hno]
    rw [hr]
    refine zaa rfl (fun vs => ∃ i : Nat, i ≤ h.needs.length ∧ vs = [I i] ∧ zal (fun x => !zdR h.path.steps.length x) (h.needs.take i)) (fun vs => match vs with | [.int _ j] => h.needs.length - j.toNat | _ => 0) ⟨0, by simp, by simp, rfl⟩ ?_
    rintro vs - ⟨i, hi, rfl, hq⟩
    simp
    refine ⟨fun hlt => ?_, fun hge => ?_⟩
    ·have hwr := zab (i := i) (by omega)
     simp [hlt, Need.cells, hwr]
     cases hok : zdR h.path.steps.length h.needs[i]
     ·right
      refine ⟨?_, h.needs[i], List.getElem_mem hlt, hok⟩
      simp only [zdR, decide_eq_false_iff_not] at hok
      omega
     ·left
      have hok2 := hok
      simp only [zdR, decide_eq_true_eq] at hok2
      exact ⟨by omega, ⟨i + 1, by omega, by omega, zah hlt hq (by simp [hok])⟩, by omega⟩
    ·have : h.needs.take i = h.needs := List.take_of_length_le (by omega)
     rw [this] at hq
     unfold zal at hq
     simp at hq
     exact fun x hx => hq x hx
 ·have hr : zbf h = false := by
   simp only [zbf]
   by_cases hg : h.g1
   ·have : ¬ h.g2 := fun h2 => g1 ⟨hg, h2⟩
    simp [this]
   ·simp [hg]
  rw [hr]
  simp
  intro q1 q2 q3 q4 q5 q6 q7 q8 q9 q10 q11 q12
  exfalso
  apply g1
  unfold Hd.g1 Hd.g2
  omega
end Go.Lb.LK
namespace Go.Lb.LK
open Go Go.Lb Go.Proofs Go.RowKit
def zdA (k : Kern) (i : Nat) : Int := if i = 0 then 0 else (k.held[i - 1]?.map (·.id)).getD 0
def okAt (k : Kern) (i : Nat) : Bool := match k.held[i]? with
 | some h => zbf h && (decide (h.id < k.next) && (decide (zdA k i < h.id) && (k.held.take i).all (zbn h)))
 | none => true
def zgd (k : Kern) : Bool := (List.range 24).all fun i => zdC (k.mach i)
def zaO (k : Kern) : Bool := decide (k.held.length ≤ 6 ∧ 1 ≤ k.next ∧ k.next ≤ 1073741824) && ((List.range k.held.length).all (okAt k) && zgd k)
theorem zlM {k : Kern} {i : Nat} (h : i < k.held.length) : okAt k i = (zbf k.held[i] && (decide (k.held[i].id < k.next) && (decide (zdA k i < k.held[i].id) && (k.held.take i).all (zbn k.held[i])))) := by
 simp only [okAt, List.getElem?_eq_getElem h]
theorem zcT {k : Kern} {i : Nat} (h : i < k.held.length) (hb : okAt k i = false) : zaO k = false := by
 have : (List.range k.held.length).all (okAt k) = false := by
  rw [List.all_eq_false]
  exact ⟨i, List.mem_range.2 h, by rw [hb]; simp⟩
 simp [zaO, this]
theorem zhC {k : Kern} {i : Nat} (h : i < k.held.length) : zdA k (i + 1) = k.held[i].id := by
 simp [zdA, List.getElem?_eq_getElem h]
theorem aidxM (k : Kern) {i : Nat} {z : Int} (hz : z = i) (h : i < 24) : pv (.aidx 24 3 0 3 true) [.agg (zaz k.want k.run k.fail), I z] = (k.mach i).av := by
 subst hz
 match i, h with
 | 0, _ => rfl
 | 1, _ => rfl
 | 2, _ => rfl
 | 3, _ => rfl
 | 4, _ => rfl
 | 5, _ => rfl
 | 6, _ => rfl
 | 7, _ => rfl
 | 8, _ => rfl
 | 9, _ => rfl
 | 10, _ => rfl
 | 11, _ => rfl
 | 12, _ => rfl
 | 13, _ => rfl
 | 14, _ => rfl
 | 15, _ => rfl
 | 16, _ => rfl
 | 17, _ => rfl
 | 18, _ => rfl
 | 19, _ => rfl
 | 20, _ => rfl
 | 21, _ => rfl
 | 22, _ => rfl
 | 23, _ => rfl
 | n + 24, h => exact absurd h (by omega)
theorem aidxK (k : Kern) {i : Nat} {z : Int} (hz : z = i) (h : i < 24) : pv (.aidx 24 3 2 3 true) [.agg k.cells, I z] = (k.mach i).av := by
 subst hz
 match i, h with
 | 0, _ => rfl
 | 1, _ => rfl
 | 2, _ => rfl
 | 3, _ => rfl
 | 4, _ => rfl
 | 5, _ => rfl
 | 6, _ => rfl
 | 7, _ => rfl
 | 8, _ => rfl
 | 9, _ => rfl
 | 10, _ => rfl
 | 11, _ => rfl
 | 12, _ => rfl
 | 13, _ => rfl
 | 14, _ => rfl
 | 15, _ => rfl
 | 16, _ => rfl
 | 17, _ => rfl
 | 18, _ => rfl
 | 19, _ => rfl
 | 20, _ => rfl
 | 21, _ => rfl
 | 22, _ => rfl
 | 23, _ => rfl
 | n + 24, h => exact absurd h (by omega)
theorem zaB {q : Nat → Bool} {n i : Nat} (h : i < n) (hb : q i = false) : (List.range n).all q = false := by
 rw [List.all_eq_false]
 exact ⟨i, List.mem_range.2 h, by rw [hb]; simp⟩
theorem zaA {q : Nat → Bool} {n : Nat} (h : ∀ i, i < n → q i = true) : (List.range n).all q = true := by
 rw [List.all_eq_true]
 exact fun i hi => h i (List.mem_range.1 hi)
set_option maxHeartbeats 2000000 in
theorem zmS (k : Kern) (hl : k.len) (hk : k.ok) : C f_lockbarref18_Right [k.av] (.bool (zaO k)) := by
 have h1 := hl.1
 refine ctr k.cells run_lockbarref18_Right rfl (by simp) rfl ?_ rfl
 unfold rt_lockbarref18_Right
 simp [Kern.cells, -zaf]
 refine ⟨fun hb => ?_, fun a1 a2 a3 => ?_⟩
 ·have hg : ¬ (k.held.length ≤ 6 ∧ 1 ≤ k.next ∧ k.next ≤ 1073741824) := by omega
  simp only [zaO]; rw [decide_eq_false hg]; rfl
 ·have hg : k.held.length ≤ 6 ∧ 1 ≤ k.next ∧ k.next ≤ 1073741824 := by omega
  refine zaa rfl (fun vs => ∃ i : Nat, i ≤ k.held.length ∧ vs = [I i] ∧ ∀ j, j < i → okAt k j = true) (fun vs => match vs with | [.int _ j] => k.held.length - j.toNat | _ => 0) ⟨0, by omega, by simp, fun j hj => by omega⟩ ?_
  rintro vs - ⟨i, hi, rfl, hq⟩
  simp [-zaf]
  refine ⟨fun hlt => ?_, fun hge => ?_⟩
  ·have hw := zab (i := i) (by omega)
   have hok := zlM hlt
   simp [hlt, Hd.cells, -zaf]
   refine call (zmQ k.held[i] (k.at hl hlt) (hk _ (List.getElem_mem hlt))) (by simp [hlt, Hd.cells]) (by simp) ?_
   by_cases hi0 : 0 < i
   ·have hw0 : IntKind.i64.wrap ((i : Int) - 1) = (i : Int) - 1 := by rw [zbB] <;> omega
    have hlast : zdA k i = k.held[i - 1].id := by
     simp [zdA, show ¬ i = 0 by omega, List.getElem?_eq_getElem (show i - 1 < k.held.length by omega)]
    have hi1 : ((i : Int) - 1).toNat = i - 1 := by omega
    simp [hlt, hi0, hw0, hi1, Hd.cells, show i - 1 < k.held.length by omega, -zaf]
    refine And.intro (by intros; omega) ?_
    refine ⟨fun hb => ?_, fun hr hn hli => ?_⟩
    ·refine zcT hlt ?_
     rw [hok, hlast]
     rcases hb with (hb | hb) | hb
     ·simp [hb]
     ·simp [show ¬ k.held[i].id < k.next by omega]
     ·simp [show ¬ k.held[i - 1].id < k.held[i].id by omega]
    ·rw [← hlast] at hli
     refine zaa rfl (fun vs => ∃ j : Nat, j ≤ i ∧ vs = [I j] ∧ zal (fun o => !zbn k.held[i] o) (k.held.take j)) (fun vs => match vs with | [.int _ j] => i - j.toNat | _ => 0) ⟨0, by omega, by simp, rfl⟩ ?_
     rintro vs - ⟨j, hj, rfl, hp⟩
     simp [-zaf]
     refine ⟨fun hlt2 => ?_, fun hge2 => ?_⟩
     ·have hj2 : j < k.held.length := by omega
      have hwj := zab (i := j) (by omega)
      simp [hlt, hj2, Hd.cells, -zaf]
      refine call (zil k.held[i] k.held[j] (k.at hl hlt) (k.at hl hj2)) (by simp [hlt, hj2, Hd.cells]) (by simp) ?_
      cases ha : zbn k.held[i] k.held[j]
      ·have hb : zaO k = false := by
        refine zcT hlt ?_
        rw [hok]
        have : (k.held.take i).all (zbn k.held[i]) = false := by
         rw [List.all_eq_false]
         exact ⟨k.held[j], List.mem_take_iff_getElem.2 ⟨j, by omega, rfl⟩, by rw [ha]; simp⟩
        rw [this]; simp
       simp [hb, -zaf]
      ·simp [hwj, -zaf]
       exact ⟨⟨j + 1, by omega, by omega, zah hj2 hp (by simp [ha])⟩, by omega⟩
     ·have hji : j = i := by omega
      subst hji
      have hall : (k.held.take j).all (zbn k.held[j]) = true := by
       rw [List.all_eq_true]
       intro x hx
       have := List.any_eq_false.1 hp x hx
       simpa using this
      have hokj : okAt k j = true := by rw [hok, hr, hall, decide_eq_true hn, decide_eq_true hli]; rfl
      simp [hlt, hw, Hd.cells, -zaf]
      refine ⟨⟨j + 1, by omega, by omega, fun m hm => ?_⟩, by omega⟩
      by_cases hmj : m = j
      ·subst hmj; exact hokj
      ·exact hq m (by omega)
   ·have hi0' : i = 0 := by omega
    have hlast : zdA k i = 0 := by simp [zdA, hi0']
    simp [hlt, hi0, Hd.cells, -zaf]
    refine ⟨fun hb => ?_, fun hr hn => ?_⟩
    ·refine zcT hlt ?_
     rw [hok]
     rcases hb with hb | hb
     ·simp [hb]
     ·simp [show ¬ k.held[i].id < k.next by omega]
    ·have hli : zdA k i < k.held[i].id := by
      rw [hlast]
      obtain ⟨⟨q1, _⟩, _⟩ := zhQ hr
      omega
     refine zaa rfl (fun vs => ∃ j : Nat, j ≤ i ∧ vs = [I j] ∧ zal (fun o => !zbn k.held[i] o) (k.held.take j)) (fun vs => match vs with | [.int _ j] => i - j.toNat | _ => 0) ⟨0, by omega, by simp, rfl⟩ ?_
     rintro vs - ⟨j, hj, rfl, hp⟩
     simp [-zaf]
     refine ⟨fun hlt2 => ?_, fun hge2 => ?_⟩
     ·have hj2 : j < k.held.length := by omega
      have hwj := zab (i := j) (by omega)
      simp [hlt, hj2, Hd.cells, -zaf]
      refine call (zil k.held[i] k.held[j] (k.at hl hlt) (k.at hl hj2)) (by simp [hlt, hj2, Hd.cells]) (by simp) ?_
      cases ha : zbn k.held[i] k.held[j]
      ·have hb : zaO k = false := by
        refine zcT hlt ?_
        rw [hok]
        have : (k.held.take i).all (zbn k.held[i]) = false := by
         rw [List.all_eq_false]
         exact ⟨k.held[j], List.mem_take_iff_getElem.2 ⟨j, by omega, rfl⟩, by rw [ha]; simp⟩
        rw [this]; simp
       simp [hb, -zaf]
      ·simp [hwj, -zaf]
       exact ⟨⟨j + 1, by omega, by omega, zah hj2 hp (by simp [ha])⟩, by omega⟩
     ·have hji : j = i := by omega
      subst hji
      have hall : (k.held.take j).all (zbn k.held[j]) = true := by
       rw [List.all_eq_true]
       intro x hx
       have := List.any_eq_false.1 hp x hx
       simpa using this
      have hokj : okAt k j = true := by rw [hok, hr, hall, decide_eq_true hn, decide_eq_true hli]; rfl
      simp [hlt, hw, Hd.cells, -zaf]
      refine ⟨⟨j + 1, by omega, by omega, fun m hm => ?_⟩, by omega⟩
      by_cases hmj : m = j
      ·subst hmj; exact hokj
      ·exact hq m (by omega)
  ·have hA : (List.range k.held.length).all (okAt k) = true := zaA fun j hj => hq j (by omega)
   refine zaa rfl (fun vs => ∃ m : Nat, m ≤ 24 ∧ vs = [I m] ∧ ∀ j, j < m → zdC (k.mach j) = true) (fun vs => match vs with | [.int _ j] => 24 - j.toNat | _ => 0) ⟨0, by omega, by simp, fun j hj => by omega⟩ ?_
   rintro vs - ⟨m, hm, rfl, hqm⟩
   simp [-zaf]
   refine ⟨fun hlt => ?_, fun hge => ?_⟩
   ·have hm24 : m < 24 := by omega
    have hw := zab (i := m) (by omega)
    have hMM := aidxK k (i := m) (z := (m : Int)) rfl hm24
    simp only [Kern.cells] at hMM
    skip
    repeat refine And.intro (by omega) ?_
    refine call (zik (k.mach m)) (by simp [hMM, Mach.cells, -zaf]) (by simp) ?_
    cases hmo : zdC (k.mach m)
    ·have : zaO k = false := by
      have : zgd k = false := zaB hm24 hmo
      simp [zaO, this]
     simp [this, -zaf]
    ·simp [hw, -zaf]
     refine ⟨⟨m + 1, by omega, by omega, fun j hj => ?_⟩, by omega⟩
     by_cases hjm : j = m
     ·subst hjm; exact hmo
     ·exact hqm j (by omega)
   ·have hmall : zgd k = true := zaA fun j hj => hqm j (by omega)
    have : zaO k = true := by simp only [zaO, hA, hmall]; rw [decide_eq_true hg]; rfl
    simp [this, -zaf]
end Go.Lb.LK
namespace Go.Lb.LK
open Go Go.Lb Go.Proofs Go.RowKit
set_option maxHeartbeats 2000000 in
theorem zj8 (k : Kern) (hl : k.len) (hk : k.ok) : C f_free_Right [k.av] (.bool (zaO k)) := by
 have h1 := hl.1
 refine ctr k.cells run_free_Right rfl (by simp) rfl ?_ rfl
 unfold rt_free_Right
 simp [Kern.cells, -zaf]
 refine ⟨fun hb => ?_, fun a1 a2 a3 => ?_⟩
 ·have hg : ¬ (k.held.length ≤ 6 ∧ 1 ≤ k.next ∧ k.next ≤ 1073741824) := by omega
  simp only [zaO]; rw [decide_eq_false hg]; rfl
 ·have hg : k.held.length ≤ 6 ∧ 1 ≤ k.next ∧ k.next ≤ 1073741824 := by omega
  refine zaa rfl (fun vs => ∃ i : Nat, i ≤ k.held.length ∧ vs = [I (zdA k i), I i] ∧ ∀ j, j < i → okAt k j = true) (fun vs => match vs with | [_, .int _ j] => k.held.length - j.toNat | _ => 0) ⟨0, by omega, by simp [zdA], fun j hj => by omega⟩ ?_
  rintro vs - ⟨i, hi, rfl, hq⟩
  simp [-zaf]
  refine ⟨fun hlt => ?_, fun hge => ?_⟩
  ·have hw := zab (i := i) (by omega)
   have hok := zlM hlt
   have hsucc := zhC hlt
   simp [hlt, Hd.cells, -zaf]
   refine call (zkb k.held[i] (k.at hl hlt) (hk _ (List.getElem_mem hlt))) (by simp [hlt, Hd.cells]) (by simp) ?_
   simp [hlt, Hd.cells, -zaf]
   refine And.intro (fun _ _ _ => by omega) ?_
   refine ⟨fun hb => ?_, fun hr hli hn => ?_⟩
   ·refine zcT hlt ?_
    rw [hok]
    rcases hb with (hb | hb) | hb
    ·simp [hb]
    ·simp [show ¬ zdA k i < k.held[i].id by omega]
    ·simp [show ¬ k.held[i].id < k.next by omega]
   ·refine zaa rfl (fun vs => ∃ j : Nat, j ≤ i ∧ vs = [I j] ∧ zal (fun o => !zbn k.held[i] o) (k.held.take j)) (fun vs => match vs with | [.int _ j] => i - j.toNat | _ => 0) ⟨0, by omega, by simp, rfl⟩ ?_
    rintro vs - ⟨j, hj, rfl, hp⟩
    simp [-zaf]
    refine ⟨fun hlt2 => ?_, fun hge2 => ?_⟩
    ·have hj2 : j < k.held.length := by omega
     have hwj := zab (i := j) (by omega)
     simp [hlt, hj2, hlt2, Hd.cells, -zaf]
     refine call (zka k.held[i] k.held[j] (k.at hl hlt) (k.at hl hj2)) (by simp [hlt, hj2, hlt2, Hd.cells]) (by simp) ?_
     cases ha : zbn k.held[i] k.held[j]
     ·have hb : zaO k = false := by
       refine zcT hlt ?_
       rw [hok]
       have : (k.held.take i).all (zbn k.held[i]) = false := by
        rw [List.all_eq_false]
        exact ⟨k.held[j], List.mem_take_iff_getElem.2 ⟨j, by omega, rfl⟩, by rw [ha]; simp⟩
       rw [this]; simp
      simp [hb, -zaf]
     ·simp [hwj, -zaf]
      exact ⟨⟨j + 1, by omega, by omega, zah hj2 hp (by simp [ha])⟩, by omega⟩
    ·have hji : j = i := by omega
     subst hji
     have hall : (k.held.take j).all (zbn k.held[j]) = true := by
      rw [List.all_eq_true]
      intro x hx
      have := List.any_eq_false.1 hp x hx
      simpa using this
     have hokj : okAt k j = true := by rw [hok, hr, hall, decide_eq_true hn, decide_eq_true hli]; rfl
     simp [hlt, hw, Hd.cells, -zaf]
     refine ⟨⟨j + 1, by omega, ⟨hsucc.symm, by omega⟩, fun m hm => ?_⟩, by omega⟩
     by_cases hmj : m = j
     ·subst hmj; exact hokj
     ·exact hq m (by omega)
  ·have hA : (List.range k.held.length).all (okAt k) = true := zaA fun j hj => hq j (by omega)
   refine zaa rfl (fun vs => ∃ m : Nat, m ≤ 24 ∧ vs = [I m] ∧ ∀ j, j < m → zdC (k.mach j) = true) (fun vs => match vs with | [.int _ j] => 24 - j.toNat | _ => 0) ⟨0, by omega, by simp, fun j hj => by omega⟩ ?_
   rintro vs - ⟨m, hm, rfl, hqm⟩
   simp [-zaf]
   refine ⟨fun hlt => ?_, fun hge => ?_⟩
   ·have hm24 : m < 24 := by omega
    have hw := zab (i := m) (by omega)
    have hMM := aidxM k (i := m) (z := (m : Int)) rfl hm24
    simp only [zaz] at hMM
    simp [hMM, Mach.cells, -zaf]
    repeat refine And.intro (by omega) ?_
    refine call (zfq (k.mach m)) (by simp [hMM, Mach.cells, -zaf]) (by simp) ?_
    cases hmo : zdC (k.mach m)
    ·have : zaO k = false := by
      have : zgd k = false := zaB hm24 hmo
      simp [zaO, this]
     simp [this, -zaf]
    ·simp [hw, -zaf]
     refine ⟨⟨m + 1, by omega, by omega, fun j hj => ?_⟩, by omega⟩
     by_cases hjm : j = m
     ·subst hjm; exact hmo
     ·exact hqm j (by omega)
   ·have hmall : zgd k = true := zaA fun j hj => hqm j (by omega)
    have : zaO k = true := by simp only [zaO, hA, hmall]; rw [decide_eq_true hg]; rfl
    simp [this, -zaf]
end Go.Lb.LK
namespace Go.Lb.LK
open Go Go.Lb Go.Proofs Go.RowKit
theorem liks (l : Lay) (im : Img) (k : Kern) (xs : List AV) (h : AV.pureAll xs = true) : AV.pureAll (l.cells ++ im.cells ++ k.cells ++ xs) = true := by simp [zac, h]
def zcY (l : Lay) (im : Img) (k : Kern) (s : Int) : Bool := (zc1 k s).isNone && !zbO l im s
theorem zeW (l : Lay) (im : Img) (hi : im.ok) (k : Kern) (hl : k.len) (s : Int) : C f_free_Free [l.av, im.av, k.av, I s] (.bool (zcY l im k s)) := by
 refine ctr (l.cells ++ im.cells ++ k.cells ++ [I s]) run_free_Free rfl (liks l im k _ rfl) rfl ?_ rfl
 unfold rt_free_Free
 simp [Lay.cells, Img.cells, Kern.cells]
 refine call (zi3 k hl s) (by simp [Kern.cells]) (by simp [optP]) ?_
 simp [optP]
 refine zaj (avs := [l.av, im.av, I s]) (.bool (zbO l im s)) rfl (fun _ => ⟨by simp [Lay.cells, Img.cells], zgQ l im hi s⟩) (by simp) ?_
 cases h : zc1 k s <;> simp [zcY, h]
theorem zkj (l : Lay) (im : Img) (hi : im.ok) (k : Kern) (hl : k.len) (s : Int) : C f_lockbarref18_Free [l.av, im.av, k.av, I s] (.bool (zcY l im k s)) := by
 refine ctr (l.cells ++ im.cells ++ k.cells ++ [I s]) run_lockbarref18_Free rfl (liks l im k _ rfl) rfl ?_ rfl
 unfold rt_lockbarref18_Free
 simp [Lay.cells, Img.cells, Kern.cells]
 refine call (zlv k hl s) (by simp [Kern.cells]) (by simp [optP]) ?_
 simp [optP]
 refine zaj (avs := [l.av, im.av, I s]) (.bool (zbO l im s)) rfl (fun _ => ⟨by simp [Lay.cells, Img.cells], zjc l im hi s⟩) (by simp) ?_
 cases h : zc1 k s <;> simp [zcY, h]
def zbr (l : Lay) (im : Img) (k : Kern) (n : Need) : Bool :=
 decide (0 ≤ n.p ∧ n.p < 24) && (match zdn k n.p with
  | some pos => decide (pos = n.pos) && (decide (atP l im n.p = n.pos) || !zcu k n.p)
  | none => decide (atP l im n.p = n.pos) || (!k.fail n.p.toNat && zcY l im k n.p))
theorem zq7 (k : Kern) {i : Nat} {z : Int} (hz : z = i) (h : i < 24) : pv (.aidx 24 3 4 1 false) [.agg k.cells, I z] = .bool (k.fail i) := by
 subst hz
 have := zop k.want k.run k.fail h .undef
 have e : k.cells.getD (i * 3 + 4) .undef = .bool (k.fail i) := by
  rw [← this]; rfl
 simp only [zaf, Int.toNat_natCast, AV.cut]
 rw [e]
theorem zj7 (l : Lay) (im : Img) (hi : im.ok) (k : Kern) (hl : k.len) (n : Need) : C f_free_Meets [l.av, im.av, k.av, n.av] (.bool (zbr l im k n)) := by
 refine ctr (l.cells ++ im.cells ++ k.cells ++ n.cells) run_free_Meets rfl (liks l im k _ (by simp)) rfl ?_ rfl
 unfold rt_free_Meets
 simp [Lay.cells, Img.cells, Kern.cells, Need.cells, -zaf]
 refine ⟨fun hb => by unfold zbr; rw [decide_eq_false (by omega)]; rfl, fun h0 h24 => ?_⟩
 have hA := zq7 k (i := n.p.toNat) (z := n.p) (by omega) (by omega)
 simp only [Kern.cells] at hA
 refine call (zfV l im hi n.p) (by simp [Lay.cells, Img.cells]) (by simp) ?_
 simp [-zaf]
 refine call (zi5 k hl n.p) (by simp [Kern.cells]) (by simp [optP]) ?_
 cases hm : zdn k n.p with
 | some pos =>
  simp [optP, -zaf]
  by_cases hp : pos = n.pos
  ·simp [hp]
   refine zaj (avs := [k.av, I n.p]) (.bool (zcu k n.p)) rfl (fun _ => ⟨by simp [Kern.cells], zi4 k hl n.p⟩) (by simp) ?_
   by_cases ha : atP l im n.p = n.pos <;> simp [zbr, h0, h24, hm, hp, ha]
  ·simp [hp, zbr, h0, h24, hm]
 | none =>
  simp [optP, hA, -zaf]
  repeat refine And.intro (by intros; omega) ?_
  refine zaj (avs := [l.av, im.av, k.av, I n.p]) (.bool (zcY l im k n.p)) rfl (fun _ => ⟨by simp [Lay.cells, Img.cells, Kern.cells], zeW l im hi k hl n.p⟩) (by simp) ?_
  simp [hA, -zaf]
  repeat refine And.intro (by intros; omega) ?_
  by_cases ha : atP l im n.p = n.pos <;> cases hf : k.fail n.p.toNat <;> simp [zbr, h0, h24, hm, ha, hf]
theorem zmR (l : Lay) (im : Img) (hi : im.ok) (k : Kern) (hl : k.len) (n : Need) : C f_lockbarref18_Meets [l.av, im.av, k.av, n.av] (.bool (zbr l im k n)) := by
 refine ctr (l.cells ++ im.cells ++ k.cells ++ n.cells) run_lockbarref18_Meets rfl (liks l im k _ (by simp)) rfl ?_ rfl
 unfold rt_lockbarref18_Meets
 simp [Lay.cells, Img.cells, Kern.cells, Need.cells, -zaf]
 refine ⟨fun hb => by unfold zbr; rw [decide_eq_false (by omega)]; rfl, fun h0 h24 => ?_⟩
 have hA := zq7 k (i := n.p.toNat) (z := n.p) (by omega) (by omega)
 simp only [Kern.cells] at hA
 refine call (znF l im hi n.p) (by simp [Lay.cells, Img.cells]) (by simp) ?_
 simp [-zaf]
 refine call (zlx k hl n.p) (by simp [Kern.cells]) (by simp [optP]) ?_
 cases hm : zdn k n.p with
 | some pos =>
  simp [optP, -zaf]
  refine zaj (avs := [k.av, I n.p]) (.bool (zcu k n.p)) rfl (fun _ => ⟨by simp [Kern.cells], zlw k hl n.p⟩) (by simp) ?_
  by_cases hp : pos = n.pos <;> by_cases ha : atP l im n.p = n.pos <;> cases hk : zcu k n.p <;> simp [zbr, h0, h24, hm, hp, ha, hk]
 | none =>
  simp [optP, hA, -zaf]
  repeat refine And.intro (by intros; omega) ?_
  refine zaj (avs := [l.av, im.av, k.av, I n.p]) (.bool (zcY l im k n.p)) rfl (fun _ => ⟨by simp [Lay.cells, Img.cells, Kern.cells], zkj l im hi k hl n.p⟩) (by simp) ?_
  simp [hA, -zaf]
  repeat refine And.intro (by intros; omega) ?_
  by_cases ha : atP l im n.p = n.pos <;> cases hf : k.fail n.p.toNat <;> simp [zbr, h0, h24, hm, ha, hf]
end Go.Lb.LK
namespace Go.Lb.LK
open Go Go.Lb Go.Proofs Go.RowKit
def zau (k : Int) : List AV :=
 if k = 1 then [I 2, I 0, I 1, I 0, I 0, I 1, .bool false] else if k = 2 then [I 3, I 0, I 1, I 0, I 2, I 2, .bool true]
 else if k = 3 then [I 4, I 0, I 1, I 2, I 3, I 2, .bool false] else [I 0, I 0, I 0, I 0, I 0, I 0, .bool false]
theorem zcR {k : Int} (h0 : 0 ≤ k) (h1 : k ≤ 255) : k = 0 ∨ k = 1 ∨ k = 2 ∨ k = 3 ∨ 4 ≤ k := by omega
theorem zdp (k : Int) (h0 : 0 ≤ k) (h1 : k ≤ 255) : C f_port_of [U k] (.agg (zau k)) := by
 refine ctr [U k] run_port_of rfl rfl ?_ ?_ rfl
 ·unfold zau; repeat' split
  all_goals rfl
 ·unfold rt_port_of
  have hw : IntKind.i64.wrap k = k := by rw [zbB] <;> omega
  rcases zcR h0 h1 with rfl | rfl | rfl | rfl | h
  ·simp [zau, hw]
  ·simp [zau, hw]
  ·simp [zau, hw]
  ·simp [zau, hw]
  ·have : ¬ k < 4 := by omega
   simp [hw, this, zau, show k ≠ 1 by omega, show k ≠ 2 by omega, show k ≠ 3 by omega]
def way (k i o : Int) : Int × Bool :=
 if (k = 1 ∨ k = 2 ∨ k = 3) ∧ (i = 0 ∧ o = 1 ∨ i = 1 ∧ o = 0) then (0, true)
 else if k = 2 ∧ (i = 0 ∧ o = 2 ∨ i = 2 ∧ o = 0) then (1, true)
 else if k = 3 ∧ (i = 2 ∧ o = 3 ∨ i = 3 ∧ o = 2) then (1, true) else (0, false)
theorem w1 : IntKind.i64.wrap 1 = 1 := by decide
theorem w2 : IntKind.i64.wrap 2 = 2 := by decide
abbrev ib (x : Int × Bool) : AV := .tup [I x.1, .bool x.2]
theorem zih (k i o : Int) (h0 : 0 ≤ k) (h1 : k ≤ 255) : C f_port_Way [U k, I i, I o] (ib (way k i o)) := by
 refine ctr [U k, I i, I o] run_port_Way rfl rfl rfl ?_ rfl
 unfold rt_port_Way
 simp
 refine zew (zdp k h0 h1) (by simp) ?_
 rcases zcR h0 h1 with rfl | rfl | rfl | rfl | h
 ·simp [zau]
  refine zaa rfl (fun vs => vs = [I 0]) (fun _ => 0) rfl ?_
  rintro vs - rfl
  simp [way]
 ·simp [zau]
  refine zaa rfl (fun vs => vs = [I 0] ∨ vs = [I 1] ∧ way 1 i o = (0, false)) (fun vs => match vs with | [.int _ j] => 3 - j.toNat | _ => 0) (.inl rfl) ?_
  rintro vs - (rfl | ⟨rfl, hw⟩)
  ·by_cases c1 : i = 0 ∧ o = 1 ∨ i = 1 ∧ o = 0 <;> simp [way, c1, w1] <;> omega
  ·simp [hw]
 ·simp [zau]
  refine zaa rfl (fun vs => vs = [I 0] ∨ vs = [I 1] ∧ ¬ (i = 0 ∧ o = 1 ∨ i = 1 ∧ o = 0) ∨ vs = [I 2] ∧ way 2 i o = (0, false)) (fun vs => match vs with | [.int _ j] => 3 - j.toNat | _ => 0) (.inl rfl) ?_
  rintro vs - (rfl | ⟨rfl, hw⟩ | ⟨rfl, hw⟩)
  ·by_cases c1 : i = 0 ∧ o = 1 ∨ i = 1 ∧ o = 0 <;> simp [way, c1, w1] <;> omega
  ·by_cases c1 : i = 0 ∧ o = 2 ∨ i = 2 ∧ o = 0 <;> simp [way, c1, hw, w2] <;> omega
  ·simp [hw]
 ·simp [zau]
  refine zaa rfl (fun vs => vs = [I 0] ∨ vs = [I 1] ∧ ¬ (i = 0 ∧ o = 1 ∨ i = 1 ∧ o = 0) ∨ vs = [I 2] ∧ way 3 i o = (0, false)) (fun vs => match vs with | [.int _ j] => 3 - j.toNat | _ => 0) (.inl rfl) ?_
  rintro vs - (rfl | ⟨rfl, hw⟩ | ⟨rfl, hw⟩)
  ·by_cases c1 : i = 0 ∧ o = 1 ∨ i = 1 ∧ o = 0 <;> simp [way, c1, w1] <;> omega
  ·by_cases c1 : i = 2 ∧ o = 3 ∨ i = 3 ∧ o = 2 <;> simp [way, c1, hw, w2] <;> omega
  ·simp [hw]
 ·simp [zau, show k ≠ 1 by omega, show k ≠ 2 by omega, show k ≠ 3 by omega]
  refine zaa rfl (fun vs => vs = [I 0]) (fun _ => 0) rfl ?_
  rintro vs - rfl
  simp [way, show k ≠ 1 by omega, show k ≠ 2 by omega, show k ≠ 3 by omega]
theorem zmJ (k i o : Int) (h0 : 0 ≤ k) (h1 : k ≤ 255) : C f_port_Pos [U k, I i, I o] (ib (if (way k i o).2 = true ∧ k ≠ 2 then (-1, true) else way k i o)) := by
 refine ctr [U k, I i, I o] run_port_Pos rfl rfl rfl ?_ rfl
 unfold rt_port_Pos
 refine zew (zih k i o h0 h1) (by simp) ?_
 simp
 refine zj0 (.agg (zau k)) (zdp k h0 h1).1 (fun _ => ⟨zdp k h0 h1, by simp⟩) ?_
 generalize way k i o = w
 obtain ⟨a, b⟩ := w
 rcases zcR h0 h1 with rfl | rfl | rfl | rfl | h <;> cases b
 any_goals simp [zau]
 ·simp [zau, show k ≠ 1 by omega, show k ≠ 2 by omega, show k ≠ 3 by omega]
def zdZ (l : Lay) (s : Int) : Option Sec := if 0 ≤ s then l.secs[s.toNat]? else none
theorem zaY {l : Lay} {s : Int} (h0 : 0 ≤ s) (h1 : s < l.secs.length) : ∃ n : Nat, s = n ∧ ∃ h : n < l.secs.length, zdZ l s = some (l.secs[n]) := by
 refine ⟨s.toNat, by omega, by omega, ?_⟩
 unfold zdZ
 rw [if_pos h0, List.getElem?_eq_getElem]
theorem za2 {l : Lay} {s : Int} (h : ¬ (0 ≤ s ∧ s < l.secs.length)) : zdZ l s = none := by
 unfold zdZ
 split
 ·exact List.getElem?_eq_none (by omega)
 ·rfl
def za5 (l : Lay) (s : Step) : Int × Bool := match zdZ l s.s with
 | some x => way x.kind s.i s.o
 | none => (0, false)
theorem zcM (l : Lay) (hl : l.ok) (s : Step) : C f_layout_Step [l.av, s.av] (ib (za5 l s)) := by
 refine ctr (l.cells ++ s.cells) run_layout_Step rfl (by simp [zac]) rfl ?_ rfl
 unfold rt_layout_Step
 simp [Lay.cells, Step.cells]
 by_cases hc : 0 ≤ s.s ∧ s.s < l.secs.length
 ·obtain ⟨n, hn, hlt, he⟩ := zaY hc.1 hc.2
  have hk := hl _ (List.getElem_mem hlt)
  simp [hn, hlt, Sec.cells]
  refine ⟨fun h => absurd h (by omega), ?_⟩
  refine call (zih _ s.i s.o hk.1 hk.2) (by simp [hlt, Sec.cells]) (by simp) ?_
  simp [za5, he]
 ·have h2 : 0 ≤ s.s → ¬ s.s < l.secs.length := by omega
  simp [za5, za2 hc]
  exact fun a b => absurd ⟨a, b⟩ hc
def zgA (l : Lay) (x : Int) : Option Exi := if 0 ≤ x then l.exits[x.toNat]? else none
theorem zft {l : Lay} {s : Int} (h0 : 0 ≤ s) (h1 : s < l.exits.length) : ∃ n : Nat, s = n ∧ ∃ h : n < l.exits.length, zgA l s = some (l.exits[n]) := by
 refine ⟨s.toNat, by omega, by omega, ?_⟩
 unfold zgA
 rw [if_pos h0, List.getElem?_eq_getElem]
theorem zdu {l : Lay} {s : Int} (h : ¬ (0 ≤ s ∧ s < l.exits.length)) : zgA l s = none := by
 unfold zgA
 split
 ·exact List.getElem?_eq_none (by omega)
 ·rfl
def over (l : Lay) (x : Int) : List Step := match zgA l x with
 | some e => e.over
 | none => []
def Lay.ovOk (l : Lay) : Prop := ∀ e ∈ l.exits, e.over.length ≤ 4294967296
theorem zcI (l : Lay) (ho : l.ovOk) (x : Int) : C f_beyond_Over [l.av, I x] (steps (over l x)) := by
 refine ctr (l.cells ++ [I x]) run_beyond_Over rfl (by simp [zac, AV.pureAll, AV.pure]) (by simp [AV.pure]) ?_ rfl
 unfold rt_beyond_Over
 simp [Lay.cells]
 by_cases hc : 0 ≤ x ∧ x < l.exits.length
 ·obtain ⟨n, hn, hlt, he⟩ := zft hc.1 hc.2
  have hk := ho _ (List.getElem_mem hlt)
  subst hn
  simp [hlt, Exi.cells]
  refine ⟨fun h => by omega, ?_⟩
  refine call (zbS _ hk) (by simp [hlt, Exi.cells]) (by simp) ?_
  simp [over, he]
 ·simp [over, zdu hc]
  exact fun a b => absurd ⟨a, b⟩ hc
end Go.Lb.LK
namespace Go.Lb.LK
open Go Go.Lb Go.Proofs Go.RowKit
def point (l : Lay) (s : Step) : Int × Int × Bool := match zdZ l s.s with
 | some x => if (way x.kind s.i s.o).2 = true ∧ x.kind = 2 then (s.s, (way 2 s.i s.o).1, true) else (0, 0, false)
 | none => (0, 0, false)
abbrev iib (x : Int × Int × Bool) : AV := .tup [I x.1, I x.2.1, .bool x.2.2]
theorem zh6 (l : Lay) (hl : l.ok) (s : Step) : C f_beyond_Point [l.av, s.av] (iib (point l s)) := by
 refine ctr (l.cells ++ s.cells) run_beyond_Point rfl (by simp [zac]) rfl ?_ rfl
 unfold rt_beyond_Point
 simp [Lay.cells, Step.cells]
 refine call (zcM l hl s) (by simp [Lay.cells, Step.cells]) (by simp) ?_
 by_cases hc : 0 ≤ s.s ∧ s.s < l.secs.length
 ·obtain ⟨n, hn, hlt, he⟩ := zaY hc.1 hc.2
  have hls : za5 l s = way l.secs[n].kind s.i s.o := by simp [za5, he]
  have hpt : point l s = if (way l.secs[n].kind s.i s.o).2 = true ∧ l.secs[n].kind = 2 then (s.s, (way 2 s.i s.o).1, true) else (0, 0, false) := by simp [point, he]
  rw [hls, hpt]
  clear hls hpt
  cases hw : (way l.secs[n].kind s.i s.o).2
  ·simp [hn, hlt, Sec.cells, hw]
  ·by_cases hk : l.secs[n].kind = 2
   ·rw [hk] at hw ⊢
    simp [hn, hlt, Sec.cells, hw, hk]
    refine call (zmJ 2 s.i s.o (by omega) (by omega)) (by simp) (by simp) ?_
    simp
   ·simp [hn, hlt, Sec.cells, hw, hk]
 ·simp [point, za5, za2 hc]
def zaE (l : Lay) (s : Step) (f : Flank) : Bool := (za5 l s).2 && decide (f.s = s.s) && decide (f.way = (za5 l s).1)
def zcA (l : Lay) (s : Step) (k : Int) : List Need :=
 (if (point l s).2.2 = true then [⟨(point l s).1, (point l s).2.1, k⟩] else []) ++ (l.flanks.filter (zaE l s)).map fun f => ⟨f.point, f.pos, k⟩
theorem zeM (l : Lay) (hl : l.ok) (hf : l.flanks.length ≤ 2147483648) (s : Step) (k : Int) : C f_beyond_Wants [l.av, s.av, I k] (needs (zcA l s k)) := by
 refine ctr (l.cells ++ s.cells ++ [I k]) run_beyond_Wants rfl (by simp [zac, AV.pureAll, AV.pure]) (by simp [AV.pure]) ?_ rfl
 unfold rt_beyond_Wants
 simp [Lay.cells, Step.cells]
 refine call (zh6 l hl s) (by simp [Lay.cells, Step.cells]) (by simp) ?_
 simp
 have hlen : ∀ i, ((l.flanks.take i).filter (zaE l s)).length ≤ 2147483648 := fun i => by
  have := List.length_filter_le (zaE l s) (l.flanks.take i)
  have : (l.flanks.take i).length ≤ l.flanks.length := by simp; omega
  omega
 refine ⟨fun hp => ?_, fun hp => ?_⟩
 all_goals
  refine call (zcM l hl s) (by simp [Lay.cells, Step.cells]) (by simp) ?_
  simp
  refine zaa rfl (fun vs => ∃ i : Nat, i ≤ l.flanks.length ∧ vs = [I i, needs ((if (point l s).2.2 = true then [⟨(point l s).1, (point l s).2.1, k⟩] else []) ++ ((l.flanks.take i).filter (zaE l s)).map (fun f => ⟨f.point, f.pos, k⟩))]) (fun vs => match vs with | .int _ j :: _ => l.flanks.length - j.toNat | _ => 0) ⟨0, by simp, by simp [hp, Need.cells]⟩ ?_
  rintro vs - ⟨i, hi, rfl⟩
  have hli := hlen i
  simp
  refine ⟨fun hlt => ?_, fun hge => ?_⟩
  ·have hw := zab (i := i) (by omega)
   have ht := zcX (zaE l s) l.flanks hlt
   cases hon : zaE l s l.flanks[i]
   ·have h3 : ¬ ((za5 l s).2 = true ∧ l.flanks[i].s = s.s ∧ l.flanks[i].way = (za5 l s).1) := by
     intro ⟨h1, h2, h3⟩
     simp [zaE, h1, h2, h3] at hon
    simp [hlt, Flank.cells, hp]
    refine .inl ⟨fun h1 h2 h4 => h3 ⟨h1, h2, h4⟩, ⟨i + 1, by omega, hw, ?_⟩, by rw [hw]; omega⟩
    rw [ht, hon]; simp
   ·have h3 : (za5 l s).2 = true ∧ l.flanks[i].s = s.s ∧ l.flanks[i].way = (za5 l s).1 := by
     simp only [zaE, Bool.and_eq_true, decide_eq_true_eq] at hon
     exact ⟨hon.1.1, hon.1.2, hon.2⟩
    simp [hlt, Flank.cells, hp]
    refine .inr ⟨⟨⟨h3.1, h3.2.1⟩, h3.2.2⟩, by omega, ⟨i + 1, by omega, hw, ?_⟩, by rw [hw]; omega⟩
    rw [ht, hon]; simp [Need.cells]
  ·have : l.flanks.take i = l.flanks := List.take_of_length_le hge
   simp [this, zcA, hp, Need.cells]
def zap (l : Lay) (p : Path) : List (Int × Step) := p.steps.mapIdx (fun k s => ((k : Int), s)) ++ (over l p.exit).map fun s => ((p.steps.length : Int), s)
def zak (l : Lay) (p : Path) : List Need := (zap l p).flatMap fun x => zcA l x.2 x.1
theorem zfQ (l : Lay) (s : Step) (k : Int) : (zcA l s k).length ≤ l.flanks.length + 1 := by
 unfold zcA
 rw [List.length_append, List.length_map]
 have := List.length_filter_le (zaE l s) l.flanks
 split <;> simp <;> omega
theorem zfu {α β : Type} (f : α → List β) (m : Nat) (h : ∀ x, (f x).length ≤ m) : ∀ l : List α, (l.flatMap f).length ≤ l.length * m
 | [] => by simp
 | x :: l => by
  have := zfu f m h l
  have := h x
  simp only [List.flatMap_cons, List.length_append, List.length_cons, Nat.add_mul]
  omega
theorem zfp (l : Lay) (hl : l.ok) (ho : l.ovOk) (hf : l.flanks.length ≤ 1000) (p : Path) (hp : p.steps.length ≤ 1000) (hov : (over l p.exit).length ≤ 1000) : C f_need_Of [l.av, p.av] (needs (zak l p)) := by
 refine ctr (l.cells ++ p.cells) run_need_Of rfl (by simp [zac, AV.pureAll, AV.pure]) (by simp [AV.pure]) ?_ rfl
 unfold rt_need_Of
 simp [Lay.cells, Path.cells]
 have hw1 : ∀ s k, (zcA l s k).length ≤ 1001 := fun s k => by have := zfQ l s k; omega
 have hnl : (zap l p).length = p.steps.length + (over l p.exit).length := by simp [zap]
 have hN : ∀ m : Nat, (((zap l p).take m).flatMap fun x => zcA l x.2 x.1).length ≤ 2002000 := fun m => by
  have h1 := zfu (fun x : Int × Step => zcA l x.2 x.1) 1001 (fun x => hw1 x.2 x.1) ((zap l p).take m)
  have h2 : ((zap l p).take m).length ≤ 2000 := by rw [List.length_take]; omega
  omega
 have hA : ∀ (i : Nat) (h : i < p.steps.length), (zap l p)[i]'(by rw [hnl]; omega) = ((i : Int), p.steps[i]) := fun i h => by
  simp [zap, List.getElem_append_left, h]
 have hB : ∀ (i : Nat) (h : i < (over l p.exit).length), (zap l p)[p.steps.length + i]'(by rw [hnl]; omega) = ((p.steps.length : Int), (over l p.exit)[i]) := fun i h => by
  simp [zap, List.getElem_append_right]
 refine zaa rfl (fun vs => ∃ i : Nat, i ≤ p.steps.length ∧ vs = [I i, needs (((zap l p).take i).flatMap fun x => zcA l x.2 x.1)]) (fun vs => match vs with | .int _ j :: _ => p.steps.length - j.toNat | _ => 0) ⟨0, by simp, by simp⟩ ?_
 rintro vs - ⟨i, hi, rfl⟩
 have hNi := hN i
 simp
 refine ⟨fun hlt => ?_, fun hge => ?_⟩
 ·have hw := zab (i := i) (by omega)
  simp [hlt, Step.cells]
  have hx := zdd (fun x : Int × Step => zcA l x.2 x.1) (zap l p) (i := i) (by rw [hnl]; omega)
  rw [hA i hlt] at hx
  have hy := hw1 p.steps[i] i
  refine call (zeM l hl (by omega) p.steps[i] i) (by simp [hlt, Step.cells, Lay.cells]) (by simp) ?_
  simp [-List.length_flatMap]
  refine ⟨fun x _ => by simp [Need.cells], by omega, ⟨i + 1, by omega, hw, ?_⟩, by rw [hw]; omega⟩
  rw [hx]; simp
 ·have hi' : i = p.steps.length := by omega
  subst hi'
  refine call (zcI l ho p.exit) (by simp [Lay.cells]) (by simp) ?_
  simp
  refine zaa rfl (fun vs => ∃ i : Nat, i ≤ (over l p.exit).length ∧ vs = [I i, needs (((zap l p).take (p.steps.length + i)).flatMap fun x => zcA l x.2 x.1)]) (fun vs => match vs with | .int _ j :: _ => (over l p.exit).length - j.toNat | _ => 0) ⟨0, by simp, by simp⟩ ?_
  rintro vs - ⟨i, hi, rfl⟩
  have hNi := hN (p.steps.length + i)
  simp
  refine ⟨fun hlt => ?_, fun hge => ?_⟩
  ·have hw := zab (i := i) (by omega)
   simp [hlt, Step.cells]
   have hx := zdd (fun x : Int × Step => zcA l x.2 x.1) (zap l p) (i := p.steps.length + i) (by rw [hnl]; omega)
   rw [hB i hlt] at hx
   have hy := hw1 (over l p.exit)[i] p.steps.length
   refine call (zeM l hl (by omega) (over l p.exit)[i] p.steps.length) (by simp [hlt, Step.cells, Lay.cells]) (by simp) ?_
   simp [-List.length_flatMap]
   refine ⟨fun x _ => by simp [Need.cells], by omega, ⟨i + 1, by omega, hw, ?_⟩, by rw [hw]; omega⟩
   rw [show p.steps.length + (i + 1) = p.steps.length + i + 1 from rfl, hx]; simp
  ·have : (zap l p).take (p.steps.length + i) = zap l p := List.take_of_length_le (by rw [hnl]; omega)
   simp [this, zak]
end Go.Lb.LK
namespace Go.Lb.LK
open Go Go.Lb Go.Proofs Go.RowKit
def ways (k : Int) : Int := if k = 1 then 1 else if k = 2 then 2 else if k = 3 then 2 else 0
theorem zex (k : Int) : C f_lockbarref05_Ways [U k] (I (ways k)) := by
 refine ctr [U k] run_lockbarref05_Ways rfl rfl rfl ?_ rfl
 unfold rt_lockbarref05_Ways
 by_cases h1 : k = 1
 ·simp [h1, ways]
 ·by_cases h2 : k = 2
  ·simp [h2, ways]
  ·by_cases h3 : k = 3
   ·simp [h3, ways]
   ·simp [h1, h2, h3, ways]
def ends (k w : Int) : Int × Int × Bool := if w < 0 ∨ w ≥ ways k then (0, 0, false) else if w = 0 then (0, 1, true) else if k = 2 then (0, 2, true) else (2, 3, true)
theorem zmK (k w : Int) : C f_lockbarref05_Ends [U k, I w] (iib (ends k w)) := by
 refine ctr [U k, I w] run_lockbarref05_Ends rfl rfl rfl ?_ rfl
 unfold rt_lockbarref05_Ends
 simp
 refine zaj (I (ways k)) rfl (fun _ => ⟨by simp, zex k⟩) (by simp) ?_
 by_cases h0 : w < 0
 ·simp [h0, ends]
 ·by_cases h1 : ways k ≤ w
  ·simp [h0, h1, ends]
  ·by_cases h2 : w = 0
   ·subst h2; simp [h1, ends]
   ·by_cases h3 : k = 2
    ·subst h3; simp [h0, h1, h2, ends]
    ·simp [h0, h1, h2, h3, ends]
theorem zqH (k : Int) : 0 ≤ ways k ∧ ways k ≤ 2 := by unfold ways; split <;> (try split) <;> (try split) <;> omega
theorem zkd (k i o : Int) : C f_lockbarref05_Way [U k, I i, I o] (ib (way k i o)) := by
 refine ctr [U k, I i, I o] run_lockbarref05_Way rfl rfl rfl ?_ rfl
 unfold rt_lockbarref05_Way
 have hw := zqH k
 refine zaa rfl (fun vs => ∃ j : Nat, (j : Int) ≤ 2 ∧ vs = [I j] ∧ (1 ≤ j → 1 ≤ ways k → ¬ (i = 0 ∧ o = 1 ∨ i = 1 ∧ o = 0)) ∧ (2 ≤ j → k = 2 → ¬ (i = 0 ∧ o = 2 ∨ i = 2 ∧ o = 0)) ∧ (2 ≤ j → k = 3 → ¬ (i = 2 ∧ o = 3 ∨ i = 3 ∧ o = 2)) ∧ (j : Int) ≤ ways k)
  (fun vs => match vs with | [.int _ j] => 3 - j.toNat | _ => 0) ⟨0, by simp, by simp, by omega, by omega, by omega, by simp; omega⟩ ?_
 rintro vs - ⟨j, hj, rfl, a1, a2, a3, a4⟩
 simp
 refine call (zex k) (by simp) (by simp) ?_
 simp
 refine ⟨fun hlt => ?_, fun hge => ?_⟩
 ·refine call (zmK k j) (by simp) (by simp) ?_
  simp
  have hk : k = 1 ∨ k = 2 ∨ k = 3 := by
   unfold ways at hlt
   split at hlt
   ·exact .inl ‹_›
   ·split at hlt
    ·exact .inr (.inl ‹_›)
    ·split at hlt
     ·exact .inr (.inr ‹_›)
     ·omega
  have hj2 : j = 0 ∨ j = 1 := by omega
  rcases hj2 with rfl | rfl
  ·have he : ends k ((0 : Nat) : Int) = (0, 1, true) := by
    unfold ends
    rw [if_neg (by simp; omega)]; rfl
   rw [he]
   simp only [Int.natCast_zero, Int.zero_add, w1]
   by_cases c1 : i = 0 ∧ o = 1 ∨ i = 1 ∧ o = 0
   ·have hwy : way k i o = (0, true) := by unfold way; rw [if_pos ⟨by omega, c1⟩]
    rw [hwy]
    exact ⟨fun _ => ⟨rfl, rfl⟩, fun h1 h2 => absurd c1 (by omega)⟩
   ·refine ⟨fun h => absurd h (by omega), fun h1 h2 => ⟨⟨1, by omega, rfl, fun _ _ => by omega, fun h => by omega, fun h => by omega, by simp; omega⟩, by decide⟩⟩
  ·have hk2 : k = 2 ∨ k = 3 := by
    rcases hk with rfl | h
    ·simp [ways] at hlt
    ·exact h
   have n1 := a1 (by omega) (by omega)
   have wj : IntKind.i64.wrap (((1 : Nat) : Int) + 1) = 2 := by decide
   rw [wj]
   rcases hk2 with rfl | rfl
   ·have he : ends 2 ((1 : Nat) : Int) = (0, 2, true) := rfl
    rw [he]
    by_cases c1 : i = 0 ∧ o = 2 ∨ i = 2 ∧ o = 0
    ·have hwy : way 2 i o = (1, true) := by unfold way; rw [if_neg (fun h => n1 h.2), if_pos ⟨rfl, c1⟩]
     rw [hwy]
     exact ⟨fun _ => ⟨rfl, rfl⟩, fun h1 h2 => absurd c1 (by dsimp only at h1 h2; omega)⟩
    ·refine ⟨fun h => absurd h (by dsimp only; omega), fun h1 h2 => ⟨⟨2, by omega, rfl, fun _ _ => by omega, fun _ _ => by omega, fun _ h => by omega, by decide⟩, by decide⟩⟩
   ·have he : ends 3 ((1 : Nat) : Int) = (2, 3, true) := rfl
    rw [he]
    by_cases c1 : i = 2 ∧ o = 3 ∨ i = 3 ∧ o = 2
    ·have hwy : way 3 i o = (1, true) := by unfold way; rw [if_neg (fun h => n1 h.2), if_neg (fun h => by omega), if_pos ⟨rfl, c1⟩]
     rw [hwy]
     exact ⟨fun _ => ⟨rfl, rfl⟩, fun h1 h2 => absurd c1 (by dsimp only at h1 h2; omega)⟩
    ·refine ⟨fun h => absurd h (by dsimp only; omega), fun h1 h2 => ⟨⟨2, by omega, rfl, fun _ _ => by omega, fun _ h => by omega, fun _ _ => by omega, by decide⟩, by decide⟩⟩
 ·have hwy : way k i o = (0, false) := by
   have hjw : (j : Int) = ways k := by omega
   unfold way
   rw [if_neg, if_neg, if_neg]
   ·rintro ⟨rfl, h⟩
    have : (j : Int) = 2 := hjw
    exact a3 (by omega) rfl h
   ·rintro ⟨rfl, h⟩
    have : (j : Int) = 2 := hjw
    exact a2 (by omega) rfl h
   ·rintro ⟨hk, h⟩
    have h1 : 1 ≤ ways k := by rcases hk with rfl | rfl | rfl <;> decide
    exact a1 (by omega) h1 h
  rw [hwy]
  exact ⟨rfl, rfl⟩
theorem zdq (l : Lay) (s : Step) : C f_lockbarref06_Step [l.av, s.av] (ib (za5 l s)) := by
 refine ctr (l.cells ++ s.cells) run_lockbarref06_Step rfl (by simp [zac]) rfl ?_ rfl
 unfold rt_lockbarref06_Step
 simp [Lay.cells, Step.cells]
 by_cases hc : 0 ≤ s.s ∧ s.s < l.secs.length
 ·obtain ⟨n, hn, hlt, he⟩ := zaY hc.1 hc.2
  have hls : za5 l s = way l.secs[n].kind s.i s.o := by simp [za5, he]
  rw [hls]
  simp [hn, hlt, Sec.cells]
  refine ⟨fun h => by omega, ?_⟩
  refine call (zkd l.secs[n].kind s.i s.o) (by simp [hlt, Sec.cells]) (by simp) ?_
  simp
 ·simp [za5, za2 hc]
  exact fun a b => absurd ⟨a, b⟩ hc
theorem znC (k i o : Int) : C f_lockbarref05_Pos [U k, I i, I o] (ib (if (way k i o).2 = true ∧ k ≠ 2 then (-1, true) else way k i o)) := by
 refine ctr [U k, I i, I o] run_lockbarref05_Pos rfl rfl rfl ?_ rfl
 unfold rt_lockbarref05_Pos
 refine call (zkd k i o) (by simp) (by simp) ?_
 generalize way k i o = w
 obtain ⟨a, b⟩ := w
 cases b <;> by_cases h : k = 2 <;> simp [h]
theorem zls (l : Lay) (s : Step) : C f_lockbarref10_there [l.av, s.av] (.bool (za5 l s).2) := by
 refine ctr (l.cells ++ s.cells) run_lockbarref10_there rfl (by simp [zac]) rfl ?_ rfl
 unfold rt_lockbarref10_there
 simp [Lay.cells, Step.cells]
 refine call (zdq l s) (by simp [Lay.cells, Step.cells]) (by simp) ?_
 simp
theorem zfX (l : Lay) (ho : l.ovOk) (x : Int) : C f_lockbarref10_Over [l.av, I x] (steps (over l x)) := by
 refine ctr (l.cells ++ [I x]) run_lockbarref10_Over rfl (by simp [zac, AV.pureAll, AV.pure]) (by simp [AV.pure]) ?_ rfl
 unfold rt_lockbarref10_Over
 simp [Lay.cells]
 by_cases hc : 0 ≤ x ∧ x < l.exits.length
 ·obtain ⟨n, hn, hlt, he⟩ := zft hc.1 hc.2
  have hk := ho _ (List.getElem_mem hlt)
  subst hn
  simp [hlt, Exi.cells, over, he]
  refine ⟨fun h => by omega, fun x _ => by simp [Step.cells], by omega⟩
 ·simp [over, zdu hc]
  exact fun a b => absurd ⟨a, b⟩ hc
theorem zlr (l : Lay) (s : Step) : C f_lockbarref10_Point [l.av, s.av] (iib (point l s)) := by
 refine ctr (l.cells ++ s.cells) run_lockbarref10_Point rfl (by simp [zac]) rfl ?_ rfl
 unfold rt_lockbarref10_Point
 simp [Lay.cells, Step.cells]
 refine call (zls l s) (by simp [Lay.cells, Step.cells]) (by simp) ?_
 by_cases hc : 0 ≤ s.s ∧ s.s < l.secs.length
 ·obtain ⟨n, hn, hlt, he⟩ := zaY hc.1 hc.2
  have hls : za5 l s = way l.secs[n].kind s.i s.o := by simp [za5, he]
  have hpt : point l s = if (way l.secs[n].kind s.i s.o).2 = true ∧ l.secs[n].kind = 2 then (s.s, (way 2 s.i s.o).1, true) else (0, 0, false) := by simp [point, he]
  rw [hls, hpt]
  clear hls hpt
  cases hw : (way l.secs[n].kind s.i s.o).2
  ·simp [hn, hlt, Sec.cells, hw]
  ·by_cases hk : l.secs[n].kind = 2
   ·rw [hk] at hw ⊢
    simp [hn, hlt, Sec.cells, hw, hk]
    refine call (znC 2 s.i s.o) (by simp) (by simp) ?_
    simp
   ·simp [hn, hlt, Sec.cells, hw, hk]
 ·simp [point, za5, za2 hc]
end Go.Lb.LK
namespace Go.Lb.LK
open Go Go.Lb Go.Proofs Go.RowKit
def zaw (k : Int) : Int := if k = 1 then 2 else if k = 2 then 3 else if k = 3 then 4 else 0
theorem zfF (k : Int) : 0 ≤ zaw k ∧ zaw k ≤ 4 := by unfold zaw; split <;> (try split) <;> (try split) <;> omega
theorem zca (k : Int) : C f_lockbarref05_Ports [U k] (I (zaw k)) := by
 refine ctr [U k] run_lockbarref05_Ports rfl rfl rfl ?_ rfl
 unfold rt_lockbarref05_Ports
 by_cases h1 : k = 1
 ·simp [zaw, h1]
 ·by_cases h2 : k = 2
  ·simp [zaw, h2]
  ·by_cases h3 : k = 3 <;> simp [zaw, h1, h2, h3]
def noP : Port := ⟨-1, 0⟩
def Sec.join (s : Sec) (i : Nat) : Port := if i = 0 then s.j0 else if i = 1 then s.j1 else if i = 2 then s.j2 else s.j3
def Sec.cls (s : Sec) (i : Nat) : Int := if i = 0 then s.c0 else s.c1
theorem zpR (s : Sec) {i : Nat} {z : Int} (hz : z = i) (h : i < 4) : pv (.aidx 4 2 1 2 true) [.agg s.cells, I z] = (s.join i).av := by
 subst hz
 match i, h with
 | 0, _ => rfl
 | 1, _ => rfl
 | 2, _ => rfl
 | 3, _ => rfl
theorem zq8 (s : Sec) {i : Nat} {z : Int} (hz : z = i) (h : i < 4) : pv (.aidx 4 2 1 1 false) [.agg s.cells, I z] = I (s.join i).s := by
 subst hz
 match i, h with
 | 0, _ => rfl
 | 1, _ => rfl
 | 2, _ => rfl
 | 3, _ => rfl
theorem aidxC (s : Sec) {i : Nat} {z : Int} (hz : z = i) (h : i < 2) : pv (.aidx 2 1 9 1 false) [.agg s.cells, I z] = I (s.cls i) := by
 subst hz
 match i, h with
 | 0, _ => rfl
 | 1, _ => rfl
theorem zdM (x y : Port) : AV.eqs x.cells y.cells = decide (x = y) := by
 obtain ⟨a, b⟩ := x
 obtain ⟨d, e⟩ := y
 simp [Port.cells, AV.eqs, AV.eq1]
 by_cases h1 : a = d <;> by_cases h2 : b = e <;> simp [h1, h2]
def hasP (l : Lay) (p : Port) : Bool := match zdZ l p.s with
 | some s => decide (0 ≤ p.p) && decide (p.p < zaw s.kind)
 | none => false
def zat (l : Lay) (p : Port) : Port := match zdZ l p.s with
 | some s => if 0 ≤ p.p ∧ p.p < zaw s.kind then s.join p.p.toNat else noP
 | none => noP
theorem zkf (l : Lay) (p : Port) : C f_lockbarref07_Has [l.av, p.av] (.bool (hasP l p)) := by
 refine ctr (l.cells ++ p.cells) run_lockbarref07_Has rfl (by simp [zac]) rfl ?_ rfl
 unfold rt_lockbarref07_Has
 simp [Lay.cells, Port.cells]
 by_cases hc : 0 ≤ p.s ∧ p.s < l.secs.length
 ·obtain ⟨n, hn, hlt, he⟩ := zaY hc.1 hc.2
  have hls : hasP l p = (decide (0 ≤ p.p) && decide (p.p < zaw l.secs[n].kind)) := by simp [hasP, he]
  rw [hls]
  simp [hn, hlt, Sec.cells]
  refine zaj (avs := [U l.secs[n].kind]) (I (zaw l.secs[n].kind)) rfl (fun _ => ⟨by simp [hlt, Sec.cells], zca _⟩) (fun _ => rfl) ?_
  by_cases h0 : 0 ≤ p.p <;> simp [h0, hlt]
 ·have hls : hasP l p = false := by simp [hasP, za2 hc]
  rw [hls]
  have hc2 : 0 ≤ p.s → ¬ p.s < l.secs.length := fun h1 h2 => hc ⟨h1, h2⟩
  by_cases h0 : 0 ≤ p.s
  ·have h1 := hc2 h0
   simp [h0, h1]
   refine zaj (avs := []) (I 0) rfl (fun hh => ?_) (fun _ => rfl) ?_
   ·simp [h0, h1] at hh
   ·simp [h0, h1]
  ·simp [h0]
   refine zaj (avs := []) (I 0) rfl (fun hh => ?_) (fun _ => rfl) ?_
   ·simp [h0] at hh
   ·simp [h0]
theorem zij : C f_lockbarref07_none [] noP.av := by
 refine ctr [] run_lockbarref07_none rfl rfl rfl ?_ rfl
 unfold rt_lockbarref07_none
 simp [noP, Port.cells]
theorem zpa {l : Lay} {p : Port} : hasP l p = true ↔ ∃ n : Nat, ∃ m : Nat, p.s = n ∧ p.p = m ∧ m < 4 ∧ ∃ h : n < l.secs.length, (m : Int) < zaw l.secs[n].kind := by
 unfold hasP
 constructor
 ·intro h
  by_cases hc : 0 ≤ p.s ∧ p.s < l.secs.length
  ·obtain ⟨n, hn, hlt, he⟩ := zaY hc.1 hc.2
   rw [he] at h
   simp only [Bool.and_eq_true, decide_eq_true_eq] at h
   have := zfF l.secs[n].kind
   exact ⟨n, p.p.toNat, hn, by omega, by omega, hlt, by omega⟩
  ·rw [za2 hc] at h; cases h
 ·rintro ⟨n, m, h1, h2, h3, hlt, h4⟩
  obtain ⟨n', hn', hlt', he⟩ := zaY (l := l) (s := p.s) (by omega) (by omega)
  have : n' = n := by omega
  subst this
  rw [he]
  simp only [Bool.and_eq_true, decide_eq_true_eq]
  exact ⟨by omega, by omega⟩
theorem zhf {l : Lay} {p : Port} (h : hasP l p = true) : ∃ n : Nat, ∃ m : Nat, p.s = n ∧ p.p = m ∧ m < 4 ∧ ∃ h : n < l.secs.length, zat l p = l.secs[n].join m := by
 obtain ⟨n, m, h1, h2, h3, hlt, h4⟩ := zpa.1 h
 obtain ⟨n', hn', hlt', he⟩ := zaY (l := l) (s := p.s) (by omega) (by omega)
 have : n' = n := by omega
 subst this
 refine ⟨n', m, h1, h2, h3, hlt, ?_⟩
 unfold zat
 rw [he]
 simp only
 rw [if_pos ⟨by omega, by omega⟩, h2]; rfl
theorem zhg {l : Lay} {p : Port} (h : hasP l p = false) : zat l p = noP := by
 unfold hasP at h
 unfold zat
 split
 ·rename_i s hs
  rw [hs] at h
  simp only [Bool.and_eq_false_iff, decide_eq_false_iff_not] at h
  rw [if_neg (by omega)]
 ·rfl
theorem zd6 (l : Lay) (p : Port) : C f_lockbarref07_Beyond [l.av, p.av] (zat l p).av := by
 refine ctr (l.cells ++ p.cells) run_lockbarref07_Beyond rfl (by simp [zac]) (by simp [AV.pure]) ?_ rfl
 unfold rt_lockbarref07_Beyond
 simp [Lay.cells, Port.cells]
 refine call (zkf l p) (by simp [Lay.cells, Port.cells]) (fun _ => rfl) ?_
 cases hh : hasP l p
 ·simp
  refine call zij rfl (by simp) ?_
  simp [zhg hh, noP, Port.cells]
 ·obtain ⟨n, m, h1, h2, h3, hlt, h4⟩ := zhf hh
  have hm : m = 0 ∨ m = 1 ∨ m = 2 ∨ m = 3 := by omega
  rcases hm with rfl | rfl | rfl | rfl <;> simp [h1, h2, h4, hlt, Sec.cells, Sec.join, Port.cells]
end Go.Lb.LK
namespace Go.Lb.LK
open Go Go.Lb Go.Proofs Go.RowKit
def zpl : Port := ⟨0, 0⟩
def zc9 : Sec := ⟨1, zpl, zpl, zpl, zpl, 0, 0⟩
end Go.Lb.LK
namespace Go.Lb.LK
open Go Go.Lb Go.Proofs Go.RowKit
def Hd.n (h : Hd) : Nat := h.path.steps.length
end Go.Lb.LK
namespace Go.Lb.LK
open Go Go.Lb Go.Proofs Go.RowKit
end Go.Lb.LK
namespace Go.Lb.LK
open Go Go.Lb Go.Proofs Go.RowKit
end Go.Lb.LK
namespace Go.Lb.LK
open Go Go.Lb Go.Proofs Go.RowKit
end Go.Lb.LK
namespace Go.Lb.LK
open Go Go.Lb Go.Proofs Go.RowKit
end Go.Lb.LK
namespace Go.Lb.LK
open Go Go.Lb Go.Proofs Go.RowKit
theorem zgu (k : Int) (h0 : 0 ≤ k) (h1 : k ≤ 255) : C f_port_Ports [U k] (I (zaw k)) := by
 refine ctr [U k] run_port_Ports rfl rfl rfl ?_ rfl
 unfold rt_port_Ports
 refine call (zdp k h0 h1) (by simp) (by simp) ?_
 rcases zcR h0 h1 with rfl | rfl | rfl | rfl | h
 ·simp [zau, zaw]
 ·simp [zau, zaw]
 ·simp [zau, zaw]
 ·simp [zau, zaw]
 ·simp [zau, zaw, show k ≠ 1 by omega, show k ≠ 2 by omega, show k ≠ 3 by omega]
theorem zfW (l : Lay) (hl : l.ok) (p : Port) : C f_join_Has [l.av, p.av] (.bool (hasP l p)) := by
 refine ctr (l.cells ++ p.cells) run_join_Has rfl (by simp [zac]) rfl ?_ rfl
 unfold rt_join_Has
 simp [Lay.cells, Port.cells]
 by_cases hc : 0 ≤ p.s ∧ p.s < l.secs.length
 ·obtain ⟨n, hn, hlt, he⟩ := zaY hc.1 hc.2
  have hls : hasP l p = (decide (0 ≤ p.p) && decide (p.p < zaw l.secs[n].kind)) := by simp [hasP, he]
  have hkd := hl _ (List.getElem_mem hlt)
  rw [hls]
  simp [hn, hlt, Sec.cells]
  refine zaj (avs := [U l.secs[n].kind]) (I (zaw l.secs[n].kind)) rfl (fun _ => ⟨by simp [hlt, Sec.cells], zgu _ hkd.1 hkd.2⟩) (fun _ => rfl) ?_
  by_cases h0 : 0 ≤ p.p <;> simp [h0, hlt]
 ·have hls : hasP l p = false := by simp [hasP, za2 hc]
  rw [hls]
  have hc2 : 0 ≤ p.s → ¬ p.s < l.secs.length := fun h1 h2 => hc ⟨h1, h2⟩
  by_cases h0 : 0 ≤ p.s
  ·have h1 := hc2 h0
   simp [h0, h1]
   refine zaj (avs := []) (I 0) rfl (fun hh => ?_) (fun _ => rfl) ?_
   ·simp [h0, h1] at hh
   ·simp [h0, h1]
  ·simp [h0]
   refine zaj (avs := []) (I 0) rfl (fun hh => ?_) (fun _ => rfl) ?_
   ·simp [h0] at hh
   ·simp [h0]
theorem zcL (l : Lay) (hl : l.ok) (p : Port) : C f_join_Beyond [l.av, p.av] (zat l p).av := by
 refine ctr (l.cells ++ p.cells) run_join_Beyond rfl (by simp [zac]) (by simp [AV.pure]) ?_ rfl
 unfold rt_join_Beyond
 simp [Lay.cells, Port.cells]
 refine call (zfW l hl p) (by simp [Lay.cells, Port.cells]) (fun _ => rfl) ?_
 cases hh : hasP l p
 ·simp [zhg hh, noP, Port.cells]
 ·obtain ⟨n, m, h1, h2, h3, hlt, h4⟩ := zhf hh
  have hm : m = 0 ∨ m = 1 ∨ m = 2 ∨ m = 3 := by omega
  rcases hm with rfl | rfl | rfl | rfl <;> simp [h1, h2, h4, hlt, Sec.cells, Sec.join, Port.cells]
end Go.Lb.LK
