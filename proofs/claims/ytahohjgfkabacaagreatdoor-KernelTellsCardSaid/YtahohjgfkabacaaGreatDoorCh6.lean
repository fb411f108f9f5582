/- What a held route still holds, and zfn, as the program has it. -/
import Derived.Test.YtahohjgfkabacaaGreatDoorCh5
set_option linter.unusedSimpArgs false
set_option linter.unusedVariables false
namespace Go.Lb.LK
open Go Go.Lb Go.Proofs Go.RowKit
theorem zij (h : Hd) (hl : h.len) : C f_held_Sections [h.av] (ints (zaG h)) := by
 obtain ⟨h1, h2, h3⟩ := hl
 refine ctr h.cells run_held_Sections rfl (by simp) (by simp) ?_ rfl
 unfold rt_held_Sections
 simp [Hd.cells]
 obtain ⟨g, hg⟩ : ∃ g : Nat, g = h.gone.toNat := ⟨_, rfl⟩
 refine zac rfl (fun vs => ∃ i : Nat, i ≤ h.path.steps.length ∧ vs = [I i, ints (((h.path.steps.take i).drop g).map (·.s))]) (fun vs => match vs with | [.int _ j, _] => h.path.steps.length - j.toNat | _ => 0) ⟨0, by omega, by simp⟩ ?_
 rintro vs - ⟨i, hi, rfl⟩
 simp
 refine ⟨fun hlt => ?_, fun hge => ?_⟩
 ·have hw := zad (i := i) (by omega)
  simp [hlt, Step.cells, hw]
  refine ⟨fun hle => ?_, fun hle => ?_⟩
  ·have hgi : g ≤ i := by omega
   have := zdA h.path.steps hgi hlt
   have e := congrArg (List.map (I ∘ fun x : Step => x.s)) this
   simp at e
   refine ⟨by omega, ⟨i + 1, by omega, by omega, ?_⟩, by omega⟩
   exact e.symm
  ·refine ⟨⟨i + 1, by omega, by omega, ?_⟩, by omega⟩
   rw [List.drop_of_length_le (by simp; omega), List.drop_of_length_le (by simp; omega)]
 ·have ht : (h.path.steps.map (fun x => x.s)).take i = h.path.steps.map (fun x => x.s) := List.take_of_length_le (by simp; omega)
  rw [ht]
  refine zac rfl (fun vs => ∃ k : Nat, k ≤ h.over.length ∧ vs = [I k, ints ((h.path.steps.drop g).map (·.s) ++ if h.opn = true then [] else (h.over.take k).map (·.s))]) (fun vs => match vs with | [.int _ j, _] => h.over.length - j.toNat | _ => 0) ⟨0, by omega, by simp⟩ ?_
  rintro vs - ⟨k, hk, rfl⟩
  cases ho : h.opn
  ·simp
   refine ⟨fun hlt => ?_, fun hge => ?_⟩
   ·have hw := zad (i := k) (by omega)
    have hmt := map_take (I ∘ fun x : Step => x.s) h.over hlt
    simp [hlt, Step.cells, hw]
    refine ⟨by omega, ⟨k + 1, by omega, by omega, ?_⟩, by omega⟩
    simpa using hmt.symm
   ·have : h.over.take k = h.over := List.take_of_length_le (by omega)
    simp [zaG, ho, this, hg]
    rw [List.take_of_length_le (by simpa using hge)]
  ·simp
   refine ⟨fun hlt => ?_, fun hge => ?_⟩
   ·have hw := zad (i := k) (by omega)
    simp [hlt, Step.cells, hw]
    exact ⟨⟨k + 1, by omega, by omega⟩, by omega⟩
   ·simp [zaG, ho, hg]
theorem zf8 (h : Hd) (hl : h.len) (s : Int) : C f_held_Has [h.av, I s] (.bool (decide (s ∈ zaG h))) := by
 have hl' := hl
 obtain ⟨h1, h2, h3⟩ := hl
 have hsl := zh2 h
 refine ctr (h.cells ++ [I s]) run_held_Has rfl (by simp [zaf, AV.pureAll, AV.pure]) rfl ?_ rfl
 unfold rt_held_Has
 simp [Hd.cells]
 refine call (zij h hl') (by simp [Hd.cells]) (by simp) ?_
 simp
 refine zac rfl (fun vs => ∃ i : Nat, i ≤ (zaG h).length ∧ vs = [I i] ∧ zar (fun x => decide (x = s)) ((zaG h).take i)) (fun vs => match vs with | [.int _ j] => (zaG h).length - j.toNat | _ => 0) ⟨0, by simp, by simp, rfl⟩ ?_
 rintro vs - ⟨i, hik, rfl, hq⟩
 simp
 refine ⟨fun hlt => ?_, fun hge => ?_⟩
 ·have hw := zad (i := i) (by omega)
  simp [hlt, hw]
  by_cases he : s = (zaG h)[i]
  ·simp [he]
  ·have he2 : ¬ (zaG h)[i] = s := fun h => he h.symm
   simp [he]
   exact ⟨⟨i + 1, by omega, by omega, zao hlt hq (by simpa using he2)⟩, by omega⟩
 ·have : (zaG h).take i = zaG h := List.take_of_length_le (by omega)
  rw [this] at hq
  unfold zar at hq
  simp at hq
  exact fun hm => hq s hm rfl
def zcS (h : Hd) (p : Int) : Option Int := ((zai h).find? fun x => decide (x.p = p)).map (·.pos)
def optP (o : Option Int) : AV := .tup [I (o.getD 0), .bool o.isSome]
theorem zdn {α : Type} {q : α → Bool} {l : List α} {i : Nat} (hi : i < l.length) (h : zar q (l.take i)) (hq : q l[i] = true) : l.find? q = some l[i] := by
 have e : l.find? q = (l.take i ++ l.drop i).find? q := by rw [List.take_append_drop]
 rw [e, List.find?_append]
 have h1 : (l.take i).find? q = none := by
  rw [List.find?_eq_none]
  intro x hx hqx
  have := List.any_eq_false.1 h x hx
  exact this hqx
 rw [h1, List.drop_eq_getElem_cons hi, List.find?_cons, hq]
 rfl
theorem zfF {α : Type} {q : α → Bool} {l : List α} (h : zar q l) : l.find? q = none := by
 rw [List.find?_eq_none]
 intro x hx hqx
 exact List.any_eq_false.1 h x hx hqx
theorem zgK (h : Hd) (hl : h.len) (p : Int) : C f_held_Wants [h.av, I p] (optP (zcS h p)) := by
 have hnn := zbb h
 have hl3 := hl.2.2
 refine ctr (h.cells ++ [I p]) run_held_Wants rfl (by simp [zaf, AV.pureAll, AV.pure]) rfl ?_ rfl
 unfold rt_held_Wants
 simp [Hd.cells]
 refine call (zb8 h hl) (by simp [Hd.cells]) (by simp) ?_
 simp
 refine zac rfl (fun vs => ∃ i : Nat, i ≤ (zai h).length ∧ vs = [I i] ∧ zar (fun x => decide (x.p = p)) ((zai h).take i)) (fun vs => match vs with | [.int _ j] => (zai h).length - j.toNat | _ => 0) ⟨0, by simp, by simp, rfl⟩ ?_
 rintro vs - ⟨i, hik, rfl, hq⟩
 simp
 refine ⟨fun hlt => ?_, fun hge => ?_⟩
 ·have hw := zad (i := i) (by omega)
  by_cases he : (zai h)[i].p = p
  ·simp [hlt, Need.cells, hw, he, zcS, zdn hlt hq (by simpa using he), optP]
  ·simp [hlt, Need.cells, hw, he]
   exact ⟨⟨i + 1, by omega, by omega, zao hlt hq (by simpa using he)⟩, by omega⟩
 ·have : (zai h).take i = zai h := List.take_of_length_le (by omega)
  rw [this] at hq
  simp [zcS, zfF hq, optP]
theorem ziI (h : Hd) (hl : h.len) (p : Int) : C f_lockbarref17_Wants [h.av, I p] (optP (zcS h p)) := by
 have hnn := zbb h
 have hl3 := hl.2.2
 refine ctr (h.cells ++ [I p]) run_lockbarref17_Wants rfl (by simp [zaf, AV.pureAll, AV.pure]) rfl ?_ rfl
 unfold rt_lockbarref17_Wants
 simp [Hd.cells]
 refine call (zc6 h hl) (by simp [Hd.cells]) (by simp) ?_
 simp
 refine zac rfl (fun vs => ∃ i : Nat, i ≤ (zai h).length ∧ vs = [I i] ∧ zar (fun x => decide (x.p = p)) ((zai h).take i)) (fun vs => match vs with | [.int _ j] => (zai h).length - j.toNat | _ => 0) ⟨0, by simp, by simp, rfl⟩ ?_
 rintro vs - ⟨i, hik, rfl, hq⟩
 simp
 refine ⟨fun hlt => ?_, fun hge => ?_⟩
 ·have hw := zad (i := i) (by omega)
  by_cases he : (zai h)[i].p = p
  ·simp [hlt, Need.cells, hw, he, zcS, zdn hlt hq (by simpa using he), optP]
  ·simp [hlt, Need.cells, hw, he]
   exact ⟨⟨i + 1, by omega, by omega, zao hlt hq (by simpa using he)⟩, by omega⟩
 ·have : (zai h).take i = zai h := List.take_of_length_le (by omega)
  rw [this] at hq
  simp [zcS, zfF hq, optP]
end Go.Lb.LK
namespace Go.Lb.LK
open Go Go.Lb
@[simp] theorem zr1 : IntKind.u32.min = 0 := by decide +kernel
@[simp] theorem zrJ : IntKind.u32.max = 4294967295 := by decide +kernel
theorem zsI {cs : List AV} (h : imgT.fits cs) : ∃ x : Img, AV.agg cs = x.av ∧ x.ok := by
 simp only [imgT, inT, uT, iT, zcd, za3, zaY, za2, List.append_nil, List.cons_append, List.nil_append] at h
 obtain ⟨age, q, rfl, _, f0, q, rfl, _, f1, q, rfl, _, f2, q, rfl, _, f3, q, rfl, _, f4, q, rfl, _, f5, q, rfl, _, f6, q, rfl, _, f7, q, rfl, _, f8, q, rfl, _, f9, q, rfl, _, f10, q, rfl, _, f11, q, rfl, _, f12, q, rfl, _, f13, q, rfl, _, f14, q, rfl, _, f15, q, rfl, _, f16, q, rfl, _, f17, q, rfl, _, f18, q, rfl, _, f19, q, rfl, _, f20, q, rfl, _, f21, q, rfl, _, f22, q, rfl, _, f23, q, rfl, _, oc, q, rfl, h1, no, q, rfl, h2, re, q, rfl, h3, la, q, rfl, h4, rfl⟩ := h
 simp only [zr1, zrJ] at h1 h2 h3 h4
 exact ⟨⟨age, fun i => [f0, f1, f2, f3, f4, f5, f6, f7, f8, f9, f10, f11, f12, f13, f14, f15, f16, f17, f18, f19, f20, f21, f22, f23].getD i 0, oc, no, re, la⟩, rfl, h1, h2, h3, h4⟩
theorem zr3 {cs : List AV} (h : zsa.fits cs) : ∃ x : Hd, AV.agg cs = x.av ∧ 0 ≤ x.stage ∧ x.stage ≤ 255 := by
 simp only [zsa, zs4, iT, zcd, za3, zgM, zaY, zb7, za2, List.append_nil, List.cons_append, List.nil_append] at h
 obtain ⟨id, q, rfl, _, sig, q, rfl, _, ex, q, rfl, _, es, q, rfl, hs, ov, q, rfl, ho, ne, q, rfl, hn, st, q, rfl, h1, go, q, rfl, _, w0, q, rfl, w1, q, rfl, w2, q, rfl, w3, q, rfl, w4, q, rfl, w5, q, rfl, w6, q, rfl, w7, q, rfl, w8, q, rfl, w9, q, rfl, w10, q, rfl, w11, q, rfl, op, q, rfl, ti, q, rfl, _, sh, q, rfl, rfl⟩ := h
 obtain ⟨es, rfl⟩ := zgQ (g := Step.av) (fun cs h => zmv h) es hs.2
 obtain ⟨ov, rfl⟩ := zgQ (g := Step.av) (fun cs h => zmv h) ov ho.2
 obtain ⟨ne, rfl⟩ := zgQ (g := Need.av) (fun cs h => zrI h) ne hn.2
 exact ⟨⟨id, ⟨sig, ex, es⟩, ov, ne, st, go, fun i => [w0, w1, w2, w3, w4, w5, w6, w7, w8, w9, w10, w11].getD i false, op, ti, sh⟩, rfl, by simpa using h1⟩
theorem zl1 {x : AV} (h : imgT.fits x.cells) (h2 : zgg true x) : ∃ l : Img, x = l.av ∧ l.ok := by
 obtain ⟨cs, rfl⟩ := h2.1 rfl
 exact zsI h
end Go.Lb.LK
namespace Go.Lb.LK
open Go Go.Lb
structure Kern where
 next : Int
 held : List Hd
 want : Nat → Int
 run : Nat → Int
 fail : Nat → Bool
def zau (w r : Nat → Int) (f : Nat → Bool) : List AV := [I (w 0), I (r 0), .bool (f 0), I (w 1), I (r 1), .bool (f 1), I (w 2), I (r 2), .bool (f 2), I (w 3), I (r 3), .bool (f 3), I (w 4), I (r 4), .bool (f 4), I (w 5), I (r 5), .bool (f 5), I (w 6), I (r 6), .bool (f 6), I (w 7), I (r 7), .bool (f 7), I (w 8), I (r 8), .bool (f 8), I (w 9), I (r 9), .bool (f 9), I (w 10), I (r 10), .bool (f 10), I (w 11), I (r 11), .bool (f 11), I (w 12), I (r 12), .bool (f 12), I (w 13), I (r 13), .bool (f 13), I (w 14), I (r 14), .bool (f 14), I (w 15), I (r 15), .bool (f 15), I (w 16), I (r 16), .bool (f 16), I (w 17), I (r 17), .bool (f 17), I (w 18), I (r 18), .bool (f 18), I (w 19), I (r 19), .bool (f 19), I (w 20), I (r 20), .bool (f 20), I (w 21), I (r 21), .bool (f 21), I (w 22), I (r 22), .bool (f 22), I (w 23), I (r 23), .bool (f 23)]
def Kern.cells (k : Kern) : List AV := [I k.next, .sl (k.held.map Hd.av), I (k.want 0), I (k.run 0), .bool (k.fail 0), I (k.want 1), I (k.run 1), .bool (k.fail 1), I (k.want 2), I (k.run 2), .bool (k.fail 2), I (k.want 3), I (k.run 3), .bool (k.fail 3), I (k.want 4), I (k.run 4), .bool (k.fail 4), I (k.want 5), I (k.run 5), .bool (k.fail 5), I (k.want 6), I (k.run 6), .bool (k.fail 6), I (k.want 7), I (k.run 7), .bool (k.fail 7), I (k.want 8), I (k.run 8), .bool (k.fail 8), I (k.want 9), I (k.run 9), .bool (k.fail 9), I (k.want 10), I (k.run 10), .bool (k.fail 10), I (k.want 11), I (k.run 11), .bool (k.fail 11), I (k.want 12), I (k.run 12), .bool (k.fail 12), I (k.want 13), I (k.run 13), .bool (k.fail 13), I (k.want 14), I (k.run 14), .bool (k.fail 14), I (k.want 15), I (k.run 15), .bool (k.fail 15), I (k.want 16), I (k.run 16), .bool (k.fail 16), I (k.want 17), I (k.run 17), .bool (k.fail 17), I (k.want 18), I (k.run 18), .bool (k.fail 18), I (k.want 19), I (k.run 19), .bool (k.fail 19), I (k.want 20), I (k.run 20), .bool (k.fail 20), I (k.want 21), I (k.run 21), .bool (k.fail 21), I (k.want 22), I (k.run 22), .bool (k.fail 22), I (k.want 23), I (k.run 23), .bool (k.fail 23)]
abbrev Kern.av (k : Kern) : AV := .agg k.cells
abbrev zig (l : List Hd) : AV := .sl (l.map Hd.av)
@[simp] theorem zsv (l : List Hd) : AV.pureAll (l.map Hd.av) = true := zbJ _ (fun x => by simp [AV.pure]) l
@[simp] theorem Kern.pure (k : Kern) : AV.pureAll k.cells = true := by simp [Kern.cells, AV.pureAll, AV.pure]
structure Mach where
 want : Int
 run : Int
 fail : Bool
 deriving DecidableEq
def Mach.cells (m : Mach) : List AV := [I m.want, I m.run, .bool m.fail]
abbrev Mach.av (m : Mach) : AV := .agg m.cells
@[simp] theorem Mach.pure (m : Mach) : AV.pureAll m.cells = true := by simp [Mach.cells, AV.pureAll, AV.pure]
def Kern.mach (k : Kern) (i : Nat) : Mach := ⟨k.want i, k.run i, k.fail i⟩
theorem zlu (w r : Nat → Int) (f : Nat → Bool) {i : Nat} (h : i < 24) (d : AV) : (zau w r f).getD (i * 3 + 2) d = .bool (f i) := by
 match i, h with
 | 0, _ => rfl
 | 1, _ => rfl
 | 2, _ => rfl
 | 3, _ => rfl
 | 4, _ => rfl
 | 5, _ => rfl
 | 6, _ => rfl
 | 7, _ => rfl
 | 8, _ => rfl
 | 9, _ => rfl
 | 10, _ => rfl
 | 11, _ => rfl
 | 12, _ => rfl
 | 13, _ => rfl
 | 14, _ => rfl
 | 15, _ => rfl
 | 16, _ => rfl
 | 17, _ => rfl
 | 18, _ => rfl
 | 19, _ => rfl
 | 20, _ => rfl
 | 21, _ => rfl
 | 22, _ => rfl
 | 23, _ => rfl
 | n + 24, h => exact absurd h (by omega)
def Kern.ok (k : Kern) : Prop := ∀ h ∈ k.held, 0 ≤ h.stage ∧ h.stage ≤ 255
def zcB : TS := .agg [iT, iT, .bool]
def zot : TS := .agg [iT, .sl true zsa, .agg [zcB, zcB, zcB, zcB, zcB, zcB, zcB, zcB, zcB, zcB, zcB, zcB, zcB, zcB, zcB, zcB, zcB, zcB, zcB, zcB, zcB, zcB, zcB, zcB]]
theorem zni : ∀ (n : Nat) (vals : List AV), TS.fitsAll (List.replicate n zcB) vals → ∃ ms : List Mach, ms.length = n ∧ vals = ms.flatMap Mach.cells
 | 0, vals, h => ⟨[], rfl, by rw [List.replicate_zero, za2] at h; rw [h]; rfl⟩
 | n + 1, vals, h => by
  rw [List.replicate_succ, zcB, zaY] at h
  simp only [iT, List.cons_append, List.nil_append, za3, zgM] at h
  obtain ⟨w, q, rfl, _, r, q, rfl, _, f, q, rfl, h⟩ := h
  obtain ⟨ms, h1, rfl⟩ := zni n q h
  exact ⟨⟨w, r, f⟩ :: ms, by simp [h1], rfl⟩
theorem zpt {ms : List Mach} (h : ms.length = 24) : ms.flatMap Mach.cells = zau (fun i => (ms[i]?.map (·.want)).getD 0) (fun i => (ms[i]?.map (·.run)).getD 0) (fun i => (ms[i]?.map (·.fail)).getD false) := by
 match ms, h with
 | [m0, m1, m2, m3, m4, m5, m6, m7, m8, m9, m10, m11, m12, m13, m14, m15, m16, m17, m18, m19, m20, m21, m22, m23], _ => rfl
theorem zam (k : Kern) : k.cells = I k.next :: zig k.held :: zau k.want k.run k.fail := rfl
theorem zrR {cs : List AV} (h : zot.fits cs) : ∃ x : Kern, AV.agg cs = x.av ∧ x.ok := by
 rw [zot, zcd, iT, za3] at h
 obtain ⟨n, q, rfl, _, h⟩ := h
 rw [zb7] at h
 obtain ⟨hs, q, rfl, hh, h⟩ := h
 rw [zaY, List.append_nil] at h
 obtain ⟨ms, h1, rfl⟩ := zni 24 q h
 obtain ⟨hs, rfl, hq⟩ := zmr (g := Hd.av) (Q := fun h => 0 ≤ h.stage ∧ h.stage ≤ 255) (fun cs h => zr3 h) hs hh.2
 rw [zpt h1]
 exact ⟨⟨n, hs, fun i => (ms[i]?.map (·.want)).getD 0, fun i => (ms[i]?.map (·.run)).getD 0, fun i => (ms[i]?.map (·.fail)).getD false⟩, rfl, hq⟩
theorem zkd {x : AV} (h : zot.fits x.cells) (h2 : zgg true x) : ∃ l : Kern, x = l.av ∧ l.ok := by
 obtain ⟨cs, rfl⟩ := h2.1 rfl
 exact zrR h
end Go.Lb.LK
namespace Go.Lb.LK
open Go Go.Lb Go.Proofs Go.RowKit
def zbm (a b : Hd) : Bool := !((zaG a).any fun s => decide (s ∈ zaG b)) && !ze6 (zai a) (zai b)
theorem hh (a b : Hd) : AV.pureAll (a.cells ++ b.cells) = true := by simp [zaf]
theorem zhQ {a b : Hd} {s : Int} (h1 : s ∈ zaG a) (h2 : s ∈ zaG b) : zbm a b = false := by
 have : ((zaG a).any fun s => decide (s ∈ zaG b)) = true := List.any_eq_true.2 ⟨s, h1, by simpa using h2⟩
 simp [zbm, this]
theorem zlm (a b : Hd) (ha : a.len) (hb : b.len) : C f_held_Apart [a.av, b.av] (.bool (zbm a b)) := by
 have hna := zbb a
 have hnb := zbb b
 have ha' := ha
 have hb' := hb
 obtain ⟨h1, h2, h3⟩ := ha
 obtain ⟨k1, k2, k3⟩ := hb
 refine ctr (a.cells ++ b.cells) run_held_Apart rfl (hh a b) rfl ?_ rfl
 unfold rt_held_Apart
 simp [Hd.cells]
 obtain ⟨g, hg⟩ : ∃ g : Nat, g = a.gone.toNat := ⟨_, rfl⟩
 refine zac rfl (fun vs => ∃ i : Nat, i ≤ a.path.steps.length ∧ vs = [I i] ∧ zar (fun s => decide (s ∈ zaG b)) (((a.path.steps.map fun x => x.s).take i).drop g)) (fun vs => match vs with | [.int _ j] => a.path.steps.length - j.toNat | _ => 0) ⟨0, by omega, by simp, by simp [zar]⟩ ?_
 rintro vs - ⟨i, hi, rfl, hq⟩
 simp
 refine ⟨fun hlt => ?_, fun hge => ?_⟩
 ·have hw := zad (i := i) (by omega)
  simp [hlt, Step.cells, hw]
  refine ⟨fun hle => ?_, fun hle => ?_⟩
  ·have hgi : g ≤ i := by omega
   have htd := zdA (a.path.steps.map fun x => x.s) hgi (by simpa using hlt)
   refine call (zf8 b hb' a.path.steps[i].s) (by simp [Hd.cells, hlt, Step.cells]) (by simp) ?_
   by_cases hm : a.path.steps[i].s ∈ zaG b
   ·have hma : a.path.steps[i].s ∈ zaG a := by
     unfold zaG
     refine List.mem_append_left _ (List.mem_map.2 ⟨a.path.steps[i], ?_, rfl⟩)
     rw [← hg]
     exact List.mem_drop_iff_getElem.2 ⟨i - g, by omega, by simp [show g + (i - g) = i by omega]⟩
    simp [hm, zhQ hma hm]
   ·simp [hm, hw]
    refine ⟨⟨i + 1, by omega, by omega, ?_⟩, by omega⟩
    unfold zar at hq ⊢
    rw [htd, List.any_append, hq]
    simpa using hm
  ·refine ⟨⟨i + 1, by omega, by omega, ?_⟩, by omega⟩
   rw [List.drop_of_length_le (by simp; omega)]; simp [zar]
 ·have ht : (a.path.steps.map fun x => x.s).take i = a.path.steps.map fun x => x.s := List.take_of_length_le (by simp; omega)
  rw [ht] at hq
  refine zac rfl (fun vs => ∃ k : Nat, k ≤ a.over.length ∧ vs = [I k] ∧ (a.opn = false → zar (fun s => decide (s ∈ zaG b)) ((a.over.map fun x => x.s).take k))) (fun vs => match vs with | [.int _ j] => a.over.length - j.toNat | _ => 0) ⟨0, by omega, by simp, fun _ => by simp [zar]⟩ ?_
  rintro vs - ⟨k, hk, rfl, hq2⟩
  simp
  refine ⟨fun hlt => ?_, fun hge => ?_⟩
  ·have hw := zad (i := k) (by omega)
   simp [hlt, Step.cells, hw]
   cases ho : a.opn
   ·simp
    refine call (zf8 b hb' a.over[k].s) (by simp [Hd.cells, hlt, Step.cells, ho]) (by simp) ?_
    by_cases hm : a.over[k].s ∈ zaG b
    ·have hma : a.over[k].s ∈ zaG a := by
      unfold zaG
      refine List.mem_append_right _ ?_
      simp only [ho, Bool.false_eq_true, if_false]
      exact List.mem_map_of_mem (List.getElem_mem hlt)
     simp [hm, zhQ hma hm]
    ·simp [hm, hw]
     refine ⟨⟨k + 1, by omega, by omega, ?_⟩, by omega⟩
     exact zao (q := fun s => decide (s ∈ zaG b)) (by simpa using hlt) (hq2 ho) (by simpa using hm)
   ·simp
    exact ⟨⟨k + 1, by omega, by omega⟩, by omega⟩
  ·have hov : (a.over.map fun x => x.s).take k = a.over.map fun x => x.s := List.take_of_length_le (by simp; omega)
   rw [hov] at hq2
   have hsa : zaG a = (a.path.steps.map fun x => x.s).drop g ++ if a.opn = true then [] else a.over.map fun x => x.s := by
    unfold zaG; rw [← hg, List.map_drop]
   have hnone : ((zaG a).any fun s => decide (s ∈ zaG b)) = false := by
    rw [hsa, List.any_append]
    unfold zar at hq hq2
    rw [hq]
    cases ho : a.opn
    ·simpa using hq2 ho
    ·simp
   refine call (zb8 a ha') (by simp [Hd.cells]) (by simp) ?_
   simp
   refine call (zb8 b hb') (by simp [Hd.cells]) (by simp) ?_
   simp
   refine call (zg1 (zai a) (zai b) (by omega) (by omega)) (by simp) (by simp) ?_
   simp only [zbm, hnone]
   simp
theorem zf9 (a b : Hd) (ha : a.len) (hb : b.len) : C f_lockbarref17_Apart [a.av, b.av] (.bool (zbm a b)) := by
 have hna := zbb a
 have hnb := zbb b
 have hsl := zh2 a
 have ha' := ha
 have hb' := hb
 obtain ⟨h1, h2, h3⟩ := ha
 obtain ⟨k1, k2, k3⟩ := hb
 refine ctr (a.cells ++ b.cells) run_lockbarref17_Apart rfl (hh a b) rfl ?_ rfl
 unfold rt_lockbarref17_Apart
 simp [Hd.cells]
 refine call (zfV a ha') (by simp [Hd.cells]) (by simp) ?_
 simp
 refine zac rfl (fun vs => ∃ i : Nat, i ≤ (zaG a).length ∧ vs = [I i] ∧ zar (fun s => decide (s ∈ zaG b)) ((zaG a).take i)) (fun vs => match vs with | [.int _ j] => (zaG a).length - j.toNat | _ => 0) ⟨0, by omega, by simp, rfl⟩ ?_
 rintro vs - ⟨i, hi, rfl, hq⟩
 simp
 refine ⟨fun hlt => ?_, fun hge => ?_⟩
 ·have hw := zad (i := i) (by omega)
  simp [hlt]
  refine call (znE b hb' (zaG a)[i]) (by simp [Hd.cells, hlt]) (by simp) ?_
  by_cases hm : (zaG a)[i] ∈ zaG b
  ·simp [hm, zhQ (List.getElem_mem hlt) hm]
  ·simp [hm, hw]
   exact ⟨⟨i + 1, by omega, by omega, zao hlt hq (by simpa using hm)⟩, by omega⟩
 ·have ht : (zaG a).take i = zaG a := List.take_of_length_le (by omega)
  rw [ht] at hq
  unfold zar at hq
  refine call (zc6 a ha') (by simp [Hd.cells]) (by simp) ?_
  simp
  refine call (zc6 b hb') (by simp [Hd.cells]) (by simp) ?_
  simp
  refine call (ziT (zai a) (zai b) (by omega) (by omega)) (by simp) (by simp) ?_
  simp only [zbm, hq]
  simp
def zaZ (m : Mach) : Bool := (decide (m.want = 0 ∨ m.want = 1) && decide (0 ≤ m.run ∧ m.run ≤ 1000)) || decide (m = ⟨-1, 0, false⟩)
theorem zqD {a b : Mach} : a = b ↔ a.want = b.want ∧ a.run = b.run ∧ a.fail = b.fail := by
 cases a; cases b; simp
theorem zcK (n : Int) : C f_point_position [I n] (.bool (decide (n = 0 ∨ n = 1))) := by
 refine ctr [I n] run_point_position rfl rfl rfl ?_ rfl
 unfold rt_point_position
 simp
 by_cases h1 : n = 0 <;> by_cases h2 : n = 1 <;> simp [h1, h2]
theorem zcA : C f_point_Rest [] (Mach.av ⟨-1, 0, false⟩) := by
 refine ctr [] run_point_Rest rfl rfl rfl ?_ rfl
 unfold rt_point_Rest
 simp [Mach.cells]
theorem zdL : C f_lockbarref16_Rest [] (Mach.av ⟨-1, 0, false⟩) := by
 refine ctr [] run_lockbarref16_Rest rfl rfl rfl ?_ rfl
 unfold rt_lockbarref16_Rest
 simp [Mach.cells]
theorem zno (a b c d : Int) (e f : Bool) : AV.eqs [I a, I b, .bool e] [I c, I d, .bool f] = decide ((⟨a, b, e⟩ : Mach) = ⟨c, d, f⟩) := by
 by_cases h1 : a = c <;> by_cases h2 : b = d <;> cases e <;> cases f <;> simp [AV.eqs, AV.eq1, h1, h2]
theorem zcV (m : Mach) : C f_point_Right [m.av] (.bool (zaZ m)) := by
 refine ctr m.cells run_point_Right rfl (by simp) rfl ?_ rfl
 unfold rt_point_Right
 obtain ⟨w, r, f⟩ := m
 simp [Mach.cells]
 refine call (zcK w) (by simp) (by simp) ?_
 simp
 refine zak (avs := []) (Mach.av ⟨-1, 0, false⟩) rfl (fun _ => ⟨rfl, zcA⟩) (fun _ => rfl) ?_
 simp [Mach.cells, zno, zaZ]
 by_cases h1 : w = 0 <;> by_cases h2 : w = 1 <;> by_cases h3 : w = -1 <;> by_cases h4 : r = 0 <;> cases f <;> simp [h1, h2, h3, h4, Bool.and_assoc]
theorem zeX (m : Mach) : C f_lockbarref16_Right [m.av] (.bool (zaZ m)) := by
 refine ctr m.cells run_lockbarref16_Right rfl (by simp) rfl ?_ rfl
 unfold rt_lockbarref16_Right
 obtain ⟨w, r, f⟩ := m
 simp [Mach.cells]
 refine ⟨fun hb => ?_, fun h1 h2 h3 h4 => ?_⟩
 ·have e1 : ¬ (w = 0 ∨ w = 1) ∨ ¬ (0 ≤ r ∧ r ≤ 1000) := by omega
  have e2 : (⟨w, r, f⟩ : Mach) ≠ ⟨-1, 0, false⟩ := by
   intro h; rw [zqD] at h; simp at h; omega
  simp only [zaZ, e2, decide_false, Bool.or_false]
  rcases e1 with e1 | e1 <;> simp [e1]
 ·refine zak (avs := []) (Mach.av ⟨-1, 0, false⟩) rfl (fun _ => ⟨rfl, zdL⟩) (fun _ => rfl) ?_
  have hw : w = -1 ∨ w = 0 ∨ w = 1 := by omega
  rcases hw with rfl | rfl | rfl <;> simp [Mach.cells, zno, zaZ, h3, h4] <;> rfl
end Go.Lb.LK
namespace Go.Lb.LK
open Go Go.Lb Go.Proofs Go.RowKit
def Kern.len (k : Kern) : Prop := k.held.length ≤ 1048576 ∧ ∀ h ∈ k.held, h.len
theorem ks (k : Kern) (s : Int) : AV.pureAll (k.cells ++ [I s]) = true := by simp [zaf, AV.pureAll, AV.pure]
theorem Kern.at (k : Kern) (hl : k.len) {i : Nat} (h : i < k.held.length) : k.held[i].len := hl.2 _ (List.getElem_mem h)
def zbV (k : Kern) (s : Int) : Option Int := (k.held.find? fun h => decide (s ∈ zaG h)).map (·.id)
theorem zjv (k : Kern) (hl : k.len) (s : Int) : C f_free_Holder [k.av, I s] (optP (zbV k s)) := by
 have h1 := hl.1
 refine ctr (k.cells ++ [I s]) run_free_Holder rfl (ks k s) rfl ?_ rfl
 unfold rt_free_Holder
 simp [Kern.cells]
 refine zac rfl (fun vs => ∃ i : Nat, i ≤ k.held.length ∧ vs = [I i] ∧ zar (fun h => decide (s ∈ zaG h)) (k.held.take i)) (fun vs => match vs with | [.int _ j] => k.held.length - j.toNat | _ => 0) ⟨0, by omega, by simp, rfl⟩ ?_
 rintro vs - ⟨i, hi, rfl, hq⟩
 simp
 refine ⟨fun hlt => ?_, fun hge => ?_⟩
 ·have hw := zad (i := i) (by omega)
  simp [hlt, Hd.cells]
  refine call (zf8 k.held[i] (k.at hl hlt) s) (by simp [hlt, Hd.cells]) (by simp) ?_
  by_cases hm : s ∈ zaG k.held[i]
  ·simp [hm, hlt, Hd.cells, zbV, zdn hlt hq (by simpa using hm), optP]
  ·simp [hm, hw]
   exact ⟨⟨i + 1, by omega, by omega, zao hlt hq (by simpa using hm)⟩, by omega⟩
 ·have : k.held.take i = k.held := List.take_of_length_le (by omega)
  rw [this] at hq
  simp [zbV, zfF hq, optP]
theorem zfu (k : Kern) (hl : k.len) (s : Int) : C f_lockbarref18_Holder [k.av, I s] (optP (zbV k s)) := by
 have h1 := hl.1
 refine ctr (k.cells ++ [I s]) run_lockbarref18_Holder rfl (ks k s) rfl ?_ rfl
 unfold rt_lockbarref18_Holder
 simp [Kern.cells]
 refine zac rfl (fun vs => ∃ i : Nat, i ≤ k.held.length ∧ vs = [I i] ∧ zar (fun h => decide (s ∈ zaG h)) (k.held.take i)) (fun vs => match vs with | [.int _ j] => k.held.length - j.toNat | _ => 0) ⟨0, by omega, by simp, rfl⟩ ?_
 rintro vs - ⟨i, hi, rfl, hq⟩
 simp
 refine ⟨fun hlt => ?_, fun hge => ?_⟩
 ·have hw := zad (i := i) (by omega)
  simp [hlt, Hd.cells]
  refine call (znE k.held[i] (k.at hl hlt) s) (by simp [hlt, Hd.cells]) (by simp) ?_
  by_cases hm : s ∈ zaG k.held[i]
  ·simp [hm, hlt, Hd.cells, zbV, zdn hlt hq (by simpa using hm), optP]
  ·simp [hm, hw]
   exact ⟨⟨i + 1, by omega, by omega, zao hlt hq (by simpa using hm)⟩, by omega⟩
 ·have : k.held.take i = k.held := List.take_of_length_le (by omega)
  rw [this] at hq
  simp [zbV, zfF hq, optP]
def zbB (k : Kern) (p : Int) : Option Int := k.held.findSome? fun h => zcS h p
theorem zq8 {α β : Type} {q : α → Option β} {l : List α} {i : Nat} {b : β} (hi : i < l.length) (h : zar (fun x => (q x).isSome) (l.take i)) (hq : q l[i] = some b) : l.findSome? q = some b := by
 have e : l.findSome? q = (l.take i ++ l.drop i).findSome? q := by rw [List.take_append_drop]
 rw [e, List.findSome?_append]
 have h1 : (l.take i).findSome? q = none := by
  rw [List.findSome?_eq_none_iff]
  intro x hx
  have := List.any_eq_false.1 h x hx
  simpa using this
 rw [h1, List.drop_eq_getElem_cons hi, List.findSome?_cons, hq]
 rfl
theorem zpC {α β : Type} {q : α → Option β} {l : List α} (h : zar (fun x => (q x).isSome) l) : l.findSome? q = none := by
 rw [List.findSome?_eq_none_iff]
 intro x hx
 have := List.any_eq_false.1 h x hx
 simpa using this
theorem zj1 (k : Kern) (hl : k.len) (p : Int) : C f_free_Wanted [k.av, I p] (optP (zbB k p)) := by
 have h1 := hl.1
 refine ctr (k.cells ++ [I p]) run_free_Wanted rfl (ks k p) rfl ?_ rfl
 unfold rt_free_Wanted
 simp [Kern.cells]
 refine zac rfl (fun vs => ∃ i : Nat, i ≤ k.held.length ∧ vs = [I i] ∧ zar (fun h => (zcS h p).isSome) (k.held.take i)) (fun vs => match vs with | [.int _ j] => k.held.length - j.toNat | _ => 0) ⟨0, by omega, by simp, rfl⟩ ?_
 rintro vs - ⟨i, hi, rfl, hq⟩
 simp
 refine ⟨fun hlt => ?_, fun hge => ?_⟩
 ·have hw := zad (i := i) (by omega)
  simp [hlt, Hd.cells]
  refine call (zgK k.held[i] (k.at hl hlt) p) (by simp [hlt, Hd.cells]) (by simp [optP]) ?_
  cases hm : zcS k.held[i] p with
  | some b => simp [optP, zbB, zq8 hlt hq hm]
  | none =>
   simp [optP, hw]
   exact ⟨⟨i + 1, by omega, by omega, zao hlt hq (by simp [hm])⟩, by omega⟩
 ·have : k.held.take i = k.held := List.take_of_length_le (by omega)
  rw [this] at hq
  simp [zbB, zpC hq, optP]
theorem zdS (k : Kern) (hl : k.len) (p : Int) : C f_lockbarref18_Wanted [k.av, I p] (optP (zbB k p)) := by
 have h1 := hl.1
 refine ctr (k.cells ++ [I p]) run_lockbarref18_Wanted rfl (ks k p) rfl ?_ rfl
 unfold rt_lockbarref18_Wanted
 simp [Kern.cells]
 refine zac rfl (fun vs => ∃ i : Nat, i ≤ k.held.length ∧ vs = [I i] ∧ zar (fun h => (zcS h p).isSome) (k.held.take i)) (fun vs => match vs with | [.int _ j] => k.held.length - j.toNat | _ => 0) ⟨0, by omega, by simp, rfl⟩ ?_
 rintro vs - ⟨i, hi, rfl, hq⟩
 simp
 refine ⟨fun hlt => ?_, fun hge => ?_⟩
 ·have hw := zad (i := i) (by omega)
  simp [hlt, Hd.cells]
  refine call (ziI k.held[i] (k.at hl hlt) p) (by simp [hlt, Hd.cells]) (by simp [optP]) ?_
  cases hm : zcS k.held[i] p with
  | some b => simp [optP, zbB, zq8 hlt hq hm]
  | none =>
   simp [optP, hw]
   exact ⟨⟨i + 1, by omega, by omega, zao hlt hq (by simp [hm])⟩, by omega⟩
 ·have : k.held.take i = k.held := List.take_of_length_le (by omega)
  rw [this] at hq
  simp [zbB, zpC hq, optP]
def zaA (k : Kern) (p : Int) : Bool := k.held.any fun h => (zcS h p).isSome && !decide (h.stage = 1)
theorem zd3 (k : Kern) (hl : k.len) (p : Int) : C f_free_Locked [k.av, I p] (.bool (zaA k p)) := by
 have h1 := hl.1
 refine ctr (k.cells ++ [I p]) run_free_Locked rfl (ks k p) rfl ?_ rfl
 unfold rt_free_Locked
 simp [Kern.cells]
 refine zac rfl (fun vs => ∃ i : Nat, i ≤ k.held.length ∧ vs = [I i] ∧ zar (fun h => (zcS h p).isSome && !decide (h.stage = 1)) (k.held.take i)) (fun vs => match vs with | [.int _ j] => k.held.length - j.toNat | _ => 0) ⟨0, by omega, by simp, rfl⟩ ?_
 rintro vs - ⟨i, hi, rfl, hq⟩
 simp
 refine ⟨fun hlt => ?_, fun hge => ?_⟩
 ·have hw := zad (i := i) (by omega)
  simp [hlt, Hd.cells]
  refine call (zgK k.held[i] (k.at hl hlt) p) (by simp [hlt, Hd.cells]) (by simp [optP]) ?_
  cases hm : zcS k.held[i] p with
  | some b =>
   by_cases hs : k.held[i].stage = 1
   ·simp [optP, hlt, Hd.cells, hs, hw]
    exact ⟨⟨i + 1, by omega, by omega, zao hlt hq (by simp [hs])⟩, by omega⟩
   ·have : zaA k p = true := zcc hlt (by simp [hm, hs])
    simp [optP, hlt, Hd.cells, hs, this]
  | none =>
   simp [optP, hlt, Hd.cells, hw]
   exact ⟨⟨i + 1, by omega, by omega, zao hlt hq (by simp [hm])⟩, by omega⟩
 ·have : k.held.take i = k.held := List.take_of_length_le (by omega)
  rw [this] at hq
  have : zaA k p = false := hq
  simp [this]
theorem zdh (k : Kern) (hl : k.len) (p : Int) : C f_lockbarref18_Locked [k.av, I p] (.bool (zaA k p)) := by
 have h1 := hl.1
 refine ctr (k.cells ++ [I p]) run_lockbarref18_Locked rfl (ks k p) rfl ?_ rfl
 unfold rt_lockbarref18_Locked
 simp [Kern.cells]
 refine zac rfl (fun vs => ∃ i : Nat, i ≤ k.held.length ∧ vs = [I i] ∧ zar (fun h => (zcS h p).isSome && !decide (h.stage = 1)) (k.held.take i)) (fun vs => match vs with | [.int _ j] => k.held.length - j.toNat | _ => 0) ⟨0, by omega, by simp, rfl⟩ ?_
 rintro vs - ⟨i, hi, rfl, hq⟩
 simp
 refine ⟨fun hlt => ?_, fun hge => ?_⟩
 ·have hw := zad (i := i) (by omega)
  simp [hlt, Hd.cells]
  refine call (ziI k.held[i] (k.at hl hlt) p) (by simp [hlt, Hd.cells]) (by simp [optP]) ?_
  cases hm : zcS k.held[i] p with
  | some b =>
   by_cases hs : k.held[i].stage = 1
   ·simp [optP, hlt, Hd.cells, hs, hw]
    exact ⟨⟨i + 1, by omega, by omega, zao hlt hq (by simp [hs])⟩, by omega⟩
   ·have : zaA k p = true := zcc hlt (by simp [hm, hs])
    simp [optP, hlt, Hd.cells, hs, this]
  | none =>
   simp [optP, hlt, Hd.cells, hw]
   exact ⟨⟨i + 1, by omega, by omega, zao hlt hq (by simp [hm])⟩, by omega⟩
 ·have : k.held.take i = k.held := List.take_of_length_le (by omega)
  rw [this] at hq
  have : zaA k p = false := hq
  simp [this]
end Go.Lb.LK
namespace Go.Lb.LK
open Go Go.Lb Go.Proofs Go.RowKit
theorem Hd.one (h : Hd) : h.cells.length = 23 ∧ AV.ones h.cells = true := by simp [Hd.cells]
theorem zqE (l : List Hd) {i : Nat} (h : i < l.length) : (l.map Hd.av).set i l[i].av = l.map Hd.av := by
 have : (l.map Hd.av)[i]'(by simpa using h) = l[i].av := by simp
 rw [← this, List.set_getElem_self]
theorem zgu (k : Kern) (hl : k.len) : C f_free_Own [k.av] k.av := by
 have h1 := hl.1
 refine ctr k.cells run_free_Own rfl (by simp) (by simp [AV.pure]) ?_ rfl
 unfold rt_free_Own
 simp [Kern.cells]
 refine ⟨⟨fun a _ => a.one, by omega, ?_⟩, fun he => ?_⟩
 ·refine zac rfl (fun vs => ∃ i : Nat, i ≤ k.held.length ∧ vs = [I i, zig k.held]) (fun vs => match vs with | [.int _ j, _] => k.held.length - j.toNat | _ => 0) ⟨0, by omega, by simp⟩ ?_
  rintro vs - ⟨i, hi, rfl⟩
  simp
  refine ⟨fun hlt => ?_, fun hge => ?_⟩
  ·have hw := zad (i := i) (by omega)
   simp [hlt, Hd.cells]
   refine call (zca k.held[i] (k.at hl hlt)) (by simp [hlt, Hd.cells]) (by simp) ?_
   simp [hlt, Hd.cells, hw]
   refine ⟨⟨i + 1, by omega, by omega, ?_⟩, by omega⟩
   exact zqE k.held hlt
  ·simp [Kern.cells]
 ·refine zac rfl (fun vs => vs = []) (fun _ => 0) rfl ?_
  rintro vs - rfl
  simp [Kern.cells, he]
end Go.Lb.LK
namespace Go.Lb.LK
open Go Go.Lb Go.Proofs Go.RowKit
theorem zaM {h : Hd} (hr : zay h = true) : h.g1 ∧ h.g2 ∧ ze6 h.needs h.needs = false ∧ h.wasOk = true ∧ h.secs.Nodup ∧ h.needs.all (zdP h.path.steps.length) = true := by
 simp only [zay, Bool.and_eq_true, decide_eq_true_eq, Bool.not_eq_true'] at hr
 exact ⟨hr.1, hr.2.1, hr.2.2.1, hr.2.2.2.1, hr.2.2.2.2.1, hr.2.2.2.2.2⟩
theorem zqt (h : Hd) (k : Nat) (hk : k < 12) : (h.cells[k * 1 + 8]?).getD .undef = .bool (h.was k) := by
 rw [Nat.mul_one, ← List.getD_eq_getElem?_getD]; exact zrC h hk _
theorem zlF {l : List Int} {i j : Nat} (hij : i < j) (hj : j < l.length) (he : l[i] = l[j]) : ¬ l.Nodup := by
 intro hn
 have := List.pairwise_iff_getElem.1 hn i j (by omega) hj hij
 exact this he
theorem zob {l : List Int} {k : Nat} (hk : k < l.length) (hn : (l.take k).Nodup) (hi : ∀ i, (h : i < k) → l[i] ≠ l[k]) : (l.take (k + 1)).Nodup := by
 rw [List.take_add_one, List.getElem?_eq_getElem hk]
 simp only [Option.toList_some]
 rw [List.nodup_append]
 refine ⟨hn, by simp, ?_⟩
 intro a ha b hb
 simp at hb; subst hb
 obtain ⟨i, hi2, rfl⟩ := List.mem_iff_getElem.1 ha
 rw [List.length_take] at hi2
 rw [List.getElem_take]
 exact hi i (by omega)
theorem zgr (h : Hd) (hl : h.len) (hs : 0 ≤ h.stage ∧ h.stage ≤ 255) : C f_lockbarref17_Right [h.av] (.bool (zay h)) := by
 obtain ⟨l1, l2, l3⟩ := hl
 refine ctr h.cells run_lockbarref17_Right rfl (by simp) rfl ?_ rfl
 unfold rt_lockbarref17_Right
 simp [Hd.cells]
 refine zak (avs := [needs h.needs, needs h.needs]) (.bool (ze6 h.needs h.needs)) rfl (fun _ => ⟨by simp, ziT _ _ (by omega) (by omega)⟩) (by simp) ?_
 by_cases g1 : h.g1 ∧ h.g2
 ·have g1' := g1.1
  have g2' := g1.2
  obtain ⟨⟨a1, a2, a3, a4, a5, a6, a7⟩, d1, d2, d3, d4⟩ := g1
  have b1 : ¬ h.id < 1 := by omega
  have b2 : ¬ 1073741824 < h.id := by omega
  have b2' : ¬ 1073741824 < h.timer := by omega
  have b3 : ¬ h.timer < 0 := by omega
  have b4 : ¬ ((h.path.steps.length : Int) < 1) := by omega
  have b5 : ¬ (12 < (h.path.steps.length : Int)) := by omega
  have b6 : ¬ (2 < (h.over.length : Int)) := by omega
  have e1 : ¬ h.stage < 1 := by omega
  have e2 : ¬ 5 ≤ h.stage := by omega
  have e3 : ¬ h.gone < 0 := by omega
  have e4 : ¬ (h.path.steps.length : Int) < h.gone := by omega
  simp [b1, b2, b2', b3, b4, b5, b6, e1, e2, e3, e4]
  refine ⟨fun hc => by simp [zay, hc], fun hc => ⟨fun a _ => by simp [Step.cells], by omega, fun a _ => by simp [Step.cells], by omega, ?_⟩⟩
  have hsecs : h.secs = (h.path.steps ++ h.over).map (·.s) := rfl
  have hlen : (h.path.steps ++ h.over).length = h.path.steps.length + h.over.length := by simp
  generalize hall : h.path.steps ++ h.over = all at hsecs hlen
  have hmap : List.map Step.av h.path.steps ++ List.map Step.av h.over = all.map Step.av := by rw [← hall, List.map_append]
  refine zac rfl (fun vs => ∃ k : Nat, k ≤ all.length ∧ vs = [I k] ∧ ((all.map (·.s)).take k).Nodup) (fun vs => match vs with | [.int _ j] => all.length - j.toNat | _ => 0) ⟨0, by simp, by simp, by simp⟩ ?_
  rintro vs - ⟨k, hk, rfl, hnd⟩
  simp [hmap, ← hlen]
  refine ⟨fun hlt => ?_, fun hge => ?_⟩
  ·have hltm : k < (all.map (·.s)).length := by simpa using hlt
   refine zac rfl (fun vs => ∃ j : Nat, j ≤ k ∧ vs = [I j] ∧ ∀ i, i < j → ∀ x, all[i]? = some x → ¬ x.s = all[k].s) (fun vs => match vs with | [.int _ j] => k - j.toNat | _ => 0) ⟨0, by simp, by simp, by simp⟩ ?_
   rintro vs - ⟨j, hj, rfl, hne⟩
   simp [hmap]
   refine ⟨fun hjk => ?_, fun hjk => ?_⟩
   ·have hja : j < all.length := by omega
    have hwr := zad (i := j) (by omega)
    simp [hlt, hja, Step.cells, hwr]
    refine ⟨by omega, by omega, ?_⟩
    by_cases he : all[j].s = all[k].s
    ·right
     refine ⟨he, ?_⟩
     have : ¬ h.secs.Nodup := by
      rw [hsecs]
      exact zlF (i := j) (j := k) (by omega) (by simpa using hlt) (by simpa using he)
     simp [zay, this]
    ·left
     refine ⟨he, ⟨j + 1, by omega, by omega, fun i hi x hx => ?_⟩, by omega⟩
     by_cases hij : i = j
     ·subst hij
      rw [List.getElem?_eq_getElem hja] at hx
      cases hx; exact he
     ·exact hne i (by omega) x hx
   ·have hwr := zad (i := k) (by omega)
    have hjk2 : j = k := by omega
    subst hjk2
    simp [hwr]
    refine ⟨⟨j + 1, by omega, by omega, ?_⟩, by omega⟩
    have := zob hltm hnd (fun i hi he => hne i hi all[i] (List.getElem?_eq_getElem (by omega)) (by simpa using he))
    simpa using this
  ·have hta : (all.map (·.s)).take k = all.map (·.s) := List.take_of_length_le (by simp; omega)
   rw [hta] at hnd
   have hno : h.secs.Nodup := by rw [hsecs]; exact hnd
   refine zac rfl (fun vs => ∃ k : Nat, h.path.steps.length ≤ k ∧ k ≤ 12 ∧ vs = [I k] ∧ ∀ m, h.path.steps.length ≤ m → m < k → h.was m = false) (fun vs => match vs with | [.int _ j] => 12 - j.toNat | _ => 0) ⟨h.path.steps.length, by simp, by omega, by simp, fun m h1 h2 => by omega⟩ ?_
   rintro vs - ⟨m, hm1, hm2, rfl, hwm⟩
   simp
   refine ⟨fun hlt => ?_, fun hge => ?_⟩
   ·have hlt2 : m < 12 := by omega
    have hwr := zad (i := m) (by omega)
    have hc2 := zqt h m hlt2
    simp only [Hd.cells] at hc2
    simp at hc2
    simp [hc2, hwr]
    refine ⟨by omega, by omega, ?_⟩
    cases hw : h.was m
    ·left
     refine ⟨rfl, ⟨m + 1, by omega, by omega, by omega, fun i h1 h2 => ?_⟩, by omega⟩
     by_cases him : i = m
     ·subst him; exact hw
     ·exact hwm i h1 (by omega)
    ·right
     refine ⟨rfl, ?_⟩
     have : h.wasOk = false := by
      unfold Hd.wasOk
      rw [List.all_eq_false]
      refine ⟨m, by simpa using hlt2, ?_⟩
      simp [hw]; omega
     simp [zay, this]
   ·have hwo : h.wasOk = true := by
     unfold Hd.wasOk
     rw [List.all_eq_true]
     intro i hi
     simp only [List.mem_range] at hi
     by_cases hin : i < h.path.steps.length
     ·simp [hin]
     ·rw [hwm i (by omega) (by omega)]; simp
    have hr : zay h = h.needs.all (zdP h.path.steps.length) := by simp [zay, g1', g2', hc, hwo, hno]
    rw [hr]
    refine zac rfl (fun vs => ∃ i : Nat, i ≤ h.needs.length ∧ vs = [I i] ∧ zar (fun x => !zdP h.path.steps.length x) (h.needs.take i)) (fun vs => match vs with | [.int _ j] => h.needs.length - j.toNat | _ => 0) ⟨0, by simp, by simp, rfl⟩ ?_
    rintro vs - ⟨i, hi, rfl, hq⟩
    simp
    refine ⟨fun hlt => ?_, fun hge => ?_⟩
    ·have hwr := zad (i := i) (by omega)
     simp [hlt, Need.cells, hwr]
     cases hok : zdP h.path.steps.length h.needs[i]
     ·right
      refine ⟨?_, h.needs[i], List.getElem_mem hlt, hok⟩
      simp only [zdP, decide_eq_false_iff_not] at hok
      omega
     ·left
      have hok2 := hok
      simp only [zdP, decide_eq_true_eq] at hok2
      exact ⟨by omega, ⟨i + 1, by omega, by omega, zao hlt hq (by simp [hok])⟩, by omega⟩
    ·have : h.needs.take i = h.needs := List.take_of_length_le (by omega)
     rw [this] at hq
     unfold zar at hq
     simp at hq
     exact fun x hx => hq x hx
 ·have hr : zay h = false := by
   simp only [zay]
   by_cases hg : h.g1
   ·have : ¬ h.g2 := fun h2 => g1 ⟨hg, h2⟩
    simp [this]
   ·simp [hg]
  rw [hr]
  simp
  intro q1 q2 q3 q4 q5 q6 q7 q8 q9 q10 q11 q12
  exfalso
  apply g1
  unfold Hd.g1 Hd.g2
  omega
end Go.Lb.LK
namespace Go.Lb.LK
open Go Go.Lb Go.Proofs Go.RowKit
def zda (k : Kern) (i : Nat) : Int := if i = 0 then 0 else (k.held[i - 1]?.map (·.id)).getD 0
def okAt (k : Kern) (i : Nat) : Bool := match k.held[i]? with
 | some h => zay h && (decide (h.id < k.next) && (decide (zda k i < h.id) && (k.held.take i).all (zbm h)))
 | none => true
def zbU (k : Kern) : Bool := (List.range 24).all fun i => zaZ (k.mach i)
def zas (k : Kern) : Bool := decide (k.held.length ≤ 6 ∧ 1 ≤ k.next ∧ k.next ≤ 1073741824) && ((List.range k.held.length).all (okAt k) && zbU k)
theorem zkm {k : Kern} {i : Nat} (h : i < k.held.length) : okAt k i = (zay k.held[i] && (decide (k.held[i].id < k.next) && (decide (zda k i < k.held[i].id) && (k.held.take i).all (zbm k.held[i])))) := by
 simp only [okAt, List.getElem?_eq_getElem h]
theorem zc4 {k : Kern} {i : Nat} (h : i < k.held.length) (hb : okAt k i = false) : zas k = false := by
 have : (List.range k.held.length).all (okAt k) = false := by
  rw [List.all_eq_false]
  exact ⟨i, List.mem_range.2 h, by rw [hb]; simp⟩
 simp [zas, this]
theorem zfq {k : Kern} {i : Nat} (h : i < k.held.length) : zda k (i + 1) = k.held[i].id := by
 simp [zda, List.getElem?_eq_getElem h]
theorem aidxM (k : Kern) {i : Nat} {z : Int} (hz : z = i) (h : i < 24) : pv (.aidx 24 3 0 3 true) [.agg (zau k.want k.run k.fail), I z] = (k.mach i).av := by
 subst hz
 match i, h with
 | 0, _ => rfl
 | 1, _ => rfl
 | 2, _ => rfl
 | 3, _ => rfl
 | 4, _ => rfl
 | 5, _ => rfl
 | 6, _ => rfl
 | 7, _ => rfl
 | 8, _ => rfl
 | 9, _ => rfl
 | 10, _ => rfl
 | 11, _ => rfl
 | 12, _ => rfl
 | 13, _ => rfl
 | 14, _ => rfl
 | 15, _ => rfl
 | 16, _ => rfl
 | 17, _ => rfl
 | 18, _ => rfl
 | 19, _ => rfl
 | 20, _ => rfl
 | 21, _ => rfl
 | 22, _ => rfl
 | 23, _ => rfl
 | n + 24, h => exact absurd h (by omega)
theorem aidxK (k : Kern) {i : Nat} {z : Int} (hz : z = i) (h : i < 24) : pv (.aidx 24 3 2 3 true) [.agg k.cells, I z] = (k.mach i).av := by
 subst hz
 match i, h with
 | 0, _ => rfl
 | 1, _ => rfl
 | 2, _ => rfl
 | 3, _ => rfl
 | 4, _ => rfl
 | 5, _ => rfl
 | 6, _ => rfl
 | 7, _ => rfl
 | 8, _ => rfl
 | 9, _ => rfl
 | 10, _ => rfl
 | 11, _ => rfl
 | 12, _ => rfl
 | 13, _ => rfl
 | 14, _ => rfl
 | 15, _ => rfl
 | 16, _ => rfl
 | 17, _ => rfl
 | 18, _ => rfl
 | 19, _ => rfl
 | 20, _ => rfl
 | 21, _ => rfl
 | 22, _ => rfl
 | 23, _ => rfl
 | n + 24, h => exact absurd h (by omega)
theorem zbv {q : Nat → Bool} {n i : Nat} (h : i < n) (hb : q i = false) : (List.range n).all q = false := by
 rw [List.all_eq_false]
 exact ⟨i, List.mem_range.2 h, by rw [hb]; simp⟩
theorem za6 {q : Nat → Bool} {n : Nat} (h : ∀ i, i < n → q i = true) : (List.range n).all q = true := by
 rw [List.all_eq_true]
 exact fun i hi => h i (List.mem_range.1 hi)
set_option maxHeartbeats 2000000 in
theorem zcv (k : Kern) (hl : k.len) (hk : k.ok) : C f_lockbarref18_Right [k.av] (.bool (zas k)) := by
 have h1 := hl.1
 refine ctr k.cells run_lockbarref18_Right rfl (by simp) rfl ?_ rfl
 unfold rt_lockbarref18_Right
 simp [Kern.cells, -zab]
 refine ⟨fun hb => ?_, fun a1 a2 a3 => ?_⟩
 ·have hg : ¬ (k.held.length ≤ 6 ∧ 1 ≤ k.next ∧ k.next ≤ 1073741824) := by omega
  simp only [zas]; rw [decide_eq_false hg]; rfl
 ·have hg : k.held.length ≤ 6 ∧ 1 ≤ k.next ∧ k.next ≤ 1073741824 := by omega
  refine zac rfl (fun vs => ∃ i : Nat, i ≤ k.held.length ∧ vs = [I i] ∧ ∀ j, j < i → okAt k j = true) (fun vs => match vs with | [.int _ j] => k.held.length - j.toNat | _ => 0) ⟨0, by omega, by simp, fun j hj => by omega⟩ ?_
  rintro vs - ⟨i, hi, rfl, hq⟩
  simp [-zab]
  refine ⟨fun hlt => ?_, fun hge => ?_⟩
  ·have hw := zad (i := i) (by omega)
   have hok := zkm hlt
   simp [hlt, Hd.cells, -zab]
   refine call (zgr k.held[i] (k.at hl hlt) (hk _ (List.getElem_mem hlt))) (by simp [hlt, Hd.cells]) (by simp) ?_
   by_cases hi0 : 0 < i
   ·have hw0 : IntKind.i64.wrap ((i : Int) - 1) = (i : Int) - 1 := by rw [zaI] <;> omega
    have hlast : zda k i = k.held[i - 1].id := by
     simp [zda, show ¬ i = 0 by omega, List.getElem?_eq_getElem (show i - 1 < k.held.length by omega)]
    have hi1 : ((i : Int) - 1).toNat = i - 1 := by omega
    simp [hlt, hi0, hw0, hi1, Hd.cells, show i - 1 < k.held.length by omega, -zab]
    refine And.intro (by intros; omega) ?_
    refine ⟨fun hb => ?_, fun hr hn hli => ?_⟩
    ·refine zc4 hlt ?_
     rw [hok, hlast]
     rcases hb with (hb | hb) | hb
     ·simp [hb]
     ·simp [show ¬ k.held[i].id < k.next by omega]
     ·simp [show ¬ k.held[i - 1].id < k.held[i].id by omega]
    ·rw [← hlast] at hli
     refine zac rfl (fun vs => ∃ j : Nat, j ≤ i ∧ vs = [I j] ∧ zar (fun o => !zbm k.held[i] o) (k.held.take j)) (fun vs => match vs with | [.int _ j] => i - j.toNat | _ => 0) ⟨0, by omega, by simp, rfl⟩ ?_
     rintro vs - ⟨j, hj, rfl, hp⟩
     simp [-zab]
     refine ⟨fun hlt2 => ?_, fun hge2 => ?_⟩
     ·have hj2 : j < k.held.length := by omega
      have hwj := zad (i := j) (by omega)
      simp [hlt, hj2, Hd.cells, -zab]
      refine call (zf9 k.held[i] k.held[j] (k.at hl hlt) (k.at hl hj2)) (by simp [hlt, hj2, Hd.cells]) (by simp) ?_
      cases ha : zbm k.held[i] k.held[j]
      ·have hb : zas k = false := by
        refine zc4 hlt ?_
        rw [hok]
        have : (k.held.take i).all (zbm k.held[i]) = false := by
         rw [List.all_eq_false]
         exact ⟨k.held[j], List.mem_take_iff_getElem.2 ⟨j, by omega, rfl⟩, by rw [ha]; simp⟩
        rw [this]; simp
       simp [hb, -zab]
      ·simp [hwj, -zab]
       exact ⟨⟨j + 1, by omega, by omega, zao hj2 hp (by simp [ha])⟩, by omega⟩
     ·have hji : j = i := by omega
      subst hji
      have hall : (k.held.take j).all (zbm k.held[j]) = true := by
       rw [List.all_eq_true]
       intro x hx
       have := List.any_eq_false.1 hp x hx
       simpa using this
      have hokj : okAt k j = true := by rw [hok, hr, hall, decide_eq_true hn, decide_eq_true hli]; rfl
      simp [hlt, hw, Hd.cells, -zab]
      refine ⟨⟨j + 1, by omega, by omega, fun m hm => ?_⟩, by omega⟩
      by_cases hmj : m = j
      ·subst hmj; exact hokj
      ·exact hq m (by omega)
   ·have hi0' : i = 0 := by omega
    have hlast : zda k i = 0 := by simp [zda, hi0']
    simp [hlt, hi0, Hd.cells, -zab]
    refine ⟨fun hb => ?_, fun hr hn => ?_⟩
    ·refine zc4 hlt ?_
     rw [hok]
     rcases hb with hb | hb
     ·simp [hb]
     ·simp [show ¬ k.held[i].id < k.next by omega]
    ·have hli : zda k i < k.held[i].id := by
      rw [hlast]
      obtain ⟨⟨q1, _⟩, _⟩ := zaM hr
      omega
     refine zac rfl (fun vs => ∃ j : Nat, j ≤ i ∧ vs = [I j] ∧ zar (fun o => !zbm k.held[i] o) (k.held.take j)) (fun vs => match vs with | [.int _ j] => i - j.toNat | _ => 0) ⟨0, by omega, by simp, rfl⟩ ?_
     rintro vs - ⟨j, hj, rfl, hp⟩
     simp [-zab]
     refine ⟨fun hlt2 => ?_, fun hge2 => ?_⟩
     ·have hj2 : j < k.held.length := by omega
      have hwj := zad (i := j) (by omega)
      simp [hlt, hj2, Hd.cells, -zab]
      refine call (zf9 k.held[i] k.held[j] (k.at hl hlt) (k.at hl hj2)) (by simp [hlt, hj2, Hd.cells]) (by simp) ?_
      cases ha : zbm k.held[i] k.held[j]
      ·have hb : zas k = false := by
        refine zc4 hlt ?_
        rw [hok]
        have : (k.held.take i).all (zbm k.held[i]) = false := by
         rw [List.all_eq_false]
         exact ⟨k.held[j], List.mem_take_iff_getElem.2 ⟨j, by omega, rfl⟩, by rw [ha]; simp⟩
        rw [this]; simp
       simp [hb, -zab]
      ·simp [hwj, -zab]
       exact ⟨⟨j + 1, by omega, by omega, zao hj2 hp (by simp [ha])⟩, by omega⟩
     ·have hji : j = i := by omega
      subst hji
      have hall : (k.held.take j).all (zbm k.held[j]) = true := by
       rw [List.all_eq_true]
       intro x hx
       have := List.any_eq_false.1 hp x hx
       simpa using this
      have hokj : okAt k j = true := by rw [hok, hr, hall, decide_eq_true hn, decide_eq_true hli]; rfl
      simp [hlt, hw, Hd.cells, -zab]
      refine ⟨⟨j + 1, by omega, by omega, fun m hm => ?_⟩, by omega⟩
      by_cases hmj : m = j
      ·subst hmj; exact hokj
      ·exact hq m (by omega)
  ·have hA : (List.range k.held.length).all (okAt k) = true := za6 fun j hj => hq j (by omega)
   refine zac rfl (fun vs => ∃ m : Nat, m ≤ 24 ∧ vs = [I m] ∧ ∀ j, j < m → zaZ (k.mach j) = true) (fun vs => match vs with | [.int _ j] => 24 - j.toNat | _ => 0) ⟨0, by omega, by simp, fun j hj => by omega⟩ ?_
   rintro vs - ⟨m, hm, rfl, hqm⟩
   simp [-zab]
   refine ⟨fun hlt => ?_, fun hge => ?_⟩
   ·have hm24 : m < 24 := by omega
    have hw := zad (i := m) (by omega)
    have hMM := aidxK k (i := m) (z := (m : Int)) rfl hm24
    simp only [Kern.cells] at hMM
    skip
    repeat refine And.intro (by omega) ?_
    refine call (zeX (k.mach m)) (by simp [hMM, Mach.cells, -zab]) (by simp) ?_
    cases hmo : zaZ (k.mach m)
    ·have : zas k = false := by
      have : zbU k = false := zbv hm24 hmo
      simp [zas, this]
     simp [this, -zab]
    ·simp [hw, -zab]
     refine ⟨⟨m + 1, by omega, by omega, fun j hj => ?_⟩, by omega⟩
     by_cases hjm : j = m
     ·subst hjm; exact hmo
     ·exact hqm j (by omega)
   ·have hmall : zbU k = true := za6 fun j hj => hqm j (by omega)
    have : zas k = true := by simp only [zas, hA, hmall]; rw [decide_eq_true hg]; rfl
    simp [this, -zab]
end Go.Lb.LK
namespace Go.Lb.LK
open Go Go.Lb Go.Proofs Go.RowKit
set_option maxHeartbeats 2000000 in
theorem zdm (k : Kern) (hl : k.len) (hk : k.ok) : C f_free_Right [k.av] (.bool (zas k)) := by
 have h1 := hl.1
 refine ctr k.cells run_free_Right rfl (by simp) rfl ?_ rfl
 unfold rt_free_Right
 simp [Kern.cells, -zab]
 refine ⟨fun hb => ?_, fun a1 a2 a3 => ?_⟩
 ·have hg : ¬ (k.held.length ≤ 6 ∧ 1 ≤ k.next ∧ k.next ≤ 1073741824) := by omega
  simp only [zas]; rw [decide_eq_false hg]; rfl
 ·have hg : k.held.length ≤ 6 ∧ 1 ≤ k.next ∧ k.next ≤ 1073741824 := by omega
  refine zac rfl (fun vs => ∃ i : Nat, i ≤ k.held.length ∧ vs = [I (zda k i), I i] ∧ ∀ j, j < i → okAt k j = true) (fun vs => match vs with | [_, .int _ j] => k.held.length - j.toNat | _ => 0) ⟨0, by omega, by simp [zda], fun j hj => by omega⟩ ?_
  rintro vs - ⟨i, hi, rfl, hq⟩
  simp [-zab]
  refine ⟨fun hlt => ?_, fun hge => ?_⟩
  ·have hw := zad (i := i) (by omega)
   have hok := zkm hlt
   have hsucc := zfq hlt
   simp [hlt, Hd.cells, -zab]
   refine call (zgX k.held[i] (k.at hl hlt) (hk _ (List.getElem_mem hlt))) (by simp [hlt, Hd.cells]) (by simp) ?_
   simp [hlt, Hd.cells, -zab]
   refine And.intro (fun _ _ _ => by omega) ?_
   refine ⟨fun hb => ?_, fun hr hli hn => ?_⟩
   ·refine zc4 hlt ?_
    rw [hok]
    rcases hb with (hb | hb) | hb
    ·simp [hb]
    ·simp [show ¬ zda k i < k.held[i].id by omega]
    ·simp [show ¬ k.held[i].id < k.next by omega]
   ·refine zac rfl (fun vs => ∃ j : Nat, j ≤ i ∧ vs = [I j] ∧ zar (fun o => !zbm k.held[i] o) (k.held.take j)) (fun vs => match vs with | [.int _ j] => i - j.toNat | _ => 0) ⟨0, by omega, by simp, rfl⟩ ?_
    rintro vs - ⟨j, hj, rfl, hp⟩
    simp [-zab]
    refine ⟨fun hlt2 => ?_, fun hge2 => ?_⟩
    ·have hj2 : j < k.held.length := by omega
     have hwj := zad (i := j) (by omega)
     simp [hlt, hj2, hlt2, Hd.cells, -zab]
     refine call (zlm k.held[i] k.held[j] (k.at hl hlt) (k.at hl hj2)) (by simp [hlt, hj2, hlt2, Hd.cells]) (by simp) ?_
     cases ha : zbm k.held[i] k.held[j]
     ·have hb : zas k = false := by
       refine zc4 hlt ?_
       rw [hok]
       have : (k.held.take i).all (zbm k.held[i]) = false := by
        rw [List.all_eq_false]
        exact ⟨k.held[j], List.mem_take_iff_getElem.2 ⟨j, by omega, rfl⟩, by rw [ha]; simp⟩
       rw [this]; simp
      simp [hb, -zab]
     ·simp [hwj, -zab]
      exact ⟨⟨j + 1, by omega, by omega, zao hj2 hp (by simp [ha])⟩, by omega⟩
    ·have hji : j = i := by omega
     subst hji
     have hall : (k.held.take j).all (zbm k.held[j]) = true := by
      rw [List.all_eq_true]
      intro x hx
      have := List.any_eq_false.1 hp x hx
      simpa using this
     have hokj : okAt k j = true := by rw [hok, hr, hall, decide_eq_true hn, decide_eq_true hli]; rfl
     simp [hlt, hw, Hd.cells, -zab]
     refine ⟨⟨j + 1, by omega, ⟨hsucc.symm, by omega⟩, fun m hm => ?_⟩, by omega⟩
     by_cases hmj : m = j
     ·subst hmj; exact hokj
     ·exact hq m (by omega)
  ·have hA : (List.range k.held.length).all (okAt k) = true := za6 fun j hj => hq j (by omega)
   refine zac rfl (fun vs => ∃ m : Nat, m ≤ 24 ∧ vs = [I m] ∧ ∀ j, j < m → zaZ (k.mach j) = true) (fun vs => match vs with | [.int _ j] => 24 - j.toNat | _ => 0) ⟨0, by omega, by simp, fun j hj => by omega⟩ ?_
   rintro vs - ⟨m, hm, rfl, hqm⟩
   simp [-zab]
   refine ⟨fun hlt => ?_, fun hge => ?_⟩
   ·have hm24 : m < 24 := by omega
    have hw := zad (i := m) (by omega)
    have hMM := aidxM k (i := m) (z := (m : Int)) rfl hm24
    simp only [zau] at hMM
    simp [hMM, Mach.cells, -zab]
    repeat refine And.intro (by omega) ?_
    refine call (zcV (k.mach m)) (by simp [hMM, Mach.cells, -zab]) (by simp) ?_
    cases hmo : zaZ (k.mach m)
    ·have : zas k = false := by
      have : zbU k = false := zbv hm24 hmo
      simp [zas, this]
     simp [this, -zab]
    ·simp [hw, -zab]
     refine ⟨⟨m + 1, by omega, by omega, fun j hj => ?_⟩, by omega⟩
     by_cases hjm : j = m
     ·subst hjm; exact hmo
     ·exact hqm j (by omega)
   ·have hmall : zbU k = true := za6 fun j hj => hqm j (by omega)
    have : zas k = true := by simp only [zas, hA, hmall]; rw [decide_eq_true hg]; rfl
    simp [this, -zab]
end Go.Lb.LK
namespace Go.Lb.LK
open Go Go.Lb Go.Proofs Go.RowKit
theorem liks (l : Lay) (im : Img) (k : Kern) (xs : List AV) (h : AV.pureAll xs = true) : AV.pureAll (l.cells ++ im.cells ++ k.cells ++ xs) = true := by simp [zaf, h]
def zcF (l : Lay) (im : Img) (k : Kern) (s : Int) : Bool := (zbV k s).isNone && !zag l im s
theorem zin (l : Lay) (im : Img) (hi : im.ok) (k : Kern) (hl : k.len) (s : Int) : C f_free_Free [l.av, im.av, k.av, I s] (.bool (zcF l im k s)) := by
 refine ctr (l.cells ++ im.cells ++ k.cells ++ [I s]) run_free_Free rfl (liks l im k _ rfl) rfl ?_ rfl
 unfold rt_free_Free
 simp [Lay.cells, Img.cells, Kern.cells]
 refine call (zjv k hl s) (by simp [Kern.cells]) (by simp [optP]) ?_
 simp [optP]
 refine zak (avs := [l.av, im.av, I s]) (.bool (zag l im s)) rfl (fun _ => ⟨by simp [Lay.cells, Img.cells], zaq l im hi s⟩) (by simp) ?_
 cases h : zbV k s <;> simp [zcF, h]
theorem zhM (l : Lay) (im : Img) (hi : im.ok) (k : Kern) (hl : k.len) (s : Int) : C f_lockbarref18_Free [l.av, im.av, k.av, I s] (.bool (zcF l im k s)) := by
 refine ctr (l.cells ++ im.cells ++ k.cells ++ [I s]) run_lockbarref18_Free rfl (liks l im k _ rfl) rfl ?_ rfl
 unfold rt_lockbarref18_Free
 simp [Lay.cells, Img.cells, Kern.cells]
 refine call (zfu k hl s) (by simp [Kern.cells]) (by simp [optP]) ?_
 simp [optP]
 refine zak (avs := [l.av, im.av, I s]) (.bool (zag l im s)) rfl (fun _ => ⟨by simp [Lay.cells, Img.cells], zaW l im hi s⟩) (by simp) ?_
 cases h : zbV k s <;> simp [zcF, h]
def zcT (l : Lay) (im : Img) (k : Kern) (n : Need) : Bool :=
 decide (0 ≤ n.p ∧ n.p < 24) && (match zbB k n.p with
  | some pos => decide (pos = n.pos) && (decide (atP l im n.p = n.pos) || !zaA k n.p)
  | none => decide (atP l im n.p = n.pos) || (!k.fail n.p.toNat && zcF l im k n.p))
theorem aidxF (k : Kern) {i : Nat} {z : Int} (hz : z = i) (h : i < 24) : pv (.aidx 24 3 4 1 false) [.agg k.cells, I z] = .bool (k.fail i) := by
 subst hz
 have := zlu k.want k.run k.fail h .undef
 have e : k.cells.getD (i * 3 + 4) .undef = .bool (k.fail i) := by
  rw [← this]; rfl
 simp only [zab, Int.toNat_natCast, AV.cut]
 rw [e]
theorem zoh (l : Lay) (im : Img) (hi : im.ok) (k : Kern) (hl : k.len) (n : Need) : C f_lockbarref18_Meets [l.av, im.av, k.av, n.av] (.bool (zcT l im k n)) := by
 refine ctr (l.cells ++ im.cells ++ k.cells ++ n.cells) run_lockbarref18_Meets rfl (liks l im k _ (by simp)) rfl ?_ rfl
 unfold rt_lockbarref18_Meets
 simp [Lay.cells, Img.cells, Kern.cells, Need.cells, -zab]
 refine ⟨fun hb => by unfold zcT; rw [decide_eq_false (by omega)]; rfl, fun h0 h24 => ?_⟩
 have hA := aidxF k (i := n.p.toNat) (z := n.p) (by omega) (by omega)
 simp only [Kern.cells] at hA
 refine call (zfi l im hi n.p) (by simp [Lay.cells, Img.cells]) (by simp) ?_
 simp [-zab]
 refine call (zdS k hl n.p) (by simp [Kern.cells]) (by simp [optP]) ?_
 cases hm : zbB k n.p with
 | some pos =>
  simp [optP, -zab]
  refine zak (avs := [k.av, I n.p]) (.bool (zaA k n.p)) rfl (fun _ => ⟨by simp [Kern.cells], zdh k hl n.p⟩) (by simp) ?_
  by_cases hp : pos = n.pos <;> by_cases ha : atP l im n.p = n.pos <;> cases hk : zaA k n.p <;> simp [zcT, h0, h24, hm, hp, ha, hk]
 | none =>
  simp [optP, hA, -zab]
  repeat refine And.intro (by intros; omega) ?_
  refine zak (avs := [l.av, im.av, k.av, I n.p]) (.bool (zcF l im k n.p)) rfl (fun _ => ⟨by simp [Lay.cells, Img.cells, Kern.cells], zhM l im hi k hl n.p⟩) (by simp) ?_
  simp [hA, -zab]
  repeat refine And.intro (by intros; omega) ?_
  by_cases ha : atP l im n.p = n.pos <;> cases hf : k.fail n.p.toNat <;> simp [zcT, h0, h24, hm, ha, hf]
end Go.Lb.LK
namespace Go.Lb.LK
open Go Go.Lb Go.Proofs Go.RowKit
def way (k i o : Int) : Int × Bool :=
 if (k = 1 ∨ k = 2 ∨ k = 3) ∧ (i = 0 ∧ o = 1 ∨ i = 1 ∧ o = 0) then (0, true)
 else if k = 2 ∧ (i = 0 ∧ o = 2 ∨ i = 2 ∧ o = 0) then (1, true)
 else if k = 3 ∧ (i = 2 ∧ o = 3 ∨ i = 3 ∧ o = 2) then (1, true) else (0, false)
theorem w1 : IntKind.i64.wrap 1 = 1 := by decide
theorem w2 : IntKind.i64.wrap 2 = 2 := by decide
abbrev ib (x : Int × Bool) : AV := .tup [I x.1, .bool x.2]
def zis (l : Lay) (s : Int) : Option Sec := if 0 ≤ s then l.secs[s.toNat]? else none
theorem zch {l : Lay} {s : Int} (h0 : 0 ≤ s) (h1 : s < l.secs.length) : ∃ n : Nat, s = n ∧ ∃ h : n < l.secs.length, zis l s = some (l.secs[n]) := by
 refine ⟨s.toNat, by omega, by omega, ?_⟩
 unfold zis
 rw [if_pos h0, List.getElem?_eq_getElem]
theorem zdf {l : Lay} {s : Int} (h : ¬ (0 ≤ s ∧ s < l.secs.length)) : zis l s = none := by
 unfold zis
 split
 ·exact List.getElem?_eq_none (by omega)
 ·rfl
def zcN (l : Lay) (s : Step) : Int × Bool := match zis l s.s with
 | some x => way x.kind s.i s.o
 | none => (0, false)
def zja (l : Lay) (x : Int) : Option Exi := if 0 ≤ x then l.exits[x.toNat]? else none
theorem zlL {l : Lay} {s : Int} (h0 : 0 ≤ s) (h1 : s < l.exits.length) : ∃ n : Nat, s = n ∧ ∃ h : n < l.exits.length, zja l s = some (l.exits[n]) := by
 refine ⟨s.toNat, by omega, by omega, ?_⟩
 unfold zja
 rw [if_pos h0, List.getElem?_eq_getElem]
theorem zgn {l : Lay} {s : Int} (h : ¬ (0 ≤ s ∧ s < l.exits.length)) : zja l s = none := by
 unfold zja
 split
 ·exact List.getElem?_eq_none (by omega)
 ·rfl
def over (l : Lay) (x : Int) : List Step := match zja l x with
 | some e => e.over
 | none => []
def Lay.ovOk (l : Lay) : Prop := ∀ e ∈ l.exits, e.over.length ≤ 4294967296
end Go.Lb.LK
namespace Go.Lb.LK
open Go Go.Lb Go.Proofs Go.RowKit
def point (l : Lay) (s : Step) : Int × Int × Bool := match zis l s.s with
 | some x => if (way x.kind s.i s.o).2 = true ∧ x.kind = 2 then (s.s, (way 2 s.i s.o).1, true) else (0, 0, false)
 | none => (0, 0, false)
abbrev iib (x : Int × Int × Bool) : AV := .tup [I x.1, I x.2.1, .bool x.2.2]
def za4 (l : Lay) (s : Step) (f : Flank) : Bool := (zcN l s).2 && decide (f.s = s.s) && decide (f.way = (zcN l s).1)
def zfn (l : Lay) (s : Step) (k : Int) : List Need :=
 (if (point l s).2.2 = true then [⟨(point l s).1, (point l s).2.1, k⟩] else []) ++ (l.flanks.filter (za4 l s)).map fun f => ⟨f.point, f.pos, k⟩
def zaV (l : Lay) (p : Path) : List (Int × Step) := p.steps.mapIdx (fun k s => ((k : Int), s)) ++ (over l p.exit).map fun s => ((p.steps.length : Int), s)
def zaB (l : Lay) (p : Path) : List Need := (zaV l p).flatMap fun x => zfn l x.2 x.1
theorem zlM (l : Lay) (s : Step) (k : Int) : (zfn l s k).length ≤ l.flanks.length + 1 := by
 unfold zfn
 rw [List.length_append, List.length_map]
 have := List.length_filter_le (za4 l s) l.flanks
 split <;> simp <;> omega
theorem zkg {α β : Type} (f : α → List β) (m : Nat) (h : ∀ x, (f x).length ≤ m) : ∀ l : List α, (l.flatMap f).length ≤ l.length * m
 | [] => by simp
 | x :: l => by
  have := zkg f m h l
  have := h x
  simp only [List.flatMap_cons, List.length_append, List.length_cons, Nat.add_mul]
  omega
end Go.Lb.LK
namespace Go.Lb.LK
open Go Go.Lb Go.Proofs Go.RowKit
def zd2 (p : Path) (h : Hd) : Bool := decide (h.path.sig = p.sig) && !decide (h.stage = 3)
def canN (l : Lay) (im : Img) (k : Kern) (p : Path) : Int :=
 if (k.held.any (zd2 p) || ((p.steps ++ over l p.exit).any (fun s => !zcF l im k s.s) || (zaB l p).any (fun n => !zcT l im k n))) = true then 190
 else if 6 ≤ k.held.length then 191 else 0
structure CanOk (l : Lay) (k : Kern) (p : Path) : Prop where
 kl : k.len
 lo : l.ok
 ov : l.ovOk
 fl : l.flanks.length ≤ 1000
 pl : p.steps.length ≤ 1000
 ol : (over l p.exit).length ≤ 1000
theorem zgx {l : Lay} {k : Kern} {p : Path} (h : CanOk l k p) : (zaB l p).length ≤ 2002000 := by
 have hw1 : ∀ s k, (zfn l s k).length ≤ 1001 := fun s k => by have := zlM l s k; have := h.fl; omega
 have h1 := zkg (fun x : Int × Step => zfn l x.2 x.1) 1001 (fun x => hw1 x.2 x.1) (zaV l p)
 have h2 : (zaV l p).length ≤ 2000 := by have := h.pl; have := h.ol; simp [zaV]; omega
 unfold zaB
 omega
end Go.Lb.LK
namespace Go.Lb.LK
open Go Go.Lb Go.Proofs Go.RowKit
theorem likp (l : Lay) (im : Img) (k : Kern) (p : Path) : AV.pureAll (l.cells ++ im.cells ++ k.cells ++ p.cells) = true := by simp [zaf]
theorem zrM {l : Lay} {im : Img} {k : Kern} {p : Path} (h : k.held.any (zd2 p) = true) : canN l im k p = 190 := by simp [canN, h]
theorem zqq {l : Lay} {im : Img} {k : Kern} {p : Path} {s : Step} (hs : s ∈ p.steps ++ over l p.exit) (h : zcF l im k s.s = false) : canN l im k p = 190 := by
 have : ((p.steps ++ over l p.exit).any fun s => !zcF l im k s.s) = true := List.any_eq_true.2 ⟨s, hs, by simp [h]⟩
 simp only [canN, this, Bool.true_or, Bool.or_true, if_true]
theorem znx {l : Lay} {im : Img} {k : Kern} {p : Path} {n : Need} (hs : n ∈ zaB l p) (h : zcT l im k n = false) : canN l im k p = 190 := by
 have : ((zaB l p).any fun n => !zcT l im k n) = true := List.any_eq_true.2 ⟨n, hs, by simp [h]⟩
 simp only [canN, this, Bool.or_true, if_true]
theorem zqH {l : Lay} {im : Img} {k : Kern} {p : Path} (h1 : zar (zd2 p) k.held) (h2 : zar (fun s : Step => !zcF l im k s.s) p.steps) (h3 : zar (fun s : Step => !zcF l im k s.s) (over l p.exit)) (h4 : zar (fun n => !zcT l im k n) (zaB l p)) : canN l im k p = if 6 ≤ k.held.length then 191 else 0 := by
 unfold zar at *
 simp only [canN, List.any_append, h1, h2, h3, h4, Bool.or_false, Bool.false_eq_true, if_false]
end Go.Lb.LK
namespace Go.Lb.LK
open Go Go.Lb Go.Proofs Go.RowKit
def ways (k : Int) : Int := if k = 1 then 1 else if k = 2 then 2 else if k = 3 then 2 else 0
theorem zeR (k : Int) : C f_lockbarref05_Ways [U k] (I (ways k)) := by
 refine ctr [U k] run_lockbarref05_Ways rfl rfl rfl ?_ rfl
 unfold rt_lockbarref05_Ways
 by_cases h1 : k = 1
 ·simp [h1, ways]
 ·by_cases h2 : k = 2
  ·simp [h2, ways]
  ·by_cases h3 : k = 3
   ·simp [h3, ways]
   ·simp [h1, h2, h3, ways]
def ends (k w : Int) : Int × Int × Bool := if w < 0 ∨ w ≥ ways k then (0, 0, false) else if w = 0 then (0, 1, true) else if k = 2 then (0, 2, true) else (2, 3, true)
theorem zok (k w : Int) : C f_lockbarref05_Ends [U k, I w] (iib (ends k w)) := by
 refine ctr [U k, I w] run_lockbarref05_Ends rfl rfl rfl ?_ rfl
 unfold rt_lockbarref05_Ends
 simp
 refine zak (I (ways k)) rfl (fun _ => ⟨by simp, zeR k⟩) (by simp) ?_
 by_cases h0 : w < 0
 ·simp [h0, ends]
 ·by_cases h1 : ways k ≤ w
  ·simp [h0, h1, ends]
  ·by_cases h2 : w = 0
   ·subst h2; simp [h1, ends]
   ·by_cases h3 : k = 2
    ·subst h3; simp [h0, h1, h2, ends]
    ·simp [h0, h1, h2, h3, ends]
theorem zrG (k : Int) : 0 ≤ ways k ∧ ways k ≤ 2 := by unfold ways; split <;> (try split) <;> (try split) <;> omega
theorem zle (k i o : Int) : C f_lockbarref05_Way [U k, I i, I o] (ib (way k i o)) := by
 refine ctr [U k, I i, I o] run_lockbarref05_Way rfl rfl rfl ?_ rfl
 unfold rt_lockbarref05_Way
 have hw := zrG k
 refine zac rfl (fun vs => ∃ j : Nat, (j : Int) ≤ 2 ∧ vs = [I j] ∧ (1 ≤ j → 1 ≤ ways k → ¬ (i = 0 ∧ o = 1 ∨ i = 1 ∧ o = 0)) ∧ (2 ≤ j → k = 2 → ¬ (i = 0 ∧ o = 2 ∨ i = 2 ∧ o = 0)) ∧ (2 ≤ j → k = 3 → ¬ (i = 2 ∧ o = 3 ∨ i = 3 ∧ o = 2)) ∧ (j : Int) ≤ ways k)
  (fun vs => match vs with | [.int _ j] => 3 - j.toNat | _ => 0) ⟨0, by simp, by simp, by omega, by omega, by omega, by simp; omega⟩ ?_
 rintro vs - ⟨j, hj, rfl, a1, a2, a3, a4⟩
 simp
 refine call (zeR k) (by simp) (by simp) ?_
 simp
 refine ⟨fun hlt => ?_, fun hge => ?_⟩
 ·refine call (zok k j) (by simp) (by simp) ?_
  simp
  have hk : k = 1 ∨ k = 2 ∨ k = 3 := by
   unfold ways at hlt
   split at hlt
   ·exact .inl ‹_›
   ·split at hlt
    ·exact .inr (.inl ‹_›)
    ·split at hlt
     ·exact .inr (.inr ‹_›)
     ·omega
  have hj2 : j = 0 ∨ j = 1 := by omega
  rcases hj2 with rfl | rfl
  ·have he : ends k ((0 : Nat) : Int) = (0, 1, true) := by
    unfold ends
    rw [if_neg (by simp; omega)]; rfl
   rw [he]
   simp only [Int.natCast_zero, Int.zero_add, w1]
   by_cases c1 : i = 0 ∧ o = 1 ∨ i = 1 ∧ o = 0
   ·have hwy : way k i o = (0, true) := by unfold way; rw [if_pos ⟨by omega, c1⟩]
    rw [hwy]
    exact ⟨fun _ => ⟨rfl, rfl⟩, fun h1 h2 => absurd c1 (by omega)⟩
   ·refine ⟨fun h => absurd h (by omega), fun h1 h2 => ⟨⟨1, by omega, rfl, fun _ _ => by omega, fun h => by omega, fun h => by omega, by simp; omega⟩, by decide⟩⟩
  ·have hk2 : k = 2 ∨ k = 3 := by
    rcases hk with rfl | h
    ·simp [ways] at hlt
    ·exact h
   have n1 := a1 (by omega) (by omega)
   have wj : IntKind.i64.wrap (((1 : Nat) : Int) + 1) = 2 := by decide
   rw [wj]
   rcases hk2 with rfl | rfl
   ·have he : ends 2 ((1 : Nat) : Int) = (0, 2, true) := rfl
    rw [he]
    by_cases c1 : i = 0 ∧ o = 2 ∨ i = 2 ∧ o = 0
    ·have hwy : way 2 i o = (1, true) := by unfold way; rw [if_neg (fun h => n1 h.2), if_pos ⟨rfl, c1⟩]
     rw [hwy]
     exact ⟨fun _ => ⟨rfl, rfl⟩, fun h1 h2 => absurd c1 (by dsimp only at h1 h2; omega)⟩
    ·refine ⟨fun h => absurd h (by dsimp only; omega), fun h1 h2 => ⟨⟨2, by omega, rfl, fun _ _ => by omega, fun _ _ => by omega, fun _ h => by omega, by decide⟩, by decide⟩⟩
   ·have he : ends 3 ((1 : Nat) : Int) = (2, 3, true) := rfl
    rw [he]
    by_cases c1 : i = 2 ∧ o = 3 ∨ i = 3 ∧ o = 2
    ·have hwy : way 3 i o = (1, true) := by unfold way; rw [if_neg (fun h => n1 h.2), if_neg (fun h => by omega), if_pos ⟨rfl, c1⟩]
     rw [hwy]
     exact ⟨fun _ => ⟨rfl, rfl⟩, fun h1 h2 => absurd c1 (by dsimp only at h1 h2; omega)⟩
    ·refine ⟨fun h => absurd h (by dsimp only; omega), fun h1 h2 => ⟨⟨2, by omega, rfl, fun _ _ => by omega, fun _ h => by omega, fun _ _ => by omega, by decide⟩, by decide⟩⟩
 ·have hwy : way k i o = (0, false) := by
   have hjw : (j : Int) = ways k := by omega
   unfold way
   rw [if_neg, if_neg, if_neg]
   ·rintro ⟨rfl, h⟩
    have : (j : Int) = 2 := hjw
    exact a3 (by omega) rfl h
   ·rintro ⟨rfl, h⟩
    have : (j : Int) = 2 := hjw
    exact a2 (by omega) rfl h
   ·rintro ⟨hk, h⟩
    have h1 : 1 ≤ ways k := by rcases hk with rfl | rfl | rfl <;> decide
    exact a1 (by omega) h1 h
  rw [hwy]
  exact ⟨rfl, rfl⟩
theorem zdE (l : Lay) (s : Step) : C f_lockbarref06_Step [l.av, s.av] (ib (zcN l s)) := by
 refine ctr (l.cells ++ s.cells) run_lockbarref06_Step rfl (by simp [zaf]) rfl ?_ rfl
 unfold rt_lockbarref06_Step
 simp [Lay.cells, Step.cells]
 by_cases hc : 0 ≤ s.s ∧ s.s < l.secs.length
 ·obtain ⟨n, hn, hlt, he⟩ := zch hc.1 hc.2
  have hls : zcN l s = way l.secs[n].kind s.i s.o := by simp [zcN, he]
  rw [hls]
  simp [hn, hlt, Sec.cells]
  refine ⟨fun h => by omega, ?_⟩
  refine call (zle l.secs[n].kind s.i s.o) (by simp [hlt, Sec.cells]) (by simp) ?_
  simp
 ·simp [zcN, zdf hc]
  exact fun a b => absurd ⟨a, b⟩ hc
theorem zo8 (k i o : Int) : C f_lockbarref05_Pos [U k, I i, I o] (ib (if (way k i o).2 = true ∧ k ≠ 2 then (-1, true) else way k i o)) := by
 refine ctr [U k, I i, I o] run_lockbarref05_Pos rfl rfl rfl ?_ rfl
 unfold rt_lockbarref05_Pos
 refine call (zle k i o) (by simp) (by simp) ?_
 generalize way k i o = w
 obtain ⟨a, b⟩ := w
 cases b <;> by_cases h : k = 2 <;> simp [h]
theorem zmm (l : Lay) (s : Step) : C f_lockbarref10_there [l.av, s.av] (.bool (zcN l s).2) := by
 refine ctr (l.cells ++ s.cells) run_lockbarref10_there rfl (by simp [zaf]) rfl ?_ rfl
 unfold rt_lockbarref10_there
 simp [Lay.cells, Step.cells]
 refine call (zdE l s) (by simp [Lay.cells, Step.cells]) (by simp) ?_
 simp
theorem zgb (l : Lay) (ho : l.ovOk) (x : Int) : C f_lockbarref10_Over [l.av, I x] (steps (over l x)) := by
 refine ctr (l.cells ++ [I x]) run_lockbarref10_Over rfl (by simp [zaf, AV.pureAll, AV.pure]) (by simp [AV.pure]) ?_ rfl
 unfold rt_lockbarref10_Over
 simp [Lay.cells]
 by_cases hc : 0 ≤ x ∧ x < l.exits.length
 ·obtain ⟨n, hn, hlt, he⟩ := zlL hc.1 hc.2
  have hk := ho _ (List.getElem_mem hlt)
  subst hn
  simp [hlt, Exi.cells, over, he]
  refine ⟨fun h => by omega, fun x _ => by simp [Step.cells], by omega⟩
 ·simp [over, zgn hc]
  exact fun a b => absurd ⟨a, b⟩ hc
theorem zmt (l : Lay) (s : Step) : C f_lockbarref10_Point [l.av, s.av] (iib (point l s)) := by
 refine ctr (l.cells ++ s.cells) run_lockbarref10_Point rfl (by simp [zaf]) rfl ?_ rfl
 unfold rt_lockbarref10_Point
 simp [Lay.cells, Step.cells]
 refine call (zmm l s) (by simp [Lay.cells, Step.cells]) (by simp) ?_
 by_cases hc : 0 ≤ s.s ∧ s.s < l.secs.length
 ·obtain ⟨n, hn, hlt, he⟩ := zch hc.1 hc.2
  have hls : zcN l s = way l.secs[n].kind s.i s.o := by simp [zcN, he]
  have hpt : point l s = if (way l.secs[n].kind s.i s.o).2 = true ∧ l.secs[n].kind = 2 then (s.s, (way 2 s.i s.o).1, true) else (0, 0, false) := by simp [point, he]
  rw [hls, hpt]
  clear hls hpt
  cases hw : (way l.secs[n].kind s.i s.o).2
  ·simp [hn, hlt, Sec.cells, hw]
  ·by_cases hk : l.secs[n].kind = 2
   ·rw [hk] at hw ⊢
    simp [hn, hlt, Sec.cells, hw, hk]
    refine call (zo8 2 s.i s.o) (by simp) (by simp) ?_
    simp
   ·simp [hn, hlt, Sec.cells, hw, hk]
 ·simp [point, zcN, zdf hc]
end Go.Lb.LK
namespace Go.Lb.LK
open Go Go.Lb Go.Proofs Go.RowKit
def zoL (k : Int) (f : Flank) : Need := ⟨f.point, f.pos, k⟩
theorem zqB (l : Lay) (s : Step) (k : Int) : zfn l s k = (if (point l s).2.2 = true then [⟨(point l s).1, (point l s).2.1, k⟩] else []) ++ (l.flanks.filter (za4 l s)).map (zoL k) := rfl
theorem zhx (l : Lay) (hf : l.flanks.length ≤ 2147483648) (s : Step) (k : Int) : C f_lockbarref10_Wants [l.av, s.av, I k] (needs (zfn l s k)) := by
 refine ctr (l.cells ++ s.cells ++ [I k]) run_lockbarref10_Wants rfl (by simp [zaf, AV.pureAll, AV.pure]) (by simp [AV.pure]) ?_ rfl
 unfold rt_lockbarref10_Wants
 simp [Lay.cells, Step.cells]
 refine call (zmt l s) (by simp [Lay.cells, Step.cells]) (by simp) ?_
 have hlen : ∀ i, ((l.flanks.take i).filter (za4 l s)).length ≤ 2147483648 := fun i => by
  have := List.length_filter_le (za4 l s) (l.flanks.take i)
  have : (l.flanks.take i).length ≤ l.flanks.length := by simp; omega
  omega
 rw [zqB]
 generalize hpt : point l s = pt
 obtain ⟨a, b, c⟩ := pt
 cases c
 ·simp
  refine call (zdE l s) (by simp [Lay.cells, Step.cells]) (by simp) ?_
  simp
  refine zac rfl (fun vs => ∃ i : Nat, i ≤ l.flanks.length ∧ vs = [needs (([] : List Need) ++ ((l.flanks.take i).filter (za4 l s)).map (zoL k)), I i]) (fun vs => match vs with | [_, .int _ j] => l.flanks.length - j.toNat | _ => 0) ⟨0, by omega, by simp [Need.cells]⟩ ?_
  rintro vs - ⟨i, hi, rfl⟩
  have hli := hlen i
  simp
  by_cases hlt : i < l.flanks.length
  ·have hw := zad (i := i) (by omega)
   have ht := zbN (za4 l s) l.flanks hlt
   cases hst : (zcN l s).2
   ·have hnone : l.flanks.filter (za4 l s) = [] := by
     rw [List.filter_eq_nil_iff]; intro f _; simp [za4, hst]
    have hnone2 : (l.flanks.take i).filter (za4 l s) = [] := by
     rw [List.filter_eq_nil_iff]; intro f _; simp [za4, hst]
    simp [hlt, hst, hnone, hnone2, Need.cells]
   ·simp [hlt, hst, Flank.cells, hw]
    cases hon : za4 l s l.flanks[i]
    ·have h3 : l.flanks[i].s = s.s → ¬ l.flanks[i].way = (zcN l s).1 := by
      intro h2 h3
      simp [za4, hst, h2, h3] at hon
     left
     refine ⟨h3, ⟨i + 1, by omega, ?_, by omega⟩, by omega⟩
     rw [ht, hon]; simp
    ·have h3 : l.flanks[i].s = s.s ∧ l.flanks[i].way = (zcN l s).1 := by
      simp only [za4, Bool.and_eq_true, decide_eq_true_eq] at hon
      exact ⟨hon.1.2, hon.2⟩
     right
     refine ⟨h3, by omega, ⟨i + 1, by omega, ?_, by omega⟩, by omega⟩
     rw [ht, hon]; simp [zoL, Need.cells]
  ·have hta : l.flanks.take i = l.flanks := List.take_of_length_le (by omega)
   simp [hlt, hta, Need.cells]
 ·simp
  refine call (zdE l s) (by simp [Lay.cells, Step.cells]) (by simp) ?_
  simp
  refine zac rfl (fun vs => ∃ i : Nat, i ≤ l.flanks.length ∧ vs = [needs ([(⟨a, b, k⟩ : Need)] ++ ((l.flanks.take i).filter (za4 l s)).map (zoL k)), I i]) (fun vs => match vs with | [_, .int _ j] => l.flanks.length - j.toNat | _ => 0) ⟨0, by omega, by simp [Need.cells]⟩ ?_
  rintro vs - ⟨i, hi, rfl⟩
  have hli := hlen i
  simp
  by_cases hlt : i < l.flanks.length
  ·have hw := zad (i := i) (by omega)
   have ht := zbN (za4 l s) l.flanks hlt
   cases hst : (zcN l s).2
   ·have hnone : l.flanks.filter (za4 l s) = [] := by
     rw [List.filter_eq_nil_iff]; intro f _; simp [za4, hst]
    have hnone2 : (l.flanks.take i).filter (za4 l s) = [] := by
     rw [List.filter_eq_nil_iff]; intro f _; simp [za4, hst]
    simp [hlt, hst, hnone, hnone2, Need.cells]
   ·simp [hlt, hst, Flank.cells, hw]
    cases hon : za4 l s l.flanks[i]
    ·have h3 : l.flanks[i].s = s.s → ¬ l.flanks[i].way = (zcN l s).1 := by
      intro h2 h3
      simp [za4, hst, h2, h3] at hon
     left
     refine ⟨h3, ⟨i + 1, by omega, ?_, by omega⟩, by omega⟩
     rw [ht, hon]; simp
    ·have h3 : l.flanks[i].s = s.s ∧ l.flanks[i].way = (zcN l s).1 := by
      simp only [za4, Bool.and_eq_true, decide_eq_true_eq] at hon
      exact ⟨hon.1.2, hon.2⟩
     right
     refine ⟨h3, by omega, ⟨i + 1, by omega, ?_, by omega⟩, by omega⟩
     rw [ht, hon]; simp [zoL, Need.cells]
  ·have hta : l.flanks.take i = l.flanks := List.take_of_length_le (by omega)
   simp [hlt, hta, Need.cells]
end Go.Lb.LK
namespace Go.Lb.LK
open Go Go.Lb Go.Proofs Go.RowKit
theorem zj9 (l : Lay) (ho : l.ovOk) (hf : l.flanks.length ≤ 1000) (p : Path) (hp : p.steps.length ≤ 1000) (hov : (over l p.exit).length ≤ 1000) : C f_lockbarref13_Of [l.av, p.av] (needs (zaB l p)) := by
 refine ctr (l.cells ++ p.cells) run_lockbarref13_Of rfl (by simp [zaf, AV.pureAll, AV.pure]) (by simp [AV.pure]) ?_ rfl
 unfold rt_lockbarref13_Of
 simp [Lay.cells, Path.cells]
 have hw1 : ∀ s k, (zfn l s k).length ≤ 1001 := fun s k => by have := zlM l s k; omega
 have hnl : (zaV l p).length = p.steps.length + (over l p.exit).length := by simp [zaV]
 have hN : ∀ m : Nat, (((zaV l p).take m).flatMap fun x => zfn l x.2 x.1).length ≤ 2002000 := fun m => by
  have h1 := zkg (fun x : Int × Step => zfn l x.2 x.1) 1001 (fun x => hw1 x.2 x.1) ((zaV l p).take m)
  have h2 : ((zaV l p).take m).length ≤ 2000 := by rw [List.length_take]; omega
  omega
 have hA : ∀ (i : Nat) (h : i < p.steps.length), (zaV l p)[i]'(by rw [hnl]; omega) = ((i : Int), p.steps[i]) := fun i h => by
  simp [zaV, List.getElem_append_left, h]
 have hB : ∀ (i : Nat) (h : i < (over l p.exit).length), (zaV l p)[p.steps.length + i]'(by rw [hnl]; omega) = ((p.steps.length : Int), (over l p.exit)[i]) := fun i h => by
  simp [zaV, List.getElem_append_right]
 refine zac rfl (fun vs => ∃ i : Nat, i ≤ p.steps.length ∧ vs = [needs (((zaV l p).take i).flatMap fun x => zfn l x.2 x.1), I i]) (fun vs => match vs with | [_, .int _ j] => p.steps.length - j.toNat | _ => 0) ⟨0, by simp, by simp⟩ ?_
 rintro vs - ⟨i, hi, rfl⟩
 have hNi := hN i
 simp
 refine ⟨fun hlt => ?_, fun hge => ?_⟩
 ·have hw := zad (i := i) (by omega)
  simp [hlt, Step.cells]
  have hx := zds (fun x : Int × Step => zfn l x.2 x.1) (zaV l p) (i := i) (by rw [hnl]; omega)
  rw [hA i hlt] at hx
  have hy := hw1 p.steps[i] i
  refine call (zhx l (by omega) p.steps[i] i) (by simp [hlt, Step.cells, Lay.cells]) (by simp) ?_
  simp [-List.length_flatMap]
  refine ⟨fun x _ => by simp [Need.cells], by omega, ⟨i + 1, by omega, ?_, hw⟩, by rw [hw]; omega⟩
  rw [hx]; simp
 ·have hi' : i = p.steps.length := by omega
  subst hi'
  refine call (zgb l ho p.exit) (by simp [Lay.cells]) (by simp) ?_
  simp
  refine zac rfl (fun vs => ∃ i : Nat, i ≤ (over l p.exit).length ∧ vs = [needs (((zaV l p).take (p.steps.length + i)).flatMap fun x => zfn l x.2 x.1), I i]) (fun vs => match vs with | [_, .int _ j] => (over l p.exit).length - j.toNat | _ => 0) ⟨0, by simp, by simp⟩ ?_
  rintro vs - ⟨i, hi, rfl⟩
  have hNi := hN (p.steps.length + i)
  simp
  refine ⟨fun hlt => ?_, fun hge => ?_⟩
  ·have hw := zad (i := i) (by omega)
   simp [hlt, Step.cells]
   have hx := zds (fun x : Int × Step => zfn l x.2 x.1) (zaV l p) (i := p.steps.length + i) (by rw [hnl]; omega)
   rw [hB i hlt] at hx
   have hy := hw1 (over l p.exit)[i] p.steps.length
   refine call (zhx l (by omega) (over l p.exit)[i] p.steps.length) (by simp [hlt, Step.cells, Lay.cells]) (by simp) ?_
   simp [-List.length_flatMap]
   refine ⟨fun x _ => by simp [Need.cells], by omega, ⟨i + 1, by omega, ?_, hw⟩, by rw [hw]; omega⟩
   rw [show p.steps.length + (i + 1) = p.steps.length + i + 1 from rfl, hx]; simp
  ·have : (zaV l p).take (p.steps.length + i) = zaV l p := List.take_of_length_le (by rw [hnl]; omega)
   simp [this, zaB]
end Go.Lb.LK
