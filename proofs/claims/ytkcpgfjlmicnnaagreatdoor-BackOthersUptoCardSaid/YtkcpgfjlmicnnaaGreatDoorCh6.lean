/- A kernel, as pure values. -/
/- What is apart, what is the same; machines. -/
/- A kernel: holders, wants, what is locked, what is free. -/
/- A kernel in memory of its own; kernels that are too great. -/
/- The document's Right of a held route. -/
/- Whether a kernel may be. -/
/- Whether a kernel may be, as the program has it. -/
/- A kernel: what is free, which needs can be met. -/
/- Ways through sections; overlaps. -/
/- What steps want, what paths need. -/
/- The document's ways and overlaps. -/
/- Ports, as the document has them; what lies beyond. -/
/- Counting on; a layout of two sections. -/
/- A train through a route: the plain law. -/
/- Whose points stand. -/
/- A train's tick, as the document has it. -/
import Derived.Test.YtkcpgfjlmicnnaaGreatDoorCh5
set_option linter.unusedSimpArgs false
set_option linter.unusedVariables false
namespace Go.Lb.LK
open Go Go.Lb

structure Kern where
  next : Int
  held : List Hd
  want : Nat → Int
  run : Nat → Int
  fail : Nat → Bool
def mcells (w r : Nat → Int) (f : Nat → Bool) : List AV := [I (w 0), I (r 0), .bool (f 0), I (w 1), I (r 1), .bool (f 1), I (w 2), I (r 2), .bool (f 2), I (w 3), I (r 3), .bool (f 3), I (w 4), I (r 4), .bool (f 4), I (w 5), I (r 5), .bool (f 5), I (w 6), I (r 6), .bool (f 6), I (w 7), I (r 7), .bool (f 7), I (w 8), I (r 8), .bool (f 8), I (w 9), I (r 9), .bool (f 9), I (w 10), I (r 10), .bool (f 10), I (w 11), I (r 11), .bool (f 11), I (w 12), I (r 12), .bool (f 12), I (w 13), I (r 13), .bool (f 13), I (w 14), I (r 14), .bool (f 14), I (w 15), I (r 15), .bool (f 15), I (w 16), I (r 16), .bool (f 16), I (w 17), I (r 17), .bool (f 17), I (w 18), I (r 18), .bool (f 18), I (w 19), I (r 19), .bool (f 19), I (w 20), I (r 20), .bool (f 20), I (w 21), I (r 21), .bool (f 21), I (w 22), I (r 22), .bool (f 22), I (w 23), I (r 23), .bool (f 23)]
def Kern.cells (k : Kern) : List AV := [I k.next, .sl (k.held.map Hd.av), I (k.want 0), I (k.run 0), .bool (k.fail 0), I (k.want 1), I (k.run 1), .bool (k.fail 1), I (k.want 2), I (k.run 2), .bool (k.fail 2), I (k.want 3), I (k.run 3), .bool (k.fail 3), I (k.want 4), I (k.run 4), .bool (k.fail 4), I (k.want 5), I (k.run 5), .bool (k.fail 5), I (k.want 6), I (k.run 6), .bool (k.fail 6), I (k.want 7), I (k.run 7), .bool (k.fail 7), I (k.want 8), I (k.run 8), .bool (k.fail 8), I (k.want 9), I (k.run 9), .bool (k.fail 9), I (k.want 10), I (k.run 10), .bool (k.fail 10), I (k.want 11), I (k.run 11), .bool (k.fail 11), I (k.want 12), I (k.run 12), .bool (k.fail 12), I (k.want 13), I (k.run 13), .bool (k.fail 13), I (k.want 14), I (k.run 14), .bool (k.fail 14), I (k.want 15), I (k.run 15), .bool (k.fail 15), I (k.want 16), I (k.run 16), .bool (k.fail 16), I (k.want 17), I (k.run 17), .bool (k.fail 17), I (k.want 18), I (k.run 18), .bool (k.fail 18), I (k.want 19), I (k.run 19), .bool (k.fail 19), I (k.want 20), I (k.run 20), .bool (k.fail 20), I (k.want 21), I (k.run 21), .bool (k.fail 21), I (k.want 22), I (k.run 22), .bool (k.fail 22), I (k.want 23), I (k.run 23), .bool (k.fail 23)]
abbrev Kern.av (k : Kern) : AV := .agg k.cells
abbrev helds (l : List Hd) : AV := .sl (l.map Hd.av)
@[simp] theorem helds_pure (l : List Hd) : AV.pureAll (l.map Hd.av) = true := pureAll_map _ (fun x => by simp [AV.pure]) l
@[simp] theorem Kern.pure (k : Kern) : AV.pureAll k.cells = true := by simp [Kern.cells, AV.pureAll, AV.pure]
structure Mach where
  want : Int
  run : Int
  fail : Bool
  deriving DecidableEq
def Mach.cells (m : Mach) : List AV := [I m.want, I m.run, .bool m.fail]
abbrev Mach.av (m : Mach) : AV := .agg m.cells
@[simp] theorem Mach.pure (m : Mach) : AV.pureAll m.cells = true := by simp [Mach.cells, AV.pureAll, AV.pure]
def Kern.mach (k : Kern) (i : Nat) : Mach := ⟨k.want i, k.run i, k.fail i⟩
/-- Stages are bytes. -/
def Kern.ok (k : Kern) : Prop := ∀ h ∈ k.held, 0 ≤ h.stage ∧ h.stage ≤ 255
def machT : TS := .agg [iT, iT, .bool]
def kernT : TS := .agg [iT, .sl true heldT, .agg [machT, machT, machT, machT, machT, machT, machT, machT, machT, machT, machT, machT, machT, machT, machT, machT, machT, machT, machT, machT, machT, machT, machT, machT]]
/-- Machines, read off. -/
theorem machs_of : ∀ (n : Nat) (vals : List AV), TS.fitsAll (List.replicate n machT) vals → ∃ ms : List Mach, ms.length = n ∧ vals = ms.flatMap Mach.cells
  | 0, vals, h => ⟨[], rfl, by rw [List.replicate_zero, fitsAll_nil] at h; rw [h]; rfl⟩
  | n + 1, vals, h => by
    rw [List.replicate_succ, machT, fitsAll_agg] at h
    simp only [iT, List.cons_append, List.nil_append, fitsAll_int, fitsAll_bool] at h
    obtain ⟨w, q, rfl, _, r, q, rfl, _, f, q, rfl, h⟩ := h
    obtain ⟨ms, h1, rfl⟩ := machs_of n q h
    exact ⟨⟨w, r, f⟩ :: ms, by simp [h1], rfl⟩
theorem mcells_of {ms : List Mach} (h : ms.length = 24) : ms.flatMap Mach.cells = mcells (fun i => (ms[i]?.map (·.want)).getD 0) (fun i => (ms[i]?.map (·.run)).getD 0) (fun i => (ms[i]?.map (·.fail)).getD false) := by
  match ms, h with
  | [m0, m1, m2, m3, m4, m5, m6, m7, m8, m9, m10, m11, m12, m13, m14, m15, m16, m17, m18, m19, m20, m21, m22, m23], _ => rfl
theorem kcells (k : Kern) : k.cells = I k.next :: helds k.held :: mcells k.want k.run k.fail := rfl
theorem kern_of {cs : List AV} (h : kernT.fits cs) : ∃ x : Kern, AV.agg cs = x.av ∧ x.ok := by
  rw [kernT, fits_agg, iT, fitsAll_int] at h
  obtain ⟨n, q, rfl, _, h⟩ := h
  rw [fitsAll_sl] at h
  obtain ⟨hs, q, rfl, hh, h⟩ := h
  rw [fitsAll_agg, List.append_nil] at h
  obtain ⟨ms, h1, rfl⟩ := machs_of 24 q h
  obtain ⟨hs, rfl, hq⟩ := sl_mapP (g := Hd.av) (Q := fun h => 0 ≤ h.stage ∧ h.stage ≤ 255) (fun cs h => held_of h) hs hh.2
  rw [mcells_of h1]
  exact ⟨⟨n, hs, fun i => (ms[i]?.map (·.want)).getD 0, fun i => (ms[i]?.map (·.run)).getD 0, fun i => (ms[i]?.map (·.fail)).getD false⟩, rfl, hq⟩
theorem kern_arg {x : AV} (h : kernT.fits x.cells) (h2 : aggIf true x) : ∃ l : Kern, x = l.av ∧ l.ok := by
  obtain ⟨cs, rfl⟩ := h2.1 rfl
  exact kern_of h
end Go.Lb.LK

namespace Go.Lb.LK
open Go Go.Lb Go.Proofs Go.RowKit

def apartS (a b : Hd) : Bool := !((secsN a).any fun s => decide (s ∈ secsN b)) && !clashN (needsN a) (needsN b)
theorem hh (a b : Hd) : AV.pureAll (a.cells ++ b.cells) = true := by simp [pureAll_append]
theorem apart_hit {a b : Hd} {s : Int} (h1 : s ∈ secsN a) (h2 : s ∈ secsN b) : apartS a b = false := by
  have : ((secsN a).any fun s => decide (s ∈ secsN b)) = true := List.any_eq_true.2 ⟨s, h1, by simpa using h2⟩
  simp [apartS, this]
theorem c_r17Apart (a b : Hd) (ha : a.len) (hb : b.len) : C f_lockbarref17_Apart [a.av, b.av] (.bool (apartS a b)) := by
  have hna := needsN_len a
  have hnb := needsN_len b
  have hsl := secsN_len a
  have ha' := ha
  have hb' := hb
  obtain ⟨h1, h2, h3⟩ := ha
  obtain ⟨k1, k2, k3⟩ := hb
  refine ctr (a.cells ++ b.cells) run_lockbarref17_Apart rfl (hh a b) rfl ?_ rfl
  unfold rt_lockbarref17_Apart
  simp [Hd.cells]
  refine call (c_r17Sections a ha') (by simp [Hd.cells]) (by simp) ?_
  simp
  refine RTwp_loop rfl (fun vs => ∃ i : Nat, i ≤ (secsN a).length ∧ vs = [I i] ∧ NoneIn (fun s => decide (s ∈ secsN b)) ((secsN a).take i)) (fun vs => match vs with | [.int _ j] => (secsN a).length - j.toNat | _ => 0) ⟨0, by omega, by simp, rfl⟩ ?_
  rintro vs - ⟨i, hi, rfl, hq⟩
  simp
  refine ⟨fun hlt => ?_, fun hge => ?_⟩
  · have hw := wrap_succ (i := i) (by omega)
    simp [hlt]
    refine call (c_r17Has b hb' (secsN a)[i]) (by simp [Hd.cells, hlt]) (by simp) ?_
    by_cases hm : (secsN a)[i] ∈ secsN b
    · simp [hm, apart_hit (List.getElem_mem hlt) hm]
    · simp [hm, hw]
      exact ⟨⟨i + 1, by omega, by omega, any_step hlt hq (by simpa using hm)⟩, by omega⟩
  · have ht : (secsN a).take i = secsN a := List.take_of_length_le (by omega)
    rw [ht] at hq
    unfold NoneIn at hq
    refine call (c_r17Needs a ha') (by simp [Hd.cells]) (by simp) ?_
    simp
    refine call (c_r17Needs b hb') (by simp [Hd.cells]) (by simp) ?_
    simp
    refine call (c_r17clash (needsN a) (needsN b) (by omega) (by omega)) (by simp) (by simp) ?_
    simp only [apartS, hq]
    simp

def machOk (m : Mach) : Bool := (decide (m.want = 0 ∨ m.want = 1) && decide (0 ≤ m.run ∧ m.run ≤ 1000)) || decide (m = ⟨-1, 0, false⟩)
theorem mach_ext {a b : Mach} : a = b ↔ a.want = b.want ∧ a.run = b.run ∧ a.fail = b.fail := by
  cases a; cases b; simp
theorem c_r16Rest : C f_lockbarref16_Rest [] (Mach.av ⟨-1, 0, false⟩) := by
  refine ctr [] run_lockbarref16_Rest rfl rfl rfl ?_ rfl
  unfold rt_lockbarref16_Rest
  simp [Mach.cells]
theorem mach_eqs (a b c d : Int) (e f : Bool) : AV.eqs [I a, I b, .bool e] [I c, I d, .bool f] = decide ((⟨a, b, e⟩ : Mach) = ⟨c, d, f⟩) := by
  by_cases h1 : a = c <;> by_cases h2 : b = d <;> cases e <;> cases f <;> simp [AV.eqs, AV.eq1, h1, h2]
theorem c_r16Right (m : Mach) : C f_lockbarref16_Right [m.av] (.bool (machOk m)) := by
  refine ctr m.cells run_lockbarref16_Right rfl (by simp) rfl ?_ rfl
  unfold rt_lockbarref16_Right
  obtain ⟨w, r, f⟩ := m
  simp [Mach.cells]
  refine ⟨fun hb => ?_, fun h1 h2 h3 h4 => ?_⟩
  · have e1 : ¬ (w = 0 ∨ w = 1) ∨ ¬ (0 ≤ r ∧ r ≤ 1000) := by omega
    have e2 : (⟨w, r, f⟩ : Mach) ≠ ⟨-1, 0, false⟩ := by
      intro h; rw [mach_ext] at h; simp at h; omega
    simp only [machOk, e2, decide_false, Bool.or_false]
    rcases e1 with e1 | e1 <;> simp [e1]
  · refine callIf (avs := []) (Mach.av ⟨-1, 0, false⟩) rfl (fun _ => ⟨rfl, c_r16Rest⟩) (fun _ => rfl) ?_
    have hw : w = -1 ∨ w = 0 ∨ w = 1 := by omega
    rcases hw with rfl | rfl | rfl <;> simp [Mach.cells, mach_eqs, machOk, h3, h4] <;> rfl
end Go.Lb.LK

namespace Go.Lb.LK
open Go Go.Lb Go.Proofs Go.RowKit

def Kern.len (k : Kern) : Prop := k.held.length ≤ 1048576 ∧ ∀ h ∈ k.held, h.len
theorem ks (k : Kern) (s : Int) : AV.pureAll (k.cells ++ [I s]) = true := by simp [pureAll_append, AV.pureAll, AV.pure]
theorem Kern.at (k : Kern) (hl : k.len) {i : Nat} (h : i < k.held.length) : k.held[i].len := hl.2 _ (List.getElem_mem h)
def holderN (k : Kern) (s : Int) : Option Int := (k.held.find? fun h => decide (s ∈ secsN h)).map (·.id)
def wantedN (k : Kern) (p : Int) : Option Int := k.held.findSome? fun h => wantsN h p
def lockedN (k : Kern) (p : Int) : Bool := k.held.any fun h => (wantsN h p).isSome && !decide (h.stage = 1)
end Go.Lb.LK

namespace Go.Lb.LK
open Go Go.Lb Go.Proofs Go.RowKit

theorem Hd.one (h : Hd) : h.cells.length = 23 ∧ AV.ones h.cells = true := by simp [Hd.cells]
theorem set_self (l : List Hd) {i : Nat} (h : i < l.length) : (l.map Hd.av).set i l[i].av = l.map Hd.av := by
  have : (l.map Hd.av)[i]'(by simpa using h) = l[i].av := by simp
  rw [← this, List.set_getElem_self]
def great6 (l : Lay) : Bool := (l.exits.take 31).any (fun e => decide (20 < e.over.length)) || (decide (40 < l.secs.length) || (decide (30 < l.sigs.length) || (decide (30 < l.exits.length) || decide (40 < l.flanks.length))))
theorem c_r06_Great (l : Lay) : C f_lockbarref06_Great [l.av] (.bool (great6 l)) := by
  refine ctr l.cells run_lockbarref06_Great rfl (by simp) rfl ?_ rfl
  unfold rt_lockbarref06_Great
  simp [Lay.cells]
  refine RTwp_loop rfl (fun vs => ∃ j : Nat, j ≤ l.exits.length ∧ j ≤ 31 ∧ vs = [I j] ∧ NoneIn (fun e => decide (20 < e.over.length)) (l.exits.take j)) (fun vs => match vs with | [.int _ j] => 32 - j.toNat | _ => 0) ⟨0, by omega, by omega, by simp, rfl⟩ ?_
  rintro vs - ⟨i, hi, hi2, rfl, hq⟩
  simp
  refine ⟨fun hlt hle => ?_, fun hstop => ?_⟩
  · have hw := wrap_succ (i := i) (by omega)
    simp [hlt, Exi.cells, hw]
    by_cases hb : 20 < l.exits[i].over.length
    · right
      refine ⟨by omega, ?_⟩
      have : (l.exits.take 31).any (fun e => decide (20 < e.over.length)) = true := List.any_eq_true.2 ⟨l.exits[i], List.mem_take_iff_getElem.2 ⟨i, by omega, rfl⟩, by simpa using hb⟩
      simp [great6, this]
    · left
      exact ⟨by omega, ⟨i + 1, by omega, by omega, by omega, any_step hlt hq (by simpa using hb)⟩, by omega⟩
  · have : (l.exits.take 31).any (fun e => decide (20 < e.over.length)) = false := by
      by_cases hl : i < l.exits.length
      · have := hstop hl
        have : i = 31 := by omega
        subst this; exact hq
      · rw [List.take_of_length_le (show l.exits.length ≤ i by omega)] at hq
        refine List.any_eq_false.2 fun x hx => ?_
        exact List.any_eq_false.1 hq x (List.mem_of_mem_take hx)
    have e1 : decide (40 < (l.secs.length : Int)) = decide (40 < l.secs.length) := decide_eq_decide.2 (by omega)
    have e2 : decide (30 < (l.sigs.length : Int)) = decide (30 < l.sigs.length) := decide_eq_decide.2 (by omega)
    have e3 : decide (30 < (l.exits.length : Int)) = decide (30 < l.exits.length) := decide_eq_decide.2 (by omega)
    have e4 : decide (40 < (l.flanks.length : Int)) = decide (40 < l.flanks.length) := decide_eq_decide.2 (by omega)
    simp [great6, this, e1, e2, e3, e4, Bool.or_assoc]
end Go.Lb.LK

namespace Go.Lb.LK
open Go Go.Lb Go.Proofs Go.RowKit

theorem right_facts {h : Hd} (hr : rightS h = true) : h.g1 ∧ h.g2 ∧ clashN h.needs h.needs = false ∧ h.wasOk = true ∧ h.secs.Nodup ∧ h.needs.all (needOk h.path.steps.length) = true := by
  simp only [rightS, Bool.and_eq_true, decide_eq_true_eq, Bool.not_eq_true'] at hr
  exact ⟨hr.1, hr.2.1, hr.2.2.1, hr.2.2.2.1, hr.2.2.2.2.1, hr.2.2.2.2.2⟩
theorem was_cell (h : Hd) (k : Nat) (hk : k < 12) : (h.cells[k * 1 + 8]?).getD .undef = .bool (h.was k) := by
  rw [Nat.mul_one, ← List.getD_eq_getElem?_getD]; exact was_get h hk _
theorem not_nodup_of {l : List Int} {i j : Nat} (hij : i < j) (hj : j < l.length) (he : l[i] = l[j]) : ¬ l.Nodup := by
  intro hn
  have := List.pairwise_iff_getElem.1 hn i j (by omega) hj hij
  exact this he
theorem nodup_step {l : List Int} {k : Nat} (hk : k < l.length) (hn : (l.take k).Nodup) (hi : ∀ i, (h : i < k) → l[i] ≠ l[k]) : (l.take (k + 1)).Nodup := by
  rw [List.take_add_one, List.getElem?_eq_getElem hk]
  simp only [Option.toList_some]
  rw [List.nodup_append]
  refine ⟨hn, by simp, ?_⟩
  intro a ha b hb
  simp at hb; subst hb
  obtain ⟨i, hi2, rfl⟩ := List.mem_iff_getElem.1 ha
  rw [List.length_take] at hi2
  rw [List.getElem_take]
  exact hi i (by omega)
theorem c_r17Right (h : Hd) (hl : h.len) (hs : 0 ≤ h.stage ∧ h.stage ≤ 255) : C f_lockbarref17_Right [h.av] (.bool (rightS h)) := by
  obtain ⟨l1, l2, l3⟩ := hl
  refine ctr h.cells run_lockbarref17_Right rfl (by simp) rfl ?_ rfl
  unfold rt_lockbarref17_Right
  simp [Hd.cells]
  refine callIf (avs := [needs h.needs, needs h.needs]) (.bool (clashN h.needs h.needs)) rfl (fun _ => ⟨by simp, c_r17clash _ _ (by omega) (by omega)⟩) (by simp) ?_
  by_cases g1 : h.g1 ∧ h.g2
  · have g1' := g1.1
    have g2' := g1.2
    obtain ⟨⟨a1, a2, a3, a4, a5, a6, a7⟩, d1, d2, d3, d4⟩ := g1
    have b1 : ¬ h.id < 1 := by omega
    have b2 : ¬ 1073741824 < h.id := by omega
    have b2' : ¬ 1073741824 < h.timer := by omega
    have b3 : ¬ h.timer < 0 := by omega
    have b4 : ¬ ((h.path.steps.length : Int) < 1) := by omega
    have b5 : ¬ (12 < (h.path.steps.length : Int)) := by omega
    have b6 : ¬ (2 < (h.over.length : Int)) := by omega
    have e1 : ¬ h.stage < 1 := by omega
    have e2 : ¬ 5 ≤ h.stage := by omega
    have e3 : ¬ h.gone < 0 := by omega
    have e4 : ¬ (h.path.steps.length : Int) < h.gone := by omega
    simp [b1, b2, b2', b3, b4, b5, b6, e1, e2, e3, e4]
    refine ⟨fun hc => by simp [rightS, hc], fun hc => ⟨fun a _ => by simp [Step.cells], by omega, fun a _ => by simp [Step.cells], by omega, ?_⟩⟩
    have hsecs : h.secs = (h.path.steps ++ h.over).map (·.s) := rfl
    have hlen : (h.path.steps ++ h.over).length = h.path.steps.length + h.over.length := by simp
    generalize hall : h.path.steps ++ h.over = all at hsecs hlen
    have hmap : List.map Step.av h.path.steps ++ List.map Step.av h.over = all.map Step.av := by rw [← hall, List.map_append]
    refine RTwp_loop rfl (fun vs => ∃ k : Nat, k ≤ all.length ∧ vs = [I k] ∧ ((all.map (·.s)).take k).Nodup) (fun vs => match vs with | [.int _ j] => all.length - j.toNat | _ => 0) ⟨0, by simp, by simp, by simp⟩ ?_
    rintro vs - ⟨k, hk, rfl, hnd⟩
    simp [hmap, ← hlen]
    refine ⟨fun hlt => ?_, fun hge => ?_⟩
    · have hltm : k < (all.map (·.s)).length := by simpa using hlt
      refine RTwp_loop rfl (fun vs => ∃ j : Nat, j ≤ k ∧ vs = [I j] ∧ ∀ i, i < j → ∀ x, all[i]? = some x → ¬ x.s = all[k].s) (fun vs => match vs with | [.int _ j] => k - j.toNat | _ => 0) ⟨0, by simp, by simp, by simp⟩ ?_
      rintro vs - ⟨j, hj, rfl, hne⟩
      simp [hmap]
      refine ⟨fun hjk => ?_, fun hjk => ?_⟩
      · have hja : j < all.length := by omega
        have hwr := wrap_succ (i := j) (by omega)
        simp [hlt, hja, Step.cells, hwr]
        refine ⟨by omega, by omega, ?_⟩
        by_cases he : all[j].s = all[k].s
        · right
          refine ⟨he, ?_⟩
          have : ¬ h.secs.Nodup := by
            rw [hsecs]
            exact not_nodup_of (i := j) (j := k) (by omega) (by simpa using hlt) (by simpa using he)
          simp [rightS, this]
        · left
          refine ⟨he, ⟨j + 1, by omega, by omega, fun i hi x hx => ?_⟩, by omega⟩
          by_cases hij : i = j
          · subst hij
            rw [List.getElem?_eq_getElem hja] at hx
            cases hx; exact he
          · exact hne i (by omega) x hx
      · have hwr := wrap_succ (i := k) (by omega)
        have hjk2 : j = k := by omega
        subst hjk2
        simp [hwr]
        refine ⟨⟨j + 1, by omega, by omega, ?_⟩, by omega⟩
        have := nodup_step hltm hnd (fun i hi he => hne i hi all[i] (List.getElem?_eq_getElem (by omega)) (by simpa using he))
        simpa using this
    · have hta : (all.map (·.s)).take k = all.map (·.s) := List.take_of_length_le (by simp; omega)
      rw [hta] at hnd
      have hno : h.secs.Nodup := by rw [hsecs]; exact hnd
      refine RTwp_loop rfl (fun vs => ∃ k : Nat, h.path.steps.length ≤ k ∧ k ≤ 12 ∧ vs = [I k] ∧ ∀ m, h.path.steps.length ≤ m → m < k → h.was m = false) (fun vs => match vs with | [.int _ j] => 12 - j.toNat | _ => 0) ⟨h.path.steps.length, by simp, by omega, by simp, fun m h1 h2 => by omega⟩ ?_
      rintro vs - ⟨m, hm1, hm2, rfl, hwm⟩
      simp
      refine ⟨fun hlt => ?_, fun hge => ?_⟩
      · have hlt2 : m < 12 := by omega
        have hwr := wrap_succ (i := m) (by omega)
        have hc2 := was_cell h m hlt2
        simp only [Hd.cells] at hc2
        simp at hc2
        simp [hc2, hwr]
        refine ⟨by omega, by omega, ?_⟩
        cases hw : h.was m
        · left
          refine ⟨rfl, ⟨m + 1, by omega, by omega, by omega, fun i h1 h2 => ?_⟩, by omega⟩
          by_cases him : i = m
          · subst him; exact hw
          · exact hwm i h1 (by omega)
        · right
          refine ⟨rfl, ?_⟩
          have : h.wasOk = false := by
            unfold Hd.wasOk
            rw [List.all_eq_false]
            refine ⟨m, by simpa using hlt2, ?_⟩
            simp [hw]; omega
          simp [rightS, this]
      · have hwo : h.wasOk = true := by
          unfold Hd.wasOk
          rw [List.all_eq_true]
          intro i hi
          simp only [List.mem_range] at hi
          by_cases hin : i < h.path.steps.length
          · simp [hin]
          · rw [hwm i (by omega) (by omega)]; simp
        have hr : rightS h = h.needs.all (needOk h.path.steps.length) := by simp [rightS, g1', g2', hc, hwo, hno]
        rw [hr]
        refine RTwp_loop rfl (fun vs => ∃ i : Nat, i ≤ h.needs.length ∧ vs = [I i] ∧ NoneIn (fun x => !needOk h.path.steps.length x) (h.needs.take i)) (fun vs => match vs with | [.int _ j] => h.needs.length - j.toNat | _ => 0) ⟨0, by simp, by simp, rfl⟩ ?_
        rintro vs - ⟨i, hi, rfl, hq⟩
        simp
        refine ⟨fun hlt => ?_, fun hge => ?_⟩
        · have hwr := wrap_succ (i := i) (by omega)
          simp [hlt, Need.cells, hwr]
          cases hok : needOk h.path.steps.length h.needs[i]
          · right
            refine ⟨?_, h.needs[i], List.getElem_mem hlt, hok⟩
            simp only [needOk, decide_eq_false_iff_not] at hok
            omega
          · left
            have hok2 := hok
            simp only [needOk, decide_eq_true_eq] at hok2
            exact ⟨by omega, ⟨i + 1, by omega, by omega, any_step hlt hq (by simp [hok])⟩, by omega⟩
        · have : h.needs.take i = h.needs := List.take_of_length_le (by omega)
          rw [this] at hq
          unfold NoneIn at hq
          simp at hq
          exact fun x hx => hq x hx
  · have hr : rightS h = false := by
      simp only [rightS]
      by_cases hg : h.g1
      · have : ¬ h.g2 := fun h2 => g1 ⟨hg, h2⟩
        simp [this]
      · simp [hg]
    rw [hr]
    simp
    intro q1 q2 q3 q4 q5 q6 q7 q8 q9 q10 q11 q12
    exfalso
    apply g1
    unfold Hd.g1 Hd.g2
    omega
end Go.Lb.LK

namespace Go.Lb.LK
open Go Go.Lb Go.Proofs Go.RowKit

def lastId (k : Kern) (i : Nat) : Int := if i = 0 then 0 else (k.held[i - 1]?.map (·.id)).getD 0
def okAt (k : Kern) (i : Nat) : Bool := match k.held[i]? with
  | some h => rightS h && (decide (h.id < k.next) && (decide (lastId k i < h.id) && (k.held.take i).all (apartS h)))
  | none => true
def machAll (k : Kern) : Bool := (List.range 24).all fun i => machOk (k.mach i)
def rightK (k : Kern) : Bool := decide (k.held.length ≤ 6 ∧ 1 ≤ k.next ∧ k.next ≤ 1073741824) && ((List.range k.held.length).all (okAt k) && machAll k)
theorem okAt_lt {k : Kern} {i : Nat} (h : i < k.held.length) : okAt k i = (rightS k.held[i] && (decide (k.held[i].id < k.next) && (decide (lastId k i < k.held[i].id) && (k.held.take i).all (apartS k.held[i])))) := by
  simp only [okAt, List.getElem?_eq_getElem h]
theorem rightK_bad {k : Kern} {i : Nat} (h : i < k.held.length) (hb : okAt k i = false) : rightK k = false := by
  have : (List.range k.held.length).all (okAt k) = false := by
    rw [List.all_eq_false]
    exact ⟨i, List.mem_range.2 h, by rw [hb]; simp⟩
  simp [rightK, this]
theorem lastId_succ {k : Kern} {i : Nat} (h : i < k.held.length) : lastId k (i + 1) = k.held[i].id := by
  simp [lastId, List.getElem?_eq_getElem h]
theorem aidxK (k : Kern) {i : Nat} {z : Int} (hz : z = i) (h : i < 24) : pv (.aidx 24 3 2 3 true) [.agg k.cells, I z] = (k.mach i).av := by
  subst hz
  match i, h with
  | 0, _ => rfl
  | 1, _ => rfl
  | 2, _ => rfl
  | 3, _ => rfl
  | 4, _ => rfl
  | 5, _ => rfl
  | 6, _ => rfl
  | 7, _ => rfl
  | 8, _ => rfl
  | 9, _ => rfl
  | 10, _ => rfl
  | 11, _ => rfl
  | 12, _ => rfl
  | 13, _ => rfl
  | 14, _ => rfl
  | 15, _ => rfl
  | 16, _ => rfl
  | 17, _ => rfl
  | 18, _ => rfl
  | 19, _ => rfl
  | 20, _ => rfl
  | 21, _ => rfl
  | 22, _ => rfl
  | 23, _ => rfl
  | n + 24, h => exact absurd h (by omega)
theorem range_hit {q : Nat → Bool} {n i : Nat} (h : i < n) (hb : q i = false) : (List.range n).all q = false := by
  rw [List.all_eq_false]
  exact ⟨i, List.mem_range.2 h, by rw [hb]; simp⟩
theorem range_all {q : Nat → Bool} {n : Nat} (h : ∀ i, i < n → q i = true) : (List.range n).all q = true := by
  rw [List.all_eq_true]
  exact fun i hi => h i (List.mem_range.1 hi)
set_option maxHeartbeats 2000000 in
theorem c_r18Right (k : Kern) (hl : k.len) (hk : k.ok) : C f_lockbarref18_Right [k.av] (.bool (rightK k)) := by
  have h1 := hl.1
  refine ctr k.cells run_lockbarref18_Right rfl (by simp) rfl ?_ rfl
  unfold rt_lockbarref18_Right
  simp [Kern.cells, -pv_aidx]
  refine ⟨fun hb => ?_, fun a1 a2 a3 => ?_⟩
  · have hg : ¬ (k.held.length ≤ 6 ∧ 1 ≤ k.next ∧ k.next ≤ 1073741824) := by omega
    simp only [rightK]; rw [decide_eq_false hg]; rfl
  · have hg : k.held.length ≤ 6 ∧ 1 ≤ k.next ∧ k.next ≤ 1073741824 := by omega
    refine RTwp_loop rfl (fun vs => ∃ i : Nat, i ≤ k.held.length ∧ vs = [I i] ∧ ∀ j, j < i → okAt k j = true) (fun vs => match vs with | [.int _ j] => k.held.length - j.toNat | _ => 0) ⟨0, by omega, by simp, fun j hj => by omega⟩ ?_
    rintro vs - ⟨i, hi, rfl, hq⟩
    simp [-pv_aidx]
    refine ⟨fun hlt => ?_, fun hge => ?_⟩
    · have hw := wrap_succ (i := i) (by omega)
      have hok := okAt_lt hlt
      simp [hlt, Hd.cells, -pv_aidx]
      refine call (c_r17Right k.held[i] (k.at hl hlt) (hk _ (List.getElem_mem hlt))) (by simp [hlt, Hd.cells]) (by simp) ?_
      by_cases hi0 : 0 < i
      · have hw0 : IntKind.i64.wrap ((i : Int) - 1) = (i : Int) - 1 := by rw [wrap_i] <;> omega
        have hlast : lastId k i = k.held[i - 1].id := by
          simp [lastId, show ¬ i = 0 by omega, List.getElem?_eq_getElem (show i - 1 < k.held.length by omega)]
        have hi1 : ((i : Int) - 1).toNat = i - 1 := by omega
        simp [hlt, hi0, hw0, hi1, Hd.cells, show i - 1 < k.held.length by omega, -pv_aidx]
        refine And.intro (by intros; omega) ?_
        refine ⟨fun hb => ?_, fun hr hn hli => ?_⟩
        · refine rightK_bad hlt ?_
          rw [hok, hlast]
          rcases hb with (hb | hb) | hb
          · simp [hb]
          · simp [show ¬ k.held[i].id < k.next by omega]
          · simp [show ¬ k.held[i - 1].id < k.held[i].id by omega]
        · rw [← hlast] at hli
          refine RTwp_loop rfl (fun vs => ∃ j : Nat, j ≤ i ∧ vs = [I j] ∧ NoneIn (fun o => !apartS k.held[i] o) (k.held.take j)) (fun vs => match vs with | [.int _ j] => i - j.toNat | _ => 0) ⟨0, by omega, by simp, rfl⟩ ?_
          rintro vs - ⟨j, hj, rfl, hp⟩
          simp [-pv_aidx]
          refine ⟨fun hlt2 => ?_, fun hge2 => ?_⟩
          · have hj2 : j < k.held.length := by omega
            have hwj := wrap_succ (i := j) (by omega)
            simp [hlt, hj2, Hd.cells, -pv_aidx]
            refine call (c_r17Apart k.held[i] k.held[j] (k.at hl hlt) (k.at hl hj2)) (by simp [hlt, hj2, Hd.cells]) (by simp) ?_
            cases ha : apartS k.held[i] k.held[j]
            · have hb : rightK k = false := by
                refine rightK_bad hlt ?_
                rw [hok]
                have : (k.held.take i).all (apartS k.held[i]) = false := by
                  rw [List.all_eq_false]
                  exact ⟨k.held[j], List.mem_take_iff_getElem.2 ⟨j, by omega, rfl⟩, by rw [ha]; simp⟩
                rw [this]; simp
              simp [hb, -pv_aidx]
            · simp [hwj, -pv_aidx]
              exact ⟨⟨j + 1, by omega, by omega, any_step hj2 hp (by simp [ha])⟩, by omega⟩
          · have hji : j = i := by omega
            subst hji
            have hall : (k.held.take j).all (apartS k.held[j]) = true := by
              rw [List.all_eq_true]
              intro x hx
              have := List.any_eq_false.1 hp x hx
              simpa using this
            have hokj : okAt k j = true := by rw [hok, hr, hall, decide_eq_true hn, decide_eq_true hli]; rfl
            simp [hlt, hw, Hd.cells, -pv_aidx]
            refine ⟨⟨j + 1, by omega, by omega, fun m hm => ?_⟩, by omega⟩
            by_cases hmj : m = j
            · subst hmj; exact hokj
            · exact hq m (by omega)
      · have hi0' : i = 0 := by omega
        have hlast : lastId k i = 0 := by simp [lastId, hi0']
        simp [hlt, hi0, Hd.cells, -pv_aidx]
        refine ⟨fun hb => ?_, fun hr hn => ?_⟩
        · refine rightK_bad hlt ?_
          rw [hok]
          rcases hb with hb | hb
          · simp [hb]
          · simp [show ¬ k.held[i].id < k.next by omega]
        · have hli : lastId k i < k.held[i].id := by
            rw [hlast]
            obtain ⟨⟨q1, _⟩, _⟩ := right_facts hr
            omega
          refine RTwp_loop rfl (fun vs => ∃ j : Nat, j ≤ i ∧ vs = [I j] ∧ NoneIn (fun o => !apartS k.held[i] o) (k.held.take j)) (fun vs => match vs with | [.int _ j] => i - j.toNat | _ => 0) ⟨0, by omega, by simp, rfl⟩ ?_
          rintro vs - ⟨j, hj, rfl, hp⟩
          simp [-pv_aidx]
          refine ⟨fun hlt2 => ?_, fun hge2 => ?_⟩
          · have hj2 : j < k.held.length := by omega
            have hwj := wrap_succ (i := j) (by omega)
            simp [hlt, hj2, Hd.cells, -pv_aidx]
            refine call (c_r17Apart k.held[i] k.held[j] (k.at hl hlt) (k.at hl hj2)) (by simp [hlt, hj2, Hd.cells]) (by simp) ?_
            cases ha : apartS k.held[i] k.held[j]
            · have hb : rightK k = false := by
                refine rightK_bad hlt ?_
                rw [hok]
                have : (k.held.take i).all (apartS k.held[i]) = false := by
                  rw [List.all_eq_false]
                  exact ⟨k.held[j], List.mem_take_iff_getElem.2 ⟨j, by omega, rfl⟩, by rw [ha]; simp⟩
                rw [this]; simp
              simp [hb, -pv_aidx]
            · simp [hwj, -pv_aidx]
              exact ⟨⟨j + 1, by omega, by omega, any_step hj2 hp (by simp [ha])⟩, by omega⟩
          · have hji : j = i := by omega
            subst hji
            have hall : (k.held.take j).all (apartS k.held[j]) = true := by
              rw [List.all_eq_true]
              intro x hx
              have := List.any_eq_false.1 hp x hx
              simpa using this
            have hokj : okAt k j = true := by rw [hok, hr, hall, decide_eq_true hn, decide_eq_true hli]; rfl
            simp [hlt, hw, Hd.cells, -pv_aidx]
            refine ⟨⟨j + 1, by omega, by omega, fun m hm => ?_⟩, by omega⟩
            by_cases hmj : m = j
            · subst hmj; exact hokj
            · exact hq m (by omega)
    · have hA : (List.range k.held.length).all (okAt k) = true := range_all fun j hj => hq j (by omega)
      refine RTwp_loop rfl (fun vs => ∃ m : Nat, m ≤ 24 ∧ vs = [I m] ∧ ∀ j, j < m → machOk (k.mach j) = true) (fun vs => match vs with | [.int _ j] => 24 - j.toNat | _ => 0) ⟨0, by omega, by simp, fun j hj => by omega⟩ ?_
      rintro vs - ⟨m, hm, rfl, hqm⟩
      simp [-pv_aidx]
      refine ⟨fun hlt => ?_, fun hge => ?_⟩
      · have hm24 : m < 24 := by omega
        have hw := wrap_succ (i := m) (by omega)
        have hMM := aidxK k (i := m) (z := (m : Int)) rfl hm24
        simp only [Kern.cells] at hMM
        skip
        repeat refine And.intro (by omega) ?_
        refine call (c_r16Right (k.mach m)) (by simp [hMM, Mach.cells, -pv_aidx]) (by simp) ?_
        cases hmo : machOk (k.mach m)
        · have : rightK k = false := by
            have : machAll k = false := range_hit hm24 hmo
            simp [rightK, this]
          simp [this, -pv_aidx]
        · simp [hw, -pv_aidx]
          refine ⟨⟨m + 1, by omega, by omega, fun j hj => ?_⟩, by omega⟩
          by_cases hjm : j = m
          · subst hjm; exact hmo
          · exact hqm j (by omega)
      · have hmall : machAll k = true := range_all fun j hj => hqm j (by omega)
        have : rightK k = true := by simp only [rightK, hA, hmall]; rw [decide_eq_true hg]; rfl
        simp [this, -pv_aidx]
end Go.Lb.LK

namespace Go.Lb.LK
open Go Go.Lb Go.Proofs Go.RowKit

end Go.Lb.LK

namespace Go.Lb.LK
open Go Go.Lb Go.Proofs Go.RowKit

def freeN (l : Lay) (im : Img) (k : Kern) (s : Int) : Bool := (holderN k s).isNone && !occupied l im s
def meetsN (l : Lay) (im : Img) (k : Kern) (n : Need) : Bool :=
  decide (0 ≤ n.p ∧ n.p < 24) && (match wantedN k n.p with
    | some pos => decide (pos = n.pos) && (decide (atP l im n.p = n.pos) || !lockedN k n.p)
    | none => decide (atP l im n.p = n.pos) || (!k.fail n.p.toNat && freeN l im k n.p))
end Go.Lb.LK

namespace Go.Lb.LK
open Go Go.Lb Go.Proofs Go.RowKit

def kindCells (k : Int) : List AV :=
  if k = 1 then [I 2, I 0, I 1, I 0, I 0, I 1, .bool false] else if k = 2 then [I 3, I 0, I 1, I 0, I 2, I 2, .bool true]
  else if k = 3 then [I 4, I 0, I 1, I 2, I 3, I 2, .bool false] else [I 0, I 0, I 0, I 0, I 0, I 0, .bool false]
theorem kind_cases {k : Int} (h0 : 0 ≤ k) (h1 : k ≤ 255) : k = 0 ∨ k = 1 ∨ k = 2 ∨ k = 3 ∨ 4 ≤ k := by omega

theorem c_port_of (k : Int) (h0 : 0 ≤ k) (h1 : k ≤ 255) : C f_port_of [U k] (.agg (kindCells k)) := by
  refine ctr [U k] run_port_of rfl rfl ?_ ?_ rfl
  · unfold kindCells; repeat' split
    all_goals rfl
  · unfold rt_port_of
    have hw : IntKind.i64.wrap k = k := by rw [wrap_i] <;> omega
    rcases kind_cases h0 h1 with rfl | rfl | rfl | rfl | h
    · simp [kindCells, hw]
    · simp [kindCells, hw]
    · simp [kindCells, hw]
    · simp [kindCells, hw]
    · have : ¬ k < 4 := by omega
      simp [hw, this, kindCells, show k ≠ 1 by omega, show k ≠ 2 by omega, show k ≠ 3 by omega]

/-- The way from one port to another one. -/
def way (k i o : Int) : Int × Bool :=
  if (k = 1 ∨ k = 2 ∨ k = 3) ∧ (i = 0 ∧ o = 1 ∨ i = 1 ∧ o = 0) then (0, true)
  else if k = 2 ∧ (i = 0 ∧ o = 2 ∨ i = 2 ∧ o = 0) then (1, true)
  else if k = 3 ∧ (i = 2 ∧ o = 3 ∨ i = 3 ∧ o = 2) then (1, true) else (0, false)
theorem w1 : IntKind.i64.wrap 1 = 1 := by decide
theorem w2 : IntKind.i64.wrap 2 = 2 := by decide
def secAt (l : Lay) (s : Int) : Option Sec := if 0 ≤ s then l.secs[s.toNat]? else none
theorem secAt_in {l : Lay} {s : Int} (h0 : 0 ≤ s) (h1 : s < l.secs.length) : ∃ n : Nat, s = n ∧ ∃ h : n < l.secs.length, secAt l s = some (l.secs[n]) := by
  refine ⟨s.toNat, by omega, by omega, ?_⟩
  unfold secAt
  rw [if_pos h0, List.getElem?_eq_getElem]
theorem secAt_out {l : Lay} {s : Int} (h : ¬ (0 ≤ s ∧ s < l.secs.length)) : secAt l s = none := by
  unfold secAt
  split
  · exact List.getElem?_eq_none (by omega)
  · rfl
/-- The way of a step. -/
def lstep (l : Lay) (s : Step) : Int × Bool := match secAt l s.s with
  | some x => way x.kind s.i s.o
  | none => (0, false)

def exitAt (l : Lay) (x : Int) : Option Exi := if 0 ≤ x then l.exits[x.toNat]? else none
/-- An exit's overlap. -/
def over (l : Lay) (x : Int) : List Step := match exitAt l x with
  | some e => e.over
  | none => []
/-- Overlaps are no longer than the machine bears. -/
def Lay.ovOk (l : Lay) : Prop := ∀ e ∈ l.exits, e.over.length ≤ 4294967296
end Go.Lb.LK

namespace Go.Lb.LK
open Go Go.Lb Go.Proofs Go.RowKit

/-- A step's point. -/
def point (l : Lay) (s : Step) : Int × Int × Bool := match secAt l s.s with
  | some x => if (way x.kind s.i s.o).2 = true ∧ x.kind = 2 then (s.s, (way 2 s.i s.o).1, true) else (0, 0, false)
  | none => (0, 0, false)
def flankOn (l : Lay) (s : Step) (f : Flank) : Bool := (lstep l s).2 && decide (f.s = s.s) && decide (f.way = (lstep l s).1)
/-- What a step wants. -/
def wants (l : Lay) (s : Step) (k : Int) : List Need :=
  (if (point l s).2.2 = true then [⟨(point l s).1, (point l s).2.1, k⟩] else []) ++ (l.flanks.filter (flankOn l s)).map fun f => ⟨f.point, f.pos, k⟩

/-- The steps that a path needs for, and their numbers. -/
def numbered (l : Lay) (p : Path) : List (Int × Step) := p.steps.mapIdx (fun k s => ((k : Int), s)) ++ (over l p.exit).map fun s => ((p.steps.length : Int), s)
/-- What a path needs. -/
def needOf (l : Lay) (p : Path) : List Need := (numbered l p).flatMap fun x => wants l x.2 x.1

end Go.Lb.LK

namespace Go.Lb.LK
open Go Go.Lb Go.Proofs Go.RowKit

end Go.Lb.LK

namespace Go.Lb.LK
open Go Go.Lb Go.Proofs Go.RowKit

def portsK (k : Int) : Int := if k = 1 then 2 else if k = 2 then 3 else if k = 3 then 4 else 0
theorem portsK_le (k : Int) : 0 ≤ portsK k ∧ portsK k ≤ 4 := by unfold portsK; split <;> (try split) <;> (try split) <;> omega
def noP : Port := ⟨-1, 0⟩
def Sec.join (s : Sec) (i : Nat) : Port := if i = 0 then s.j0 else if i = 1 then s.j1 else if i = 2 then s.j2 else s.j3
def hasP (l : Lay) (p : Port) : Bool := match secAt l p.s with
  | some s => decide (0 ≤ p.p) && decide (p.p < portsK s.kind)
  | none => false
def beyondP (l : Lay) (p : Port) : Port := match secAt l p.s with
  | some s => if 0 ≤ p.p ∧ p.p < portsK s.kind then s.join p.p.toNat else noP
  | none => noP
theorem hasP_iff {l : Lay} {p : Port} : hasP l p = true ↔ ∃ n : Nat, ∃ m : Nat, p.s = n ∧ p.p = m ∧ m < 4 ∧ ∃ h : n < l.secs.length, (m : Int) < portsK l.secs[n].kind := by
  unfold hasP
  constructor
  · intro h
    by_cases hc : 0 ≤ p.s ∧ p.s < l.secs.length
    · obtain ⟨n, hn, hlt, he⟩ := secAt_in hc.1 hc.2
      rw [he] at h
      simp only [Bool.and_eq_true, decide_eq_true_eq] at h
      have := portsK_le l.secs[n].kind
      exact ⟨n, p.p.toNat, hn, by omega, by omega, hlt, by omega⟩
    · rw [secAt_out hc] at h; cases h
  · rintro ⟨n, m, h1, h2, h3, hlt, h4⟩
    obtain ⟨n', hn', hlt', he⟩ := secAt_in (l := l) (s := p.s) (by omega) (by omega)
    have : n' = n := by omega
    subst this
    rw [he]
    simp only [Bool.and_eq_true, decide_eq_true_eq]
    exact ⟨by omega, by omega⟩
theorem beyondP_has {l : Lay} {p : Port} (h : hasP l p = true) : ∃ n : Nat, ∃ m : Nat, p.s = n ∧ p.p = m ∧ m < 4 ∧ ∃ h : n < l.secs.length, beyondP l p = l.secs[n].join m := by
  obtain ⟨n, m, h1, h2, h3, hlt, h4⟩ := hasP_iff.1 h
  obtain ⟨n', hn', hlt', he⟩ := secAt_in (l := l) (s := p.s) (by omega) (by omega)
  have : n' = n := by omega
  subst this
  refine ⟨n', m, h1, h2, h3, hlt, ?_⟩
  unfold beyondP
  rw [he]
  simp only
  rw [if_pos ⟨by omega, by omega⟩, h2]; rfl
theorem beyondP_not {l : Lay} {p : Port} (h : hasP l p = false) : beyondP l p = noP := by
  unfold hasP at h
  unfold beyondP
  split
  · rename_i s hs
    rw [hs] at h
    simp only [Bool.and_eq_false_iff, decide_eq_false_iff_not] at h
    rw [if_neg (by omega)]
  · rfl
end Go.Lb.LK

namespace Go.Lb.LK
open Go Go.Lb Go.Proofs Go.RowKit

def nextT (n : Int) : Int := min (min (max n 0) 1073741824 + 1) 1073741824
theorem c_tick_on1 (n : Int) : C f_tick_on [I 0, I n, I 1] (I (nextT n)) := by
  refine ctr [I 0, I n, I 1] run_tick_on rfl rfl rfl ?_ rfl
  unfold rt_tick_on
  simp
  have e1 : max 0 (min n 1073741824) = min (max n 0) 1073741824 := by omega
  rw [e1]
  have e2 : IntKind.i64.wrap (1073741824 - min (max n 0) 1073741824) = 1073741824 - min (max n 0) 1073741824 := by rw [wrap_i] <;> omega
  rw [e2, show max (1 : Int) 0 = 1 from rfl]
  by_cases h : min (max n 0) 1073741824 = 1073741824
  · rw [h]; simp [nextT, h, show min (1 : Int) 0 = 0 from rfl, show min (1073741825 : Int) 1073741824 = 1073741824 from rfl]
  · have e3 : min 1 (1073741824 - min (max n 0) 1073741824) = 1 := by omega
    rw [e3]
    have e4 : IntKind.i64.wrap (min (max n 0) 1073741824 + 1) = min (max n 0) 1073741824 + 1 := by rw [wrap_i] <;> omega
    simp [e4, nextT]
    omega
theorem c_tick_Next (n : Int) : C f_tick_Next [I n] (I (nextT n)) := by
  refine ctr [I n] run_tick_Next rfl rfl rfl ?_ rfl
  unfold rt_tick_Next
  refine call (c_tick_on1 n) (by simp) (by simp) ?_
  simp

theorem c_r03Clock (n : Int) : C f_lockbarref03_Clock [I n] (I (min (max n 0) 1073741824)) := by
  refine ctr [I n] run_lockbarref03_Clock rfl rfl rfl ?_ rfl
  unfold rt_lockbarref03_Clock
  refine call (c_r03within n 1073741824) (by simp) (by simp) ?_
  simp
theorem c_r03Next (n : Int) : C f_lockbarref03_Next [I n] (I (nextT n)) := by
  refine ctr [I n] run_lockbarref03_Next rfl rfl rfl ?_ rfl
  unfold rt_lockbarref03_Next
  refine call (c_r03Clock n) (by simp) (by simp) ?_
  simp
  rw [wrap_i (by omega) (by omega)]; rfl
def none2 : Port := ⟨0, 0⟩
def plain : Sec := ⟨1, none2, none2, none2, none2, 0, 0⟩
end Go.Lb.LK

namespace Go.Lb.LK
open Go Go.Lb Go.Proofs Go.RowKit

def Hd.n (h : Hd) : Nat := h.path.steps.length
def asleepS (l : Lay) (im : Img) (h : Hd) : Bool := !rightS h || stale l im
def secOf (h : Hd) (k : Nat) : Int := (h.path.steps[k]?.map (·.s)).getD 0
def wr (l : Lay) (im : Img) (h : Hd) : Nat → Bool
  | 0 => h.was 0 || (decide (h.gone ≤ 0 ∧ 0 < h.n) && told l im (secOf h 0))
  | k + 1 => h.was (k + 1) || (decide (h.gone ≤ (k + 1 : Nat) ∧ k + 1 < h.n) && (told l im (secOf h (k + 1)) && wr l im h k))
def wrM (l : Lay) (im : Img) (h : Hd) (m : Nat) : Nat → Bool := fun j => if j < m then wr l im h j else h.was j
def canGo (l : Lay) (im : Img) (h : Hd) (g : Nat) : Bool := decide (g < h.n) && (wr l im h g && ((decide (g + 1 = h.n) || wr l im h (g + 1)) && !occupied l im (secOf h g)))
def goF (l : Lay) (im : Img) (h : Hd) : Nat → Nat → Nat
  | 0, g => g
  | f + 1, g => if canGo l im h g = true then goF l im h f (g + 1) else g
def goX (l : Lay) (im : Img) (h : Hd) (g : Nat) : Nat := goF l im h (h.n - g) g
theorem canGo_lt {l : Lay} {im : Img} {h : Hd} {g : Nat} (hc : canGo l im h g = true) : g < h.n := by
  simp only [canGo, Bool.and_eq_true, decide_eq_true_eq] at hc; exact hc.1
theorem goX_go {l : Lay} {im : Img} {h : Hd} {g : Nat} (hc : canGo l im h g = true) : goX l im h g = goX l im h (g + 1) := by
  have := canGo_lt hc
  unfold goX
  obtain ⟨f, hf⟩ : ∃ f, h.n - g = f + 1 := ⟨h.n - g - 1, by omega⟩
  rw [hf, show h.n - (g + 1) = f by omega]
  simp [goF, hc]
theorem goX_stop {l : Lay} {im : Img} {h : Hd} {g : Nat} (hc : canGo l im h g = false) : goX l im h g = g := by
  unfold goX
  cases h.n - g with
  | zero => rfl
  | succ f => simp [goF, hc]
def lastW (l : Lay) (im : Img) (h : Hd) : Bool := wr l im h (h.n - 1)
def timerS (l : Lay) (im : Img) (h : Hd) : Int := if lastW l im h = true then nextT h.timer else h.timer
def opnS (l : Lay) (im : Img) (h : Hd) : Bool := h.opn || (decide (goX l im h h.gone.toNat = h.n) || (lastW l im h && decide (l.over ≤ timerS l im h)))
def runS (l : Lay) (im : Img) (h : Hd) : Hd :=
  if asleepS l im h = true then h else { h with was := wr l im h, gone := goX l im h h.gone.toNat, timer := timerS l im h, opn := opnS l im h }
theorem wr_low {l : Lay} {im : Img} {h : Hd} {k : Nat} (hk : (k : Int) < h.gone) : wr l im h k = h.was k := by
  cases k with
  | zero => simp only [wr]; rw [decide_eq_false (by omega)]; simp
  | succ k => simp only [wr]; rw [decide_eq_false (by omega)]; simp
theorem wr_high {l : Lay} {im : Img} {h : Hd} {k : Nat} (hk : h.n ≤ k) : wr l im h k = h.was k := by
  cases k with
  | zero => simp only [wr]; rw [decide_eq_false (by omega)]; simp
  | succ k => simp only [wr]; rw [decide_eq_false (by omega)]; simp
theorem wrM_zero {l : Lay} {im : Img} {h : Hd} {m : Nat} (hm : (m : Int) ≤ h.gone) : wrM l im h m = h.was := by
  funext j
  unfold wrM
  split
  · exact wr_low (by omega)
  · rfl
theorem wrM_all {l : Lay} {im : Img} {h : Hd} {m : Nat} (hm : h.n ≤ m) : wrM l im h m = wr l im h := by
  funext j
  unfold wrM
  split
  · rfl
  · exact (wr_high (by omega)).symm
theorem wrM_succ {l : Lay} {im : Img} {h : Hd} {m : Nat} (j : Nat) : wrM l im h (m + 1) j = if j = m then wr l im h m else wrM l im h m j := by
  unfold wrM
  by_cases h1 : j = m
  · subst h1; simp
  · by_cases h2 : j < m
    · simp [h1, h2, show j < m + 1 by omega]
    · simp [h1, h2, show ¬ j < m + 1 by omega]
theorem wr_at {l : Lay} {im : Img} {h : Hd} {k : Nat} (h1 : h.gone ≤ k) (h2 : k < h.n) : wr l im h k = (h.was k || (told l im (secOf h k) && (decide (k = 0) || wr l im h (k - 1)))) := by
  cases k with
  | zero => simp only [wr]; rw [decide_eq_true (by omega : h.gone ≤ 0 ∧ 0 < h.n)]; simp
  | succ k => simp only [wr]; rw [decide_eq_true (by omega : h.gone ≤ (k + 1 : Nat) ∧ k + 1 < h.n)]; simp
theorem wrM_same {l : Lay} {im : Img} {h : Hd} {k : Nat} (hk : wr l im h k = h.was k) : wrM l im h (k + 1) = wrM l im h k := by
  funext j
  rw [wrM_succ]
  split
  · rename_i h1; subst h1; rw [hk]; simp [wrM]
  · rfl
theorem wrM_on {l : Lay} {im : Img} {h : Hd} {k : Nat} (hk : wr l im h k = true) (j : Nat) : wrM l im h (k + 1) j = (decide (j = k) || wrM l im h k j) := by
  rw [wrM_succ]
  by_cases h1 : j = k
  · subst h1; simp [hk]
  · simp [h1]
theorem wtail_get (w : Nat → Bool) (t : List AV) {i : Nat} (h : i < 12) : ((AV.bool (w 0) :: AV.bool (w 1) :: AV.bool (w 2) :: AV.bool (w 3) :: AV.bool (w 4) :: AV.bool (w 5) :: AV.bool (w 6) :: AV.bool (w 7) :: AV.bool (w 8) :: AV.bool (w 9) :: AV.bool (w 10) :: AV.bool (w 11) :: t)[i]?).getD .undef = .bool (w i) := by
  match i, h with
  | 0, _ => rfl
  | 1, _ => rfl
  | 2, _ => rfl
  | 3, _ => rfl
  | 4, _ => rfl
  | 5, _ => rfl
  | 6, _ => rfl
  | 7, _ => rfl
  | 8, _ => rfl
  | 9, _ => rfl
  | 10, _ => rfl
  | 11, _ => rfl
  | n + 12, h => exact absurd h (by omega)
theorem aidx8 (w : Nat → Bool) (a0 a1 a2 a3 a4 a5 a6 a7 : AV) (t : List AV) {i : Nat} {z : Int} (hz : z = i) (h : i < 12) : pv (.aidx 12 1 8 1 false) [.agg (a0 :: a1 :: a2 :: a3 :: a4 :: a5 :: a6 :: a7 :: AV.bool (w 0) :: AV.bool (w 1) :: AV.bool (w 2) :: AV.bool (w 3) :: AV.bool (w 4) :: AV.bool (w 5) :: AV.bool (w 6) :: AV.bool (w 7) :: AV.bool (w 8) :: AV.bool (w 9) :: AV.bool (w 10) :: AV.bool (w 11) :: t), I z] = .bool (w i) := by
  subst hz
  match i, h with
  | 0, _ => rfl
  | 1, _ => rfl
  | 2, _ => rfl
  | 3, _ => rfl
  | 4, _ => rfl
  | 5, _ => rfl
  | 6, _ => rfl
  | 7, _ => rfl
  | 8, _ => rfl
  | 9, _ => rfl
  | 10, _ => rfl
  | 11, _ => rfl
  | n + 12, h => exact absurd h (by omega)
theorem aidx0 (w : Nat → Bool) {i : Nat} {z : Int} (hz : z = i) (h : i < 12) : pv (.aidx 12 1 0 1 false) [.agg [AV.bool (w 0), AV.bool (w 1), AV.bool (w 2), AV.bool (w 3), AV.bool (w 4), AV.bool (w 5), AV.bool (w 6), AV.bool (w 7), AV.bool (w 8), AV.bool (w 9), AV.bool (w 10), AV.bool (w 11)], I z] = .bool (w i) := by
  subst hz
  match i, h with
  | 0, _ => rfl
  | 1, _ => rfl
  | 2, _ => rfl
  | 3, _ => rfl
  | 4, _ => rfl
  | 5, _ => rfl
  | 6, _ => rfl
  | 7, _ => rfl
  | 8, _ => rfl
  | 9, _ => rfl
  | 10, _ => rfl
  | 11, _ => rfl
  | n + 12, h => exact absurd h (by omega)
end Go.Lb.LK

namespace Go.Lb.LK
open Go Go.Lb Go.Proofs Go.RowKit

theorem c_pass_asleep (l : Lay) (im : Img) (h : Hd) (hl : h.len) (hs : 0 ≤ h.stage ∧ h.stage ≤ 255) : C f_pass_asleep [l.av, im.av, h.av] (.bool (asleepS l im h)) := by
  refine ctr (l.cells ++ im.cells ++ h.cells) run_pass_asleep rfl (lih l im h) rfl ?_ rfl
  unfold rt_pass_asleep
  simp [Lay.cells, Img.cells, Hd.cells]
  refine call (c_held_Right h hl hs) (by simp [Hd.cells]) (by simp) ?_
  simp
  refine callIf (avs := [l.av, im.av]) (.bool (stale l im)) rfl (fun _ => ⟨by simp [Lay.cells, Img.cells], c_image_Stale l im⟩) (by simp) ?_
  cases hq : rightS h <;> simp [asleepS, hq]
end Go.Lb.LK

namespace Go.Lb.LK
open Go Go.Lb Go.Proofs Go.RowKit

theorem secOf_lt {h : Hd} {k : Nat} (hk : k < h.path.steps.length) : secOf h k = h.path.steps[k].s := by
  simp [secOf, hk]
theorem runS_asleep {l : Lay} {im : Img} {h : Hd} (ha : asleepS l im h = true) : runS l im h = h := by simp [runS, ha]
theorem runS_awake {l : Lay} {im : Img} {h : Hd} (ha : asleepS l im h = false) : runS l im h = { h with was := wr l im h, gone := goX l im h h.gone.toNat, timer := timerS l im h, opn := opnS l im h } := by simp [runS, ha]

set_option maxHeartbeats 2000000 in
theorem c_r21Run (l : Lay) (im : Img) (hi : im.ok) (h : Hd) (hl : h.len) (hs : 0 ≤ h.stage ∧ h.stage ≤ 255) : C f_lockbarref21_Run [l.av, im.av, h.av] (runS l im h).av := by
  refine ctr (l.cells ++ im.cells ++ h.cells) run_lockbarref21_Run rfl (lih l im h) (by simp [AV.pure]) ?_ rfl
  unfold rt_lockbarref21_Run
  simp [Lay.cells, Img.cells, Hd.cells]
  refine call (c_r17Own h hl) (by simp [Hd.cells]) (by simp) ?_
  simp [Hd.av, Hd.cells]
  refine call (c_r17Right h hl hs) (by simp [Hd.cells]) (by simp) ?_
  simp
  refine callIf (avs := [l.av, im.av]) (.bool (stale l im)) rfl (fun _ => ⟨by simp [Lay.cells, Img.cells], c_r15Stale l im⟩) (by simp) ?_
  simp
  cases ha : asleepS l im h
  · rw [runS_awake ha]
    simp only [asleepS, Bool.or_eq_false_iff, Bool.not_eq_false'] at ha
    obtain ⟨⟨a1, a2, a3, a4, a5, a6, a7⟩, ⟨d1, d2, d3, d4⟩, _⟩ := right_facts ha.1
    simp [ha.1, ha.2]

    obtain ⟨g, hg⟩ : ∃ g : Nat, h.gone = g := ⟨h.gone.toNat, by omega⟩
    refine RTwp_loop rfl (fun vs => ∃ k : Nat, g ≤ k ∧ k ≤ h.n ∧ vs = I k :: wcells (wrM l im h k)) (fun vs => match vs with | .int _ j :: _ => h.n - j.toNat | _ => 0) ⟨g, by omega, by unfold Hd.n; omega, by simp [wrM_zero (l := l) (im := im) (h := h) (m := g) (by omega), hg, wcells]⟩ ?_
    rintro vs - ⟨k, hk1, hk2, rfl⟩
    have hn : h.n = h.path.steps.length := rfl
    simp [wcells]
    refine ⟨fun hlt => ?_, fun hge => ?_⟩
    · simp [hlt, Step.cells]
      refine call (c_r15Told l im hi (secOf h k)) (by simp [Lay.cells, Img.cells, hlt, Step.cells, secOf_lt]) (by simp) ?_
      simp [hlt, Step.cells]
      have hw := wrap_succ (i := k) (by omega)
      have hat := wr_at (l := l) (im := im) (h := h) (k := k) (by omega) (by omega)
      have hprev : ¬ k = 0 → IntKind.i64.wrap ((k : Int) - 1) = ((k - 1 : Nat) : Int) := fun hk0 => by rw [wrap_i] <;> omega
      have hpw : ¬ k = 0 → wrM l im h k (k - 1) = wr l im h (k - 1) := fun hk0 => by unfold wrM; rw [if_pos (by omega)]
      have hcell : ¬ k = 0 → _ := fun hk0 => wtail_get (wrM l im h k) [AV.bool h.opn, I h.timer, AV.bool h.shown] (i := k - 1) (by omega)
      rw [hw]
      refine ⟨fun h1 h2 => by rw [hprev h1]; omega, fun h1 h2 => by rw [hprev h1]; omega, ?_⟩
      cases ht : told l im (secOf h k)
      · left
        rw [ht] at hat
        refine ⟨fun hh => (by cases hh), ⟨k + 1, by omega, by omega, rfl, ?_⟩, by omega⟩
        rw [wrM_same (by simpa using hat)]
        simp
      · by_cases hk0 : k = 0
        · right
          refine ⟨by simp [hk0], by omega, ⟨k + 1, by omega, by omega, rfl, ?_⟩, by omega⟩
          have : wr l im h k = true := by rw [hat, ht]; simp [hk0]
          simp only [wrM_on this]
          subst hk0
          simp
        · rw [hprev hk0]
          simp only [Int.toNat_natCast, hcell hk0, hpw hk0, if_neg hk0]
          cases hp : wr l im h (k - 1)
          · left
            refine ⟨fun _ => rfl, ⟨k + 1, by omega, by omega, rfl, ?_⟩, by omega⟩
            rw [wrM_same (by rw [hat, hp]; simp [hk0])]
            simp
          · right
            refine ⟨rfl, by omega, ⟨k + 1, by omega, by omega, rfl, ?_⟩, by omega⟩
            have : wr l im h k = true := by rw [hat, ht, hp]; simp
            simp only [wrM_on this]
            have hd : ∀ a b : Nat, b = 8 + a → decide (b = 8 + k) = decide (a = k) := fun a b e => decide_eq_decide.2 (by omega)
            rw [hd 1 9 rfl, hd 2 10 rfl, hd 3 11 rfl, hd 4 12 rfl, hd 5 13 rfl, hd 6 14 rfl, hd 7 15 rfl, hd 8 16 rfl, hd 9 17 rfl, hd 10 18 rfl, hd 11 19 rfl]
            simp [eq_comm]
    · have hkn : k = h.n := by omega
      subst hkn
      rw [wrM_all (Nat.le_refl _)]
      refine RTwp_loop rfl (fun vs => ∃ k : Nat, g ≤ k ∧ k ≤ h.n ∧ vs = [I k] ∧ goX l im h h.gone.toNat = goX l im h k) (fun vs => match vs with | .int _ j :: _ => h.n + 1 - j.toNat | _ => 0) ⟨g, by omega, by omega, by simp [hg], by rw [hg]; rfl⟩ ?_
      rintro vs - ⟨k, hk1, hk2, rfl, hgo⟩
      by_cases hlt : k < h.path.steps.length
      · have hk12 : k < 12 := by omega
        have hwn : IntKind.i64.wrap ((h.path.steps.length : Int) - 1) = ((h.path.steps.length - 1 : Nat) : Int) := by rw [wrap_i] <;> omega
        have hw := wrap_succ (i := k) (by omega)
        have hAk := fun a0 a1 a2 a3 a4 a5 a6 a7 t => aidx8 (wr l im h) a0 a1 a2 a3 a4 a5 a6 a7 t (i := k) (z := (k : Int)) rfl (by omega)
        have hAk1 := fun (hk : ¬ k = h.path.steps.length - 1) a0 a1 a2 a3 a4 a5 a6 a7 t => aidx8 (wr l im h) a0 a1 a2 a3 a4 a5 a6 a7 t (i := k + 1) (z := (k : Int) + 1) rfl (by omega)
        have hAn := fun a0 a1 a2 a3 a4 a5 a6 a7 t => aidx8 (wr l im h) a0 a1 a2 a3 a4 a5 a6 a7 t (i := h.path.steps.length - 1) (z := ((h.path.steps.length - 1 : Nat) : Int)) rfl (by omega)
        rw [show wr l im h (h.path.steps.length - 1) = lastW l im h from rfl] at hAn
        simp [hlt, hAk, -pv_aidx, Step.cells]
        repeat refine ⟨by omega, ?_⟩
        refine callIf (avs := [l.av, im.av, I (secOf h k)]) (.bool (occupied l im (secOf h k))) rfl (fun _ => ⟨by simp [Lay.cells, Img.cells, hlt, Step.cells, secOf_lt], c_r15Occupied l im hi _⟩) (by simp) ?_
        have hkn2 : ¬ k = h.path.steps.length := by omega
        have hcan : canGo l im h k = (wr l im h k && ((decide (k = h.path.steps.length - 1) || wr l im h (k + 1)) && !occupied l im (secOf h k))) := by
          have e : decide (k + 1 = h.path.steps.length) = decide (k = h.path.steps.length - 1) := decide_eq_decide.2 (by omega)
          unfold canGo
          rw [hn, e]; simp [hlt]
        have hstop : canGo l im h k = false → goX l im h h.gone.toNat = k := fun hc => by rw [hgo]; exact goX_stop hc
        have hgoon : canGo l im h k = true → goX l im h h.gone.toNat = goX l im h (k + 1) := fun hc => by rw [hgo]; exact goX_go hc
        have hbnd : ((h.path.steps.length - 1 : Nat) : Int) < 12 ∧ h.path.steps.length - 1 + 8 < 23 := by omega
        have hdz2 : ((k : Int) = (h.path.steps.length : Int)) = False := by simp only [eq_iff_iff, iff_false]; omega
        by_cases hgo2 : canGo l im h k = true
        · have hgo3 := hgo2
          rw [hcan] at hgo2
          simp at hgo2
          by_cases hkn : k = h.path.steps.length - 1
          · have hdz : ((k : Int) = ((h.path.steps.length - 1 : Nat) : Int)) = True := by simp only [eq_iff_iff, iff_true]; omega
            simp [hlt, hAk, hAn, hwn, hw, hgo2.1, hgo2.2.2, hdz, hdz2, -pv_aidx]
            exact ⟨⟨k + 1, by omega, by omega, by omega, hgoon hgo3⟩, by omega⟩
          · have hdz : ((k : Int) = ((h.path.steps.length - 1 : Nat) : Int)) = False := by simp only [eq_iff_iff, iff_false]; omega
            have hk1 : wr l im h (k + 1) = true := by
              rcases hgo2.2.1 with h1 | h1
              · exact absurd h1 hkn
              · exact h1
            simp [hlt, hAk, hAk1 hkn, hAn, hwn, hw, hgo2.1, hgo2.2.2, hk1, hdz, hdz2, -pv_aidx]
            repeat refine ⟨by omega, ?_⟩
            exact ⟨⟨k + 1, by omega, by omega, by omega, hgoon hgo3⟩, by omega⟩
        · have hst := hstop (by simpa using hgo2)
          rw [hcan] at hgo2
          simp at hgo2
          by_cases hkn : k = h.path.steps.length - 1
          · have hdz : ((k : Int) = ((h.path.steps.length - 1 : Nat) : Int)) = True := by simp only [eq_iff_iff, iff_true]; omega
            cases hwk : wr l im h k
            · simp [hlt, hAk, hAn, hwn, hw, hdz, hdz2, hwk, -pv_aidx]
              repeat refine ⟨by omega, ?_⟩
              refine ⟨fun hL => ?_, fun hL => ?_⟩
              · refine call (c_r03Next h.timer) (by simp) (by simp) ?_
                simp [hAn, hL, hst, hwn, hdz2, opnS, timerS, hn, hkn2, -pv_aidx]
                and_intros <;> intros <;> omega
              · simp [hAn, hL, hst, hwn, hdz2, opnS, timerS, hn, hkn2, -pv_aidx]
                and_intros <;> intros <;> omega
            · have hoc : occupied l im (secOf h k) = true := hgo2 hwk (.inl hkn)
              simp [hlt, hAk, hAn, hwn, hw, hdz, hdz2, hwk, hoc, -pv_aidx]
              repeat refine ⟨by omega, ?_⟩
              refine ⟨fun hL => ?_, fun hL => ?_⟩
              · refine call (c_r03Next h.timer) (by simp) (by simp) ?_
                simp [hAn, hL, hst, hwn, hdz2, opnS, timerS, hn, hkn2, -pv_aidx]
                and_intros <;> intros <;> omega
              · simp [hAn, hL, hst, hwn, hdz2, opnS, timerS, hn, hkn2, -pv_aidx]
                and_intros <;> intros <;> omega
          · have hdz : ((k : Int) = ((h.path.steps.length - 1 : Nat) : Int)) = False := by simp only [eq_iff_iff, iff_false]; omega
            cases hwk : wr l im h k
            · simp [hlt, hAk, hAn, hwn, hw, hdz, hdz2, hwk, -pv_aidx]
              repeat refine ⟨by omega, ?_⟩
              refine ⟨fun hL => ?_, fun hL => ?_⟩
              · refine call (c_r03Next h.timer) (by simp) (by simp) ?_
                simp [hAn, hL, hst, hwn, hdz2, opnS, timerS, hn, hkn2, -pv_aidx]
                and_intros <;> intros <;> omega
              · simp [hAn, hL, hst, hwn, hdz2, opnS, timerS, hn, hkn2, -pv_aidx]
                and_intros <;> intros <;> omega
            · cases hoc : occupied l im (secOf h k)
              · have hk1 : wr l im h (k + 1) = false := by
                  cases hk1 : wr l im h (k + 1)
                  · rfl
                  · rw [hgo2 hwk (.inr hk1)] at hoc; cases hoc
                simp [hlt, hAk, hAk1 hkn, hAn, hwn, hw, hdz, hdz2, hwk, hoc, hk1, -pv_aidx]
                repeat refine ⟨by omega, ?_⟩
                refine ⟨fun hL => ?_, fun hL => ?_⟩
                · refine call (c_r03Next h.timer) (by simp) (by simp) ?_
                  simp [hAn, hL, hst, hwn, hdz2, opnS, timerS, hn, hkn2, -pv_aidx]
                  and_intros <;> intros <;> omega
                · simp [hAn, hL, hst, hwn, hdz2, opnS, timerS, hn, hkn2, -pv_aidx]
                  and_intros <;> intros <;> omega
              · simp [hlt, hAk, hAk1 hkn, hAn, hwn, hw, hdz, hdz2, hwk, hoc, -pv_aidx]
                repeat refine ⟨by omega, ?_⟩
                refine ⟨fun hL => ?_, fun hL => ?_⟩
                · refine call (c_r03Next h.timer) (by simp) (by simp) ?_
                  simp [hAn, hL, hst, hwn, hdz2, opnS, timerS, hn, hkn2, -pv_aidx]
                  and_intros <;> intros <;> omega
                · simp [hAn, hL, hst, hwn, hdz2, opnS, timerS, hn, hkn2, -pv_aidx]
                  and_intros <;> intros <;> omega
      · have hkn : k = h.path.steps.length := by omega
        have hwn : IntKind.i64.wrap ((h.path.steps.length : Int) - 1) = ((h.path.steps.length - 1 : Nat) : Int) := by rw [wrap_i] <;> omega
        have hAn := fun a0 a1 a2 a3 a4 a5 a6 a7 t => aidx8 (wr l im h) a0 a1 a2 a3 a4 a5 a6 a7 t (i := h.path.steps.length - 1) (z := ((h.path.steps.length - 1 : Nat) : Int)) rfl (by omega)
        rw [show wr l im h (h.path.steps.length - 1) = lastW l im h from rfl] at hAn
        have hst : goX l im h h.gone.toNat = k := by
          rw [hgo]; refine goX_stop ?_
          unfold canGo; rw [hn]; simp [hlt]
        have hdz2 : ((k : Int) = (h.path.steps.length : Int)) = True := by simp only [eq_iff_iff, iff_true]; omega
        simp [hlt, hwn, hAn, -pv_aidx]
        refine callIf (avs := []) (.bool false) rfl (fun hh => ?_) (by simp) ?_
        · simp [hlt] at hh
        simp [hlt, hwn, hAn, -pv_aidx]
        repeat refine ⟨by omega, ?_⟩
        refine ⟨fun hL => ?_, fun hL => ?_⟩
        · refine call (c_r03Next h.timer) (by simp) (by simp) ?_
          simp [hAn, hL, hst, hwn, hdz2, opnS, timerS, hn, hkn, -pv_aidx]
        · simp [hAn, hL, hst, hwn, hdz2, opnS, timerS, hn, hkn, -pv_aidx]
  · rw [runS_asleep ha]
    have : rightS h = false ∨ stale l im = true := by simpa [asleepS] using ha
    rcases this with this | this <;> simp [this, Hd.cells]
end Go.Lb.LK
