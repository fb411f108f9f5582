/- Rows cloned, joined; needs that clash; those that hold. -/
/- Whether a held route may be. -/
/- The document's answers of held routes. -/
/- Whose points stand; the document's held routes. -/
/- What a held route still holds, and wants, as the program has it. -/
/- An image, a held route: what fits their form. -/
/- A kernel, as pure values. -/
/- What is apart, what is the same; machines. -/
/- A kernel: holders, wants, what is locked, what is free. -/
/- A kernel in memory of its own; kernels that are too great. -/
/- The document's Right of a held route. -/
/- Whether a kernel may be. -/
/- Whether a kernel may be, as the program has it. -/
import Derived.Test.YtmaldhbaihlmbaaGreatDoorCh6
set_option linter.unusedSimpArgs false
set_option linter.unusedVariables false
namespace Go.Lb.LK
open Go Go.Lb Go.Proofs Go.RowKit

theorem c_slices_Clone_Step (l : List Step) (h : l.length ≤ 4294967296) : C f_slices_Clone_Step [steps l] (steps l) := by
  refine ctr [steps l] run_slices_Clone_Step rfl (by simp [AV.pureAll, AV.pure]) (by simp [AV.pure]) ?_ rfl
  unfold rt_slices_Clone_Step
  simp
  exact ⟨fun x _ => by simp [Step.cells], h⟩
theorem c_slices_Clone_Need (l : List Need) (h : l.length ≤ 4294967296) : C f_slices_Clone_Need [needs l] (needs l) := by
  refine ctr [needs l] run_slices_Clone_Need rfl (by simp [AV.pureAll, AV.pure]) (by simp [AV.pure]) ?_ rfl
  unfold rt_slices_Clone_Need
  simp
  exact ⟨fun x _ => by simp [Need.cells], h⟩

def total (xs : List (List Step)) : Nat := (xs.map List.length).sum
theorem total_flat (xs : List (List Step)) : xs.flatten.length = total xs := by simp [total, List.length_flatten]
theorem flatten_take (xs : List (List Step)) {i : Nat} (h : i < xs.length) : (xs.take (i + 1)).flatten = (xs.take i).flatten ++ xs[i] := by
  rw [List.take_add_one, List.getElem?_eq_getElem h, List.flatten_append]; simp
theorem total_take (xs : List (List Step)) {i : Nat} (h : i < xs.length) : total (xs.take (i + 1)) = total (xs.take i) + xs[i].length := by
  rw [← total_flat, ← total_flat, flatten_take xs h, List.length_append]
theorem total_le (xs : List (List Step)) (i : Nat) : total (xs.take i) ≤ total xs := by
  unfold total
  conv => rhs; rw [← List.take_append_drop i xs, List.map_append, List.sum_append]
  omega

theorem c_slices_Concat_Step (xs : List (List Step)) (hx : xs.length ≤ 1000000) (ht : total xs ≤ 1000000000) : C f_slices_Concat_Step [.sl (xs.map steps)] (steps xs.flatten) := by
  refine ctr [.sl (xs.map steps)] run_slices_Concat_Step rfl (by simp [AV.pureAll, AV.pure, pureAll_map steps (fun x => by simp [AV.pure])]) (by simp only [AV.pure]; exact steps_pure _) ?_ rfl
  unfold rt_slices_Concat_Step
  simp
  refine RTwp_loop rfl (fun vs => ∃ i : Nat, i ≤ xs.length ∧ vs = [I (total (xs.take i)), I i]) (fun vs => match vs with | [_, .int _ j] => xs.length - j.toNat | _ => 0) ⟨0, by simp, by simp [total]⟩ ?_
  rintro vs - ⟨i, hi, rfl⟩
  have hti := total_le xs i
  simp
  refine ⟨fun hlt => ?_, fun hge => ?_⟩
  · have hw := wrap_succ (i := i) (by omega)
    have ht1 := total_take xs hlt
    have ht2 := total_le xs (i + 1)
    have hw2 : IntKind.i64.wrap ((total (xs.take i) : Int) + xs[i].length) = (total (xs.take (i + 1)) : Int) := by rw [wrap_i] <;> omega
    simp [hlt, hw2]
    exact ⟨⟨i + 1, by omega, rfl, hw⟩, by rw [hw]; omega⟩
  · have hti : xs.take i = xs := List.take_of_length_le hge
    have w0 : IntKind.i64.wrap 0 = 0 := by decide
    have wt : IntKind.i64.wrap (total xs : Int) = total xs := by rw [wrap_i] <;> omega
    simp [hti, w0, wt]
    refine ⟨fun hpos => ⟨by omega, ?_⟩, fun hz => ?_⟩
    all_goals
      refine RTwp_loop rfl (fun vs => ∃ i : Nat, i ≤ xs.length ∧ vs = [steps (xs.take i).flatten, I i]) (fun vs => match vs with | [_, .int _ j] => xs.length - j.toNat | _ => 0) ⟨0, by simp, by simp⟩ ?_
      rintro vs - ⟨j, hj, rfl⟩
      have htj := total_le xs j
      rw [← total_flat] at htj
      simp only [envOf, List.cons_append, List.nil_append]
      have hfl := fun h => flatten_take xs (i := j) h
      generalize hcur : (xs.take j).flatten = cur at htj hfl ⊢
      simp
      refine ⟨fun hlt => ?_, fun hge => ?_⟩
      · have hw := wrap_succ (i := j) (by omega)
        have ht1 := total_take xs hlt
        have ht2 := total_le xs (j + 1)
        rw [← total_flat (xs.take j), hcur] at ht1
        simp [hlt]
        refine ⟨fun x _ => by simp [Step.cells], by omega, ⟨j + 1, by omega, ?_, hw⟩, by rw [hw]; omega⟩
        have := congrArg (List.map Step.av) (hfl hlt)
        simpa using this.symm
      · have : xs.take j = xs := List.take_of_length_le hge
        simp [← hcur, this]


/-- None of them. -/
def NoneIn {α : Type} (q : α → Bool) (l : List α) : Prop := l.any q = false
theorem NoneIn.nil {α : Type} (q : α → Bool) : NoneIn q [] := rfl
theorem any_hit {α : Type} {q : α → Bool} {l : List α} {i : Nat} (hi : i < l.length) (hq : q l[i] = true) : l.any q = true := List.any_eq_true.2 ⟨l[i], List.getElem_mem hi, hq⟩
theorem any_step {α : Type} {q : α → Bool} {l : List α} {i : Nat} (hi : i < l.length) (h : NoneIn q (l.take i)) (hq : q l[i] = false) : NoneIn q (l.take (i + 1)) := by
  unfold NoneIn at *
  rw [List.take_add_one, List.getElem?_eq_getElem hi, List.any_append, h]; simp [hq]
def both (x y : Need) : Bool := decide (x.p = y.p) && !decide (x.pos = y.pos)
def clashN (a b : List Need) : Bool := a.any fun x => b.any fun y => both x y

theorem c_held_clash (a b : List Need) (ha : a.length ≤ 4294967296) (hb : b.length ≤ 4294967296) : C f_held_clash [needs a, needs b] (.bool (clashN a b)) := by
  refine ctr [needs a, needs b] run_held_clash rfl (by simp [AV.pureAll, AV.pure]) rfl ?_ rfl
  unfold rt_held_clash
  simp
  refine RTwp_loop rfl (fun vs => ∃ i : Nat, i ≤ a.length ∧ vs = [I i] ∧ NoneIn (fun x => b.any fun y => both x y) (a.take i)) (fun vs => match vs with | [.int _ j] => a.length - j.toNat | _ => 0) ⟨0, by simp, by simp, rfl⟩ ?_
  rintro vs - ⟨i, hi, rfl, hn⟩
  simp
  refine ⟨fun hlt => ?_, fun hge => ?_⟩
  · simp [hlt, Need.cells]
    refine RTwp_loop rfl (fun vs => ∃ j : Nat, j ≤ b.length ∧ vs = [I j] ∧ NoneIn (fun y => both a[i] y) (b.take j)) (fun vs => match vs with | [.int _ k] => b.length - k.toNat | _ => 0) ⟨0, by simp, by simp, rfl⟩ ?_
    rintro vs - ⟨j, hj, rfl, hm⟩
    simp
    refine ⟨fun hlt2 => ?_, fun hge2 => ?_⟩
    · have hw := wrap_succ (i := j) (by omega)
      simp [hlt, hlt2, Need.cells]
      by_cases h1 : a[i].p = b[j].p <;> by_cases h2 : a[i].pos = b[j].pos
      · simp [h1, h2, hw]
        exact ⟨⟨j + 1, by omega, rfl, any_step hlt2 hm (by simp [both, h1, h2])⟩, by omega⟩
      · simp [h1, h2]
        exact any_hit hlt (any_hit hlt2 (by simp [both, h1, h2]))
      · simp [h1, hw]
        exact ⟨⟨j + 1, by omega, rfl, any_step hlt2 hm (by simp [both, h1])⟩, by omega⟩
      · simp [h1, hw]
        exact ⟨⟨j + 1, by omega, rfl, any_step hlt2 hm (by simp [both, h1])⟩, by omega⟩
    · have hb2 : b.take j = b := List.take_of_length_le (by omega)
      rw [hb2] at hm
      have hw := wrap_succ (i := i) (by omega)
      simp [hw]
      exact ⟨⟨i + 1, by omega, rfl, any_step hlt hn hm⟩, by omega⟩
  · have ha2 : a.take i = a := List.take_of_length_le (by omega)
    rw [ha2] at hn
    have hn2 : clashN a b = false := hn
    simp [hn2]

theorem c_route_Own (p : Path) (h : p.steps.length ≤ 4294967296) : C f_route_Own [p.av] p.av := by
  refine ctr p.cells run_route_Own rfl (by simp) (by simp [AV.pure]) ?_ rfl
  unfold rt_route_Own
  simp [Path.cells]
  refine call (c_slices_Clone_Step p.steps h) (by simp) (by simp) ?_
  simp [Path.cells]
def Hd.len (h : Hd) : Prop := h.path.steps.length ≤ 1048576 ∧ h.over.length ≤ 1048576 ∧ h.needs.length ≤ 1048576
theorem c_held_Own (h : Hd) (hl : h.len) : C f_held_Own [h.av] h.av := by
  obtain ⟨h1, h2, h3⟩ := hl
  refine ctr h.cells run_held_Own rfl (by simp) (by simp [AV.pure]) ?_ rfl
  unfold rt_held_Own
  simp [Hd.cells]
  refine call (c_route_Own h.path (by omega)) (by simp [Path.cells]) (by simp) ?_
  simp
  refine call (c_slices_Clone_Step h.over (by omega)) (by simp) (by simp) ?_
  simp
  refine call (c_slices_Clone_Need h.needs (by omega)) (by simp) (by simp) ?_
  simp [Path.cells, Hd.cells]

def holdsN (h : Hd) (x : Need) : Bool := decide (max h.gone 0 ≤ x.k) && (!decide (x.k = h.path.steps.length) || !h.opn)
def needsN (h : Hd) : List Need := h.needs.filter (holdsN h)
theorem c_held_Needs (h : Hd) (hl : h.len) : C f_held_Needs [h.av] (needs (needsN h)) := by
  obtain ⟨h1, h2, h3⟩ := hl
  refine ctr h.cells run_held_Needs rfl (by simp) (by simp [AV.pure]) ?_ rfl
  unfold rt_held_Needs
  simp [Hd.cells]
  refine RTwp_loop rfl (fun vs => ∃ i : Nat, i ≤ h.needs.length ∧ vs = [needs ((h.needs.take i).filter (holdsN h)), I i]) (fun vs => match vs with | [_, .int _ j] => h.needs.length - j.toNat | _ => 0) ⟨0, by simp, by simp⟩ ?_
  rintro vs - ⟨i, hi, rfl⟩
  simp
  refine ⟨fun hlt => ?_, fun hge => ?_⟩
  · have hw := wrap_succ (i := i) (by omega)
    have hfl := filter_take_len (holdsN h) h.needs i
    have hft := filter_take (holdsN h) h.needs hlt
    simp [hlt, Need.cells]
    rw [hw]
    cases hq : holdsN h h.needs[i]
    · left
      refine ⟨?_, ⟨i + 1, by omega, by rw [hft, hq]; simp, rfl⟩, by omega⟩
      intro hk
      simpa [holdsN, hk] using hq
    · right
      refine ⟨by simpa [holdsN] using hq, by omega, ⟨i + 1, by omega, by rw [hft, hq]; simp [Need.cells], rfl⟩, by omega⟩
  · have : h.needs.take i = h.needs := List.take_of_length_le (by omega)
    simp [this, needsN]
end Go.Lb.LK

namespace Go.Lb.LK
open Go Go.Lb Go.Proofs Go.RowKit

def Hd.g1 (h : Hd) : Prop := 1 ≤ h.id ∧ h.id ≤ 1073741824 ∧ 0 ≤ h.timer ∧ h.timer ≤ 1073741824 ∧ 1 ≤ h.path.steps.length ∧ h.path.steps.length ≤ 12 ∧ h.over.length ≤ 2
def Hd.g2 (h : Hd) : Prop := 1 ≤ h.stage ∧ h.stage < 5 ∧ 0 ≤ h.gone ∧ h.gone ≤ h.path.steps.length
def Hd.wasOk (h : Hd) : Bool := (List.range 12).all fun k => decide (k < h.path.steps.length) || !h.was k
def needOk (n : Nat) (x : Need) : Bool := decide (0 ≤ x.k ∧ x.k ≤ n ∧ 0 ≤ x.p ∧ x.p < 24 ∧ 0 ≤ x.pos ∧ x.pos ≤ 1)
def Hd.secs (h : Hd) : List Int := (h.path.steps ++ h.over).map (·.s)
instance (h : Hd) : Decidable h.g1 := by unfold Hd.g1; infer_instance
instance (h : Hd) : Decidable h.g2 := by unfold Hd.g2; infer_instance
def rightS (h : Hd) : Bool := decide h.g1 && (decide h.g2 && (!clashN h.needs h.needs && (h.wasOk && (decide h.secs.Nodup && h.needs.all (needOk h.path.steps.length)))))

theorem wc (w : Nat → Bool) (n j : Nat) (hn : n ≤ 12) (hj : j < 12) : (if j < min n 12 then ((List.take n (wcells w))[j]?.getD .undef).cells[0]?.getD .undef else B false) = B (decide (j < n) && w j) := by
  by_cases h : j < n
  · have h2 : j < min n 12 := by omega
    rw [if_pos h2, List.getElem?_take, if_pos h]
    have := wget w hj .undef
    rw [List.getD_eq_getElem?_getD] at this
    rw [this]; simp [h]
  · have h2 : ¬ j < min n 12 := by omega
    rw [if_neg h2]; simp [h]
theorem wci (w : Nat → Bool) (n j : Nat) (i : Int) (hi : i = j) (hn : n ≤ 12) (hj : j < 12) : (if i < ((min n 12 : Nat) : Int) then ((List.take n (wcells w))[j]?.getD .undef).cells[0]?.getD .undef else B false) = B (decide (j < n) && w j) := by
  rw [← wc w n j hn hj]
  exact ite_iff (by omega) _ _
theorem take_ok (w : Nat → Bool) (n : Nat) : ∀ e ∈ List.take n (wcells w), e.cells.length = 1 ∧ AV.ones e.cells = true := by
  intro e he
  have := List.mem_of_mem_take he
  simp only [wcells, List.mem_cons, List.not_mem_nil, or_false] at this
  rcases this with rfl | rfl | rfl | rfl | rfl | rfl | rfl | rfl | rfl | rfl | rfl | rfl <;> simp

theorem c_held_Right (h : Hd) (hl : h.len) (hs : 0 ≤ h.stage ∧ h.stage ≤ 255) : C f_held_Right [h.av] (.bool (rightS h)) := by
  obtain ⟨l1, l2, l3⟩ := hl
  refine ctr h.cells run_held_Right rfl (by simp) rfl ?_ rfl
  unfold rt_held_Right
  simp [Hd.cells]
  by_cases g1 : h.g1
  · have g1' := g1
    obtain ⟨a1, a2, a3, a4, a5, a6, a7⟩ := g1
    have b1 : ¬ h.id < 1 := by omega
    have b2 : ¬ 1073741824 < max h.id h.timer := by omega
    have b3 : ¬ h.timer < 0 := by omega
    have b4 : ¬ ((h.path.steps.length : Int) < 1) := by omega
    have b5 : ¬ (12 < (h.path.steps.length : Int)) := by omega
    have b6 : ¬ (2 < (h.over.length : Int)) := by omega
    have b7 : (0 : Int) < h.path.steps.length := by omega
    refine ⟨fun hh => by simp [b1, b2, b3, b5, b6] at hh; omega, ?_⟩
    intro _ _ _ _ _ _
    refine callIf (avs := [needs h.needs, needs h.needs]) (.bool (clashN h.needs h.needs)) rfl (fun _ => ⟨by simp, c_held_clash _ _ (by omega) (by omega)⟩) (by simp) ?_
    by_cases g2 : h.g2
    · have g2' := g2
      obtain ⟨d1, d2, d3, d4⟩ := g2
      have e1 : ¬ h.stage = 0 := by omega
      have e2 : ¬ 5 ≤ h.stage := by omega
      have e3 : ¬ h.gone < 0 := by omega
      have e4 : ¬ (h.path.steps.length : Int) < h.gone := by omega
      cases hc : clashN h.needs h.needs
      · have tk := take_ok h.was h.path.steps.length
        have c0 := wc h.was h.path.steps.length 0 a6 (by omega)
        have c1 := wci h.was h.path.steps.length 1 1 rfl a6 (by omega)
        have c2 := wci h.was h.path.steps.length 2 2 rfl a6 (by omega)
        have c3 := wci h.was h.path.steps.length 3 3 rfl a6 (by omega)
        have c4 := wci h.was h.path.steps.length 4 4 rfl a6 (by omega)
        have c5 := wci h.was h.path.steps.length 5 5 rfl a6 (by omega)
        have c6 := wci h.was h.path.steps.length 6 6 rfl a6 (by omega)
        have c7 := wci h.was h.path.steps.length 7 7 rfl a6 (by omega)
        have c8 := wci h.was h.path.steps.length 8 8 rfl a6 (by omega)
        have c9 := wci h.was h.path.steps.length 9 9 rfl a6 (by omega)
        have c10 := wci h.was h.path.steps.length 10 10 rfl a6 (by omega)
        have c11 := wci h.was h.path.steps.length 11 11 rfl a6 (by omega)
        simp only [AV.cells, wcells] at tk c0 c1 c2 c3 c4 c5 c6 c7 c8 c9 c10 c11
        simp [e1, e2, e3, e4, c0, c1, c2, c3, c4, c5, c6, c7, c8, c9, c10, c11]
        refine ⟨by omega, tk, fun hh => ?_, ?_⟩
        · have hw : h.wasOk = false := by
            cases hq : h.wasOk
            · rfl
            · exfalso
              simp only [Hd.wasOk, List.all_eq_true, List.mem_range, Bool.or_eq_true, decide_eq_true_eq, Bool.not_eq_true'] at hq
              have hstep : ∀ k, k < 12 → h.was k = true → h.path.steps.length ≤ k → False := fun k hk h1 h2 => by
                rcases hq k hk with h3 | h3
                · omega
                · rw [h1] at h3; cases h3
              rcases hh with ⟨h1, h2⟩ | ⟨h1, h2⟩ | ⟨h1, h2⟩ | ⟨h1, h2⟩ | ⟨h1, h2⟩ | ⟨h1, h2⟩ | ⟨h1, h2⟩ | ⟨h1, h2⟩ | ⟨h1, h2⟩ | ⟨h1, h2⟩ | ⟨h1, h2⟩ | ⟨h1, h2⟩
              · rw [h2] at a5; simp at a5
              all_goals exact hstep _ (by omega) h1 h2
          simp [rightS, hw]
        · intro w0 w1 w2 w3 w4 w5 w6 w7 w8 w9 w10 w11
          have hw : h.wasOk = true := by
            simp only [Hd.wasOk, List.all_eq_true, List.mem_range, Bool.or_eq_true, decide_eq_true_eq, Bool.not_eq_true']
            intro k hk
            cases hq : h.was k
            · exact .inr rfl
            · left
              match k, hk, hq with
              | 0, _, hq => exact w0 hq
              | 1, _, hq => exact w1 hq
              | 2, _, hq => exact w2 hq
              | 3, _, hq => exact w3 hq
              | 4, _, hq => exact w4 hq
              | 5, _, hq => exact w5 hq
              | 6, _, hq => exact w6 hq
              | 7, _, hq => exact w7 hq
              | 8, _, hq => exact w8 hq
              | 9, _, hq => exact w9 hq
              | 10, _, hq => exact w10 hq
              | 11, _, hq => exact w11 hq
          refine call (c_slices_Concat_Step [h.path.steps, h.over] (by simp) (by simp [total]; omega)) (by simp) (by simp) ?_
          generalize hall : [h.path.steps, h.over].flatten = all
          have hal : all = h.path.steps ++ h.over := by rw [← hall]; simp
          have hlen : all.length = h.path.steps.length + h.over.length := by rw [hal]; simp
          simp
          refine RTwp_loop rfl (fun vs => ∃ i : Nat, i ≤ all.length ∧ vs = [ints ((all.take i).map (·.s)), I i]) (fun vs => match vs with | [_, .int _ j] => all.length - j.toNat | _ => 0) ⟨0, by simp, by simp⟩ ?_
          rintro vs - ⟨i, hi, rfl⟩
          simp
          refine ⟨fun hlt => ?_, fun hge => ?_⟩
          · have hwr := wrap_succ (i := i) (by omega)
            have hmt := map_take (fun x : Step => x.s) all hlt
            simp [hlt, Step.cells, hwr]
            refine ⟨by omega, ⟨i + 1, by omega, ?_, by omega⟩, by omega⟩
            rw [List.take_add_one, List.getElem?_map, List.getElem?_eq_getElem hlt]; rfl
          · have hta : List.take i (List.map (I ∘ fun x : Step => x.s) all) = (all.map (·.s)).map I := by
              rw [List.take_of_length_le (by simp; omega), List.map_map]
            rw [hta]
            refine ⟨all.map (·.s), by simp; omega, by simp, ?_⟩
            refine ⟨sortI (all.map (·.s)), by simp [sortI]; omega, rfl, ?_⟩
            have hsec : h.secs = all.map (·.s) := by rw [hal]; rfl
            have hcl := compactI_le (sortI (all.map (·.s)))
            have hsl : (sortI (all.map (·.s))).length = all.length := by simp [sortI]
            have hwa : IntKind.i64.wrap ((h.path.steps.length : Int) + h.over.length) = h.path.steps.length + h.over.length := by rw [wrap_i] <;> omega
            simp [hwa]
            have hnd := compact_nodup (all.map (·.s))
            rw [List.length_map, hlen] at hnd
            refine ⟨fun hh => ?_, fun hh => ?_⟩
            · have : ¬ h.secs.Nodup := by rw [hsec]; exact hnd.1 (by omega)
              simp [rightS, this]
            · have hno : h.secs.Nodup := by
                rw [hsec]
                refine Classical.byContradiction fun hn => ?_
                have := hnd.2 hn
                omega
              have hr : rightS h = h.needs.all (needOk h.path.steps.length) := by simp [rightS, g1', g2', hc, hw, hno]
              rw [hr]
              refine RTwp_loop rfl (fun vs => ∃ i : Nat, i ≤ h.needs.length ∧ vs = [I i] ∧ NoneIn (fun x => !needOk h.path.steps.length x) (h.needs.take i)) (fun vs => match vs with | [.int _ j] => h.needs.length - j.toNat | _ => 0) ⟨0, by simp, by simp, rfl⟩ ?_
              rintro vs - ⟨k, hk, rfl, hq⟩
              simp
              refine ⟨fun hlt => ?_, fun hge => ?_⟩
              · have hwr := wrap_succ (i := k) (by omega)
                simp [hlt, Need.cells, hwr]
                have hf : h.needs[k].pos.fdiv (2 ^ min 1 IntKind.i64.bits) = 0 ↔ 0 ≤ h.needs[k].pos ∧ h.needs[k].pos ≤ 1 := by
                  have e : (2 : Int) ^ min 1 IntKind.i64.bits = 2 := by decide
                  rw [e, Int.fdiv_eq_ediv_of_nonneg _ (by omega)]; omega
                rw [hf]
                cases hok : needOk h.path.steps.length h.needs[k]
                · right
                  refine ⟨?_, h.needs[k], List.getElem_mem hlt, hok⟩
                  simp only [needOk, decide_eq_false_iff_not] at hok
                  omega
                · left
                  have hok2 := hok
                  simp only [needOk, decide_eq_true_eq] at hok2
                  exact ⟨by omega, ⟨k + 1, by omega, by omega, any_step hlt hq (by simp [hok])⟩, by omega⟩
              · have : h.needs.take k = h.needs := List.take_of_length_le (by omega)
                rw [this] at hq
                unfold NoneIn at hq
                simp at hq
                exact fun x hx => hq x hx
      · have hr : rightS h = false := by simp [rightS, g1', g2', hc]
        simp [e1, e2, e3, e4, hr]
    · have hr : rightS h = false := by simp [rightS, g2]
      rw [hr]
      have hg : h.stage = 0 ∨ 5 ≤ h.stage ∨ h.gone < 0 ∨ (h.path.steps.length : Int) < h.gone := by
        unfold Hd.g2 at g2; omega
      by_cases e1 : h.stage = 0
      · simp [e1]
      · by_cases e2 : 5 ≤ h.stage
        · simp [e1, e2]
        · by_cases e3 : h.gone < 0
          · simp [e1, e2, e3]
          · have e4 : (h.path.steps.length : Int) < h.gone := by omega
            simp [e1, e2, e3, e4]
  · have hr : rightS h = false := by simp [rightS, g1]
    rw [hr]
    refine ⟨fun _ => rfl, ?_⟩
    intro h1 h2 h3 h4 h5 h6
    exfalso
    unfold Hd.g1 at g1
    omega
end Go.Lb.LK

namespace Go.Lb.LK
open Go Go.Lb Go.Proofs Go.RowKit

theorem c_r17clash (a b : List Need) (ha : a.length ≤ 4294967296) (hb : b.length ≤ 4294967296) : C f_lockbarref17_clash [needs a, needs b] (.bool (clashN a b)) := by
  refine ctr [needs a, needs b] run_lockbarref17_clash rfl (by simp [AV.pureAll, AV.pure]) rfl ?_ rfl
  unfold rt_lockbarref17_clash
  refine RTwp_loop rfl (fun vs => ∃ i : Nat, i ≤ a.length ∧ vs = [I i] ∧ NoneIn (fun x => b.any fun y => both x y) (a.take i)) (fun vs => match vs with | [.int _ j] => a.length - j.toNat | _ => 0) ⟨0, by simp, by simp, rfl⟩ ?_
  rintro vs - ⟨i, hi, rfl, hn⟩
  simp
  refine ⟨fun hlt => ?_, fun hge => ?_⟩
  · refine RTwp_loop rfl (fun vs => ∃ j : Nat, j ≤ b.length ∧ vs = [I j] ∧ NoneIn (fun y => both a[i] y) (b.take j)) (fun vs => match vs with | [.int _ k] => b.length - k.toNat | _ => 0) ⟨0, by simp, by simp, rfl⟩ ?_
    rintro vs - ⟨j, hj, rfl, hm⟩
    simp
    refine ⟨fun hlt2 => ?_, fun hge2 => ?_⟩
    · have hw := wrap_succ (i := j) (by omega)
      simp [hlt, hlt2, Need.cells]
      by_cases h1 : a[i].p = b[j].p <;> by_cases h2 : a[i].pos = b[j].pos
      · simp [h1, h2, hw]
        exact ⟨⟨j + 1, by omega, rfl, any_step hlt2 hm (by simp [both, h1, h2])⟩, by omega⟩
      · simp [h1, h2]
        exact any_hit hlt (any_hit hlt2 (by simp [both, h1, h2]))
      · simp [h1, hw]
        exact ⟨⟨j + 1, by omega, rfl, any_step hlt2 hm (by simp [both, h1])⟩, by omega⟩
      · simp [h1, hw]
        exact ⟨⟨j + 1, by omega, rfl, any_step hlt2 hm (by simp [both, h1])⟩, by omega⟩
    · have hb2 : b.take j = b := List.take_of_length_le (by omega)
      rw [hb2] at hm
      have hw := wrap_succ (i := i) (by omega)
      simp [hw]
      exact ⟨⟨i + 1, by omega, rfl, any_step hlt hn hm⟩, by omega⟩
  · have ha2 : a.take i = a := List.take_of_length_le (by omega)
    rw [ha2] at hn
    have hn2 : clashN a b = false := hn
    simp [hn2]

theorem c_r17Needs (h : Hd) (hl : h.len) : C f_lockbarref17_Needs [h.av] (needs (needsN h)) := by
  obtain ⟨h1, h2, h3⟩ := hl
  refine ctr h.cells run_lockbarref17_Needs rfl (by simp) (by simp [AV.pure]) ?_ rfl
  unfold rt_lockbarref17_Needs
  simp [Hd.cells]
  refine RTwp_loop rfl (fun vs => ∃ i : Nat, i ≤ h.needs.length ∧ vs = [needs ((h.needs.take i).filter (holdsN h)), I i]) (fun vs => match vs with | [_, .int _ j] => h.needs.length - j.toNat | _ => 0) ⟨0, by simp, by simp⟩ ?_
  rintro vs - ⟨i, hi, rfl⟩
  simp
  refine ⟨fun hlt => ?_, fun hge => ?_⟩
  · have hw := wrap_succ (i := i) (by omega)
    have hfl := filter_take_len (holdsN h) h.needs i
    have hft := filter_take (holdsN h) h.needs hlt
    simp [hlt, Need.cells]
    rw [hw]
    cases hq : holdsN h h.needs[i]
    · left
      refine ⟨?_, ⟨i + 1, by omega, by rw [hft, hq]; simp, rfl⟩, by omega⟩
      intro hk
      simpa [holdsN, hk] using hq
    · right
      refine ⟨by simpa [holdsN] using hq, by omega, ⟨i + 1, by omega, by rw [hft, hq]; simp [Need.cells], rfl⟩, by omega⟩
  · have : h.needs.take i = h.needs := List.take_of_length_le (by omega)
    simp [this, needsN]

theorem step_eqs (x y : Step) : AV.eqs x.cells y.cells = decide (x = y) := by
  obtain ⟨a, b, c⟩ := x
  obtain ⟨d, e, f⟩ := y
  simp [Step.cells, AV.eqs, AV.eq1]
  by_cases h1 : a = d <;> by_cases h2 : b = e <;> by_cases h3 : c = f <;> simp [h1, h2, h3]
theorem need_eqs (x y : Need) : AV.eqs x.cells y.cells = decide (x = y) := by
  obtain ⟨a, b, c⟩ := x
  obtain ⟨d, e, f⟩ := y
  simp [Need.cells, AV.eqs, AV.eq1]
  by_cases h1 : a = d <;> by_cases h2 : b = e <;> by_cases h3 : c = f <;> simp [h1, h2, h3]

theorem step_ext {x y : Step} (h1 : x.s = y.s) (h2 : x.i = y.i) (h3 : x.o = y.o) : x = y := by
  obtain ⟨a, b, c⟩ := x
  obtain ⟨d, e, f⟩ := y
  simp only at h1 h2 h3
  rw [h1, h2, h3]
theorem need_ext {x y : Need} (h1 : x.p = y.p) (h2 : x.pos = y.pos) (h3 : x.k = y.k) : x = y := by
  obtain ⟨a, b, c⟩ := x
  obtain ⟨d, e, f⟩ := y
  simp only at h1 h2 h3
  rw [h1, h2, h3]
def pathSame (a b : Path) : Bool := decide (a.sig = b.sig) && (decide (a.exit = b.exit) && decide (a.steps = b.steps))
theorem bdec (x y : Bool) : decide (x = y) = (x == y) := by cases x <;> cases y <;> rfl
def wasSame (a b : Hd) : Bool := AV.eqs [.bool (a.was 0), .bool (a.was 1), .bool (a.was 2), .bool (a.was 3), .bool (a.was 4), .bool (a.was 5), .bool (a.was 6), .bool (a.was 7), .bool (a.was 8), .bool (a.was 9), .bool (a.was 10), .bool (a.was 11)] [.bool (b.was 0), .bool (b.was 1), .bool (b.was 2), .bool (b.was 3), .bool (b.was 4), .bool (b.was 5), .bool (b.was 6), .bool (b.was 7), .bool (b.was 8), .bool (b.was 9), .bool (b.was 10), .bool (b.was 11)]
theorem wasSame_refl (a : Hd) : wasSame a a = true := by simp [wasSame]
def sameS (a b : Hd) : Bool := decide (a.id = b.id) && (pathSame a.path b.path && (decide (a.over = b.over) && (decide (a.needs = b.needs) && (decide (a.stage = b.stage) && (decide (a.gone = b.gone) && (wasSame a b && ((a.opn == b.opn) && (decide (a.timer = b.timer) && (a.shown == b.shown)))))))))
theorem sameS_refl (a : Hd) : sameS a a = true := by simp [sameS, wasSame_refl, pathSame]
end Go.Lb.LK

namespace Go.Lb.LK
open Go Go.Lb Go.Proofs Go.RowKit

theorem needsN_len (h : Hd) : (needsN h).length ≤ h.needs.length := List.length_filter_le _ _
def secsN (h : Hd) : List Int := (h.path.steps.drop h.gone.toNat).map (·.s) ++ if h.opn = true then [] else h.over.map (·.s)
theorem take_drop_succ {α : Type} (l : List α) {g i : Nat} (hg : g ≤ i) (h : i < l.length) : (l.take (i + 1)).drop g = (l.take i).drop g ++ [l[i]] := by
  rw [List.take_add_one, List.getElem?_eq_getElem h, List.drop_append_of_le_length (by rw [List.length_take]; omega)]; rfl
theorem secsN_len (h : Hd) : (secsN h).length ≤ h.path.steps.length + h.over.length := by
  unfold secsN
  rw [List.length_append, List.length_map, List.length_drop]
  split <;> simp <;> omega
theorem c_r17Sections (h : Hd) (hl : h.len) : C f_lockbarref17_Sections [h.av] (ints (secsN h)) := by
  obtain ⟨h1, h2, h3⟩ := hl
  refine ctr h.cells run_lockbarref17_Sections rfl (by simp) (by simp) ?_ rfl
  unfold rt_lockbarref17_Sections
  simp [Hd.cells]
  obtain ⟨g, hg⟩ : ∃ g : Nat, g = h.gone.toNat := ⟨_, rfl⟩
  refine RTwp_loop rfl (fun vs => ∃ i : Nat, g ≤ i ∧ vs = [ints (((h.path.steps.take i).drop g).map (·.s)), I i]) (fun vs => match vs with | [_, .int _ j] => h.path.steps.length - j.toNat | _ => 0) ⟨g, by omega, by simp; omega⟩ ?_
  rintro vs - ⟨i, hgi, rfl⟩
  simp
  refine ⟨fun hlt => ?_, fun hge => ?_⟩
  · have hw := wrap_succ (i := i) (by omega)
    have := take_drop_succ h.path.steps hgi hlt
    simp [hlt, Step.cells, hw]
    refine ⟨by omega, ⟨i + 1, by omega, ?_, by omega⟩, by omega⟩
    have e := congrArg (List.map (I ∘ fun x : Step => x.s)) this
    simp at e
    exact e.symm
  · have ht : (h.path.steps.map (fun x => x.s)).take i = h.path.steps.map (fun x => x.s) := List.take_of_length_le (by simp; omega)
    rw [ht]
    refine RTwp_loop rfl (fun vs => ∃ k : Nat, k ≤ h.over.length ∧ (h.opn = true → k = 0) ∧ vs = [ints ((h.path.steps.drop g).map (·.s) ++ (h.over.take k).map (·.s)), I k]) (fun vs => match vs with | [_, .int _ j] => h.over.length - j.toNat | _ => 0) ⟨0, by omega, by simp, by simp⟩ ?_
    rintro vs - ⟨k, hk, hko, rfl⟩
    simp
    cases ho : h.opn
    · simp
      refine ⟨fun hlt => ?_, fun hge => ?_⟩
      · have hw := wrap_succ (i := k) (by omega)
        have hmt := map_take (I ∘ fun x : Step => x.s) h.over hlt
        simp [hlt, Step.cells, hw]
        refine ⟨by omega, ⟨k + 1, by omega, ?_, by omega⟩, by omega⟩
        simpa using hmt.symm
      · have : h.over.take k = h.over := List.take_of_length_le (by omega)
        simp [secsN, ho, this, hg]
        rw [List.take_of_length_le (by simpa using hge)]
    · simp [secsN, ho, hg, hko ho]
theorem c_r17Has (h : Hd) (hl : h.len) (s : Int) : C f_lockbarref17_Has [h.av, I s] (.bool (decide (s ∈ secsN h))) := by
  have hl' := hl
  obtain ⟨h1, h2, h3⟩ := hl
  have hsl := secsN_len h
  refine ctr (h.cells ++ [I s]) run_lockbarref17_Has rfl (by simp [pureAll_append, AV.pureAll, AV.pure]) rfl ?_ rfl
  unfold rt_lockbarref17_Has
  simp [Hd.cells]
  refine call (c_r17Sections h hl') (by simp [Hd.cells]) (by simp) ?_
  simp
  refine RTwp_loop rfl (fun vs => ∃ i : Nat, i ≤ (secsN h).length ∧ vs = [I i] ∧ NoneIn (fun x => decide (x = s)) ((secsN h).take i)) (fun vs => match vs with | [.int _ j] => (secsN h).length - j.toNat | _ => 0) ⟨0, by simp, by simp, rfl⟩ ?_
  rintro vs - ⟨i, hik, rfl, hq⟩
  simp
  refine ⟨fun hlt => ?_, fun hge => ?_⟩
  · have hw := wrap_succ (i := i) (by omega)
    simp [hlt, hw]
    by_cases he : (secsN h)[i] = s
    · right
      exact ⟨he, he ▸ List.getElem_mem hlt⟩
    · left
      exact ⟨he, ⟨i + 1, by omega, by omega, any_step hlt hq (by simpa using he)⟩, by omega⟩
  · have : (secsN h).take i = secsN h := List.take_of_length_le (by omega)
    rw [this] at hq
    unfold NoneIn at hq
    simp at hq
    exact fun hm => hq s hm rfl
end Go.Lb.LK

namespace Go.Lb.LK
open Go Go.Lb Go.Proofs Go.RowKit

theorem c_held_Sections (h : Hd) (hl : h.len) : C f_held_Sections [h.av] (ints (secsN h)) := by
  obtain ⟨h1, h2, h3⟩ := hl
  refine ctr h.cells run_held_Sections rfl (by simp) (by simp) ?_ rfl
  unfold rt_held_Sections
  simp [Hd.cells]
  obtain ⟨g, hg⟩ : ∃ g : Nat, g = h.gone.toNat := ⟨_, rfl⟩
  refine RTwp_loop rfl (fun vs => ∃ i : Nat, i ≤ h.path.steps.length ∧ vs = [I i, ints (((h.path.steps.take i).drop g).map (·.s))]) (fun vs => match vs with | [.int _ j, _] => h.path.steps.length - j.toNat | _ => 0) ⟨0, by omega, by simp⟩ ?_
  rintro vs - ⟨i, hi, rfl⟩
  simp
  refine ⟨fun hlt => ?_, fun hge => ?_⟩
  · have hw := wrap_succ (i := i) (by omega)
    simp [hlt, Step.cells, hw]
    refine ⟨fun hle => ?_, fun hle => ?_⟩
    · have hgi : g ≤ i := by omega
      have := take_drop_succ h.path.steps hgi hlt
      have e := congrArg (List.map (I ∘ fun x : Step => x.s)) this
      simp at e
      refine ⟨by omega, ⟨i + 1, by omega, by omega, ?_⟩, by omega⟩
      exact e.symm
    · refine ⟨⟨i + 1, by omega, by omega, ?_⟩, by omega⟩
      rw [List.drop_of_length_le (by simp; omega), List.drop_of_length_le (by simp; omega)]
  · have ht : (h.path.steps.map (fun x => x.s)).take i = h.path.steps.map (fun x => x.s) := List.take_of_length_le (by simp; omega)
    rw [ht]
    refine RTwp_loop rfl (fun vs => ∃ k : Nat, k ≤ h.over.length ∧ vs = [I k, ints ((h.path.steps.drop g).map (·.s) ++ if h.opn = true then [] else (h.over.take k).map (·.s))]) (fun vs => match vs with | [.int _ j, _] => h.over.length - j.toNat | _ => 0) ⟨0, by omega, by simp⟩ ?_
    rintro vs - ⟨k, hk, rfl⟩
    cases ho : h.opn
    · simp
      refine ⟨fun hlt => ?_, fun hge => ?_⟩
      · have hw := wrap_succ (i := k) (by omega)
        have hmt := map_take (I ∘ fun x : Step => x.s) h.over hlt
        simp [hlt, Step.cells, hw]
        refine ⟨by omega, ⟨k + 1, by omega, by omega, ?_⟩, by omega⟩
        simpa using hmt.symm
      · have : h.over.take k = h.over := List.take_of_length_le (by omega)
        simp [secsN, ho, this, hg]
        rw [List.take_of_length_le (by simpa using hge)]
    · simp
      refine ⟨fun hlt => ?_, fun hge => ?_⟩
      · have hw := wrap_succ (i := k) (by omega)
        simp [hlt, Step.cells, hw]
        exact ⟨⟨k + 1, by omega, by omega⟩, by omega⟩
      · simp [secsN, ho, hg]
theorem c_held_Has (h : Hd) (hl : h.len) (s : Int) : C f_held_Has [h.av, I s] (.bool (decide (s ∈ secsN h))) := by
  have hl' := hl
  obtain ⟨h1, h2, h3⟩ := hl
  have hsl := secsN_len h
  refine ctr (h.cells ++ [I s]) run_held_Has rfl (by simp [pureAll_append, AV.pureAll, AV.pure]) rfl ?_ rfl
  unfold rt_held_Has
  simp [Hd.cells]
  refine call (c_held_Sections h hl') (by simp [Hd.cells]) (by simp) ?_
  simp
  refine RTwp_loop rfl (fun vs => ∃ i : Nat, i ≤ (secsN h).length ∧ vs = [I i] ∧ NoneIn (fun x => decide (x = s)) ((secsN h).take i)) (fun vs => match vs with | [.int _ j] => (secsN h).length - j.toNat | _ => 0) ⟨0, by simp, by simp, rfl⟩ ?_
  rintro vs - ⟨i, hik, rfl, hq⟩
  simp
  refine ⟨fun hlt => ?_, fun hge => ?_⟩
  · have hw := wrap_succ (i := i) (by omega)
    simp [hlt, hw]
    by_cases he : s = (secsN h)[i]
    · simp [he]
    · have he2 : ¬ (secsN h)[i] = s := fun h => he h.symm
      simp [he]
      exact ⟨⟨i + 1, by omega, by omega, any_step hlt hq (by simpa using he2)⟩, by omega⟩
  · have : (secsN h).take i = secsN h := List.take_of_length_le (by omega)
    rw [this] at hq
    unfold NoneIn at hq
    simp at hq
    exact fun hm => hq s hm rfl
/-- Where a point is wanted. -/
def wantsN (h : Hd) (p : Int) : Option Int := ((needsN h).find? fun x => decide (x.p = p)).map (·.pos)
def optP (o : Option Int) : AV := .tup [I (o.getD 0), .bool o.isSome]
theorem find_hit {α : Type} {q : α → Bool} {l : List α} {i : Nat} (hi : i < l.length) (h : NoneIn q (l.take i)) (hq : q l[i] = true) : l.find? q = some l[i] := by
  have e : l.find? q = (l.take i ++ l.drop i).find? q := by rw [List.take_append_drop]
  rw [e, List.find?_append]
  have h1 : (l.take i).find? q = none := by
    rw [List.find?_eq_none]
    intro x hx hqx
    have := List.any_eq_false.1 h x hx
    exact this hqx
  rw [h1, List.drop_eq_getElem_cons hi, List.find?_cons, hq]
  rfl
theorem find_none {α : Type} {q : α → Bool} {l : List α} (h : NoneIn q l) : l.find? q = none := by
  rw [List.find?_eq_none]
  intro x hx hqx
  exact List.any_eq_false.1 h x hx hqx
theorem c_held_Wants (h : Hd) (hl : h.len) (p : Int) : C f_held_Wants [h.av, I p] (optP (wantsN h p)) := by
  have hnn := needsN_len h
  have hl3 := hl.2.2
  refine ctr (h.cells ++ [I p]) run_held_Wants rfl (by simp [pureAll_append, AV.pureAll, AV.pure]) rfl ?_ rfl
  unfold rt_held_Wants
  simp [Hd.cells]
  refine call (c_held_Needs h hl) (by simp [Hd.cells]) (by simp) ?_
  simp
  refine RTwp_loop rfl (fun vs => ∃ i : Nat, i ≤ (needsN h).length ∧ vs = [I i] ∧ NoneIn (fun x => decide (x.p = p)) ((needsN h).take i)) (fun vs => match vs with | [.int _ j] => (needsN h).length - j.toNat | _ => 0) ⟨0, by simp, by simp, rfl⟩ ?_
  rintro vs - ⟨i, hik, rfl, hq⟩
  simp
  refine ⟨fun hlt => ?_, fun hge => ?_⟩
  · have hw := wrap_succ (i := i) (by omega)
    by_cases he : (needsN h)[i].p = p
    · simp [hlt, Need.cells, hw, he, wantsN, find_hit hlt hq (by simpa using he), optP]
    · simp [hlt, Need.cells, hw, he]
      exact ⟨⟨i + 1, by omega, by omega, any_step hlt hq (by simpa using he)⟩, by omega⟩
  · have : (needsN h).take i = needsN h := List.take_of_length_le (by omega)
    rw [this] at hq
    simp [wantsN, find_none hq, optP]
theorem c_r17Wants (h : Hd) (hl : h.len) (p : Int) : C f_lockbarref17_Wants [h.av, I p] (optP (wantsN h p)) := by
  have hnn := needsN_len h
  have hl3 := hl.2.2
  refine ctr (h.cells ++ [I p]) run_lockbarref17_Wants rfl (by simp [pureAll_append, AV.pureAll, AV.pure]) rfl ?_ rfl
  unfold rt_lockbarref17_Wants
  simp [Hd.cells]
  refine call (c_r17Needs h hl) (by simp [Hd.cells]) (by simp) ?_
  simp
  refine RTwp_loop rfl (fun vs => ∃ i : Nat, i ≤ (needsN h).length ∧ vs = [I i] ∧ NoneIn (fun x => decide (x.p = p)) ((needsN h).take i)) (fun vs => match vs with | [.int _ j] => (needsN h).length - j.toNat | _ => 0) ⟨0, by simp, by simp, rfl⟩ ?_
  rintro vs - ⟨i, hik, rfl, hq⟩
  simp
  refine ⟨fun hlt => ?_, fun hge => ?_⟩
  · have hw := wrap_succ (i := i) (by omega)
    by_cases he : (needsN h)[i].p = p
    · simp [hlt, Need.cells, hw, he, wantsN, find_hit hlt hq (by simpa using he), optP]
    · simp [hlt, Need.cells, hw, he]
      exact ⟨⟨i + 1, by omega, by omega, any_step hlt hq (by simpa using he)⟩, by omega⟩
  · have : (needsN h).take i = needsN h := List.take_of_length_le (by omega)
    rw [this] at hq
    simp [wantsN, find_none hq, optP]
end Go.Lb.LK

namespace Go.Lb.LK
open Go Go.Lb

@[simp] theorem u32_min : IntKind.u32.min = 0 := by decide +kernel
@[simp] theorem u32_max : IntKind.u32.max = 4294967295 := by decide +kernel
theorem img_of {cs : List AV} (h : imgT.fits cs) : ∃ x : Img, AV.agg cs = x.av ∧ x.ok := by
  simp only [imgT, inT, uT, iT, fits_agg, fitsAll_int, fitsAll_agg, fitsAll_nil, List.append_nil, List.cons_append, List.nil_append] at h
  obtain ⟨age, q, rfl, _, f0, q, rfl, _, f1, q, rfl, _, f2, q, rfl, _, f3, q, rfl, _, f4, q, rfl, _, f5, q, rfl, _, f6, q, rfl, _, f7, q, rfl, _, f8, q, rfl, _, f9, q, rfl, _, f10, q, rfl, _, f11, q, rfl, _, f12, q, rfl, _, f13, q, rfl, _, f14, q, rfl, _, f15, q, rfl, _, f16, q, rfl, _, f17, q, rfl, _, f18, q, rfl, _, f19, q, rfl, _, f20, q, rfl, _, f21, q, rfl, _, f22, q, rfl, _, f23, q, rfl, _, oc, q, rfl, h1, no, q, rfl, h2, re, q, rfl, h3, la, q, rfl, h4, rfl⟩ := h
  simp only [u32_min, u32_max] at h1 h2 h3 h4
  exact ⟨⟨age, fun i => [f0, f1, f2, f3, f4, f5, f6, f7, f8, f9, f10, f11, f12, f13, f14, f15, f16, f17, f18, f19, f20, f21, f22, f23].getD i 0, oc, no, re, la⟩, rfl, h1, h2, h3, h4⟩
theorem held_of {cs : List AV} (h : heldT.fits cs) : ∃ x : Hd, AV.agg cs = x.av ∧ 0 ≤ x.stage ∧ x.stage ≤ 255 := by
  simp only [heldT, pathT, iT, fits_agg, fitsAll_int, fitsAll_bool, fitsAll_agg, fitsAll_sl, fitsAll_nil, List.append_nil, List.cons_append, List.nil_append] at h
  obtain ⟨id, q, rfl, _, sig, q, rfl, _, ex, q, rfl, _, es, q, rfl, hs, ov, q, rfl, ho, ne, q, rfl, hn, st, q, rfl, h1, go, q, rfl, _, w0, q, rfl, w1, q, rfl, w2, q, rfl, w3, q, rfl, w4, q, rfl, w5, q, rfl, w6, q, rfl, w7, q, rfl, w8, q, rfl, w9, q, rfl, w10, q, rfl, w11, q, rfl, op, q, rfl, ti, q, rfl, _, sh, q, rfl, rfl⟩ := h
  obtain ⟨es, rfl⟩ := sl_map (g := Step.av) (fun cs h => step_of h) es hs.2
  obtain ⟨ov, rfl⟩ := sl_map (g := Step.av) (fun cs h => step_of h) ov ho.2
  obtain ⟨ne, rfl⟩ := sl_map (g := Need.av) (fun cs h => need_of h) ne hn.2
  exact ⟨⟨id, ⟨sig, ex, es⟩, ov, ne, st, go, fun i => [w0, w1, w2, w3, w4, w5, w6, w7, w8, w9, w10, w11].getD i false, op, ti, sh⟩, rfl, by simpa using h1⟩
theorem img_arg {x : AV} (h : imgT.fits x.cells) (h2 : aggIf true x) : ∃ l : Img, x = l.av ∧ l.ok := by
  obtain ⟨cs, rfl⟩ := h2.1 rfl
  exact img_of h
end Go.Lb.LK

namespace Go.Lb.LK
open Go Go.Lb

structure Kern where
  next : Int
  held : List Hd
  want : Nat → Int
  run : Nat → Int
  fail : Nat → Bool
def mcells (w r : Nat → Int) (f : Nat → Bool) : List AV := [I (w 0), I (r 0), .bool (f 0), I (w 1), I (r 1), .bool (f 1), I (w 2), I (r 2), .bool (f 2), I (w 3), I (r 3), .bool (f 3), I (w 4), I (r 4), .bool (f 4), I (w 5), I (r 5), .bool (f 5), I (w 6), I (r 6), .bool (f 6), I (w 7), I (r 7), .bool (f 7), I (w 8), I (r 8), .bool (f 8), I (w 9), I (r 9), .bool (f 9), I (w 10), I (r 10), .bool (f 10), I (w 11), I (r 11), .bool (f 11), I (w 12), I (r 12), .bool (f 12), I (w 13), I (r 13), .bool (f 13), I (w 14), I (r 14), .bool (f 14), I (w 15), I (r 15), .bool (f 15), I (w 16), I (r 16), .bool (f 16), I (w 17), I (r 17), .bool (f 17), I (w 18), I (r 18), .bool (f 18), I (w 19), I (r 19), .bool (f 19), I (w 20), I (r 20), .bool (f 20), I (w 21), I (r 21), .bool (f 21), I (w 22), I (r 22), .bool (f 22), I (w 23), I (r 23), .bool (f 23)]
def Kern.cells (k : Kern) : List AV := [I k.next, .sl (k.held.map Hd.av), I (k.want 0), I (k.run 0), .bool (k.fail 0), I (k.want 1), I (k.run 1), .bool (k.fail 1), I (k.want 2), I (k.run 2), .bool (k.fail 2), I (k.want 3), I (k.run 3), .bool (k.fail 3), I (k.want 4), I (k.run 4), .bool (k.fail 4), I (k.want 5), I (k.run 5), .bool (k.fail 5), I (k.want 6), I (k.run 6), .bool (k.fail 6), I (k.want 7), I (k.run 7), .bool (k.fail 7), I (k.want 8), I (k.run 8), .bool (k.fail 8), I (k.want 9), I (k.run 9), .bool (k.fail 9), I (k.want 10), I (k.run 10), .bool (k.fail 10), I (k.want 11), I (k.run 11), .bool (k.fail 11), I (k.want 12), I (k.run 12), .bool (k.fail 12), I (k.want 13), I (k.run 13), .bool (k.fail 13), I (k.want 14), I (k.run 14), .bool (k.fail 14), I (k.want 15), I (k.run 15), .bool (k.fail 15), I (k.want 16), I (k.run 16), .bool (k.fail 16), I (k.want 17), I (k.run 17), .bool (k.fail 17), I (k.want 18), I (k.run 18), .bool (k.fail 18), I (k.want 19), I (k.run 19), .bool (k.fail 19), I (k.want 20), I (k.run 20), .bool (k.fail 20), I (k.want 21), I (k.run 21), .bool (k.fail 21), I (k.want 22), I (k.run 22), .bool (k.fail 22), I (k.want 23), I (k.run 23), .bool (k.fail 23)]
abbrev Kern.av (k : Kern) : AV := .agg k.cells
abbrev helds (l : List Hd) : AV := .sl (l.map Hd.av)
@[simp] theorem helds_pure (l : List Hd) : AV.pureAll (l.map Hd.av) = true := pureAll_map _ (fun x => by simp [AV.pure]) l
@[simp] theorem Kern.pure (k : Kern) : AV.pureAll k.cells = true := by simp [Kern.cells, AV.pureAll, AV.pure]
structure Mach where
  want : Int
  run : Int
  fail : Bool
  deriving DecidableEq
def Mach.cells (m : Mach) : List AV := [I m.want, I m.run, .bool m.fail]
abbrev Mach.av (m : Mach) : AV := .agg m.cells
@[simp] theorem Mach.pure (m : Mach) : AV.pureAll m.cells = true := by simp [Mach.cells, AV.pureAll, AV.pure]
def Kern.mach (k : Kern) (i : Nat) : Mach := ⟨k.want i, k.run i, k.fail i⟩
theorem mach_fail (w r : Nat → Int) (f : Nat → Bool) {i : Nat} (h : i < 24) (d : AV) : (mcells w r f).getD (i * 3 + 2) d = .bool (f i) := by
  match i, h with
  | 0, _ => rfl
  | 1, _ => rfl
  | 2, _ => rfl
  | 3, _ => rfl
  | 4, _ => rfl
  | 5, _ => rfl
  | 6, _ => rfl
  | 7, _ => rfl
  | 8, _ => rfl
  | 9, _ => rfl
  | 10, _ => rfl
  | 11, _ => rfl
  | 12, _ => rfl
  | 13, _ => rfl
  | 14, _ => rfl
  | 15, _ => rfl
  | 16, _ => rfl
  | 17, _ => rfl
  | 18, _ => rfl
  | 19, _ => rfl
  | 20, _ => rfl
  | 21, _ => rfl
  | 22, _ => rfl
  | 23, _ => rfl
  | n + 24, h => exact absurd h (by omega)
/-- Stages are bytes. -/
def Kern.ok (k : Kern) : Prop := ∀ h ∈ k.held, 0 ≤ h.stage ∧ h.stage ≤ 255
def machT : TS := .agg [iT, iT, .bool]
def kernT : TS := .agg [iT, .sl true heldT, .agg [machT, machT, machT, machT, machT, machT, machT, machT, machT, machT, machT, machT, machT, machT, machT, machT, machT, machT, machT, machT, machT, machT, machT, machT]]
/-- Machines, read off. -/
theorem machs_of : ∀ (n : Nat) (vals : List AV), TS.fitsAll (List.replicate n machT) vals → ∃ ms : List Mach, ms.length = n ∧ vals = ms.flatMap Mach.cells
  | 0, vals, h => ⟨[], rfl, by rw [List.replicate_zero, fitsAll_nil] at h; rw [h]; rfl⟩
  | n + 1, vals, h => by
    rw [List.replicate_succ, machT, fitsAll_agg] at h
    simp only [iT, List.cons_append, List.nil_append, fitsAll_int, fitsAll_bool] at h
    obtain ⟨w, q, rfl, _, r, q, rfl, _, f, q, rfl, h⟩ := h
    obtain ⟨ms, h1, rfl⟩ := machs_of n q h
    exact ⟨⟨w, r, f⟩ :: ms, by simp [h1], rfl⟩
theorem mcells_of {ms : List Mach} (h : ms.length = 24) : ms.flatMap Mach.cells = mcells (fun i => (ms[i]?.map (·.want)).getD 0) (fun i => (ms[i]?.map (·.run)).getD 0) (fun i => (ms[i]?.map (·.fail)).getD false) := by
  match ms, h with
  | [m0, m1, m2, m3, m4, m5, m6, m7, m8, m9, m10, m11, m12, m13, m14, m15, m16, m17, m18, m19, m20, m21, m22, m23], _ => rfl
theorem kcells (k : Kern) : k.cells = I k.next :: helds k.held :: mcells k.want k.run k.fail := rfl
theorem kern_of {cs : List AV} (h : kernT.fits cs) : ∃ x : Kern, AV.agg cs = x.av ∧ x.ok := by
  rw [kernT, fits_agg, iT, fitsAll_int] at h
  obtain ⟨n, q, rfl, _, h⟩ := h
  rw [fitsAll_sl] at h
  obtain ⟨hs, q, rfl, hh, h⟩ := h
  rw [fitsAll_agg, List.append_nil] at h
  obtain ⟨ms, h1, rfl⟩ := machs_of 24 q h
  obtain ⟨hs, rfl, hq⟩ := sl_mapP (g := Hd.av) (Q := fun h => 0 ≤ h.stage ∧ h.stage ≤ 255) (fun cs h => held_of h) hs hh.2
  rw [mcells_of h1]
  exact ⟨⟨n, hs, fun i => (ms[i]?.map (·.want)).getD 0, fun i => (ms[i]?.map (·.run)).getD 0, fun i => (ms[i]?.map (·.fail)).getD false⟩, rfl, hq⟩
theorem kern_arg {x : AV} (h : kernT.fits x.cells) (h2 : aggIf true x) : ∃ l : Kern, x = l.av ∧ l.ok := by
  obtain ⟨cs, rfl⟩ := h2.1 rfl
  exact kern_of h
end Go.Lb.LK

namespace Go.Lb.LK
open Go Go.Lb Go.Proofs Go.RowKit

def apartS (a b : Hd) : Bool := !((secsN a).any fun s => decide (s ∈ secsN b)) && !clashN (needsN a) (needsN b)
theorem hh (a b : Hd) : AV.pureAll (a.cells ++ b.cells) = true := by simp [pureAll_append]
theorem apart_hit {a b : Hd} {s : Int} (h1 : s ∈ secsN a) (h2 : s ∈ secsN b) : apartS a b = false := by
  have : ((secsN a).any fun s => decide (s ∈ secsN b)) = true := List.any_eq_true.2 ⟨s, h1, by simpa using h2⟩
  simp [apartS, this]
theorem c_held_Apart (a b : Hd) (ha : a.len) (hb : b.len) : C f_held_Apart [a.av, b.av] (.bool (apartS a b)) := by
  have hna := needsN_len a
  have hnb := needsN_len b
  have ha' := ha
  have hb' := hb
  obtain ⟨h1, h2, h3⟩ := ha
  obtain ⟨k1, k2, k3⟩ := hb
  refine ctr (a.cells ++ b.cells) run_held_Apart rfl (hh a b) rfl ?_ rfl
  unfold rt_held_Apart
  simp [Hd.cells]
  obtain ⟨g, hg⟩ : ∃ g : Nat, g = a.gone.toNat := ⟨_, rfl⟩
  refine RTwp_loop rfl (fun vs => ∃ i : Nat, i ≤ a.path.steps.length ∧ vs = [I i] ∧ NoneIn (fun s => decide (s ∈ secsN b)) (((a.path.steps.map fun x => x.s).take i).drop g)) (fun vs => match vs with | [.int _ j] => a.path.steps.length - j.toNat | _ => 0) ⟨0, by omega, by simp, by simp [NoneIn]⟩ ?_
  rintro vs - ⟨i, hi, rfl, hq⟩
  simp
  refine ⟨fun hlt => ?_, fun hge => ?_⟩
  · have hw := wrap_succ (i := i) (by omega)
    simp [hlt, Step.cells, hw]
    refine ⟨fun hle => ?_, fun hle => ?_⟩
    · have hgi : g ≤ i := by omega
      have htd := take_drop_succ (a.path.steps.map fun x => x.s) hgi (by simpa using hlt)
      refine call (c_held_Has b hb' a.path.steps[i].s) (by simp [Hd.cells, hlt, Step.cells]) (by simp) ?_
      by_cases hm : a.path.steps[i].s ∈ secsN b
      · have hma : a.path.steps[i].s ∈ secsN a := by
          unfold secsN
          refine List.mem_append_left _ (List.mem_map.2 ⟨a.path.steps[i], ?_, rfl⟩)
          rw [← hg]
          exact List.mem_drop_iff_getElem.2 ⟨i - g, by omega, by simp [show g + (i - g) = i by omega]⟩
        simp [hm, apart_hit hma hm]
      · simp [hm, hw]
        refine ⟨⟨i + 1, by omega, by omega, ?_⟩, by omega⟩
        unfold NoneIn at hq ⊢
        rw [htd, List.any_append, hq]
        simpa using hm
    · refine ⟨⟨i + 1, by omega, by omega, ?_⟩, by omega⟩
      rw [List.drop_of_length_le (by simp; omega)]; simp [NoneIn]
  · have ht : (a.path.steps.map fun x => x.s).take i = a.path.steps.map fun x => x.s := List.take_of_length_le (by simp; omega)
    rw [ht] at hq
    refine RTwp_loop rfl (fun vs => ∃ k : Nat, k ≤ a.over.length ∧ vs = [I k] ∧ (a.opn = false → NoneIn (fun s => decide (s ∈ secsN b)) ((a.over.map fun x => x.s).take k))) (fun vs => match vs with | [.int _ j] => a.over.length - j.toNat | _ => 0) ⟨0, by omega, by simp, fun _ => by simp [NoneIn]⟩ ?_
    rintro vs - ⟨k, hk, rfl, hq2⟩
    simp
    refine ⟨fun hlt => ?_, fun hge => ?_⟩
    · have hw := wrap_succ (i := k) (by omega)
      simp [hlt, Step.cells, hw]
      cases ho : a.opn
      · simp
        refine call (c_held_Has b hb' a.over[k].s) (by simp [Hd.cells, hlt, Step.cells, ho]) (by simp) ?_
        by_cases hm : a.over[k].s ∈ secsN b
        · have hma : a.over[k].s ∈ secsN a := by
            unfold secsN
            refine List.mem_append_right _ ?_
            simp only [ho, Bool.false_eq_true, if_false]
            exact List.mem_map_of_mem (List.getElem_mem hlt)
          simp [hm, apart_hit hma hm]
        · simp [hm, hw]
          refine ⟨⟨k + 1, by omega, by omega, ?_⟩, by omega⟩
          exact any_step (q := fun s => decide (s ∈ secsN b)) (by simpa using hlt) (hq2 ho) (by simpa using hm)
      · simp
        exact ⟨⟨k + 1, by omega, by omega⟩, by omega⟩
    · have hov : (a.over.map fun x => x.s).take k = a.over.map fun x => x.s := List.take_of_length_le (by simp; omega)
      rw [hov] at hq2
      have hsa : secsN a = (a.path.steps.map fun x => x.s).drop g ++ if a.opn = true then [] else a.over.map fun x => x.s := by
        unfold secsN; rw [← hg, List.map_drop]
      have hnone : ((secsN a).any fun s => decide (s ∈ secsN b)) = false := by
        rw [hsa, List.any_append]
        unfold NoneIn at hq hq2
        rw [hq]
        cases ho : a.opn
        · simpa using hq2 ho
        · simp
      refine call (c_held_Needs a ha') (by simp [Hd.cells]) (by simp) ?_
      simp
      refine call (c_held_Needs b hb') (by simp [Hd.cells]) (by simp) ?_
      simp
      refine call (c_held_clash (needsN a) (needsN b) (by omega) (by omega)) (by simp) (by simp) ?_
      simp only [apartS, hnone]
      simp
theorem c_r17Apart (a b : Hd) (ha : a.len) (hb : b.len) : C f_lockbarref17_Apart [a.av, b.av] (.bool (apartS a b)) := by
  have hna := needsN_len a
  have hnb := needsN_len b
  have hsl := secsN_len a
  have ha' := ha
  have hb' := hb
  obtain ⟨h1, h2, h3⟩ := ha
  obtain ⟨k1, k2, k3⟩ := hb
  refine ctr (a.cells ++ b.cells) run_lockbarref17_Apart rfl (hh a b) rfl ?_ rfl
  unfold rt_lockbarref17_Apart
  simp [Hd.cells]
  refine call (c_r17Sections a ha') (by simp [Hd.cells]) (by simp) ?_
  simp
  refine RTwp_loop rfl (fun vs => ∃ i : Nat, i ≤ (secsN a).length ∧ vs = [I i] ∧ NoneIn (fun s => decide (s ∈ secsN b)) ((secsN a).take i)) (fun vs => match vs with | [.int _ j] => (secsN a).length - j.toNat | _ => 0) ⟨0, by omega, by simp, rfl⟩ ?_
  rintro vs - ⟨i, hi, rfl, hq⟩
  simp
  refine ⟨fun hlt => ?_, fun hge => ?_⟩
  · have hw := wrap_succ (i := i) (by omega)
    simp [hlt]
    refine call (c_r17Has b hb' (secsN a)[i]) (by simp [Hd.cells, hlt]) (by simp) ?_
    by_cases hm : (secsN a)[i] ∈ secsN b
    · simp [hm, apart_hit (List.getElem_mem hlt) hm]
    · simp [hm, hw]
      exact ⟨⟨i + 1, by omega, by omega, any_step hlt hq (by simpa using hm)⟩, by omega⟩
  · have ht : (secsN a).take i = secsN a := List.take_of_length_le (by omega)
    rw [ht] at hq
    unfold NoneIn at hq
    refine call (c_r17Needs a ha') (by simp [Hd.cells]) (by simp) ?_
    simp
    refine call (c_r17Needs b hb') (by simp [Hd.cells]) (by simp) ?_
    simp
    refine call (c_r17clash (needsN a) (needsN b) (by omega) (by omega)) (by simp) (by simp) ?_
    simp only [apartS, hq]
    simp

def machOk (m : Mach) : Bool := (decide (m.want = 0 ∨ m.want = 1) && decide (0 ≤ m.run ∧ m.run ≤ 1000)) || decide (m = ⟨-1, 0, false⟩)
theorem mach_ext {a b : Mach} : a = b ↔ a.want = b.want ∧ a.run = b.run ∧ a.fail = b.fail := by
  cases a; cases b; simp
theorem c_point_position (n : Int) : C f_point_position [I n] (.bool (decide (n = 0 ∨ n = 1))) := by
  refine ctr [I n] run_point_position rfl rfl rfl ?_ rfl
  unfold rt_point_position
  simp
  by_cases h1 : n = 0 <;> by_cases h2 : n = 1 <;> simp [h1, h2]
theorem c_point_Rest : C f_point_Rest [] (Mach.av ⟨-1, 0, false⟩) := by
  refine ctr [] run_point_Rest rfl rfl rfl ?_ rfl
  unfold rt_point_Rest
  simp [Mach.cells]
theorem c_r16Rest : C f_lockbarref16_Rest [] (Mach.av ⟨-1, 0, false⟩) := by
  refine ctr [] run_lockbarref16_Rest rfl rfl rfl ?_ rfl
  unfold rt_lockbarref16_Rest
  simp [Mach.cells]
theorem mach_eqs (a b c d : Int) (e f : Bool) : AV.eqs [I a, I b, .bool e] [I c, I d, .bool f] = decide ((⟨a, b, e⟩ : Mach) = ⟨c, d, f⟩) := by
  by_cases h1 : a = c <;> by_cases h2 : b = d <;> cases e <;> cases f <;> simp [AV.eqs, AV.eq1, h1, h2]
theorem c_point_Right (m : Mach) : C f_point_Right [m.av] (.bool (machOk m)) := by
  refine ctr m.cells run_point_Right rfl (by simp) rfl ?_ rfl
  unfold rt_point_Right
  obtain ⟨w, r, f⟩ := m
  simp [Mach.cells]
  refine call (c_point_position w) (by simp) (by simp) ?_
  simp
  refine callIf (avs := []) (Mach.av ⟨-1, 0, false⟩) rfl (fun _ => ⟨rfl, c_point_Rest⟩) (fun _ => rfl) ?_
  simp [Mach.cells, mach_eqs, machOk]
  by_cases h1 : w = 0 <;> by_cases h2 : w = 1 <;> by_cases h3 : w = -1 <;> by_cases h4 : r = 0 <;> cases f <;> simp [h1, h2, h3, h4, Bool.and_assoc]
theorem c_r16Right (m : Mach) : C f_lockbarref16_Right [m.av] (.bool (machOk m)) := by
  refine ctr m.cells run_lockbarref16_Right rfl (by simp) rfl ?_ rfl
  unfold rt_lockbarref16_Right
  obtain ⟨w, r, f⟩ := m
  simp [Mach.cells]
  refine ⟨fun hb => ?_, fun h1 h2 h3 h4 => ?_⟩
  · have e1 : ¬ (w = 0 ∨ w = 1) ∨ ¬ (0 ≤ r ∧ r ≤ 1000) := by omega
    have e2 : (⟨w, r, f⟩ : Mach) ≠ ⟨-1, 0, false⟩ := by
      intro h; rw [mach_ext] at h; simp at h; omega
    simp only [machOk, e2, decide_false, Bool.or_false]
    rcases e1 with e1 | e1 <;> simp [e1]
  · refine callIf (avs := []) (Mach.av ⟨-1, 0, false⟩) rfl (fun _ => ⟨rfl, c_r16Rest⟩) (fun _ => rfl) ?_
    have hw : w = -1 ∨ w = 0 ∨ w = 1 := by omega
    rcases hw with rfl | rfl | rfl <;> simp [Mach.cells, mach_eqs, machOk, h3, h4] <;> rfl
end Go.Lb.LK

namespace Go.Lb.LK
open Go Go.Lb Go.Proofs Go.RowKit

def Kern.len (k : Kern) : Prop := k.held.length ≤ 1048576 ∧ ∀ h ∈ k.held, h.len
theorem ks (k : Kern) (s : Int) : AV.pureAll (k.cells ++ [I s]) = true := by simp [pureAll_append, AV.pureAll, AV.pure]
theorem Kern.at (k : Kern) (hl : k.len) {i : Nat} (h : i < k.held.length) : k.held[i].len := hl.2 _ (List.getElem_mem h)
def holderN (k : Kern) (s : Int) : Option Int := (k.held.find? fun h => decide (s ∈ secsN h)).map (·.id)
theorem c_free_Holder (k : Kern) (hl : k.len) (s : Int) : C f_free_Holder [k.av, I s] (optP (holderN k s)) := by
  have h1 := hl.1
  refine ctr (k.cells ++ [I s]) run_free_Holder rfl (ks k s) rfl ?_ rfl
  unfold rt_free_Holder
  simp [Kern.cells]
  refine RTwp_loop rfl (fun vs => ∃ i : Nat, i ≤ k.held.length ∧ vs = [I i] ∧ NoneIn (fun h => decide (s ∈ secsN h)) (k.held.take i)) (fun vs => match vs with | [.int _ j] => k.held.length - j.toNat | _ => 0) ⟨0, by omega, by simp, rfl⟩ ?_
  rintro vs - ⟨i, hi, rfl, hq⟩
  simp
  refine ⟨fun hlt => ?_, fun hge => ?_⟩
  · have hw := wrap_succ (i := i) (by omega)
    simp [hlt, Hd.cells]
    refine call (c_held_Has k.held[i] (k.at hl hlt) s) (by simp [hlt, Hd.cells]) (by simp) ?_
    by_cases hm : s ∈ secsN k.held[i]
    · simp [hm, hlt, Hd.cells, holderN, find_hit hlt hq (by simpa using hm), optP]
    · simp [hm, hw]
      exact ⟨⟨i + 1, by omega, by omega, any_step hlt hq (by simpa using hm)⟩, by omega⟩
  · have : k.held.take i = k.held := List.take_of_length_le (by omega)
    rw [this] at hq
    simp [holderN, find_none hq, optP]
def wantedN (k : Kern) (p : Int) : Option Int := k.held.findSome? fun h => wantsN h p
theorem fs_hit {α β : Type} {q : α → Option β} {l : List α} {i : Nat} {b : β} (hi : i < l.length) (h : NoneIn (fun x => (q x).isSome) (l.take i)) (hq : q l[i] = some b) : l.findSome? q = some b := by
  have e : l.findSome? q = (l.take i ++ l.drop i).findSome? q := by rw [List.take_append_drop]
  rw [e, List.findSome?_append]
  have h1 : (l.take i).findSome? q = none := by
    rw [List.findSome?_eq_none_iff]
    intro x hx
    have := List.any_eq_false.1 h x hx
    simpa using this
  rw [h1, List.drop_eq_getElem_cons hi, List.findSome?_cons, hq]
  rfl
theorem fs_none {α β : Type} {q : α → Option β} {l : List α} (h : NoneIn (fun x => (q x).isSome) l) : l.findSome? q = none := by
  rw [List.findSome?_eq_none_iff]
  intro x hx
  have := List.any_eq_false.1 h x hx
  simpa using this
theorem c_free_Wanted (k : Kern) (hl : k.len) (p : Int) : C f_free_Wanted [k.av, I p] (optP (wantedN k p)) := by
  have h1 := hl.1
  refine ctr (k.cells ++ [I p]) run_free_Wanted rfl (ks k p) rfl ?_ rfl
  unfold rt_free_Wanted
  simp [Kern.cells]
  refine RTwp_loop rfl (fun vs => ∃ i : Nat, i ≤ k.held.length ∧ vs = [I i] ∧ NoneIn (fun h => (wantsN h p).isSome) (k.held.take i)) (fun vs => match vs with | [.int _ j] => k.held.length - j.toNat | _ => 0) ⟨0, by omega, by simp, rfl⟩ ?_
  rintro vs - ⟨i, hi, rfl, hq⟩
  simp
  refine ⟨fun hlt => ?_, fun hge => ?_⟩
  · have hw := wrap_succ (i := i) (by omega)
    simp [hlt, Hd.cells]
    refine call (c_held_Wants k.held[i] (k.at hl hlt) p) (by simp [hlt, Hd.cells]) (by simp [optP]) ?_
    cases hm : wantsN k.held[i] p with
    | some b => simp [optP, wantedN, fs_hit hlt hq hm]
    | none =>
      simp [optP, hw]
      exact ⟨⟨i + 1, by omega, by omega, any_step hlt hq (by simp [hm])⟩, by omega⟩
  · have : k.held.take i = k.held := List.take_of_length_le (by omega)
    rw [this] at hq
    simp [wantedN, fs_none hq, optP]
def lockedN (k : Kern) (p : Int) : Bool := k.held.any fun h => (wantsN h p).isSome && !decide (h.stage = 1)
theorem c_free_Locked (k : Kern) (hl : k.len) (p : Int) : C f_free_Locked [k.av, I p] (.bool (lockedN k p)) := by
  have h1 := hl.1
  refine ctr (k.cells ++ [I p]) run_free_Locked rfl (ks k p) rfl ?_ rfl
  unfold rt_free_Locked
  simp [Kern.cells]
  refine RTwp_loop rfl (fun vs => ∃ i : Nat, i ≤ k.held.length ∧ vs = [I i] ∧ NoneIn (fun h => (wantsN h p).isSome && !decide (h.stage = 1)) (k.held.take i)) (fun vs => match vs with | [.int _ j] => k.held.length - j.toNat | _ => 0) ⟨0, by omega, by simp, rfl⟩ ?_
  rintro vs - ⟨i, hi, rfl, hq⟩
  simp
  refine ⟨fun hlt => ?_, fun hge => ?_⟩
  · have hw := wrap_succ (i := i) (by omega)
    simp [hlt, Hd.cells]
    refine call (c_held_Wants k.held[i] (k.at hl hlt) p) (by simp [hlt, Hd.cells]) (by simp [optP]) ?_
    cases hm : wantsN k.held[i] p with
    | some b =>
      by_cases hs : k.held[i].stage = 1
      · simp [optP, hlt, Hd.cells, hs, hw]
        exact ⟨⟨i + 1, by omega, by omega, any_step hlt hq (by simp [hs])⟩, by omega⟩
      · have : lockedN k p = true := any_hit hlt (by simp [hm, hs])
        simp [optP, hlt, Hd.cells, hs, this]
    | none =>
      simp [optP, hlt, Hd.cells, hw]
      exact ⟨⟨i + 1, by omega, by omega, any_step hlt hq (by simp [hm])⟩, by omega⟩
  · have : k.held.take i = k.held := List.take_of_length_le (by omega)
    rw [this] at hq
    have : lockedN k p = false := hq
    simp [this]
end Go.Lb.LK

namespace Go.Lb.LK
open Go Go.Lb Go.Proofs Go.RowKit

theorem Hd.one (h : Hd) : h.cells.length = 23 ∧ AV.ones h.cells = true := by simp [Hd.cells]
theorem set_self (l : List Hd) {i : Nat} (h : i < l.length) : (l.map Hd.av).set i l[i].av = l.map Hd.av := by
  have : (l.map Hd.av)[i]'(by simpa using h) = l[i].av := by simp
  rw [← this, List.set_getElem_self]
theorem c_free_Own (k : Kern) (hl : k.len) : C f_free_Own [k.av] k.av := by
  have h1 := hl.1
  refine ctr k.cells run_free_Own rfl (by simp) (by simp [AV.pure]) ?_ rfl
  unfold rt_free_Own
  simp [Kern.cells]
  refine ⟨⟨fun a _ => a.one, by omega, ?_⟩, fun he => ?_⟩
  · refine RTwp_loop rfl (fun vs => ∃ i : Nat, i ≤ k.held.length ∧ vs = [I i, helds k.held]) (fun vs => match vs with | [.int _ j, _] => k.held.length - j.toNat | _ => 0) ⟨0, by omega, by simp⟩ ?_
    rintro vs - ⟨i, hi, rfl⟩
    simp
    refine ⟨fun hlt => ?_, fun hge => ?_⟩
    · have hw := wrap_succ (i := i) (by omega)
      simp [hlt, Hd.cells]
      refine call (c_held_Own k.held[i] (k.at hl hlt)) (by simp [hlt, Hd.cells]) (by simp) ?_
      simp [hlt, Hd.cells, hw]
      refine ⟨⟨i + 1, by omega, by omega, ?_⟩, by omega⟩
      exact set_self k.held hlt
    · simp [Kern.cells]
  · refine RTwp_loop rfl (fun vs => vs = []) (fun _ => 0) rfl ?_
    rintro vs - rfl
    simp [Kern.cells, he]
def great6 (l : Lay) : Bool := (l.exits.take 31).any (fun e => decide (20 < e.over.length)) || (decide (40 < l.secs.length) || (decide (30 < l.sigs.length) || (decide (30 < l.exits.length) || decide (40 < l.flanks.length))))
theorem c_r06_Great (l : Lay) : C f_lockbarref06_Great [l.av] (.bool (great6 l)) := by
  refine ctr l.cells run_lockbarref06_Great rfl (by simp) rfl ?_ rfl
  unfold rt_lockbarref06_Great
  simp [Lay.cells]
  refine RTwp_loop rfl (fun vs => ∃ j : Nat, j ≤ l.exits.length ∧ j ≤ 31 ∧ vs = [I j] ∧ NoneIn (fun e => decide (20 < e.over.length)) (l.exits.take j)) (fun vs => match vs with | [.int _ j] => 32 - j.toNat | _ => 0) ⟨0, by omega, by omega, by simp, rfl⟩ ?_
  rintro vs - ⟨i, hi, hi2, rfl, hq⟩
  simp
  refine ⟨fun hlt hle => ?_, fun hstop => ?_⟩
  · have hw := wrap_succ (i := i) (by omega)
    simp [hlt, Exi.cells, hw]
    by_cases hb : 20 < l.exits[i].over.length
    · right
      refine ⟨by omega, ?_⟩
      have : (l.exits.take 31).any (fun e => decide (20 < e.over.length)) = true := List.any_eq_true.2 ⟨l.exits[i], List.mem_take_iff_getElem.2 ⟨i, by omega, rfl⟩, by simpa using hb⟩
      simp [great6, this]
    · left
      exact ⟨by omega, ⟨i + 1, by omega, by omega, by omega, any_step hlt hq (by simpa using hb)⟩, by omega⟩
  · have : (l.exits.take 31).any (fun e => decide (20 < e.over.length)) = false := by
      by_cases hl : i < l.exits.length
      · have := hstop hl
        have : i = 31 := by omega
        subst this; exact hq
      · rw [List.take_of_length_le (show l.exits.length ≤ i by omega)] at hq
        refine List.any_eq_false.2 fun x hx => ?_
        exact List.any_eq_false.1 hq x (List.mem_of_mem_take hx)
    have e1 : decide (40 < (l.secs.length : Int)) = decide (40 < l.secs.length) := decide_eq_decide.2 (by omega)
    have e2 : decide (30 < (l.sigs.length : Int)) = decide (30 < l.sigs.length) := decide_eq_decide.2 (by omega)
    have e3 : decide (30 < (l.exits.length : Int)) = decide (30 < l.exits.length) := decide_eq_decide.2 (by omega)
    have e4 : decide (40 < (l.flanks.length : Int)) = decide (40 < l.flanks.length) := decide_eq_decide.2 (by omega)
    simp [great6, this, e1, e2, e3, e4, Bool.or_assoc]
theorem small6 {l : Lay} (h : great6 l = false) : l.secs.length ≤ 40 ∧ l.sigs.length ≤ 30 ∧ l.exits.length ≤ 30 ∧ l.flanks.length ≤ 40 ∧ ∀ e ∈ l.exits, e.over.length ≤ 20 := by
  simp only [great6, Bool.or_eq_false_iff, decide_eq_false_iff_not] at h
  obtain ⟨h1, h2, h3, h4, h5⟩ := h
  refine ⟨by omega, by omega, by omega, by omega, fun e he => ?_⟩
  rw [List.take_of_length_le (by omega)] at h1
  have := List.any_eq_false.1 h1 e he
  simp at this; omega
end Go.Lb.LK

namespace Go.Lb.LK
open Go Go.Lb Go.Proofs Go.RowKit

theorem right_facts {h : Hd} (hr : rightS h = true) : h.g1 ∧ h.g2 ∧ clashN h.needs h.needs = false ∧ h.wasOk = true ∧ h.secs.Nodup ∧ h.needs.all (needOk h.path.steps.length) = true := by
  simp only [rightS, Bool.and_eq_true, decide_eq_true_eq, Bool.not_eq_true'] at hr
  exact ⟨hr.1, hr.2.1, hr.2.2.1, hr.2.2.2.1, hr.2.2.2.2.1, hr.2.2.2.2.2⟩
theorem was_cell (h : Hd) (k : Nat) (hk : k < 12) : (h.cells[k * 1 + 8]?).getD .undef = .bool (h.was k) := by
  rw [Nat.mul_one, ← List.getD_eq_getElem?_getD]; exact was_get h hk _
theorem not_nodup_of {l : List Int} {i j : Nat} (hij : i < j) (hj : j < l.length) (he : l[i] = l[j]) : ¬ l.Nodup := by
  intro hn
  have := List.pairwise_iff_getElem.1 hn i j (by omega) hj hij
  exact this he
theorem nodup_step {l : List Int} {k : Nat} (hk : k < l.length) (hn : (l.take k).Nodup) (hi : ∀ i, (h : i < k) → l[i] ≠ l[k]) : (l.take (k + 1)).Nodup := by
  rw [List.take_add_one, List.getElem?_eq_getElem hk]
  simp only [Option.toList_some]
  rw [List.nodup_append]
  refine ⟨hn, by simp, ?_⟩
  intro a ha b hb
  simp at hb; subst hb
  obtain ⟨i, hi2, rfl⟩ := List.mem_iff_getElem.1 ha
  rw [List.length_take] at hi2
  rw [List.getElem_take]
  exact hi i (by omega)
theorem c_r17Right (h : Hd) (hl : h.len) (hs : 0 ≤ h.stage ∧ h.stage ≤ 255) : C f_lockbarref17_Right [h.av] (.bool (rightS h)) := by
  obtain ⟨l1, l2, l3⟩ := hl
  refine ctr h.cells run_lockbarref17_Right rfl (by simp) rfl ?_ rfl
  unfold rt_lockbarref17_Right
  simp [Hd.cells]
  refine callIf (avs := [needs h.needs, needs h.needs]) (.bool (clashN h.needs h.needs)) rfl (fun _ => ⟨by simp, c_r17clash _ _ (by omega) (by omega)⟩) (by simp) ?_
  by_cases g1 : h.g1 ∧ h.g2
  · have g1' := g1.1
    have g2' := g1.2
    obtain ⟨⟨a1, a2, a3, a4, a5, a6, a7⟩, d1, d2, d3, d4⟩ := g1
    have b1 : ¬ h.id < 1 := by omega
    have b2 : ¬ 1073741824 < h.id := by omega
    have b2' : ¬ 1073741824 < h.timer := by omega
    have b3 : ¬ h.timer < 0 := by omega
    have b4 : ¬ ((h.path.steps.length : Int) < 1) := by omega
    have b5 : ¬ (12 < (h.path.steps.length : Int)) := by omega
    have b6 : ¬ (2 < (h.over.length : Int)) := by omega
    have e1 : ¬ h.stage < 1 := by omega
    have e2 : ¬ 5 ≤ h.stage := by omega
    have e3 : ¬ h.gone < 0 := by omega
    have e4 : ¬ (h.path.steps.length : Int) < h.gone := by omega
    simp [b1, b2, b2', b3, b4, b5, b6, e1, e2, e3, e4]
    refine ⟨fun hc => by simp [rightS, hc], fun hc => ⟨fun a _ => by simp [Step.cells], by omega, fun a _ => by simp [Step.cells], by omega, ?_⟩⟩
    have hsecs : h.secs = (h.path.steps ++ h.over).map (·.s) := rfl
    have hlen : (h.path.steps ++ h.over).length = h.path.steps.length + h.over.length := by simp
    generalize hall : h.path.steps ++ h.over = all at hsecs hlen
    have hmap : List.map Step.av h.path.steps ++ List.map Step.av h.over = all.map Step.av := by rw [← hall, List.map_append]
    refine RTwp_loop rfl (fun vs => ∃ k : Nat, k ≤ all.length ∧ vs = [I k] ∧ ((all.map (·.s)).take k).Nodup) (fun vs => match vs with | [.int _ j] => all.length - j.toNat | _ => 0) ⟨0, by simp, by simp, by simp⟩ ?_
    rintro vs - ⟨k, hk, rfl, hnd⟩
    simp [hmap, ← hlen]
    refine ⟨fun hlt => ?_, fun hge => ?_⟩
    · have hltm : k < (all.map (·.s)).length := by simpa using hlt
      refine RTwp_loop rfl (fun vs => ∃ j : Nat, j ≤ k ∧ vs = [I j] ∧ ∀ i, i < j → ∀ x, all[i]? = some x → ¬ x.s = all[k].s) (fun vs => match vs with | [.int _ j] => k - j.toNat | _ => 0) ⟨0, by simp, by simp, by simp⟩ ?_
      rintro vs - ⟨j, hj, rfl, hne⟩
      simp [hmap]
      refine ⟨fun hjk => ?_, fun hjk => ?_⟩
      · have hja : j < all.length := by omega
        have hwr := wrap_succ (i := j) (by omega)
        simp [hlt, hja, Step.cells, hwr]
        refine ⟨by omega, by omega, ?_⟩
        by_cases he : all[j].s = all[k].s
        · right
          refine ⟨he, ?_⟩
          have : ¬ h.secs.Nodup := by
            rw [hsecs]
            exact not_nodup_of (i := j) (j := k) (by omega) (by simpa using hlt) (by simpa using he)
          simp [rightS, this]
        · left
          refine ⟨he, ⟨j + 1, by omega, by omega, fun i hi x hx => ?_⟩, by omega⟩
          by_cases hij : i = j
          · subst hij
            rw [List.getElem?_eq_getElem hja] at hx
            cases hx; exact he
          · exact hne i (by omega) x hx
      · have hwr := wrap_succ (i := k) (by omega)
        have hjk2 : j = k := by omega
        subst hjk2
        simp [hwr]
        refine ⟨⟨j + 1, by omega, by omega, ?_⟩, by omega⟩
        have := nodup_step hltm hnd (fun i hi he => hne i hi all[i] (List.getElem?_eq_getElem (by omega)) (by simpa using he))
        simpa using this
    · have hta : (all.map (·.s)).take k = all.map (·.s) := List.take_of_length_le (by simp; omega)
      rw [hta] at hnd
      have hno : h.secs.Nodup := by rw [hsecs]; exact hnd
      refine RTwp_loop rfl (fun vs => ∃ k : Nat, h.path.steps.length ≤ k ∧ k ≤ 12 ∧ vs = [I k] ∧ ∀ m, h.path.steps.length ≤ m → m < k → h.was m = false) (fun vs => match vs with | [.int _ j] => 12 - j.toNat | _ => 0) ⟨h.path.steps.length, by simp, by omega, by simp, fun m h1 h2 => by omega⟩ ?_
      rintro vs - ⟨m, hm1, hm2, rfl, hwm⟩
      simp
      refine ⟨fun hlt => ?_, fun hge => ?_⟩
      · have hlt2 : m < 12 := by omega
        have hwr := wrap_succ (i := m) (by omega)
        have hc2 := was_cell h m hlt2
        simp only [Hd.cells] at hc2
        simp at hc2
        simp [hc2, hwr]
        refine ⟨by omega, by omega, ?_⟩
        cases hw : h.was m
        · left
          refine ⟨rfl, ⟨m + 1, by omega, by omega, by omega, fun i h1 h2 => ?_⟩, by omega⟩
          by_cases him : i = m
          · subst him; exact hw
          · exact hwm i h1 (by omega)
        · right
          refine ⟨rfl, ?_⟩
          have : h.wasOk = false := by
            unfold Hd.wasOk
            rw [List.all_eq_false]
            refine ⟨m, by simpa using hlt2, ?_⟩
            simp [hw]; omega
          simp [rightS, this]
      · have hwo : h.wasOk = true := by
          unfold Hd.wasOk
          rw [List.all_eq_true]
          intro i hi
          simp only [List.mem_range] at hi
          by_cases hin : i < h.path.steps.length
          · simp [hin]
          · rw [hwm i (by omega) (by omega)]; simp
        have hr : rightS h = h.needs.all (needOk h.path.steps.length) := by simp [rightS, g1', g2', hc, hwo, hno]
        rw [hr]
        refine RTwp_loop rfl (fun vs => ∃ i : Nat, i ≤ h.needs.length ∧ vs = [I i] ∧ NoneIn (fun x => !needOk h.path.steps.length x) (h.needs.take i)) (fun vs => match vs with | [.int _ j] => h.needs.length - j.toNat | _ => 0) ⟨0, by simp, by simp, rfl⟩ ?_
        rintro vs - ⟨i, hi, rfl, hq⟩
        simp
        refine ⟨fun hlt => ?_, fun hge => ?_⟩
        · have hwr := wrap_succ (i := i) (by omega)
          simp [hlt, Need.cells, hwr]
          cases hok : needOk h.path.steps.length h.needs[i]
          · right
            refine ⟨?_, h.needs[i], List.getElem_mem hlt, hok⟩
            simp only [needOk, decide_eq_false_iff_not] at hok
            omega
          · left
            have hok2 := hok
            simp only [needOk, decide_eq_true_eq] at hok2
            exact ⟨by omega, ⟨i + 1, by omega, by omega, any_step hlt hq (by simp [hok])⟩, by omega⟩
        · have : h.needs.take i = h.needs := List.take_of_length_le (by omega)
          rw [this] at hq
          unfold NoneIn at hq
          simp at hq
          exact fun x hx => hq x hx
  · have hr : rightS h = false := by
      simp only [rightS]
      by_cases hg : h.g1
      · have : ¬ h.g2 := fun h2 => g1 ⟨hg, h2⟩
        simp [this]
      · simp [hg]
    rw [hr]
    simp
    intro q1 q2 q3 q4 q5 q6 q7 q8 q9 q10 q11 q12
    exfalso
    apply g1
    unfold Hd.g1 Hd.g2
    omega
end Go.Lb.LK

namespace Go.Lb.LK
open Go Go.Lb Go.Proofs Go.RowKit

def lastId (k : Kern) (i : Nat) : Int := if i = 0 then 0 else (k.held[i - 1]?.map (·.id)).getD 0
def okAt (k : Kern) (i : Nat) : Bool := match k.held[i]? with
  | some h => rightS h && (decide (h.id < k.next) && (decide (lastId k i < h.id) && (k.held.take i).all (apartS h)))
  | none => true
def machAll (k : Kern) : Bool := (List.range 24).all fun i => machOk (k.mach i)
def rightK (k : Kern) : Bool := decide (k.held.length ≤ 6 ∧ 1 ≤ k.next ∧ k.next ≤ 1073741824) && ((List.range k.held.length).all (okAt k) && machAll k)
theorem okAt_lt {k : Kern} {i : Nat} (h : i < k.held.length) : okAt k i = (rightS k.held[i] && (decide (k.held[i].id < k.next) && (decide (lastId k i < k.held[i].id) && (k.held.take i).all (apartS k.held[i])))) := by
  simp only [okAt, List.getElem?_eq_getElem h]
theorem rightK_bad {k : Kern} {i : Nat} (h : i < k.held.length) (hb : okAt k i = false) : rightK k = false := by
  have : (List.range k.held.length).all (okAt k) = false := by
    rw [List.all_eq_false]
    exact ⟨i, List.mem_range.2 h, by rw [hb]; simp⟩
  simp [rightK, this]
theorem lastId_succ {k : Kern} {i : Nat} (h : i < k.held.length) : lastId k (i + 1) = k.held[i].id := by
  simp [lastId, List.getElem?_eq_getElem h]
theorem aidxM (k : Kern) {i : Nat} {z : Int} (hz : z = i) (h : i < 24) : pv (.aidx 24 3 0 3 true) [.agg (mcells k.want k.run k.fail), I z] = (k.mach i).av := by
  subst hz
  match i, h with
  | 0, _ => rfl
  | 1, _ => rfl
  | 2, _ => rfl
  | 3, _ => rfl
  | 4, _ => rfl
  | 5, _ => rfl
  | 6, _ => rfl
  | 7, _ => rfl
  | 8, _ => rfl
  | 9, _ => rfl
  | 10, _ => rfl
  | 11, _ => rfl
  | 12, _ => rfl
  | 13, _ => rfl
  | 14, _ => rfl
  | 15, _ => rfl
  | 16, _ => rfl
  | 17, _ => rfl
  | 18, _ => rfl
  | 19, _ => rfl
  | 20, _ => rfl
  | 21, _ => rfl
  | 22, _ => rfl
  | 23, _ => rfl
  | n + 24, h => exact absurd h (by omega)
theorem aidxK (k : Kern) {i : Nat} {z : Int} (hz : z = i) (h : i < 24) : pv (.aidx 24 3 2 3 true) [.agg k.cells, I z] = (k.mach i).av := by
  subst hz
  match i, h with
  | 0, _ => rfl
  | 1, _ => rfl
  | 2, _ => rfl
  | 3, _ => rfl
  | 4, _ => rfl
  | 5, _ => rfl
  | 6, _ => rfl
  | 7, _ => rfl
  | 8, _ => rfl
  | 9, _ => rfl
  | 10, _ => rfl
  | 11, _ => rfl
  | 12, _ => rfl
  | 13, _ => rfl
  | 14, _ => rfl
  | 15, _ => rfl
  | 16, _ => rfl
  | 17, _ => rfl
  | 18, _ => rfl
  | 19, _ => rfl
  | 20, _ => rfl
  | 21, _ => rfl
  | 22, _ => rfl
  | 23, _ => rfl
  | n + 24, h => exact absurd h (by omega)
theorem range_hit {q : Nat → Bool} {n i : Nat} (h : i < n) (hb : q i = false) : (List.range n).all q = false := by
  rw [List.all_eq_false]
  exact ⟨i, List.mem_range.2 h, by rw [hb]; simp⟩
theorem range_all {q : Nat → Bool} {n : Nat} (h : ∀ i, i < n → q i = true) : (List.range n).all q = true := by
  rw [List.all_eq_true]
  exact fun i hi => h i (List.mem_range.1 hi)
set_option maxHeartbeats 2000000 in
theorem c_r18Right (k : Kern) (hl : k.len) (hk : k.ok) : C f_lockbarref18_Right [k.av] (.bool (rightK k)) := by
  have h1 := hl.1
  refine ctr k.cells run_lockbarref18_Right rfl (by simp) rfl ?_ rfl
  unfold rt_lockbarref18_Right
  simp [Kern.cells, -pv_aidx]
  refine ⟨fun hb => ?_, fun a1 a2 a3 => ?_⟩
  · have hg : ¬ (k.held.length ≤ 6 ∧ 1 ≤ k.next ∧ k.next ≤ 1073741824) := by omega
    simp only [rightK]; rw [decide_eq_false hg]; rfl
  · have hg : k.held.length ≤ 6 ∧ 1 ≤ k.next ∧ k.next ≤ 1073741824 := by omega
    refine RTwp_loop rfl (fun vs => ∃ i : Nat, i ≤ k.held.length ∧ vs = [I i] ∧ ∀ j, j < i → okAt k j = true) (fun vs => match vs with | [.int _ j] => k.held.length - j.toNat | _ => 0) ⟨0, by omega, by simp, fun j hj => by omega⟩ ?_
    rintro vs - ⟨i, hi, rfl, hq⟩
    simp [-pv_aidx]
    refine ⟨fun hlt => ?_, fun hge => ?_⟩
    · have hw := wrap_succ (i := i) (by omega)
      have hok := okAt_lt hlt
      simp [hlt, Hd.cells, -pv_aidx]
      refine call (c_r17Right k.held[i] (k.at hl hlt) (hk _ (List.getElem_mem hlt))) (by simp [hlt, Hd.cells]) (by simp) ?_
      by_cases hi0 : 0 < i
      · have hw0 : IntKind.i64.wrap ((i : Int) - 1) = (i : Int) - 1 := by rw [wrap_i] <;> omega
        have hlast : lastId k i = k.held[i - 1].id := by
          simp [lastId, show ¬ i = 0 by omega, List.getElem?_eq_getElem (show i - 1 < k.held.length by omega)]
        have hi1 : ((i : Int) - 1).toNat = i - 1 := by omega
        simp [hlt, hi0, hw0, hi1, Hd.cells, show i - 1 < k.held.length by omega, -pv_aidx]
        refine And.intro (by intros; omega) ?_
        refine ⟨fun hb => ?_, fun hr hn hli => ?_⟩
        · refine rightK_bad hlt ?_
          rw [hok, hlast]
          rcases hb with (hb | hb) | hb
          · simp [hb]
          · simp [show ¬ k.held[i].id < k.next by omega]
          · simp [show ¬ k.held[i - 1].id < k.held[i].id by omega]
        · rw [← hlast] at hli
          refine RTwp_loop rfl (fun vs => ∃ j : Nat, j ≤ i ∧ vs = [I j] ∧ NoneIn (fun o => !apartS k.held[i] o) (k.held.take j)) (fun vs => match vs with | [.int _ j] => i - j.toNat | _ => 0) ⟨0, by omega, by simp, rfl⟩ ?_
          rintro vs - ⟨j, hj, rfl, hp⟩
          simp [-pv_aidx]
          refine ⟨fun hlt2 => ?_, fun hge2 => ?_⟩
          · have hj2 : j < k.held.length := by omega
            have hwj := wrap_succ (i := j) (by omega)
            simp [hlt, hj2, Hd.cells, -pv_aidx]
            refine call (c_r17Apart k.held[i] k.held[j] (k.at hl hlt) (k.at hl hj2)) (by simp [hlt, hj2, Hd.cells]) (by simp) ?_
            cases ha : apartS k.held[i] k.held[j]
            · have hb : rightK k = false := by
                refine rightK_bad hlt ?_
                rw [hok]
                have : (k.held.take i).all (apartS k.held[i]) = false := by
                  rw [List.all_eq_false]
                  exact ⟨k.held[j], List.mem_take_iff_getElem.2 ⟨j, by omega, rfl⟩, by rw [ha]; simp⟩
                rw [this]; simp
              simp [hb, -pv_aidx]
            · simp [hwj, -pv_aidx]
              exact ⟨⟨j + 1, by omega, by omega, any_step hj2 hp (by simp [ha])⟩, by omega⟩
          · have hji : j = i := by omega
            subst hji
            have hall : (k.held.take j).all (apartS k.held[j]) = true := by
              rw [List.all_eq_true]
              intro x hx
              have := List.any_eq_false.1 hp x hx
              simpa using this
            have hokj : okAt k j = true := by rw [hok, hr, hall, decide_eq_true hn, decide_eq_true hli]; rfl
            simp [hlt, hw, Hd.cells, -pv_aidx]
            refine ⟨⟨j + 1, by omega, by omega, fun m hm => ?_⟩, by omega⟩
            by_cases hmj : m = j
            · subst hmj; exact hokj
            · exact hq m (by omega)
      · have hi0' : i = 0 := by omega
        have hlast : lastId k i = 0 := by simp [lastId, hi0']
        simp [hlt, hi0, Hd.cells, -pv_aidx]
        refine ⟨fun hb => ?_, fun hr hn => ?_⟩
        · refine rightK_bad hlt ?_
          rw [hok]
          rcases hb with hb | hb
          · simp [hb]
          · simp [show ¬ k.held[i].id < k.next by omega]
        · have hli : lastId k i < k.held[i].id := by
            rw [hlast]
            obtain ⟨⟨q1, _⟩, _⟩ := right_facts hr
            omega
          refine RTwp_loop rfl (fun vs => ∃ j : Nat, j ≤ i ∧ vs = [I j] ∧ NoneIn (fun o => !apartS k.held[i] o) (k.held.take j)) (fun vs => match vs with | [.int _ j] => i - j.toNat | _ => 0) ⟨0, by omega, by simp, rfl⟩ ?_
          rintro vs - ⟨j, hj, rfl, hp⟩
          simp [-pv_aidx]
          refine ⟨fun hlt2 => ?_, fun hge2 => ?_⟩
          · have hj2 : j < k.held.length := by omega
            have hwj := wrap_succ (i := j) (by omega)
            simp [hlt, hj2, Hd.cells, -pv_aidx]
            refine call (c_r17Apart k.held[i] k.held[j] (k.at hl hlt) (k.at hl hj2)) (by simp [hlt, hj2, Hd.cells]) (by simp) ?_
            cases ha : apartS k.held[i] k.held[j]
            · have hb : rightK k = false := by
                refine rightK_bad hlt ?_
                rw [hok]
                have : (k.held.take i).all (apartS k.held[i]) = false := by
                  rw [List.all_eq_false]
                  exact ⟨k.held[j], List.mem_take_iff_getElem.2 ⟨j, by omega, rfl⟩, by rw [ha]; simp⟩
                rw [this]; simp
              simp [hb, -pv_aidx]
            · simp [hwj, -pv_aidx]
              exact ⟨⟨j + 1, by omega, by omega, any_step hj2 hp (by simp [ha])⟩, by omega⟩
          · have hji : j = i := by omega
            subst hji
            have hall : (k.held.take j).all (apartS k.held[j]) = true := by
              rw [List.all_eq_true]
              intro x hx
              have := List.any_eq_false.1 hp x hx
              simpa using this
            have hokj : okAt k j = true := by rw [hok, hr, hall, decide_eq_true hn, decide_eq_true hli]; rfl
            simp [hlt, hw, Hd.cells, -pv_aidx]
            refine ⟨⟨j + 1, by omega, by omega, fun m hm => ?_⟩, by omega⟩
            by_cases hmj : m = j
            · subst hmj; exact hokj
            · exact hq m (by omega)
    · have hA : (List.range k.held.length).all (okAt k) = true := range_all fun j hj => hq j (by omega)
      refine RTwp_loop rfl (fun vs => ∃ m : Nat, m ≤ 24 ∧ vs = [I m] ∧ ∀ j, j < m → machOk (k.mach j) = true) (fun vs => match vs with | [.int _ j] => 24 - j.toNat | _ => 0) ⟨0, by omega, by simp, fun j hj => by omega⟩ ?_
      rintro vs - ⟨m, hm, rfl, hqm⟩
      simp [-pv_aidx]
      refine ⟨fun hlt => ?_, fun hge => ?_⟩
      · have hm24 : m < 24 := by omega
        have hw := wrap_succ (i := m) (by omega)
        have hMM := aidxK k (i := m) (z := (m : Int)) rfl hm24
        simp only [Kern.cells] at hMM
        skip
        repeat refine And.intro (by omega) ?_
        refine call (c_r16Right (k.mach m)) (by simp [hMM, Mach.cells, -pv_aidx]) (by simp) ?_
        cases hmo : machOk (k.mach m)
        · have : rightK k = false := by
            have : machAll k = false := range_hit hm24 hmo
            simp [rightK, this]
          simp [this, -pv_aidx]
        · simp [hw, -pv_aidx]
          refine ⟨⟨m + 1, by omega, by omega, fun j hj => ?_⟩, by omega⟩
          by_cases hjm : j = m
          · subst hjm; exact hmo
          · exact hqm j (by omega)
      · have hmall : machAll k = true := range_all fun j hj => hqm j (by omega)
        have : rightK k = true := by simp only [rightK, hA, hmall]; rw [decide_eq_true hg]; rfl
        simp [this, -pv_aidx]
end Go.Lb.LK

namespace Go.Lb.LK
open Go Go.Lb Go.Proofs Go.RowKit

set_option maxHeartbeats 2000000 in
theorem c_free_Right (k : Kern) (hl : k.len) (hk : k.ok) : C f_free_Right [k.av] (.bool (rightK k)) := by
  have h1 := hl.1
  refine ctr k.cells run_free_Right rfl (by simp) rfl ?_ rfl
  unfold rt_free_Right
  simp [Kern.cells, -pv_aidx]
  refine ⟨fun hb => ?_, fun a1 a2 a3 => ?_⟩
  · have hg : ¬ (k.held.length ≤ 6 ∧ 1 ≤ k.next ∧ k.next ≤ 1073741824) := by omega
    simp only [rightK]; rw [decide_eq_false hg]; rfl
  · have hg : k.held.length ≤ 6 ∧ 1 ≤ k.next ∧ k.next ≤ 1073741824 := by omega
    refine RTwp_loop rfl (fun vs => ∃ i : Nat, i ≤ k.held.length ∧ vs = [I (lastId k i), I i] ∧ ∀ j, j < i → okAt k j = true) (fun vs => match vs with | [_, .int _ j] => k.held.length - j.toNat | _ => 0) ⟨0, by omega, by simp [lastId], fun j hj => by omega⟩ ?_
    rintro vs - ⟨i, hi, rfl, hq⟩
    simp [-pv_aidx]
    refine ⟨fun hlt => ?_, fun hge => ?_⟩
    · have hw := wrap_succ (i := i) (by omega)
      have hok := okAt_lt hlt
      have hsucc := lastId_succ hlt
      simp [hlt, Hd.cells, -pv_aidx]
      refine call (c_held_Right k.held[i] (k.at hl hlt) (hk _ (List.getElem_mem hlt))) (by simp [hlt, Hd.cells]) (by simp) ?_
      simp [hlt, Hd.cells, -pv_aidx]
      refine And.intro (fun _ _ _ => by omega) ?_
      refine ⟨fun hb => ?_, fun hr hli hn => ?_⟩
      · refine rightK_bad hlt ?_
        rw [hok]
        rcases hb with (hb | hb) | hb
        · simp [hb]
        · simp [show ¬ lastId k i < k.held[i].id by omega]
        · simp [show ¬ k.held[i].id < k.next by omega]
      · refine RTwp_loop rfl (fun vs => ∃ j : Nat, j ≤ i ∧ vs = [I j] ∧ NoneIn (fun o => !apartS k.held[i] o) (k.held.take j)) (fun vs => match vs with | [.int _ j] => i - j.toNat | _ => 0) ⟨0, by omega, by simp, rfl⟩ ?_
        rintro vs - ⟨j, hj, rfl, hp⟩
        simp [-pv_aidx]
        refine ⟨fun hlt2 => ?_, fun hge2 => ?_⟩
        · have hj2 : j < k.held.length := by omega
          have hwj := wrap_succ (i := j) (by omega)
          simp [hlt, hj2, hlt2, Hd.cells, -pv_aidx]
          refine call (c_held_Apart k.held[i] k.held[j] (k.at hl hlt) (k.at hl hj2)) (by simp [hlt, hj2, hlt2, Hd.cells]) (by simp) ?_
          cases ha : apartS k.held[i] k.held[j]
          · have hb : rightK k = false := by
              refine rightK_bad hlt ?_
              rw [hok]
              have : (k.held.take i).all (apartS k.held[i]) = false := by
                rw [List.all_eq_false]
                exact ⟨k.held[j], List.mem_take_iff_getElem.2 ⟨j, by omega, rfl⟩, by rw [ha]; simp⟩
              rw [this]; simp
            simp [hb, -pv_aidx]
          · simp [hwj, -pv_aidx]
            exact ⟨⟨j + 1, by omega, by omega, any_step hj2 hp (by simp [ha])⟩, by omega⟩
        · have hji : j = i := by omega
          subst hji
          have hall : (k.held.take j).all (apartS k.held[j]) = true := by
            rw [List.all_eq_true]
            intro x hx
            have := List.any_eq_false.1 hp x hx
            simpa using this
          have hokj : okAt k j = true := by rw [hok, hr, hall, decide_eq_true hn, decide_eq_true hli]; rfl
          simp [hlt, hw, Hd.cells, -pv_aidx]
          refine ⟨⟨j + 1, by omega, ⟨hsucc.symm, by omega⟩, fun m hm => ?_⟩, by omega⟩
          by_cases hmj : m = j
          · subst hmj; exact hokj
          · exact hq m (by omega)
    · have hA : (List.range k.held.length).all (okAt k) = true := range_all fun j hj => hq j (by omega)
      refine RTwp_loop rfl (fun vs => ∃ m : Nat, m ≤ 24 ∧ vs = [I m] ∧ ∀ j, j < m → machOk (k.mach j) = true) (fun vs => match vs with | [.int _ j] => 24 - j.toNat | _ => 0) ⟨0, by omega, by simp, fun j hj => by omega⟩ ?_
      rintro vs - ⟨m, hm, rfl, hqm⟩
      simp [-pv_aidx]
      refine ⟨fun hlt => ?_, fun hge => ?_⟩
      · have hm24 : m < 24 := by omega
        have hw := wrap_succ (i := m) (by omega)
        have hMM := aidxM k (i := m) (z := (m : Int)) rfl hm24
        simp only [mcells] at hMM
        simp [hMM, Mach.cells, -pv_aidx]
        repeat refine And.intro (by omega) ?_
        refine call (c_point_Right (k.mach m)) (by simp [hMM, Mach.cells, -pv_aidx]) (by simp) ?_
        cases hmo : machOk (k.mach m)
        · have : rightK k = false := by
            have : machAll k = false := range_hit hm24 hmo
            simp [rightK, this]
          simp [this, -pv_aidx]
        · simp [hw, -pv_aidx]
          refine ⟨⟨m + 1, by omega, by omega, fun j hj => ?_⟩, by omega⟩
          by_cases hjm : j = m
          · subst hjm; exact hmo
          · exact hqm j (by omega)
      · have hmall : machAll k = true := range_all fun j hj => hqm j (by omega)
        have : rightK k = true := by simp only [rightK, hA, hmall]; rw [decide_eq_true hg]; rfl
        simp [this, -pv_aidx]
end Go.Lb.LK
