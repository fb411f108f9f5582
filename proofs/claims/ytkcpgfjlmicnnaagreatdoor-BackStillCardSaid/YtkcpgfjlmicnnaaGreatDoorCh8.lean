/- Routes that are cancelled, as the program has it. -/
/- A kernel: in memory of its own, the same, which may be. -/
/- Kernels that are the same; a kernel in memory of its own. -/
/- Three plain sections in a row, a route in two of them: the values. -/
/- Three plain sections in a row, a route in two of them: the walk. -/
/- What functions come to, printed by a program, checked by the kernel. -/
/- Trains in it, and in rear, routes that are cancelled, ticks. -/
/- What functions come to, printed by a program, checked by the kernel. -/
/- A tick of a route in another stage, or with an image that is stale, changes nothing; of one in HtBack, in which no train is told, Timer alone; with one it runs. -/
import Derived.Test.YtkcpgfjlmicnnaaGreatDoorCh7
import Derived.Test.YtkcpgfjlmicnnaaGreatDoorCh6
import Derived.Test.YtkcpgfjlmicnnaaGreatDoorCh1
set_option linter.unusedSimpArgs false
set_option linter.unusedVariables false
namespace Go.Lb.LK
open Go Go.Lb Go.Proofs Go.RowKit

def comesN (l : Lay) (im : Img) (h : Hd) : Int := if h.stage = 1 then 1 else if h.stage = 2 then comes2 l im h else if h.stage = 3 then comes3 l im h else 0
def atK (k : Kern) (x : Int) : Int := atU k.held x k.held.length
def cancelAt (l : Lay) (im : Img) (k : Kern) (m : Nat) (h : Hd) : Kern × Bool :=
  if comesN l im h = 1 then ({ k with held := k.held.take m ++ k.held.drop (m + 1) }, true)
  else if comesN l im h = 2 then ({ k with held := k.held.set m { h with stage := 4, timer := l.approach } }, true)
  else (k, false)
def cancelN (l : Lay) (im : Img) (k : Kern) (x : Int) : Kern × Bool :=
  if atK k x < 0 then (k, false) else match k.held[(atK k x).toNat]? with
  | some h => cancelAt l im k (atK k x).toNat h
  | none => (k, false)
abbrev kB (x : Kern × Bool) : AV := .tup [x.1.av, .bool x.2]
theorem lik (l : Lay) (im : Img) (k : Kern) (x : Int) : AV.pureAll (l.cells ++ im.cells ++ k.cells ++ [I x]) = true := by simp [pureAll_append, AV.pureAll, AV.pure]
set_option maxHeartbeats 1000000 in
theorem c_back_Cancel (l : Lay) (hl : l.ok) (im : Img) (hi0 : im.ok) (k : Kern) (hk : k.len) (x : Int) : C f_back_Cancel [l.av, im.av, k.av, I x] (kB (cancelN l im k x)) := by
  have h1 := hk.1
  refine ctr (l.cells ++ im.cells ++ k.cells ++ [I x]) run_back_Cancel rfl (lik l im k x) (by simp [AV.pure, AV.pureAll]) ?_ rfl
  unfold rt_back_Cancel
  simp [Lay.cells, Img.cells, Kern.cells]
  refine ⟨⟨fun a _ => a.one, by omega, ?_⟩, fun he => ?_⟩
  · refine RTwp_loop rfl (fun vs => ∃ i : Nat, i ≤ k.held.length ∧ vs = [I i, helds k.held]) (fun vs => match vs with | [.int _ j, _] => k.held.length - j.toNat | _ => 0) ⟨0, by omega, by simp⟩ ?_
    rintro vs - ⟨i, hi2, rfl⟩
    simp
    refine ⟨fun hlt => ?_, fun hge => ?_⟩
    · have hw := wrap_succ (i := i) (by omega)
      simp [hlt, Hd.cells]
      refine call (c_held_Own k.held[i] (k.at hk hlt)) (by simp [hlt, Hd.cells]) (by simp) ?_
      simp [hlt, Hd.cells, hw]
      refine ⟨⟨i + 1, by omega, by omega, ?_⟩, by omega⟩
      exact set_self k.held hlt
    · refine RTwp_loop rfl (fun vs => ∃ i : Nat, i ≤ k.held.length ∧ vs = [I (atU k.held x i), I i]) (fun vs => match vs with | [_, .int _ j] => k.held.length - j.toNat | _ => 0) ⟨0, by omega, by simp [atU]⟩ ?_
      rintro vs - ⟨i, hi, rfl⟩
      by_cases hlt : i < k.held.length
      · have hw := wrap_succ (i := i) (by omega)
        have hst := atU_step (x := x) hlt
        have hgo : ∀ z : Int, atU k.held x (i + 1) = z → ∃ i_1 : Nat, i_1 ≤ k.held.length ∧ [I z, I ((i + 1 : Nat) : Int)] = [I (atU k.held x i_1), I i_1] := fun z h => ⟨i + 1, by omega, by rw [h]⟩
        rcases atU_rng k.held x i with ha | ⟨m, ha, hm, hml⟩
        · rw [ha] at hst ⊢
          simp [hlt, Hd.cells, hw]
          refine ⟨fun hc => ⟨⟨i + 1, by omega, by rw [hst, if_pos ⟨hc, .inl (by omega)⟩], rfl⟩, by omega⟩, fun hc => ⟨⟨i + 1, by omega, by rw [hst, if_neg (fun h => hc h.1)], rfl⟩, by omega⟩⟩
        · rw [ha] at hst ⊢
          rw [idAt_at hml] at hst
          simp [hlt, hml, Hd.cells, hw]
          refine ⟨fun _ => by omega, fun hc hd => ⟨⟨i + 1, by omega, by rw [hst, if_pos ⟨hc, hd⟩], rfl⟩, by omega⟩, fun hc => ⟨⟨i + 1, by omega, by rw [hst, if_neg (fun h => by have := hc h.1; have := h.2; omega)], rfl⟩, by omega⟩⟩
      · have : i = k.held.length := by omega
        subst this
        rcases atU_rng k.held x k.held.length with ha | ⟨m, ha, hm, hml⟩
        · have hcn : cancelN l im k x = (k, false) := by simp [cancelN, atK, ha]
          rw [ha, hcn]
          simp [Kern.cells]
        · have hcn : cancelN l im k x = cancelAt l im k m k.held[m] := by
            have : ¬ ((m : Int) < 0) := by omega
            simp [cancelN, atK, ha, this, List.getElem?_eq_getElem hml]
          have hm0 : ¬ ((m : Int) < 0) := by omega
          have hmb : (m : Int) < 4294967296 := by omega
          have hw := wrap_succ (i := m) (by omega)
          rw [ha, hcn]
          simp [hml, hm0, hmb, Hd.cells]
          by_cases s1 : k.held[m].stage = 1
          · simp [s1]
            refine call (c_comes1 k.held[m]) (by simp [hml, Hd.cells]) (by simp) ?_
            simp [hw, hml, cancelAt, comesN, s1, Kern.cells]
            exact ⟨fun a _ => a.one, by omega, by omega, by omega, by omega⟩
          · by_cases s2 : k.held[m].stage = 2
            · simp [s2]
              refine call (c_comes2 l hl im hi0 k.held[m]) (by simp [hml, Hd.cells, Lay.cells, Img.cells]) (fun _ => rfl) ?_
              cases hc : (k.held[m].shown && rearN l im k.held[m].path.sig)
              · simp [hw, hml, cancelAt, comesN, s2, comes2, hc, Kern.cells]
                exact ⟨fun a _ => a.one, by omega, by omega, by omega, by omega⟩
              · simp [hw, hml, hmb, cancelAt, comesN, s2, comes2, hc, Kern.cells]
                exact ⟨rfl, rfl, rfl⟩
            · by_cases s3 : k.held[m].stage = 3
              · simp [s3]
                refine call (c_comes3 l im hi0 k.held[m] (k.at hk hml)) (by simp [hml, Hd.cells, Lay.cells, Img.cells]) (fun _ => rfl) ?_
                cases hc : inN l im k.held[m]
                · simp [hw, hml, hmb, cancelAt, comesN, s3, comes3, hc, Kern.cells]
                  exact ⟨rfl, rfl, rfl⟩
                · simp [hw, hml, cancelAt, comesN, s3, comes3, hc, Kern.cells]
              · simp [s1, s2, s3, cancelAt, comesN, Kern.cells]
  · have hcn : cancelN l im k x = (k, false) := by simp [cancelN, atK, he, atU]
    rw [hcn]
    refine RTwp_loop rfl (fun vs => vs = []) (fun _ => 0) rfl ?_
    rintro vs - rfl
    simp
    refine RTwp_loop rfl (fun vs => vs = []) (fun _ => 0) rfl ?_
    rintro vs - rfl
    simp [Kern.cells, he]
theorem take_one {k : Kern} {m : Nat} : ∀ e ∈ (k.held.map Hd.av).take m, e.cells.length = 23 ∧ AV.ones e.cells = true := fun e he => by
  obtain ⟨h, _, rfl⟩ := List.mem_map.1 (List.mem_of_mem_take he)
  exact h.one
theorem drop_one {k : Kern} {m : Nat} : ∀ e ∈ (k.held.map Hd.av).drop m, e.cells.length = 23 ∧ AV.ones e.cells = true := fun e he => by
  obtain ⟨h, _, rfl⟩ := List.mem_map.1 (List.mem_of_mem_drop he)
  exact h.one
set_option maxHeartbeats 2000000 in
theorem c_r22Cancel (l : Lay) (im : Img) (hi0 : im.ok) (k : Kern) (hk : k.len) (x : Int) : C f_lockbarref22_Cancel [l.av, im.av, k.av, I x] (kB (cancelN l im k x)) := by
  have h1 := hk.1
  refine ctr (l.cells ++ im.cells ++ k.cells ++ [I x]) run_lockbarref22_Cancel rfl (lik l im k x) (by simp [AV.pure, AV.pureAll]) ?_ rfl
  unfold rt_lockbarref22_Cancel
  simp [Lay.cells, Img.cells, Kern.cells]
  refine RTwp_loop rfl (fun vs => ∃ i : Nat, i ≤ k.held.length ∧ vs = [I i, helds (k.held.take i)]) (fun vs => match vs with | [.int _ j, _] => k.held.length - j.toNat | _ => 0) ⟨0, by omega, by simp⟩ ?_
  rintro vs - ⟨i, hi, rfl⟩
  simp
  refine ⟨fun hlt => ?_, fun hge => ?_⟩
  · have hw := wrap_succ (i := i) (by omega)
    have hmt := map_take Hd.av k.held hlt
    simp [hlt, Hd.cells]
    refine call (c_r17Own k.held[i] (k.at hk hlt)) (by simp [hlt, Hd.cells]) (by simp) ?_
    simp [hw, Hd.cells]
    refine ⟨by omega, ⟨i + 1, by omega, by omega, ?_⟩, by omega⟩
    have e := hmt
    simp [Hd.cells] at e
    exact e.symm
  · have ht : k.held.take i = k.held := List.take_of_length_le (by omega)
    rw [ht]
    refine call (c_r22find k hk x) (by simp [Kern.cells]) (fun _ => rfl) ?_
    simp
    rcases atU_rng k.held x k.held.length with ha | ⟨m, ha, hm, hml⟩
    · have hcn : cancelN l im k x = (k, false) := by simp [cancelN, atK, ha]
      rw [ha, hcn]
      simp [Kern.cells]
    · have hcn : cancelN l im k x = cancelAt l im k m k.held[m] := by
        have : ¬ ((m : Int) < 0) := by omega
        simp [cancelN, atK, ha, this, List.getElem?_eq_getElem hml]
      have hm0 : ¬ ((m : Int) < 0) := by omega
      have hmb : (m : Int) < 4294967296 := by omega
      have hw := wrap_succ (i := m) (by omega)
      rw [ha, hcn]
      simp [hml, hm0, hmb, Hd.cells]
      have hsig : k.held[m].path.sig = x := atU_sig ha _ (List.getElem?_eq_getElem hml)
      subst hsig
      have hcut : m ≤ k.held.length ∧ (∀ e ∈ (k.held.map Hd.av).take m, e.cells.length = 23 ∧ AV.ones e.cells = true) ∧ min m k.held.length ≤ 4294967296 ∧ ((0 : Int) ≤ (m : Int) + 1 ∧ (m : Int) + 1 ≤ (k.held.length : Int)) ∧ (∀ e ∈ (k.held.map Hd.av).drop (m + 1), e.cells.length = 23 ∧ AV.ones e.cells = true) ∧ min m k.held.length + (k.held.length - (m + 1)) ≤ 4294967296 :=
        ⟨by omega, take_one, by omega, by omega, drop_one, by omega⟩
      by_cases s1 : k.held[m].stage = 1
      · simp [s1, hw, hml, hm0, cancelAt, comesN, Kern.cells]
        exact hcut
      · by_cases s2 : k.held[m].stage = 2
        · simp [s2]
          refine callIf (avs := [l.av, im.av, I k.held[m].path.sig]) (.bool (rearN l im k.held[m].path.sig)) rfl (fun _ => ⟨by simp [Lay.cells, Img.cells], c_r22Rear l im hi0 _⟩) (by simp) ?_
          cases hs : k.held[m].shown
          · simp [hs, hw, hml, cancelAt, comesN, s2, comes2, Kern.cells, Hd.cells]
            exact hcut
          · cases hr : rearN l im k.held[m].path.sig
            · simp [hs, hw, hml, cancelAt, comesN, s2, comes2, hr, Kern.cells, Hd.cells]
              exact hcut
            · simp [hs, hw, hml, cancelAt, comesN, s2, comes2, hr, Kern.cells, Hd.cells]
              and_intros <;> first | rfl | omega
        · simp [s1, s2]
          refine callIf (avs := [l.av, im.av, I k.held[m].path.sig]) (.bool (rearN l im k.held[m].path.sig)) rfl (fun _ => ⟨by simp [Lay.cells, Img.cells], c_r22Rear l im hi0 _⟩) (by simp) ?_
          simp [s1, s2, hml, Hd.cells]
          refine callIf (avs := [l.av, im.av, k.held[m].av]) (.bool (inN l im k.held[m])) rfl (fun _ => ⟨by simp [Lay.cells, Img.cells, hml, Hd.cells], c_r22In l im hi0 k.held[m] (k.at hk hml)⟩) (by simp) ?_
          by_cases s3 : k.held[m].stage = 3
          · cases hc : inN l im k.held[m]
            · simp [s3, hw, hml, cancelAt, comesN, comes3, hc, Kern.cells, Hd.cells]
              and_intros <;> first | rfl | omega
            · simp [s3, hw, hml, cancelAt, comesN, comes3, hc, Kern.cells, Hd.cells]
          · simp [s1, s2, s3, hml, cancelAt, comesN, Kern.cells, Hd.cells]
end Go.Lb.LK

namespace Go.Lb.LK
open Go Go.Lb Go.Proofs Go.RowKit

end Go.Lb.LK

namespace Go.Lb.LK
open Go Go.Lb Go.Proofs Go.RowKit

def machSame (a b : Kern) : Bool := AV.eqs (mcells a.want a.run a.fail) (mcells b.want b.run b.fail)
def allSame (a b : List Hd) : Bool := (List.zipWith sameS a b).all id
def sameK (a b : Kern) : Bool := decide (a.held.length = b.held.length) && (allSame a.held b.held && (decide (a.next = b.next) && machSame a b))
theorem machSame_refl (a : Kern) : machSame a a = true := by
  unfold machSame mcells
  simp [AV.eqs, AV.eq1]
theorem allSame_refl : ∀ l : List Hd, allSame l l = true
  | [] => rfl
  | x :: l => by simp [allSame, sameS_refl]
theorem sameK_refl (a : Kern) : sameK a a = true := by simp [sameK, machSame_refl, allSame_refl]
theorem kk (a b : Kern) : AV.pureAll (a.cells ++ b.cells) = true := by simp [pureAll_append]
theorem zip_at {a b : List Hd} {i : Nat} (h1 : i < a.length) (h2 : i < b.length) : (List.zipWith sameS a b)[i]'(by simp; omega) = sameS a[i] b[i] := by simp
theorem machSame_def (a b : Kern) : AV.eqs (mcells a.want a.run a.fail) (mcells b.want b.run b.fail) = machSame a b := rfl

set_option maxHeartbeats 1000000 in
theorem c_r18Same (a b : Kern) (ha : a.len) : C f_lockbarref18_Same [a.av, b.av] (.bool (sameK a b)) := by
  have h1 := ha.1
  have hm := machSame_def a b
  simp only [mcells] at hm
  refine ctr (a.cells ++ b.cells) run_lockbarref18_Same rfl (kk a b) rfl ?_ rfl
  unfold rt_lockbarref18_Same
  simp [Kern.cells, -AV.eqs]
  by_cases hl : a.held.length = b.held.length
  · simp [hl, -AV.eqs]
    refine RTwp_loop rfl (fun vs => ∃ i : Nat, i ≤ a.held.length ∧ vs = [I i] ∧ NoneIn (fun x => !x) ((List.zipWith sameS a.held b.held).take i)) (fun vs => match vs with | [.int _ j] => a.held.length - j.toNat | _ => 0) ⟨0, by simp, by simp, rfl⟩ ?_
    rintro vs - ⟨i, hi, rfl, hq⟩
    simp [-AV.eqs]
    refine ⟨fun hlt => ?_, fun hge => ?_⟩
    · have hlt2 : i < b.held.length := by omega
      have hw := wrap_succ (i := i) (by omega)
      have hz := zip_at hlt hlt2
      simp [hlt, hlt2, Hd.cells, -AV.eqs]
      refine call (c_r17Same a.held[i] b.held[i] (a.at ha hlt)) (by simp [hlt, hlt2, Hd.cells]) (by simp) ?_
      cases hs : sameS a.held[i] b.held[i]
      · have : allSame a.held b.held = false := by
          unfold allSame
          rw [List.all_eq_false]
          exact ⟨(List.zipWith sameS a.held b.held)[i]'(by simp; omega), List.getElem_mem _, by rw [hz, hs]; simp⟩
        simp [sameK, this, -AV.eqs]
      · simp [hw, -AV.eqs]
        exact ⟨⟨i + 1, by omega, by omega, any_step (i := i) (l := List.zipWith sameS a.held b.held) (by simp; omega) hq (by rw [hz, hs]; rfl)⟩, by omega⟩
    · have ht : (List.zipWith sameS a.held b.held).take i = List.zipWith sameS a.held b.held := List.take_of_length_le (by simp; omega)
      rw [ht] at hq
      have hall : allSame a.held b.held = true := by
        unfold allSame
        unfold NoneIn at hq
        rw [List.all_eq_true]
        intro x hx
        have := List.any_eq_false.1 hq x hx
        simpa using this
      simp [hm, sameK, hl, hall, -AV.eqs]
  · have hl2 : ¬ (a.held.length : Int) = b.held.length := by omega
    simp [hl, sameK, -AV.eqs]
    exact fun h => absurd h hl2
end Go.Lb.LK

namespace Go.Lb.LK
open Go Go.Lb Go.Proofs Go.RowKit

def lay22 : Lay := ⟨[⟨1, noP, ⟨1, 0⟩, noP, noP, 0, 0⟩, ⟨1, ⟨0, 1⟩, ⟨2, 0⟩, noP, noP, 0, 0⟩, ⟨1, ⟨1, 1⟩, noP, noP, noP, 0, 0⟩], [⟨1, 0⟩], [⟨⟨2, 1⟩, []⟩], [], 1, 1, 9, 2, 1, 1, 1⟩
def im22 : Img := takeI lay22 imNew 0 0 0 0
def tr22 : Img := takeI lay22 im22 1 0 0 0
def tr4 : Img := takeI lay22 tr22 4 0 0 0
def h22 (st tm : Int) : Hd := ⟨5, ⟨0, 0, [⟨1, 0, 1⟩, ⟨2, 0, 1⟩]⟩, [], [], st, 0, fun _ => false, false, tm, true⟩
def k22 (hs : List Hd) : Kern := ⟨6, hs, fun _ => 0, fun _ => 0, fun _ => false⟩
theorem im22_ok : im22.ok := ⟨⟨by decide, by decide⟩, ⟨by decide, by decide⟩, ⟨by decide, by decide⟩, ⟨by decide, by decide⟩⟩
theorem tr22_ok : tr22.ok := ⟨⟨by decide, by decide⟩, ⟨by decide, by decide⟩, ⟨by decide, by decide⟩, ⟨by decide, by decide⟩⟩
theorem tr4_ok : tr4.ok := ⟨⟨by decide, by decide⟩, ⟨by decide, by decide⟩, ⟨by decide, by decide⟩, ⟨by decide, by decide⟩⟩
theorem w22a : cancelN lay22 im22 (k22 [h22 2 0]) 0 = (k22 [], true) := by kernel_rfl
theorem w22b : cancelN lay22 tr22 (k22 [h22 2 0]) 0 = (k22 [h22 4 2], true) := by kernel_rfl
theorem w22c : cancelN lay22 im22 (k22 [h22 2 0]) 1 = (k22 [h22 2 0], false) := by kernel_rfl
theorem w22d : tickB lay22 tr22 (h22 4 2) = (h22 4 1, false) := by kernel_rfl
theorem w22e : tickB lay22 tr22 (h22 4 1) = (h22 4 0, true) := by kernel_rfl
theorem w22f : (tickB lay22 tr4 (h22 4 1)).2 = false ∧ (tickB lay22 tr4 (h22 4 1)).1.stage = 3 ∧ (tickB lay22 tr4 (h22 4 1)).1.timer = 0 := by decide +kernel
theorem w22g : rearN lay22 tr22 0 = true ∧ rearN lay22 im22 0 = false ∧ rearN lay22 im22 1 = false := by decide +kernel
theorem w22h : inN lay22 tr22 (h22 2 0) = false ∧ inN lay22 imNew (h22 2 0) = true := by decide +kernel
theorem lay22_ok : lay22.ok := by
  intro s hs
  simp only [lay22, List.mem_cons, List.not_mem_nil, or_false] at hs
  rcases hs with rfl | rfl | rfl <;> decide
theorem h22_len (st tm : Int) : (h22 st tm).len := ⟨by simp [h22], by simp [h22], by simp [h22]⟩
theorem k22_len (st tm : Int) : (k22 [h22 st tm]).len := by
  refine ⟨by simp [k22], fun h hh => ?_⟩
  simp only [k22, List.mem_singleton] at hh
  subst hh
  exact h22_len st tm
theorem y22a : C f_back_Cancel [lay22.av, im22.av, (k22 [h22 2 0]).av, I 0] (.tup [(k22 []).av, .bool true]) := by
  have := c_back_Cancel lay22 lay22_ok im22 im22_ok (k22 [h22 2 0]) (k22_len 2 0) 0
  rw [w22a] at this; exact this
theorem y22b : C f_back_Cancel [lay22.av, tr22.av, (k22 [h22 2 0]).av, I 0] (.tup [(k22 [h22 4 2]).av, .bool true]) := by
  have := c_back_Cancel lay22 lay22_ok tr22 tr22_ok (k22 [h22 2 0]) (k22_len 2 0) 0
  rw [w22b] at this; exact this
theorem y22c : C f_back_Cancel [lay22.av, im22.av, (k22 [h22 2 0]).av, I 1] (.tup [(k22 [h22 2 0]).av, .bool false]) := by
  have := c_back_Cancel lay22 lay22_ok im22 im22_ok (k22 [h22 2 0]) (k22_len 2 0) 1
  rw [w22c] at this; exact this
theorem y22d : C f_back_Tick [lay22.av, tr22.av, (h22 4 2).av] (.tup [(h22 4 1).av, .bool false]) := by
  have := c_back_Tick lay22 tr22 tr22_ok (h22 4 2) (h22_len 4 2)
  rw [w22d] at this; exact this
theorem y22e : C f_back_Tick [lay22.av, tr22.av, (h22 4 1).av] (.tup [(h22 4 0).av, .bool true]) := by
  have := c_back_Tick lay22 tr22 tr22_ok (h22 4 1) (h22_len 4 1)
  rw [w22e] at this; exact this
theorem y22f : C f_back_Tick [lay22.av, tr4.av, (h22 4 1).av] (.tup [(tickB lay22 tr4 (h22 4 1)).1.av, .bool false]) := by
  have := c_back_Tick lay22 tr4 tr4_ok (h22 4 1) (h22_len 4 1)
  rw [hdB, w22f.1] at this; exact this
theorem y22g : C f_back_Rear [lay22.av, tr22.av, I 0] (.bool true) := by
  have := c_back_Rear lay22 lay22_ok tr22 tr22_ok 0
  rw [w22g.1] at this; exact this
theorem y22h : C f_back_Rear [lay22.av, im22.av, I 0] (.bool false) := by
  have := c_back_Rear lay22 lay22_ok im22 im22_ok 0
  rw [w22g.2.1] at this; exact this
theorem y22i : C f_back_Rear [lay22.av, im22.av, I 1] (.bool false) := by
  have := c_back_Rear lay22 lay22_ok im22 im22_ok 1
  rw [w22g.2.2] at this; exact this
theorem y22j : C f_back_In [lay22.av, tr22.av, (h22 2 0).av] (.bool false) := by
  have := c_back_In lay22 tr22 tr22_ok (h22 2 0) (h22_len 2 0)
  rw [w22h.1] at this; exact this
theorem y22k : C f_back_In [lay22.av, imNew.av, (h22 2 0).av] (.bool true) := by
  have := c_back_In lay22 imNew imNew_ok (h22 2 0) (h22_len 2 0)
  rw [w22h.2] at this; exact this
theorem y22s : C f_lockbarref18_Same [(k22 [h22 2 0]).av, (k22 [h22 2 0]).av] (.bool true) := by
  have := c_r18Same (k22 [h22 2 0]) (k22 [h22 2 0]) (k22_len 2 0)
  rw [sameK_refl] at this; exact this
theorem c_three : C f_lockbarlaw22_three [] (.tup [lay22.av, im22.av, tr22.av, (h22 2 0).av]) := by
  refine ctr [] run_lockbarlaw22_three rfl rfl (by simp [AV.pure, AV.pureAll]) ?_ rfl
  unfold rt_lockbarlaw22_three
  simp
  refine call c_r15New rfl (by simp) ?_
  simp
  refine call (r := im22.av) (c_r15Take lay22 imNew 0 0 0 0 (by omega) (by omega) (by omega) (by omega) (by omega) (by omega) (by omega) (by omega)) (by simp [Lay.cells, lay22, noP, Sec.cells, Port.cells, Exi.cells, Step.cells]) (fun h => by first | rfl | cases h) ?_
  simp [Img.cells]
  refine call (r := tr22.av) (c_r15Take lay22 im22 1 0 0 0 (by omega) (by omega) (by omega) (by omega) (by omega) (by omega) (by omega) (by omega)) (by simp [Img.cells, Lay.cells, lay22, noP, Sec.cells, Port.cells, Exi.cells, Step.cells]) (fun h => by first | rfl | cases h) ?_
  simp [Img.cells, h22, Hd.cells, Lay.cells, lay22, noP, Sec.cells, Port.cells, Exi.cells, Step.cells]
end Go.Lb.LK

namespace Go.Lb.LK
open Go Go.Lb Go.Proofs Go.RowKit

set_option maxRecDepth 100000 in
set_option maxHeartbeats 4000000 in
theorem c_wakes22 : C f_lockbarlaw22_wakes [] (.bool true) := by
  refine ctr [] run_lockbarlaw22_wakes rfl rfl rfl ?_ rfl
  unfold rt_lockbarlaw22_wakes
  refine call c_three rfl (by simp) ?_
  simp [Kern.cells, k22, Hd.cells, h22, Step.cells, Img.cells, Lay.cells, lay22, noP, Sec.cells, Port.cells, Exi.cells]
  refine call y22a (by simp [Kern.cells, k22, Hd.cells, h22, Step.cells, Img.cells, Lay.cells, lay22, noP, Sec.cells, Port.cells, Exi.cells] <;> rfl) (fun h => by first | rfl | cases h) ?_
  simp [Kern.cells, k22, Hd.cells, h22, Step.cells, Img.cells, Lay.cells, lay22, noP, Sec.cells, Port.cells, Exi.cells]
  refine call y22b (by simp [Kern.cells, k22, Hd.cells, h22, Step.cells, Img.cells, Lay.cells, lay22, noP, Sec.cells, Port.cells, Exi.cells] <;> rfl) (fun h => by first | rfl | cases h) ?_
  simp [Kern.cells, k22, Hd.cells, h22, Step.cells, Img.cells, Lay.cells, lay22, noP, Sec.cells, Port.cells, Exi.cells]
  refine call y22c (by simp [Kern.cells, k22, Hd.cells, h22, Step.cells, Img.cells, Lay.cells, lay22, noP, Sec.cells, Port.cells, Exi.cells] <;> rfl) (fun h => by first | rfl | cases h) ?_
  simp [Kern.cells, k22, Hd.cells, h22, Step.cells, Img.cells, Lay.cells, lay22, noP, Sec.cells, Port.cells, Exi.cells]
  refine call y22d (by simp [Kern.cells, k22, Hd.cells, h22, Step.cells, Img.cells, Lay.cells, lay22, noP, Sec.cells, Port.cells, Exi.cells] <;> rfl) (fun h => by first | rfl | cases h) ?_
  simp [Kern.cells, k22, Hd.cells, h22, Step.cells, Img.cells, Lay.cells, lay22, noP, Sec.cells, Port.cells, Exi.cells]
  refine call y22e (by simp [Kern.cells, k22, Hd.cells, h22, Step.cells, Img.cells, Lay.cells, lay22, noP, Sec.cells, Port.cells, Exi.cells] <;> rfl) (fun h => by first | rfl | cases h) ?_
  simp [Kern.cells, k22, Hd.cells, h22, Step.cells, Img.cells, Lay.cells, lay22, noP, Sec.cells, Port.cells, Exi.cells]
  refine call (r := tr4.av) (c_r15Take lay22 tr22 4 0 0 0 (by omega) (by omega) (by omega) (by omega) (by omega) (by omega) (by omega) (by omega)) (by simp [Kern.cells, k22, Hd.cells, h22, Step.cells, Img.cells, Lay.cells, lay22, noP, Sec.cells, Port.cells, Exi.cells] <;> rfl) (fun h => by first | rfl | cases h) ?_
  simp [Kern.cells, k22, Hd.cells, h22, Step.cells, Img.cells, Lay.cells, lay22, noP, Sec.cells, Port.cells, Exi.cells]
  refine call y22f (by simp [Kern.cells, k22, Hd.cells, h22, Step.cells, Img.cells, Lay.cells, lay22, noP, Sec.cells, Port.cells, Exi.cells] <;> rfl) (fun h => by first | rfl | cases h) ?_
  simp [Kern.cells, k22, Hd.cells, h22, Step.cells, Img.cells, Lay.cells, lay22, noP, Sec.cells, Port.cells, Exi.cells]
  refine callIf (avs := [(k22 [h22 2 0]).av, (k22 [h22 2 0]).av]) (.bool true) (by simp [AV.pure]) (fun _ => ⟨by (simp [Kern.cells, k22, Hd.cells, h22, Step.cells, Img.cells, Lay.cells, lay22, noP, Sec.cells, Port.cells, Exi.cells, w22f.2.1, w22f.2.2] <;> rfl), y22s⟩) (fun h => by first | rfl | cases h) ?_
  simp [Kern.cells, k22, Hd.cells, h22, Step.cells, Img.cells, Lay.cells, lay22, noP, Sec.cells, Port.cells, Exi.cells, w22f.2.1, w22f.2.2]
  refine callIf (avs := [lay22.av, tr22.av, I 0]) (.bool true) (by simp [AV.pure]) (fun _ => ⟨by (simp [Kern.cells, k22, Hd.cells, h22, Step.cells, Img.cells, Lay.cells, lay22, noP, Sec.cells, Port.cells, Exi.cells, w22f.2.1, w22f.2.2] <;> rfl), y22g⟩) (fun h => by first | rfl | cases h) ?_
  simp [Kern.cells, k22, Hd.cells, h22, Step.cells, Img.cells, Lay.cells, lay22, noP, Sec.cells, Port.cells, Exi.cells, w22f.2.1, w22f.2.2]
  refine callIf (avs := [lay22.av, im22.av, I 0]) (.bool false) (by simp [AV.pure]) (fun _ => ⟨by (simp [Kern.cells, k22, Hd.cells, h22, Step.cells, Img.cells, Lay.cells, lay22, noP, Sec.cells, Port.cells, Exi.cells, w22f.2.1, w22f.2.2] <;> rfl), y22h⟩) (fun h => by first | rfl | cases h) ?_
  simp [Kern.cells, k22, Hd.cells, h22, Step.cells, Img.cells, Lay.cells, lay22, noP, Sec.cells, Port.cells, Exi.cells, w22f.2.1, w22f.2.2]
  refine callIf (avs := [lay22.av, im22.av, I 1]) (.bool false) (by simp [AV.pure]) (fun _ => ⟨by (simp [Kern.cells, k22, Hd.cells, h22, Step.cells, Img.cells, Lay.cells, lay22, noP, Sec.cells, Port.cells, Exi.cells, w22f.2.1, w22f.2.2] <;> rfl), y22i⟩) (fun h => by first | rfl | cases h) ?_
  simp [Kern.cells, k22, Hd.cells, h22, Step.cells, Img.cells, Lay.cells, lay22, noP, Sec.cells, Port.cells, Exi.cells, w22f.2.1, w22f.2.2]
  refine callIf (avs := [lay22.av, tr22.av, (h22 2 0).av]) (.bool false) (by simp [AV.pure]) (fun _ => ⟨by (simp [Kern.cells, k22, Hd.cells, h22, Step.cells, Img.cells, Lay.cells, lay22, noP, Sec.cells, Port.cells, Exi.cells, w22f.2.1, w22f.2.2] <;> rfl), y22j⟩) (fun h => by first | rfl | cases h) ?_
  simp [Kern.cells, k22, Hd.cells, h22, Step.cells, Img.cells, Lay.cells, lay22, noP, Sec.cells, Port.cells, Exi.cells, w22f.2.1, w22f.2.2]
  refine callIf (avs := []) imNew.av (by simp [AV.pure]) (fun _ => ⟨by (rfl), c_r15New⟩) (fun h => by first | rfl | cases h) ?_
  simp [Kern.cells, k22, Hd.cells, h22, Step.cells, Img.cells, Lay.cells, lay22, noP, Sec.cells, Port.cells, Exi.cells, w22f.2.1, w22f.2.2]
  refine callIf (avs := [lay22.av, imNew.av, (h22 2 0).av]) (.bool true) (by simp [AV.pure]) (fun _ => ⟨by (simp [Kern.cells, k22, Hd.cells, h22, Step.cells, Img.cells, Lay.cells, lay22, noP, Sec.cells, Port.cells, Exi.cells, w22f.2.1, w22f.2.2] <;> rfl), y22k⟩) (fun h => by first | rfl | cases h) ?_
  simp [Kern.cells, k22, Hd.cells, h22, Step.cells, Img.cells, Lay.cells, lay22, noP, Sec.cells, Port.cells, Exi.cells, w22f.2.1, w22f.2.2]
  exact w22f.2
end Go.Lb.LK

namespace Go.Lb.LK
open Go Go.Lb Go.Proofs
@[simp] noncomputable def qkbacktells_0 : SE := .agg [.inp 0, .inp 1, .inp 2, .inp 3, .inp 4, .inp 5, .inp 6, .inp 7, .inp 8, .inp 9, .inp 10]
@[simp] noncomputable def qkbacktells_1 : SE := .agg [.inp 11, .inp 12, .inp 13, .inp 14, .inp 15, .inp 16, .inp 17, .inp 18, .inp 19, .inp 20, .inp 21, .inp 22, .inp 23, .inp 24, .inp 25, .inp 26, .inp 27, .inp 28, .inp 29, .inp 30, .inp 31, .inp 32, .inp 33, .inp 34, .inp 35, .inp 36, .inp 37, .inp 38, .inp 39]
@[simp] noncomputable def qkbacktells_2 : SE := .agg [.inp 40, .inp 41, .inp 42, .inp 43, .inp 44, .inp 45, .inp 46, .inp 47, .inp 48, .inp 49, .inp 50, .inp 51, .inp 52, .inp 53, .inp 54, .inp 55, .inp 56, .inp 57, .inp 58, .inp 59, .inp 60, .inp 61, .inp 62, .inp 63, .inp 64, .inp 65, .inp 66, .inp 67, .inp 68, .inp 69, .inp 70, .inp 71, .inp 72, .inp 73, .inp 74, .inp 75, .inp 76, .inp 77, .inp 78, .inp 79, .inp 80, .inp 81, .inp 82, .inp 83, .inp 84, .inp 85, .inp 86, .inp 87, .inp 88, .inp 89, .inp 90, .inp 91, .inp 92, .inp 93, .inp 94, .inp 95, .inp 96, .inp 97, .inp 98, .inp 99, .inp 100, .inp 101, .inp 102, .inp 103, .inp 104, .inp 105, .inp 106, .inp 107, .inp 108, .inp 109, .inp 110, .inp 111, .inp 112, .inp 113]
@[simp] noncomputable def qkbacktells_3 : SE := .agg [.inp 114, .inp 115, .inp 116, .inp 117, .inp 118, .inp 119, .inp 120, .inp 121, .inp 122, .inp 123, .inp 124, .inp 125, .inp 126, .inp 127, .inp 128, .inp 129, .inp 130, .inp 131, .inp 132, .inp 133, .inp 134, .inp 135, .inp 136]
@[simp] noncomputable def qkbacktells_4 : SE := .app .lst [qkbacktells_3]
@[simp] noncomputable def qkbacktells_5 : SE := .app (.eqb false) [.app (.tproj 1) [.inp 142], .app (.tproj 1) [.inp 143]]
@[simp] noncomputable def qkbacktells_6 : SE := .app .pick [.inp 146, qkbacktells_5, .bool false]
@[simp] noncomputable def qkbacktells_7 : SE := .app .pick [qkbacktells_6, .inp 147, .bool false]
@[simp] noncomputable def qkbacktells_8 : SE := .app (.eqb false) [.app (.tproj 1) [.inp 144], .app (.tproj 1) [.inp 145]]
@[simp] noncomputable def qkbacktells_9 : SE := .app .pick [qkbacktells_7, qkbacktells_8, .bool false]
@[simp] noncomputable def qkbacktells_10 : SE := .app (.eqb false) [.inp 148, .inp 149]
@[simp] noncomputable def qkbacktells_11 : SE := .app .pick [qkbacktells_9, qkbacktells_10, .bool false]
@[simp] noncomputable def qkbacktells_12 : SE := .app (.eqb false) [.inp 150, .inp 151]
@[simp] noncomputable def qkbacktells_13 : SE := .app .pick [qkbacktells_11, qkbacktells_12, .bool false]
noncomputable def rt_lockbarlaw22_BackTells : RT :=
.seg [.chk [] (.isAgg 11) [qkbacktells_0]] <|
.seg [.chk [] (.isAgg 29) [qkbacktells_1]] <|
.seg [.chk [] (.isAgg 74) [qkbacktells_2]] <|
.seg [.chk [] (.isAgg 23) [qkbacktells_3]] <|
.seg [.call 138 [] 7 [qkbacktells_0] false] <|
.seg [.call 139 [(.inp 138, false)] 8 [qkbacktells_2] false] <|
.seg [.chk [] .pick [.inp 138, .bool true, .inp 139]] <|
.cond (.app .pick [.inp 138, .bool true, .inp 139])
 (.seg [.call 140 [] 9 [] false] <|
.ret (.inp 140))
 (.seg [.chk [] (.isAgg 23) [qkbacktells_3]] <|
.seg [.call 140 [] 8 [.agg [.int .i64 0, qkbacktells_4, .int .i64 0, .int .i64 0, .bool false, .int .i64 0, .int .i64 0, .bool false, .int .i64 0, .int .i64 0, .bool false, .int .i64 0, .int .i64 0, .bool false, .int .i64 0, .int .i64 0, .bool false, .int .i64 0, .int .i64 0, .bool false, .int .i64 0, .int .i64 0, .bool false, .int .i64 0, .int .i64 0, .bool false, .int .i64 0, .int .i64 0, .bool false, .int .i64 0, .int .i64 0, .bool false, .int .i64 0, .int .i64 0, .bool false, .int .i64 0, .int .i64 0, .bool false, .int .i64 0, .int .i64 0, .bool false, .int .i64 0, .int .i64 0, .bool false, .int .i64 0, .int .i64 0, .bool false, .int .i64 0, .int .i64 0, .bool false, .int .i64 0, .int .i64 0, .bool false, .int .i64 0, .int .i64 0, .bool false, .int .i64 0, .int .i64 0, .bool false, .int .i64 0, .int .i64 0, .bool false, .int .i64 0, .int .i64 0, .bool false, .int .i64 0, .int .i64 0, .bool false, .int .i64 0, .int .i64 0, .bool false, .int .i64 0, .int .i64 0, .bool false]] true] <|
.seg [.bind 141 (qkbacktells_4)] <|
.cond (.inp 140)
 (.seg [.call 142 [] 9 [] false] <|
.ret (.inp 142))
 (.seg [.call 142 [] 10 [qkbacktells_0, qkbacktells_1, qkbacktells_2, .inp 137] false] <|
.seg [.chk [] (.tproj 0) [.inp 142]] <|
.seg [.chk [] (.tproj 1) [.inp 142]] <|
.seg [.chk [] (.isAgg 74) [.app (.tproj 0) [.inp 142]]] <|
.seg [.call 143 [] 11 [qkbacktells_0, qkbacktells_1, qkbacktells_2, .inp 137] false] <|
.seg [.chk [] (.tproj 0) [.inp 143]] <|
.seg [.chk [] (.tproj 1) [.inp 143]] <|
.seg [.chk [] (.isAgg 74) [.app (.tproj 0) [.inp 143]]] <|
.seg [.call 144 [] 12 [qkbacktells_0, qkbacktells_1, qkbacktells_3] false] <|
.seg [.chk [] (.tproj 0) [.inp 144]] <|
.seg [.chk [] (.tproj 1) [.inp 144]] <|
.seg [.chk [] (.isAgg 23) [.app (.tproj 0) [.inp 144]]] <|
.seg [.call 145 [] 13 [qkbacktells_0, qkbacktells_1, qkbacktells_3] false] <|
.seg [.chk [] (.tproj 0) [.inp 145]] <|
.seg [.chk [] (.tproj 1) [.inp 145]] <|
.seg [.chk [] (.isAgg 23) [.app (.tproj 0) [.inp 145]]] <|
.seg [.call 146 [] 14 [.agg [.app (.part 0 1 false) [.app (.tproj 0) [.inp 142]], .app (.part 1 1 false) [.app (.tproj 0) [.inp 142]], .app (.part 2 1 false) [.app (.tproj 0) [.inp 142]], .app (.part 3 1 false) [.app (.tproj 0) [.inp 142]], .app (.part 4 1 false) [.app (.tproj 0) [.inp 142]], .app (.part 5 1 false) [.app (.tproj 0) [.inp 142]], .app (.part 6 1 false) [.app (.tproj 0) [.inp 142]], .app (.part 7 1 false) [.app (.tproj 0) [.inp 142]], .app (.part 8 1 false) [.app (.tproj 0) [.inp 142]], .app (.part 9 1 false) [.app (.tproj 0) [.inp 142]], .app (.part 10 1 false) [.app (.tproj 0) [.inp 142]], .app (.part 11 1 false) [.app (.tproj 0) [.inp 142]], .app (.part 12 1 false) [.app (.tproj 0) [.inp 142]], .app (.part 13 1 false) [.app (.tproj 0) [.inp 142]], .app (.part 14 1 false) [.app (.tproj 0) [.inp 142]], .app (.part 15 1 false) [.app (.tproj 0) [.inp 142]], .app (.part 16 1 false) [.app (.tproj 0) [.inp 142]], .app (.part 17 1 false) [.app (.tproj 0) [.inp 142]], .app (.part 18 1 false) [.app (.tproj 0) [.inp 142]], .app (.part 19 1 false) [.app (.tproj 0) [.inp 142]], .app (.part 20 1 false) [.app (.tproj 0) [.inp 142]], .app (.part 21 1 false) [.app (.tproj 0) [.inp 142]], .app (.part 22 1 false) [.app (.tproj 0) [.inp 142]], .app (.part 23 1 false) [.app (.tproj 0) [.inp 142]], .app (.part 24 1 false) [.app (.tproj 0) [.inp 142]], .app (.part 25 1 false) [.app (.tproj 0) [.inp 142]], .app (.part 26 1 false) [.app (.tproj 0) [.inp 142]], .app (.part 27 1 false) [.app (.tproj 0) [.inp 142]], .app (.part 28 1 false) [.app (.tproj 0) [.inp 142]], .app (.part 29 1 false) [.app (.tproj 0) [.inp 142]], .app (.part 30 1 false) [.app (.tproj 0) [.inp 142]], .app (.part 31 1 false) [.app (.tproj 0) [.inp 142]], .app (.part 32 1 false) [.app (.tproj 0) [.inp 142]], .app (.part 33 1 false) [.app (.tproj 0) [.inp 142]], .app (.part 34 1 false) [.app (.tproj 0) [.inp 142]], .app (.part 35 1 false) [.app (.tproj 0) [.inp 142]], .app (.part 36 1 false) [.app (.tproj 0) [.inp 142]], .app (.part 37 1 false) [.app (.tproj 0) [.inp 142]], .app (.part 38 1 false) [.app (.tproj 0) [.inp 142]], .app (.part 39 1 false) [.app (.tproj 0) [.inp 142]], .app (.part 40 1 false) [.app (.tproj 0) [.inp 142]], .app (.part 41 1 false) [.app (.tproj 0) [.inp 142]], .app (.part 42 1 false) [.app (.tproj 0) [.inp 142]], .app (.part 43 1 false) [.app (.tproj 0) [.inp 142]], .app (.part 44 1 false) [.app (.tproj 0) [.inp 142]], .app (.part 45 1 false) [.app (.tproj 0) [.inp 142]], .app (.part 46 1 false) [.app (.tproj 0) [.inp 142]], .app (.part 47 1 false) [.app (.tproj 0) [.inp 142]], .app (.part 48 1 false) [.app (.tproj 0) [.inp 142]], .app (.part 49 1 false) [.app (.tproj 0) [.inp 142]], .app (.part 50 1 false) [.app (.tproj 0) [.inp 142]], .app (.part 51 1 false) [.app (.tproj 0) [.inp 142]], .app (.part 52 1 false) [.app (.tproj 0) [.inp 142]], .app (.part 53 1 false) [.app (.tproj 0) [.inp 142]], .app (.part 54 1 false) [.app (.tproj 0) [.inp 142]], .app (.part 55 1 false) [.app (.tproj 0) [.inp 142]], .app (.part 56 1 false) [.app (.tproj 0) [.inp 142]], .app (.part 57 1 false) [.app (.tproj 0) [.inp 142]], .app (.part 58 1 false) [.app (.tproj 0) [.inp 142]], .app (.part 59 1 false) [.app (.tproj 0) [.inp 142]], .app (.part 60 1 false) [.app (.tproj 0) [.inp 142]], .app (.part 61 1 false) [.app (.tproj 0) [.inp 142]], .app (.part 62 1 false) [.app (.tproj 0) [.inp 142]], .app (.part 63 1 false) [.app (.tproj 0) [.inp 142]], .app (.part 64 1 false) [.app (.tproj 0) [.inp 142]], .app (.part 65 1 false) [.app (.tproj 0) [.inp 142]], .app (.part 66 1 false) [.app (.tproj 0) [.inp 142]], .app (.part 67 1 false) [.app (.tproj 0) [.inp 142]], .app (.part 68 1 false) [.app (.tproj 0) [.inp 142]], .app (.part 69 1 false) [.app (.tproj 0) [.inp 142]], .app (.part 70 1 false) [.app (.tproj 0) [.inp 142]], .app (.part 71 1 false) [.app (.tproj 0) [.inp 142]], .app (.part 72 1 false) [.app (.tproj 0) [.inp 142]], .app (.part 73 1 false) [.app (.tproj 0) [.inp 142]]], .agg [.app (.part 0 1 false) [.app (.tproj 0) [.inp 143]], .app (.part 1 1 false) [.app (.tproj 0) [.inp 143]], .app (.part 2 1 false) [.app (.tproj 0) [.inp 143]], .app (.part 3 1 false) [.app (.tproj 0) [.inp 143]], .app (.part 4 1 false) [.app (.tproj 0) [.inp 143]], .app (.part 5 1 false) [.app (.tproj 0) [.inp 143]], .app (.part 6 1 false) [.app (.tproj 0) [.inp 143]], .app (.part 7 1 false) [.app (.tproj 0) [.inp 143]], .app (.part 8 1 false) [.app (.tproj 0) [.inp 143]], .app (.part 9 1 false) [.app (.tproj 0) [.inp 143]], .app (.part 10 1 false) [.app (.tproj 0) [.inp 143]], .app (.part 11 1 false) [.app (.tproj 0) [.inp 143]], .app (.part 12 1 false) [.app (.tproj 0) [.inp 143]], .app (.part 13 1 false) [.app (.tproj 0) [.inp 143]], .app (.part 14 1 false) [.app (.tproj 0) [.inp 143]], .app (.part 15 1 false) [.app (.tproj 0) [.inp 143]], .app (.part 16 1 false) [.app (.tproj 0) [.inp 143]], .app (.part 17 1 false) [.app (.tproj 0) [.inp 143]], .app (.part 18 1 false) [.app (.tproj 0) [.inp 143]], .app (.part 19 1 false) [.app (.tproj 0) [.inp 143]], .app (.part 20 1 false) [.app (.tproj 0) [.inp 143]], .app (.part 21 1 false) [.app (.tproj 0) [.inp 143]], .app (.part 22 1 false) [.app (.tproj 0) [.inp 143]], .app (.part 23 1 false) [.app (.tproj 0) [.inp 143]], .app (.part 24 1 false) [.app (.tproj 0) [.inp 143]], .app (.part 25 1 false) [.app (.tproj 0) [.inp 143]], .app (.part 26 1 false) [.app (.tproj 0) [.inp 143]], .app (.part 27 1 false) [.app (.tproj 0) [.inp 143]], .app (.part 28 1 false) [.app (.tproj 0) [.inp 143]], .app (.part 29 1 false) [.app (.tproj 0) [.inp 143]], .app (.part 30 1 false) [.app (.tproj 0) [.inp 143]], .app (.part 31 1 false) [.app (.tproj 0) [.inp 143]], .app (.part 32 1 false) [.app (.tproj 0) [.inp 143]], .app (.part 33 1 false) [.app (.tproj 0) [.inp 143]], .app (.part 34 1 false) [.app (.tproj 0) [.inp 143]], .app (.part 35 1 false) [.app (.tproj 0) [.inp 143]], .app (.part 36 1 false) [.app (.tproj 0) [.inp 143]], .app (.part 37 1 false) [.app (.tproj 0) [.inp 143]], .app (.part 38 1 false) [.app (.tproj 0) [.inp 143]], .app (.part 39 1 false) [.app (.tproj 0) [.inp 143]], .app (.part 40 1 false) [.app (.tproj 0) [.inp 143]], .app (.part 41 1 false) [.app (.tproj 0) [.inp 143]], .app (.part 42 1 false) [.app (.tproj 0) [.inp 143]], .app (.part 43 1 false) [.app (.tproj 0) [.inp 143]], .app (.part 44 1 false) [.app (.tproj 0) [.inp 143]], .app (.part 45 1 false) [.app (.tproj 0) [.inp 143]], .app (.part 46 1 false) [.app (.tproj 0) [.inp 143]], .app (.part 47 1 false) [.app (.tproj 0) [.inp 143]], .app (.part 48 1 false) [.app (.tproj 0) [.inp 143]], .app (.part 49 1 false) [.app (.tproj 0) [.inp 143]], .app (.part 50 1 false) [.app (.tproj 0) [.inp 143]], .app (.part 51 1 false) [.app (.tproj 0) [.inp 143]], .app (.part 52 1 false) [.app (.tproj 0) [.inp 143]], .app (.part 53 1 false) [.app (.tproj 0) [.inp 143]], .app (.part 54 1 false) [.app (.tproj 0) [.inp 143]], .app (.part 55 1 false) [.app (.tproj 0) [.inp 143]], .app (.part 56 1 false) [.app (.tproj 0) [.inp 143]], .app (.part 57 1 false) [.app (.tproj 0) [.inp 143]], .app (.part 58 1 false) [.app (.tproj 0) [.inp 143]], .app (.part 59 1 false) [.app (.tproj 0) [.inp 143]], .app (.part 60 1 false) [.app (.tproj 0) [.inp 143]], .app (.part 61 1 false) [.app (.tproj 0) [.inp 143]], .app (.part 62 1 false) [.app (.tproj 0) [.inp 143]], .app (.part 63 1 false) [.app (.tproj 0) [.inp 143]], .app (.part 64 1 false) [.app (.tproj 0) [.inp 143]], .app (.part 65 1 false) [.app (.tproj 0) [.inp 143]], .app (.part 66 1 false) [.app (.tproj 0) [.inp 143]], .app (.part 67 1 false) [.app (.tproj 0) [.inp 143]], .app (.part 68 1 false) [.app (.tproj 0) [.inp 143]], .app (.part 69 1 false) [.app (.tproj 0) [.inp 143]], .app (.part 70 1 false) [.app (.tproj 0) [.inp 143]], .app (.part 71 1 false) [.app (.tproj 0) [.inp 143]], .app (.part 72 1 false) [.app (.tproj 0) [.inp 143]], .app (.part 73 1 false) [.app (.tproj 0) [.inp 143]]]] false,
.chk [(.inp 146, true)] (.eqb false) [.app (.tproj 1) [.inp 142], .app (.tproj 1) [.inp 143]],
.chk [] .pick [.inp 146, qkbacktells_5, .bool false],
.call 147 [(qkbacktells_6, true)] 15 [.agg [.app (.part 0 1 false) [.app (.tproj 0) [.inp 144]], .app (.part 1 1 false) [.app (.tproj 0) [.inp 144]], .app (.part 2 1 false) [.app (.tproj 0) [.inp 144]], .app (.part 3 1 false) [.app (.tproj 0) [.inp 144]], .app (.part 4 1 false) [.app (.tproj 0) [.inp 144]], .app (.part 5 1 false) [.app (.tproj 0) [.inp 144]], .app (.part 6 1 false) [.app (.tproj 0) [.inp 144]], .app (.part 7 1 false) [.app (.tproj 0) [.inp 144]], .app (.part 8 1 false) [.app (.tproj 0) [.inp 144]], .app (.part 9 1 false) [.app (.tproj 0) [.inp 144]], .app (.part 10 1 false) [.app (.tproj 0) [.inp 144]], .app (.part 11 1 false) [.app (.tproj 0) [.inp 144]], .app (.part 12 1 false) [.app (.tproj 0) [.inp 144]], .app (.part 13 1 false) [.app (.tproj 0) [.inp 144]], .app (.part 14 1 false) [.app (.tproj 0) [.inp 144]], .app (.part 15 1 false) [.app (.tproj 0) [.inp 144]], .app (.part 16 1 false) [.app (.tproj 0) [.inp 144]], .app (.part 17 1 false) [.app (.tproj 0) [.inp 144]], .app (.part 18 1 false) [.app (.tproj 0) [.inp 144]], .app (.part 19 1 false) [.app (.tproj 0) [.inp 144]], .app (.part 20 1 false) [.app (.tproj 0) [.inp 144]], .app (.part 21 1 false) [.app (.tproj 0) [.inp 144]], .app (.part 22 1 false) [.app (.tproj 0) [.inp 144]]], .agg [.app (.part 0 1 false) [.app (.tproj 0) [.inp 145]], .app (.part 1 1 false) [.app (.tproj 0) [.inp 145]], .app (.part 2 1 false) [.app (.tproj 0) [.inp 145]], .app (.part 3 1 false) [.app (.tproj 0) [.inp 145]], .app (.part 4 1 false) [.app (.tproj 0) [.inp 145]], .app (.part 5 1 false) [.app (.tproj 0) [.inp 145]], .app (.part 6 1 false) [.app (.tproj 0) [.inp 145]], .app (.part 7 1 false) [.app (.tproj 0) [.inp 145]], .app (.part 8 1 false) [.app (.tproj 0) [.inp 145]], .app (.part 9 1 false) [.app (.tproj 0) [.inp 145]], .app (.part 10 1 false) [.app (.tproj 0) [.inp 145]], .app (.part 11 1 false) [.app (.tproj 0) [.inp 145]], .app (.part 12 1 false) [.app (.tproj 0) [.inp 145]], .app (.part 13 1 false) [.app (.tproj 0) [.inp 145]], .app (.part 14 1 false) [.app (.tproj 0) [.inp 145]], .app (.part 15 1 false) [.app (.tproj 0) [.inp 145]], .app (.part 16 1 false) [.app (.tproj 0) [.inp 145]], .app (.part 17 1 false) [.app (.tproj 0) [.inp 145]], .app (.part 18 1 false) [.app (.tproj 0) [.inp 145]], .app (.part 19 1 false) [.app (.tproj 0) [.inp 145]], .app (.part 20 1 false) [.app (.tproj 0) [.inp 145]], .app (.part 21 1 false) [.app (.tproj 0) [.inp 145]], .app (.part 22 1 false) [.app (.tproj 0) [.inp 145]]]] false,
.chk [] .pick [qkbacktells_6, .inp 147, .bool false],
.chk [(qkbacktells_7, true)] (.eqb false) [.app (.tproj 1) [.inp 144], .app (.tproj 1) [.inp 145]],
.chk [] .pick [qkbacktells_7, qkbacktells_8, .bool false],
.call 148 [(qkbacktells_9, true)] 16 [qkbacktells_0, qkbacktells_1, qkbacktells_3] false,
.call 149 [(qkbacktells_9, true)] 17 [qkbacktells_0, qkbacktells_1, qkbacktells_3] false,
.chk [(qkbacktells_9, true)] (.eqb false) [.inp 148, .inp 149],
.chk [] .pick [qkbacktells_9, qkbacktells_10, .bool false],
.call 150 [(qkbacktells_11, true)] 18 [qkbacktells_0, qkbacktells_1, .inp 137] false,
.call 151 [(qkbacktells_11, true)] 19 [qkbacktells_0, qkbacktells_1, .inp 137] false,
.chk [(qkbacktells_11, true)] (.eqb false) [.inp 150, .inp 151],
.chk [] .pick [qkbacktells_11, qkbacktells_12, .bool false],
.call 152 [(qkbacktells_13, true)] 9 [] false,
.chk [] .pick [qkbacktells_13, .inp 152, .bool false]] <|
.seg [.bind 153 (.app .pick [qkbacktells_13, .inp 152, .bool false]),
.bind 154 (qkbacktells_7),
.bind 155 (qkbacktells_9),
.bind 156 (qkbacktells_11),
.bind 157 (qkbacktells_13)] <|
.ret (.inp 153)))
theorem run_lockbarlaw22_BackTells : runF E 3 [.agg [.inp 0, .inp 1, .inp 2, .inp 3, .inp 4, .inp 5, .inp 6, .inp 7, .inp 8, .inp 9, .inp 10], .agg [.inp 11, .inp 12, .inp 13, .inp 14, .inp 15, .inp 16, .inp 17, .inp 18, .inp 19, .inp 20, .inp 21, .inp 22, .inp 23, .inp 24, .inp 25, .inp 26, .inp 27, .inp 28, .inp 29, .inp 30, .inp 31, .inp 32, .inp 33, .inp 34, .inp 35, .inp 36, .inp 37, .inp 38, .inp 39], .agg [.inp 40, .inp 41, .inp 42, .inp 43, .inp 44, .inp 45, .inp 46, .inp 47, .inp 48, .inp 49, .inp 50, .inp 51, .inp 52, .inp 53, .inp 54, .inp 55, .inp 56, .inp 57, .inp 58, .inp 59, .inp 60, .inp 61, .inp 62, .inp 63, .inp 64, .inp 65, .inp 66, .inp 67, .inp 68, .inp 69, .inp 70, .inp 71, .inp 72, .inp 73, .inp 74, .inp 75, .inp 76, .inp 77, .inp 78, .inp 79, .inp 80, .inp 81, .inp 82, .inp 83, .inp 84, .inp 85, .inp 86, .inp 87, .inp 88, .inp 89, .inp 90, .inp 91, .inp 92, .inp 93, .inp 94, .inp 95, .inp 96, .inp 97, .inp 98, .inp 99, .inp 100, .inp 101, .inp 102, .inp 103, .inp 104, .inp 105, .inp 106, .inp 107, .inp 108, .inp 109, .inp 110, .inp 111, .inp 112, .inp 113], .agg [.inp 114, .inp 115, .inp 116, .inp 117, .inp 118, .inp 119, .inp 120, .inp 121, .inp 122, .inp 123, .inp 124, .inp 125, .inp 126, .inp 127, .inp 128, .inp 129, .inp 130, .inp 131, .inp 132, .inp 133, .inp 134, .inp 135, .inp 136], .inp 137] 138 = rt_lockbarlaw22_BackTells := by kernel_rfl

end Go.Lb.LK

namespace Go.Lb.LK
open Go Go.Lb Go.Proofs Go.RowKit

def oneK (h : Hd) : Kern := ⟨0, [h], fun _ => 0, fun _ => 0, fun _ => false⟩
theorem cancelN_len {l : Lay} {im : Img} {k : Kern} {x : Int} (h : k.len) : (cancelN l im k x).1.len := by
  unfold cancelN
  split
  · exact h
  · split
    · rename_i g hg
      have hgm := List.mem_of_getElem? hg
      unfold cancelAt
      split
      · refine ⟨?_, fun y hy => ?_⟩
        · have := h.1
          simp only [List.length_append, List.length_take, List.length_drop]; omega
        · rcases List.mem_append.1 hy with hy | hy
          · exact h.2 y (List.mem_of_mem_take hy)
          · exact h.2 y (List.mem_of_mem_drop hy)
      · split
        · refine ⟨by simpa using h.1, fun y hy => ?_⟩
          rcases List.mem_or_eq_of_mem_set hy with hy | rfl
          · exact h.2 y hy
          · exact h.2 g hgm
        · exact h
    · exact h
theorem runS_len' {l : Lay} {im : Img} {h : Hd} (hl : h.len) : (runS l im h).len := by
  unfold runS
  split
  · exact hl
  · exact hl
theorem tickB_len {l : Lay} {im : Img} {h : Hd} (hl : h.len) : (tickB l im h).1.len := by
  unfold tickB
  split
  · split
    · exact runS_len' (h := { h with stage := 3, timer := 0 }) hl
    · split <;> exact hl
  · exact hl
set_option maxRecDepth 100000 in
set_option maxHeartbeats 4000000 in
theorem c_BackTells (l : Lay) (hl : l.ok) (im : Img) (hi : im.ok) (k : Kern) (h : Hd) (x : Int) : C f_lockbarlaw22_BackTells [l.av, im.av, k.av, h.av, I x] (.bool true) := by
  refine ctr (l.cells ++ im.cells ++ k.cells ++ h.cells ++ [I x]) run_lockbarlaw22_BackTells rfl (by simp [pureAll_append, AV.pureAll, AV.pure]) rfl ?_ rfl
  unfold rt_lockbarlaw22_BackTells
  simp [Lay.cells, Img.cells, Kern.cells, Hd.cells]
  refine call (c_r06_Great l) (by simp [Lay.cells]) (by simp) ?_
  simp
  refine callIf (avs := [k.av]) (.bool (great18 k)) rfl (fun _ => ⟨by simp [Kern.cells], c_r18Great k⟩) (by simp) ?_
  cases g1 : great6 l
  case true =>
    simp
    exact call c_wakes22 rfl (by simp) (by simp)
  cases g2 : great18 k
  case true =>
    simp
    exact call c_wakes22 rfl (by simp) (by simp)
  simp
  refine call (c_r18Great (oneK h)) (by simp [Kern.cells, oneK, Hd.cells]) (fun _ => rfl) ?_
  cases g3 : great18 (oneK h)
  case true =>
    simp
    exact call c_wakes22 rfl (by simp) (by simp)
  have hkl := (small18 g2).1
  have hhl := (small18 g3).1.2 h (by simp [oneK])
  simp
  refine call (c_back_Cancel l hl im hi k hkl x) (by simp [Lay.cells, Img.cells, Kern.cells]) (by simp) ?_
  simp [Kern.cells, Hd.cells]
  refine call (c_r22Cancel l im hi k hkl x) (by simp [Lay.cells, Img.cells, Kern.cells]) (by simp) ?_
  simp [Kern.cells, Hd.cells]
  refine call (c_back_Tick l im hi h hhl) (by simp [Lay.cells, Img.cells, Hd.cells]) (by simp) ?_
  simp [Kern.cells, Hd.cells]
  refine call (c_r22Tick l im hi h hhl) (by simp [Lay.cells, Img.cells, Hd.cells]) (by simp) ?_
  simp [Kern.cells, Hd.cells]
  refine call (r := .bool true) (avs := [(cancelN l im k x).1.av, (cancelN l im k x).1.av]) (by have := c_r18Same (cancelN l im k x).1 (cancelN l im k x).1 (cancelN_len hkl); rw [sameK_refl] at this; exact this) (by simp [Kern.cells]) (by simp) ?_
  simp [Kern.cells, Hd.cells]
  refine callIf (avs := [(tickB l im h).1.av, (tickB l im h).1.av]) (.bool true) rfl (fun _ => ⟨by simp [Hd.cells], by have := c_r17Same (tickB l im h).1 (tickB l im h).1 (tickB_len hhl); rw [sameS_refl] at this; exact this⟩) (by simp) ?_
  simp [Kern.cells, Hd.cells]
  refine callIf (avs := [l.av, im.av, h.av]) (.bool (inN l im h)) rfl (fun _ => ⟨by simp [Lay.cells, Img.cells, Hd.cells], c_back_In l im hi h hhl⟩) (by simp) ?_
  simp [Kern.cells, Hd.cells]
  refine callIf (avs := [l.av, im.av, h.av]) (.bool (inN l im h)) rfl (fun _ => ⟨by simp [Lay.cells, Img.cells, Hd.cells], c_r22In l im hi h hhl⟩) (by simp) ?_
  simp [Kern.cells, Hd.cells]
  refine callIf (avs := [l.av, im.av, I x]) (.bool (rearN l im x)) rfl (fun _ => ⟨by simp [Lay.cells, Img.cells], c_back_Rear l hl im hi x⟩) (by simp) ?_
  simp [Kern.cells, Hd.cells]
  refine callIf (avs := [l.av, im.av, I x]) (.bool (rearN l im x)) rfl (fun _ => ⟨by simp [Lay.cells, Img.cells], c_r22Rear l im hi x⟩) (by simp) ?_
  simp [Kern.cells, Hd.cells]
  refine callIf (avs := []) (.bool true) rfl (fun _ => ⟨rfl, c_wakes22⟩) (by simp) ?_
  simp [Kern.cells, Hd.cells]
end Go.Lb.LK

namespace Go.Lb.LK
open Go Go.Lb Go.Proofs
@[simp] noncomputable def qkbackstill_0 : SE := .agg [.inp 0, .inp 1, .inp 2, .inp 3, .inp 4, .inp 5, .inp 6, .inp 7, .inp 8, .inp 9, .inp 10]
@[simp] noncomputable def qkbackstill_1 : SE := .agg [.inp 11, .inp 12, .inp 13, .inp 14, .inp 15, .inp 16, .inp 17, .inp 18, .inp 19, .inp 20, .inp 21, .inp 22, .inp 23, .inp 24, .inp 25, .inp 26, .inp 27, .inp 28, .inp 29, .inp 30, .inp 31, .inp 32, .inp 33, .inp 34, .inp 35, .inp 36, .inp 37, .inp 38, .inp 39]
@[simp] noncomputable def qkbackstill_2 : SE := .agg [.inp 40, .inp 41, .inp 42, .inp 43, .inp 44, .inp 45, .inp 46, .inp 47, .inp 48, .inp 49, .inp 50, .inp 51, .inp 52, .inp 53, .inp 54, .inp 55, .inp 56, .inp 57, .inp 58, .inp 59, .inp 60, .inp 61, .inp 62]
@[simp] noncomputable def qkbackstill_3 : SE := .app .lst [qkbackstill_2]
@[simp] noncomputable def qkbackstill_4 : SE := .app (.bin .neq) [.inp 46, .int .u8 4]
@[simp] noncomputable def qkbackstill_5 : SE := .app (.un .not) [.app (.tproj 1) [.inp 66]]
@[simp] noncomputable def qkbackstill_6 : SE := .app (.part 21 1 false) [.app (.tproj 0) [.inp 66]]
@[simp] noncomputable def qkbackstill_7 : SE := .agg [.app (.part 0 1 false) [.app (.tproj 0) [.inp 66]], .app (.part 1 1 false) [.app (.tproj 0) [.inp 66]], .app (.part 2 1 false) [.app (.tproj 0) [.inp 66]], .app (.part 3 1 false) [.app (.tproj 0) [.inp 66]], .app (.part 4 1 false) [.app (.tproj 0) [.inp 66]], .app (.part 5 1 false) [.app (.tproj 0) [.inp 66]], .app (.part 6 1 false) [.app (.tproj 0) [.inp 66]], .app (.part 7 1 false) [.app (.tproj 0) [.inp 66]], .app (.part 8 1 false) [.app (.tproj 0) [.inp 66]], .app (.part 9 1 false) [.app (.tproj 0) [.inp 66]], .app (.part 10 1 false) [.app (.tproj 0) [.inp 66]], .app (.part 11 1 false) [.app (.tproj 0) [.inp 66]], .app (.part 12 1 false) [.app (.tproj 0) [.inp 66]], .app (.part 13 1 false) [.app (.tproj 0) [.inp 66]], .app (.part 14 1 false) [.app (.tproj 0) [.inp 66]], .app (.part 15 1 false) [.app (.tproj 0) [.inp 66]], .app (.part 16 1 false) [.app (.tproj 0) [.inp 66]], .app (.part 17 1 false) [.app (.tproj 0) [.inp 66]], .app (.part 18 1 false) [.app (.tproj 0) [.inp 66]], .app (.part 19 1 false) [.app (.tproj 0) [.inp 66]], .app (.part 20 1 false) [.app (.tproj 0) [.inp 66]], qkbackstill_6, .app (.part 22 1 false) [.app (.tproj 0) [.inp 66]]]
@[simp] noncomputable def qkbackstill_8 : SE := .app .pick [qkbackstill_5, .inp 68, .bool false]
@[simp] noncomputable def qkbackstill_9 : SE := .app (.bin .geq) [.inp 69, .inp 47]
@[simp] noncomputable def qkbackstill_10 : SE := .app (.eidx 3) [.inp 43, .inp 69]
@[simp] noncomputable def qkbackstill_11 : SE := .app (.eoff 0) [qkbackstill_10]
@[simp] noncomputable def qkbackstill_12 : SE := .app .pick [qkbackstill_9, .inp 70, .bool false]
@[simp] noncomputable def qkbackstill_13 : SE := .app .pick [qkbackstill_5, .inp 71, .bool false]
@[simp] noncomputable def qkbackstill_14 : SE := .app .pick [qkbackstill_13, .inp 72, .bool false]
@[simp] noncomputable def qkbackstill_15 : SE := .app (.bin .eql) [qkbackstill_6, .int .i64 0]
@[simp] noncomputable def qkbackstill_16 : SE := .app (.eqb false) [.app (.tproj 1) [.inp 66], qkbackstill_15]
@[simp] noncomputable def qkbackstill_17 : SE := .app .pick [.inp 72, qkbackstill_16, .bool false]
noncomputable def rt_lockbarlaw22_BackStill : RT :=
.seg [.chk [] (.isAgg 11) [qkbackstill_0]] <|
.seg [.chk [] (.isAgg 29) [qkbackstill_1]] <|
.seg [.chk [] (.isAgg 23) [qkbackstill_2]] <|
.seg [.call 63 [] 7 [qkbackstill_0] false] <|
.cond (.inp 63)
 (.seg [.call 64 [] 9 [] false] <|
.ret (.inp 64))
 (.seg [.chk [] (.isAgg 23) [qkbackstill_2]] <|
.seg [.call 64 [] 8 [.agg [.int .i64 0, qkbackstill_3, .int .i64 0, .int .i64 0, .bool false, .int .i64 0, .int .i64 0, .bool false, .int .i64 0, .int .i64 0, .bool false, .int .i64 0, .int .i64 0, .bool false, .int .i64 0, .int .i64 0, .bool false, .int .i64 0, .int .i64 0, .bool false, .int .i64 0, .int .i64 0, .bool false, .int .i64 0, .int .i64 0, .bool false, .int .i64 0, .int .i64 0, .bool false, .int .i64 0, .int .i64 0, .bool false, .int .i64 0, .int .i64 0, .bool false, .int .i64 0, .int .i64 0, .bool false, .int .i64 0, .int .i64 0, .bool false, .int .i64 0, .int .i64 0, .bool false, .int .i64 0, .int .i64 0, .bool false, .int .i64 0, .int .i64 0, .bool false, .int .i64 0, .int .i64 0, .bool false, .int .i64 0, .int .i64 0, .bool false, .int .i64 0, .int .i64 0, .bool false, .int .i64 0, .int .i64 0, .bool false, .int .i64 0, .int .i64 0, .bool false, .int .i64 0, .int .i64 0, .bool false, .int .i64 0, .int .i64 0, .bool false, .int .i64 0, .int .i64 0, .bool false]] true] <|
.seg [.bind 65 (qkbackstill_3)] <|
.cond (.inp 64)
 (.seg [.call 66 [] 9 [] false] <|
.ret (.inp 66))
 (.seg [.call 66 [] 12 [qkbackstill_0, qkbackstill_1, qkbackstill_2] false] <|
.seg [.chk [] (.tproj 0) [.inp 66]] <|
.seg [.chk [] (.tproj 1) [.inp 66]] <|
.seg [.chk [] (.isAgg 23) [.app (.tproj 0) [.inp 66]]] <|
.seg [.chk [] (.bin .neq) [.inp 46, .int .u8 4]] <|
.seg [.call 67 [(qkbackstill_4, false)] 25 [qkbackstill_0, qkbackstill_1] false] <|
.seg [.chk [] .pick [qkbackstill_4, .bool true, .inp 67]] <|
.cond (.app .pick [qkbackstill_4, .bool true, .inp 67])
 (.seg [.chk [] (.un .not) [.app (.tproj 1) [.inp 66]]] <|
.seg [.call 68 [(qkbackstill_5, true)] 15 [qkbackstill_7, qkbackstill_2] false] <|
.seg [.chk [] .pick [qkbackstill_5, .inp 68, .bool false]] <|
.seg [.call 69 [(qkbackstill_8, true)] 9 [] false] <|
.seg [.chk [] .pick [qkbackstill_8, .inp 69, .bool false]] <|
.ret (.app .pick [qkbackstill_8, .inp 69, .bool false]))
 (.loop 0 68 [.bool false, .int .i64 0] <|
.seg [.chk [] .len [.inp 43]] <|
.seg [.chk [] (.bin .lss) [.inp 69, .app .len [.inp 43]]] <|
.cond (.app (.bin .lss) [.inp 69, .app .len [.inp 43]])
 (.seg [.chk [(.inp 68, false)] (.bin .geq) [.inp 69, .inp 47],
.chk [(qkbackstill_9, true), (.inp 68, false)] (.eidx 3) [.inp 43, .inp 69],
.chk [(qkbackstill_9, true), (.inp 68, false)] (.eoff 0) [qkbackstill_10],
.chk [(qkbackstill_9, true), (.inp 68, false)] (.eload 1 false) [qkbackstill_11],
.call 70 [(qkbackstill_9, true), (.inp 68, false)] 24 [qkbackstill_0, qkbackstill_1, .app (.eload 1 false) [qkbackstill_11]] false,
.chk [(.inp 68, false)] .pick [qkbackstill_9, .inp 70, .bool false],
.chk [] .pick [.inp 68, .bool true, qkbackstill_12]] <|
.seg [.chk [] (.bin .add) [.inp 69, .int .i64 1]] <|
.again 0 [.app .pick [.inp 68, .bool true, qkbackstill_12], .app (.bin .add) [.inp 69, .int .i64 1]])
 (.seg [.chk [] (.isAgg 23) [qkbackstill_2]] <|
.cond (.inp 68)
 (.seg [.chk [] (.un .not) [.app (.tproj 1) [.inp 66]],
.call 70 [(qkbackstill_5, true)] 26 [qkbackstill_0, qkbackstill_1, .agg [.inp 40, .inp 41, .inp 42, .inp 43, .inp 44, .inp 45, .int .u8 3, .inp 47, .inp 48, .inp 49, .inp 50, .inp 51, .inp 52, .inp 53, .inp 54, .inp 55, .inp 56, .inp 57, .inp 58, .inp 59, .inp 60, .int .i64 0, .inp 62]] false,
.call 71 [(qkbackstill_5, true)] 15 [qkbackstill_7, .inp 70] false,
.chk [] .pick [qkbackstill_5, .inp 71, .bool false],
.call 72 [(qkbackstill_13, true)] 9 [] false,
.chk [] .pick [qkbackstill_13, .inp 72, .bool false]] <|
.ret (qkbackstill_14))
 (.seg [.call 70 [] 16 [qkbackstill_0, qkbackstill_1, qkbackstill_2] false] <|
.cond (.inp 70)
 (.seg [.chk [] (.un .not) [.app (.tproj 1) [.inp 66]]] <|
.seg [.call 71 [(qkbackstill_5, true)] 15 [qkbackstill_7, qkbackstill_2] false] <|
.seg [.chk [] .pick [qkbackstill_5, .inp 71, .bool false]] <|
.seg [.call 72 [(qkbackstill_13, true)] 9 [] false] <|
.seg [.chk [] .pick [qkbackstill_13, .inp 72, .bool false]] <|
.ret (qkbackstill_14))
 (.seg [.call 71 [] 27 [.inp 61] false] <|
.seg [.chk [] .isOne [.inp 71]] <|
.seg [.call 72 [] 15 [qkbackstill_7, .agg [.inp 40, .inp 41, .inp 42, .inp 43, .inp 44, .inp 45, .inp 46, .inp 47, .inp 48, .inp 49, .inp 50, .inp 51, .inp 52, .inp 53, .inp 54, .inp 55, .inp 56, .inp 57, .inp 58, .inp 59, .inp 60, .inp 71, .inp 62]] false] <|
.seg [.chk [(.inp 72, true)] (.bin .eql) [qkbackstill_6, .int .i64 0]] <|
.seg [.chk [(.inp 72, true)] (.eqb false) [.app (.tproj 1) [.inp 66], qkbackstill_15]] <|
.seg [.chk [] .pick [.inp 72, qkbackstill_16, .bool false]] <|
.seg [.call 73 [(qkbackstill_17, true)] 9 [] false] <|
.seg [.chk [] .pick [qkbackstill_17, .inp 73, .bool false]] <|
.seg [.bind 74 (.app .pick [qkbackstill_17, .inp 73, .bool false]),
.bind 75 (qkbackstill_17)] <|
.ret (.inp 74)))))))
theorem run_lockbarlaw22_BackStill : runF E 6 [.agg [.inp 0, .inp 1, .inp 2, .inp 3, .inp 4, .inp 5, .inp 6, .inp 7, .inp 8, .inp 9, .inp 10], .agg [.inp 11, .inp 12, .inp 13, .inp 14, .inp 15, .inp 16, .inp 17, .inp 18, .inp 19, .inp 20, .inp 21, .inp 22, .inp 23, .inp 24, .inp 25, .inp 26, .inp 27, .inp 28, .inp 29, .inp 30, .inp 31, .inp 32, .inp 33, .inp 34, .inp 35, .inp 36, .inp 37, .inp 38, .inp 39], .agg [.inp 40, .inp 41, .inp 42, .inp 43, .inp 44, .inp 45, .inp 46, .inp 47, .inp 48, .inp 49, .inp 50, .inp 51, .inp 52, .inp 53, .inp 54, .inp 55, .inp 56, .inp 57, .inp 58, .inp 59, .inp 60, .inp 61, .inp 62]] 63 = rt_lockbarlaw22_BackStill := by kernel_rfl

end Go.Lb.LK

namespace Go.Lb.LK
open Go Go.Lb Go.Proofs Go.RowKit

def anyU (p : Nat → Bool) (n : Nat) : Bool := (List.range n).any p
theorem anyU_zero (p : Nat → Bool) : anyU p 0 = false := rfl
theorem anyU_succ (p : Nat → Bool) (n : Nat) : anyU p (n + 1) = (anyU p n || p n) := by
  unfold anyU
  rw [List.range_succ]; simp
theorem same_refl {a : Hd} (h : a.len) : C f_lockbarref17_Same [a.av, a.av] (.bool true) := by
  have := c_r17Same a a h
  rw [sameS_refl] at this; exact this
set_option maxRecDepth 100000 in
set_option maxHeartbeats 4000000 in
theorem c_BackStill (l : Lay) (im : Img) (hi : im.ok) (h : Hd) : C f_lockbarlaw22_BackStill [l.av, im.av, h.av] (.bool true) := by
  refine ctr (l.cells ++ im.cells ++ h.cells) run_lockbarlaw22_BackStill rfl (by simp [pureAll_append, AV.pureAll, AV.pure]) rfl ?_ rfl
  unfold rt_lockbarlaw22_BackStill
  simp [Lay.cells, Img.cells, Hd.cells]
  refine call (c_r06_Great l) (by simp [Lay.cells]) (by simp) ?_
  simp
  cases g1 : great6 l
  case true =>
    simp
    exact call c_wakes22 rfl (by simp) (by simp)
  simp
  refine call (c_r18Great (oneK h)) (by simp [Kern.cells, oneK, Hd.cells]) (fun _ => rfl) ?_
  cases g3 : great18 (oneK h)
  case true =>
    simp
    exact call c_wakes22 rfl (by simp) (by simp)
  have hhl := (small18 g3).1.2 h (by simp [oneK])
  have hn := hhl.1
  simp
  refine call (c_back_Tick l im hi h hhl) (by simp [Lay.cells, Img.cells, Hd.cells]) (by simp) ?_
  simp [Hd.cells]
  refine callIf (avs := [l.av, im.av]) (.bool (stale l im)) rfl (fun _ => ⟨by simp [Lay.cells, Img.cells], c_r15Stale l im⟩) (by simp) ?_
  by_cases hc : h.stage = 4 ∧ stale l im = false
  · obtain ⟨h4, hst⟩ := hc
    simp [h4, hst]
    refine RTwp_loop rfl (fun vs => ∃ i : Nat, i ≤ h.path.steps.length ∧ vs = [.bool (anyU (soAt (told l im) h) i), I i]) (fun vs => match vs with | [_, .int _ j] => h.path.steps.length - j.toNat | _ => 0) ⟨0, by omega, by simp [anyU_zero]⟩ ?_
    rintro vs - ⟨i, hik, rfl⟩
    simp
    refine ⟨fun hlt => ?_, fun hge => ?_⟩
    · have hw := wrap_succ (i := i) (by omega)
      have hse := soAt_lt (q := told l im) hlt
      have hstep := anyU_succ (soAt (told l im) h) i
      rw [hse] at hstep
      simp [hlt, Step.cells, hw]
      refine callIf (avs := [l.av, im.av, I h.path.steps[i].s]) (.bool (told l im h.path.steps[i].s)) rfl (fun _ => ⟨by simp [Lay.cells, Img.cells, hlt, Step.cells], c_r15Told l im hi _⟩) (fun _ => rfl) ?_
      simp [hw]
      exact ⟨⟨i + 1, by omega, hstep.symm, rfl⟩, by omega⟩
    · have : i = h.path.steps.length := by omega
      subst this
      have htd : anyU (soAt (told l im) h) h.path.steps.length = toldN l im h := rfl
      rw [htd]
      cases htl : toldN l im h
      · simp
        refine call (c_back_In l im hi h hhl) (by simp [Lay.cells, Img.cells, Hd.cells, h4]) (fun _ => rfl) ?_
        cases hin : inN l im h
        · have ht : tickB l im h = ({ h with timer := downT h.timer }, decide (downT h.timer = 0)) := by simp [tickB, h4, hst, htl, hin]
          rw [ht]
          simp [Hd.cells]
          refine call (c_r03Down h.timer) (by simp) (fun _ => rfl) ?_
          simp [Hd.cells]
          refine call (same_refl (a := { h with timer := downT h.timer }) hhl) (by simp [Hd.cells, h4]) (fun _ => rfl) ?_
          simp [Hd.cells]
          refine callIf (avs := []) (.bool true) rfl (fun _ => ⟨rfl, c_wakes22⟩) (by simp) ?_
          simp [Hd.cells]
          rfl
        · have ht : tickB l im h = (h, false) := by simp [tickB, h4, hst, htl, hin]
          rw [ht]
          simp [Hd.cells]
          refine callIf (avs := [h.av, h.av]) (.bool true) rfl (fun _ => ⟨by simp [Hd.cells, h4], same_refl hhl⟩) (by simp) ?_
          simp [Hd.cells]
          refine callIf (avs := []) (.bool true) rfl (fun _ => ⟨rfl, c_wakes22⟩) (by simp) ?_
          simp [Hd.cells]
      · have ht : tickB l im h = (runS l im { h with stage := 3, timer := 0 }, false) := by simp [tickB, h4, hst, htl]
        rw [ht]
        simp [Hd.cells]
        refine callIf (avs := [l.av, im.av, ({ h with stage := 3, timer := 0 } : Hd).av]) (runS l im { h with stage := 3, timer := 0 }).av (by simp [AV.pure]) (fun _ => ⟨by simp [Lay.cells, Img.cells, Hd.cells], c_r21Run l im hi { h with stage := 3, timer := 0 } hhl (by simp)⟩) (by simp) ?_
        simp [Hd.cells]
        refine callIf (avs := [(runS l im { h with stage := 3, timer := 0 }).av, (runS l im { h with stage := 3, timer := 0 }).av]) (.bool true) rfl (fun _ => ⟨by simp [Hd.cells], same_refl (runS_len' hhl)⟩) (by simp) ?_
        simp [Hd.cells]
        refine callIf (avs := []) (.bool true) rfl (fun _ => ⟨rfl, c_wakes22⟩) (by simp) ?_
        simp [Hd.cells]
  · have ht : tickB l im h = (h, false) := by simp [tickB, hc]
    have hc2 : ¬ h.stage = 4 ∨ stale l im = true := by
      by_cases h4 : h.stage = 4
      · right; cases hst : stale l im
        · exact absurd ⟨h4, hst⟩ hc
        · rfl
      · exact .inl h4
    have hcb : (!decide (h.stage = 4) || stale l im) = true := by
      rcases hc2 with h1 | h1 <;> simp [h1]
    rw [ht]
    simp [hcb, Hd.cells]
    refine callIf (avs := [h.av, h.av]) (.bool true) rfl (fun _ => ⟨by simp [Hd.cells], same_refl hhl⟩) (by simp) ?_
    simp [Hd.cells]
    refine callIf (avs := []) (.bool true) rfl (fun _ => ⟨rfl, c_wakes22⟩) (by simp) ?_
    simp [Hd.cells]
end Go.Lb.LK
