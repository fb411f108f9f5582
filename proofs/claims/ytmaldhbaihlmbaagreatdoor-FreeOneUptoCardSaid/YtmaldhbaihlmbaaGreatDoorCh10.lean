/- What functions come to, printed by a program, checked by the kernel. -/
/- In a kernel that may be a section's holder is the one route that still holds it; a point is wanted at one position by all that want it; it is locked just if one of them is further than HtCall. -/
/- What functions come to, printed by a program, checked by the kernel. -/
/- A need that can be met is wanted at no other position; if it is locked, or its machine has failed, or its section is not free, the point stands there, unless it is but called. -/
import Derived.Test.YtmaldhbaihlmbaaGreatDoorCh1
import Derived.Test.YtmaldhbaihlmbaaGreatDoorCh8
set_option linter.unusedSimpArgs false
set_option linter.unusedVariables false
namespace Go.Lb.LK
open Go Go.Lb Go.Proofs
@[simp] noncomputable def qkfreeone_0 : SE := .agg [.inp 0, .inp 1, .inp 2, .inp 3, .inp 4, .inp 5, .inp 6, .inp 7, .inp 8, .inp 9, .inp 10, .inp 11, .inp 12, .inp 13, .inp 14, .inp 15, .inp 16, .inp 17, .inp 18, .inp 19, .inp 20, .inp 21, .inp 22, .inp 23, .inp 24, .inp 25, .inp 26, .inp 27, .inp 28, .inp 29, .inp 30, .inp 31, .inp 32, .inp 33, .inp 34, .inp 35, .inp 36, .inp 37, .inp 38, .inp 39, .inp 40, .inp 41, .inp 42, .inp 43, .inp 44, .inp 45, .inp 46, .inp 47, .inp 48, .inp 49, .inp 50, .inp 51, .inp 52, .inp 53, .inp 54, .inp 55, .inp 56, .inp 57, .inp 58, .inp 59, .inp 60, .inp 61, .inp 62, .inp 63, .inp 64, .inp 65, .inp 66, .inp 67, .inp 68, .inp 69, .inp 70, .inp 71, .inp 72, .inp 73]
@[simp] noncomputable def qkfreeone_1 : SE := .app (.eidx 23) [.inp 1, .inp 81]
@[simp] noncomputable def qkfreeone_2 : SE := .app (.eload 23 true) [qkfreeone_1]
@[simp] noncomputable def qkfreeone_3 : SE := .app (.un .not) [.app (.tproj 1) [.inp 76]]
@[simp] noncomputable def qkfreeone_4 : SE := .app (.eoff 0) [qkfreeone_1]
@[simp] noncomputable def qkfreeone_5 : SE := .app (.eload 1 false) [qkfreeone_4]
@[simp] noncomputable def qkfreeone_6 : SE := .app (.bin .neq) [qkfreeone_5, .app (.tproj 0) [.inp 76]]
@[simp] noncomputable def qkfreeone_7 : SE := .app (.eoff 6) [qkfreeone_1]
@[simp] noncomputable def qkfreeone_8 : SE := .app (.eload 1 false) [qkfreeone_7]
@[simp] noncomputable def qkfreeone_9 : SE := .app (.bin .gtr) [qkfreeone_8, .int .u8 1]
@[simp] noncomputable def qkfreeone_10 : SE := .app .pick [.inp 80, .bool true, qkfreeone_9]
@[simp] noncomputable def qkfreeone_11 : SE := .app (.un .not) [.app (.tproj 1) [.inp 77]]
@[simp] noncomputable def qkfreeone_12 : SE := .app (.bin .neq) [.app (.tproj 0) [.inp 84], .app (.tproj 0) [.inp 77]]
@[simp] noncomputable def qkfreeone_13 : SE := .app (.bin .add) [.inp 78, .int .i64 1]
@[simp] noncomputable def qkfreeone_14 : SE := .app (.bin .add) [.inp 79, .int .i64 1]
@[simp] noncomputable def qkfreeone_15 : SE := .app (.bin .add) [.inp 81, .int .i64 1]
@[simp] noncomputable def qkfreeone_16 : SE := .app (.bin .neq) [.app (.tproj 0) [.inp 83], .app (.tproj 0) [.inp 77]]
@[simp] noncomputable def qkfreeone_17 : SE := .app (.bin .leq) [.inp 78, .int .i64 1]
@[simp] noncomputable def qkfreeone_18 : SE := .app (.bin .eql) [.inp 78, .int .i64 1]
@[simp] noncomputable def qkfreeone_19 : SE := .app (.eqb false) [.app (.tproj 1) [.inp 76], qkfreeone_18]
@[simp] noncomputable def qkfreeone_20 : SE := .app .pick [qkfreeone_17, qkfreeone_19, .bool false]
@[simp] noncomputable def qkfreeone_21 : SE := .app (.bin .gtr) [.inp 79, .int .i64 0]
@[simp] noncomputable def qkfreeone_22 : SE := .app (.eqb false) [.app (.tproj 1) [.inp 77], qkfreeone_21]
@[simp] noncomputable def qkfreeone_23 : SE := .app .pick [qkfreeone_20, qkfreeone_22, .bool false]
@[simp] noncomputable def qkfreeone_24 : SE := .app (.eqb false) [.inp 82, .inp 80]
@[simp] noncomputable def qkfreeone_25 : SE := .app .pick [qkfreeone_23, qkfreeone_24, .bool false]
@[simp] noncomputable def qkfreeone_26 : SE := .app (.bin .eql) [.app (.tproj 0) [.inp 76], .int .i64 0]
@[simp] noncomputable def qkfreeone_27 : SE := .app .pick [.app (.tproj 1) [.inp 76], .bool true, qkfreeone_26]
@[simp] noncomputable def qkfreeone_28 : SE := .app .pick [qkfreeone_25, qkfreeone_27, .bool false]
noncomputable def rt_lockbarlaw18_FreeOne : RT :=
.seg [.chk [] (.isAgg 74) [qkfreeone_0]] <|
.seg [.call 75 [] 25 [qkfreeone_0] false] <|
.seg [.chk [] (.un .not) [.inp 75]] <|
.cond (.inp 75)
 (.seg [.call 76 [] 12 [qkfreeone_0, .inp 74] false] <|
.seg [.chk [] (.tproj 0) [.inp 76]] <|
.seg [.chk [] (.tproj 1) [.inp 76]] <|
.seg [.call 77 [] 14 [qkfreeone_0, .inp 74] false] <|
.seg [.chk [] (.tproj 0) [.inp 77]] <|
.seg [.chk [] (.tproj 1) [.inp 77]] <|
.loop 0 78 [.int .i64 0, .int .i64 0, .bool false, .int .i64 0] <|
.seg [.chk [] .len [.inp 1]] <|
.seg [.chk [] (.bin .lss) [.inp 81, .app .len [.inp 1]]] <|
.cond (.app (.bin .lss) [.inp 81, .app .len [.inp 1]])
 (.seg [.chk [] (.eidx 23) [.inp 1, .inp 81]] <|
.seg [.chk [] (.eload 23 true) [qkfreeone_1]] <|
.seg [.call 82 [] 36 [qkfreeone_2, .inp 74] false] <|
.cond (.inp 82)
 (.seg [.chk [] (.bin .add) [.inp 78, .int .i64 1]] <|
.seg [.chk [] (.un .not) [.app (.tproj 1) [.inp 76]]] <|
.seg [.chk [(qkfreeone_3, false)] (.eidx 23) [.inp 1, .inp 81]] <|
.seg [.chk [(qkfreeone_3, false)] (.eoff 0) [qkfreeone_1]] <|
.seg [.chk [(qkfreeone_3, false)] (.eload 1 false) [qkfreeone_4]] <|
.seg [.chk [(qkfreeone_3, false)] (.bin .neq) [qkfreeone_5, .app (.tproj 0) [.inp 76]]] <|
.seg [.chk [] .pick [qkfreeone_3, .bool true, qkfreeone_6]] <|
.seg [.bind 83 (.app .pick [qkfreeone_3, .bool true, qkfreeone_6])] <|
.cond (.inp 83)
 (.ret (.bool false))
 (.seg [.chk [] (.eidx 23) [.inp 1, .inp 81]] <|
.seg [.chk [] (.eload 23 true) [qkfreeone_1]] <|
.seg [.call 84 [] 37 [qkfreeone_2, .inp 74] false] <|
.seg [.chk [] (.tproj 0) [.inp 84]] <|
.seg [.chk [] (.tproj 1) [.inp 84]] <|
.cond (.app (.tproj 1) [.inp 84])
 (.seg [.chk [] (.bin .add) [.inp 79, .int .i64 1]] <|
.seg [.chk [(.inp 80, false)] (.eidx 23) [.inp 1, .inp 81]] <|
.seg [.chk [(.inp 80, false)] (.eoff 6) [qkfreeone_1]] <|
.seg [.chk [(.inp 80, false)] (.eload 1 false) [qkfreeone_7]] <|
.seg [.chk [(.inp 80, false)] (.bin .gtr) [qkfreeone_8, .int .u8 1]] <|
.seg [.chk [] .pick [.inp 80, .bool true, qkfreeone_9]] <|
.seg [.bind 85 (qkfreeone_10)] <|
.seg [.chk [] (.un .not) [.app (.tproj 1) [.inp 77]]] <|
.seg [.chk [(qkfreeone_11, false)] (.bin .neq) [.app (.tproj 0) [.inp 84], .app (.tproj 0) [.inp 77]]] <|
.seg [.chk [] .pick [qkfreeone_11, .bool true, qkfreeone_12]] <|
.seg [.bind 86 (.app .pick [qkfreeone_11, .bool true, qkfreeone_12])] <|
.cond (.inp 86)
 (.ret (.bool false))
 (.seg [.chk [] (.bin .add) [.inp 81, .int .i64 1]] <|
.again 0 [qkfreeone_13, qkfreeone_14, .inp 85, qkfreeone_15]))
 (.seg [.chk [] (.bin .add) [.inp 81, .int .i64 1]] <|
.again 0 [qkfreeone_13, .inp 79, .inp 80, qkfreeone_15])))
 (.seg [.chk [] (.eidx 23) [.inp 1, .inp 81]] <|
.seg [.chk [] (.eload 23 true) [qkfreeone_1]] <|
.seg [.call 83 [] 37 [qkfreeone_2, .inp 74] false] <|
.seg [.chk [] (.tproj 0) [.inp 83]] <|
.seg [.chk [] (.tproj 1) [.inp 83]] <|
.cond (.app (.tproj 1) [.inp 83])
 (.seg [.chk [] (.bin .add) [.inp 79, .int .i64 1]] <|
.seg [.chk [(.inp 80, false)] (.eidx 23) [.inp 1, .inp 81]] <|
.seg [.chk [(.inp 80, false)] (.eoff 6) [qkfreeone_1]] <|
.seg [.chk [(.inp 80, false)] (.eload 1 false) [qkfreeone_7]] <|
.seg [.chk [(.inp 80, false)] (.bin .gtr) [qkfreeone_8, .int .u8 1]] <|
.seg [.chk [] .pick [.inp 80, .bool true, qkfreeone_9]] <|
.seg [.bind 84 (qkfreeone_10)] <|
.seg [.chk [] (.un .not) [.app (.tproj 1) [.inp 77]]] <|
.seg [.chk [(qkfreeone_11, false)] (.bin .neq) [.app (.tproj 0) [.inp 83], .app (.tproj 0) [.inp 77]]] <|
.seg [.chk [] .pick [qkfreeone_11, .bool true, qkfreeone_16]] <|
.seg [.bind 85 (.app .pick [qkfreeone_11, .bool true, qkfreeone_16])] <|
.cond (.inp 85)
 (.ret (.bool false))
 (.seg [.chk [] (.bin .add) [.inp 81, .int .i64 1]] <|
.again 0 [.inp 78, qkfreeone_14, .inp 84, qkfreeone_15]))
 (.seg [.chk [] (.bin .add) [.inp 81, .int .i64 1]] <|
.again 0 [.inp 78, .inp 79, .inp 80, qkfreeone_15])))
 (.seg [.chk [] (.bin .leq) [.inp 78, .int .i64 1]] <|
.seg [.chk [(qkfreeone_17, true)] (.bin .eql) [.inp 78, .int .i64 1]] <|
.seg [.chk [(qkfreeone_17, true)] (.eqb false) [.app (.tproj 1) [.inp 76], qkfreeone_18]] <|
.seg [.chk [] .pick [qkfreeone_17, qkfreeone_19, .bool false]] <|
.seg [.chk [(qkfreeone_20, true)] (.bin .gtr) [.inp 79, .int .i64 0]] <|
.seg [.chk [(qkfreeone_20, true)] (.eqb false) [.app (.tproj 1) [.inp 77], qkfreeone_21]] <|
.seg [.chk [] .pick [qkfreeone_20, qkfreeone_22, .bool false]] <|
.seg [.call 82 [(qkfreeone_23, true)] 16 [qkfreeone_0, .inp 74] false] <|
.seg [.chk [(qkfreeone_23, true)] (.eqb false) [.inp 82, .inp 80]] <|
.seg [.chk [] .pick [qkfreeone_23, qkfreeone_24, .bool false]] <|
.seg [.chk [(.app (.tproj 1) [.inp 76], false), (qkfreeone_25, true)] (.bin .eql) [.app (.tproj 0) [.inp 76], .int .i64 0]] <|
.seg [.chk [(qkfreeone_25, true)] .pick [.app (.tproj 1) [.inp 76], .bool true, qkfreeone_26]] <|
.seg [.chk [] .pick [qkfreeone_25, qkfreeone_27, .bool false]] <|
.seg [.call 83 [(qkfreeone_28, true)] 11 [] false] <|
.seg [.chk [] .pick [qkfreeone_28, .inp 83, .bool false]] <|
.seg [.bind 84 (.app .pick [qkfreeone_28, .inp 83, .bool false]),
.bind 85 (qkfreeone_20),
.bind 86 (qkfreeone_23),
.bind 87 (qkfreeone_25),
.bind 88 (qkfreeone_28)] <|
.ret (.inp 84)))
 (.seg [.call 76 [] 11 [] false] <|
.ret (.inp 76))
theorem run_lockbarlaw18_FreeOne : runF E 5 [.agg [.inp 0, .inp 1, .inp 2, .inp 3, .inp 4, .inp 5, .inp 6, .inp 7, .inp 8, .inp 9, .inp 10, .inp 11, .inp 12, .inp 13, .inp 14, .inp 15, .inp 16, .inp 17, .inp 18, .inp 19, .inp 20, .inp 21, .inp 22, .inp 23, .inp 24, .inp 25, .inp 26, .inp 27, .inp 28, .inp 29, .inp 30, .inp 31, .inp 32, .inp 33, .inp 34, .inp 35, .inp 36, .inp 37, .inp 38, .inp 39, .inp 40, .inp 41, .inp 42, .inp 43, .inp 44, .inp 45, .inp 46, .inp 47, .inp 48, .inp 49, .inp 50, .inp 51, .inp 52, .inp 53, .inp 54, .inp 55, .inp 56, .inp 57, .inp 58, .inp 59, .inp 60, .inp 61, .inp 62, .inp 63, .inp 64, .inp 65, .inp 66, .inp 67, .inp 68, .inp 69, .inp 70, .inp 71, .inp 72, .inp 73], .inp 74] 75 = rt_lockbarlaw18_FreeOne := by kernel_rfl

end Go.Lb.LK

namespace Go.Lb.LK
open Go Go.Lb Go.Proofs Go.RowKit

theorem any_take {q : Hd → Bool} {l : List Hd} {i : Nat} (hi : i < l.length) : (l.take (i + 1)).any q = ((l.take i).any q || q l[i]) := by
  rw [List.take_add_one, List.getElem?_eq_getElem hi, List.any_append]
  simp
theorem cntS_le (s : Int) (l : List Hd) (i : Nat) : cntS s (l.take i) ≤ i := by
  unfold cntS
  have := List.countP_le_length (p := fun h => decide (s ∈ secsN h)) (l := l.take i)
  have h2 : (l.take i).length ≤ i := by simp; omega
  omega
theorem cntW_le (s : Int) (l : List Hd) (i : Nat) : cntW s (l.take i) ≤ i := by
  unfold cntW
  have := List.countP_le_length (p := fun h => (wantsN h s).isSome) (l := l.take i)
  have h2 : (l.take i).length ≤ i := by simp; omega
  omega
theorem cntS_take {s : Int} {l : List Hd} {i : Nat} (hi : i < l.length) : cntS s (l.take (i + 1)) = cntS s (l.take i) + (if s ∈ secsN l[i] then 1 else 0) := by
  unfold cntS; rw [countP_take hi]; simp
theorem cntW_take {s : Int} {l : List Hd} {i : Nat} (hi : i < l.length) : cntW s (l.take (i + 1)) = cntW s (l.take i) + (if (wantsN l[i] s).isSome = true then 1 else 0) := by
  unfold cntW; rw [countP_take hi]
def lckS (s : Int) (l : List Hd) : Bool := l.any fun h => (wantsN h s).isSome && decide (1 < h.stage)
theorem lckS_take {s : Int} {l : List Hd} {i : Nat} (hi : i < l.length) : lckS s (l.take (i + 1)) = (lckS s (l.take i) || ((wantsN l[i] s).isSome && decide (1 < l[i].stage))) := any_take hi
set_option maxRecDepth 100000 in
set_option maxHeartbeats 4000000 in
theorem c_FreeOne (k : Kern) (hkl : k.len) (hk : k.ok) (s : Int) : C f_lockbarlaw18_FreeOne [k.av, I s] (.bool true) := by
  have h1 := hkl.1
  refine ctr (k.cells ++ [I s]) run_lockbarlaw18_FreeOne rfl (by simp [pureAll_append, AV.pureAll, AV.pure]) rfl ?_ rfl
  unfold rt_lockbarlaw18_FreeOne
  simp [Kern.cells]
  refine call (c_r18Right k hkl hk) (by simp [Kern.cells]) (fun _ => rfl) ?_
  cases hr : rightK k
  case false =>
    simp
    exact call c_wakes18 rfl (by simp) (by simp)
  simp
  refine call (c_free_Holder k hkl s) (by simp [Kern.cells]) (by simp [optP]) ?_
  simp [optP]
  refine call (c_free_Wanted k hkl s) (by simp [Kern.cells]) (by simp [optP]) ?_
  simp [optP]
  refine RTwp_loop rfl (fun vs => ∃ i : Nat, i ≤ k.held.length ∧ vs = [I (cntS s (k.held.take i)), I (cntW s (k.held.take i)), .bool (lckS s (k.held.take i)), I i]) (fun vs => match vs with | [_, _, _, .int _ j] => k.held.length - j.toNat | _ => 0) ⟨0, by omega, by simp [cntS, cntW, lckS]⟩ ?_
  rintro vs - ⟨i, hi, rfl⟩
  simp [optP]
  refine ⟨fun hlt => ?_, fun hge => ?_⟩
  · have hw := wrap_succ (i := i) (by omega)
    have b1 := cntS_le s k.held i
    have b2 := cntW_le s k.held i
    have hw1 := wrap_succ (i := cntS s (k.held.take i)) (by omega)
    have hw2 := wrap_succ (i := cntW s (k.held.take i)) (by omega)
    have e1 := cntS_take (s := s) hlt
    have e2 := cntW_take (s := s) hlt
    have e3 := lckS_take (s := s) hlt
    simp [hlt, Hd.cells]
    refine call (c_r17Has k.held[i] (k.at hkl hlt) s) (by simp [hlt, Hd.cells]) (by simp) ?_
    by_cases hs : s ∈ secsN k.held[i]
    · have hh := holder_at hr hlt hs
      simp [hs, hh, hlt, Hd.cells, hw1]
      refine call (c_r17Wants k.held[i] (k.at hkl hlt) s) (by simp [hlt, Hd.cells]) (by simp [optP]) ?_
      cases hm : wantsN k.held[i] s with
      | none =>
        simp [optP, hw]
        refine ⟨⟨i + 1, by omega, ?_, ?_, ?_, by omega⟩, by omega⟩
        · rw [e1]; simp [hs, hw1]
        · rw [e2]; simp [hm, hw2]
        · rw [e3]; simp [hm]
      | some a =>
        have hwa := wanted_at hr hlt hm
        simp [optP, hw, hw2, hwa, hlt, Hd.cells]
        refine ⟨⟨i + 1, by omega, ?_, ?_, ?_, by omega⟩, by omega⟩
        · rw [e1]; simp [hs, hw1]
        · rw [e2]; simp [hm, hw2]
        · rw [e3]; simp [hm]
    · simp [hs, hlt, Hd.cells]
      refine call (c_r17Wants k.held[i] (k.at hkl hlt) s) (by simp [hlt, Hd.cells]) (by simp [optP]) ?_
      cases hm : wantsN k.held[i] s with
      | none =>
        simp [optP, hw]
        refine ⟨⟨i + 1, by omega, ?_, ?_, ?_, by omega⟩, by omega⟩
        · rw [e1]; simp [hs, hw1]
        · rw [e2]; simp [hm, hw2]
        · rw [e3]; simp [hm]
      | some a =>
        have hwa := wanted_at hr hlt hm
        simp [optP, hw, hw2, hwa, hlt, Hd.cells]
        refine ⟨⟨i + 1, by omega, ?_, ?_, ?_, by omega⟩, by omega⟩
        · rw [e1]; simp [hs, hw1]
        · rw [e2]; simp [hm, hw2]
        · rw [e3]; simp [hm]
  · have ht : k.held.take i = k.held := List.take_of_length_le (by omega)
    rw [ht]
    have q1 := cntS_one hr s k.held.length (Nat.le_refl _)
    rw [List.take_of_length_le (Nat.le_refl _)] at q1
    have q2 := holder_cnt hr s
    have q3 := wanted_cnt k s
    have q4 : lockedN k s = lckS s k.held := locked_more hr s
    refine callIf (avs := [k.av, I s]) (.bool (lockedN k s)) rfl (fun _ => ⟨by simp [Kern.cells], c_free_Locked k hkl s⟩) (fun _ => rfl) ?_
    simp [q2, q3, q4]
    refine callIf (avs := []) (.bool true) rfl (fun _ => ⟨rfl, c_wakes18⟩) (fun _ => rfl) ?_
    simp [q2, q3, q4]
    refine ⟨⟨by omega, ?_⟩, ?_⟩
    · by_cases h : cntS s k.held = 1
      · simp [h]
      · have h2 : ¬ ((cntS s k.held : Int) = 1) := by omega
        rw [decide_eq_false h, beq_eq_false_iff_ne.2 h2]
    · by_cases h : cntS s k.held = 1
      · exact .inl h
      · right
        rw [decide_eq_false h] at q2
        cases hh : holderN k s with
        | none => rfl
        | some x => rw [hh] at q2; cases q2
end Go.Lb.LK

namespace Go.Lb.LK
open Go Go.Lb Go.Proofs
@[simp] noncomputable def qkfreemeets_0 : SE := .agg [.inp 0, .inp 1, .inp 2, .inp 3, .inp 4, .inp 5, .inp 6, .inp 7, .inp 8, .inp 9, .inp 10]
@[simp] noncomputable def qkfreemeets_1 : SE := .agg [.inp 11, .inp 12, .inp 13, .inp 14, .inp 15, .inp 16, .inp 17, .inp 18, .inp 19, .inp 20, .inp 21, .inp 22, .inp 23, .inp 24, .inp 25, .inp 26, .inp 27, .inp 28, .inp 29, .inp 30, .inp 31, .inp 32, .inp 33, .inp 34, .inp 35, .inp 36, .inp 37, .inp 38, .inp 39]
@[simp] noncomputable def qkfreemeets_2 : SE := .agg [.inp 40, .inp 41, .inp 42, .inp 43, .inp 44, .inp 45, .inp 46, .inp 47, .inp 48, .inp 49, .inp 50, .inp 51, .inp 52, .inp 53, .inp 54, .inp 55, .inp 56, .inp 57, .inp 58, .inp 59, .inp 60, .inp 61, .inp 62, .inp 63, .inp 64, .inp 65, .inp 66, .inp 67, .inp 68, .inp 69, .inp 70, .inp 71, .inp 72, .inp 73, .inp 74, .inp 75, .inp 76, .inp 77, .inp 78, .inp 79, .inp 80, .inp 81, .inp 82, .inp 83, .inp 84, .inp 85, .inp 86, .inp 87, .inp 88, .inp 89, .inp 90, .inp 91, .inp 92, .inp 93, .inp 94, .inp 95, .inp 96, .inp 97, .inp 98, .inp 99, .inp 100, .inp 101, .inp 102, .inp 103, .inp 104, .inp 105, .inp 106, .inp 107, .inp 108, .inp 109, .inp 110, .inp 111, .inp 112, .inp 113]
@[simp] noncomputable def qkfreemeets_3 : SE := .agg [.inp 114, .inp 115, .inp 116]
@[simp] noncomputable def qkfreemeets_4 : SE := .app (.bin .lss) [.inp 114, .int .i64 0]
@[simp] noncomputable def qkfreemeets_5 : SE := .app (.bin .geq) [.inp 114, .int .i64 24]
@[simp] noncomputable def qkfreemeets_6 : SE := .app (.bin .neq) [.app (.tproj 0) [.inp 121], .inp 115]
@[simp] noncomputable def qkfreemeets_7 : SE := .app (.eqb false) [.inp 119, .app (.un .not) [.inp 122]]
@[simp] noncomputable def qkfreemeets_8 : SE := .app (.aidx 24 3 4 1 false) [qkfreemeets_2, .inp 114]
@[simp] noncomputable def qkfreemeets_9 : SE := .app (.un .not) [qkfreemeets_8]
@[simp] noncomputable def qkfreemeets_10 : SE := .app .pick [qkfreemeets_9, .inp 122, .bool false]
@[simp] noncomputable def qkfreemeets_11 : SE := .app (.eqb false) [.inp 119, qkfreemeets_10]
noncomputable def rt_lockbarlaw18_FreeMeets : RT :=
.seg [.chk [] (.isAgg 11) [qkfreemeets_0]] <|
.seg [.chk [] (.isAgg 29) [qkfreemeets_1]] <|
.seg [.chk [] (.isAgg 74) [qkfreemeets_2]] <|
.seg [.chk [] (.isAgg 3) [qkfreemeets_3]] <|
.seg [.call 117 [] 8 [qkfreemeets_0] false] <|
.seg [.call 118 [(.inp 117, false)] 25 [qkfreemeets_2] false] <|
.seg [.chk [(.inp 117, false)] (.un .not) [.inp 118]] <|
.seg [.chk [] .pick [.inp 117, .bool true, .app (.un .not) [.inp 118]]] <|
.cond (.app .pick [.inp 117, .bool true, .app (.un .not) [.inp 118]])
 (.seg [.call 119 [] 11 [] false] <|
.ret (.inp 119))
 (.seg [.call 119 [] 20 [qkfreemeets_0, qkfreemeets_1, qkfreemeets_2, qkfreemeets_3] false] <|
.seg [.chk [] (.bin .lss) [.inp 114, .int .i64 0]] <|
.seg [.chk [(qkfreemeets_4, false)] (.bin .geq) [.inp 114, .int .i64 24]] <|
.seg [.chk [] .pick [qkfreemeets_4, .bool true, qkfreemeets_5]] <|
.cond (.app .pick [qkfreemeets_4, .bool true, qkfreemeets_5])
 (.seg [.chk [] (.un .not) [.inp 119]] <|
.seg [.call 120 [(.app (.un .not) [.inp 119], true)] 11 [] false] <|
.seg [.chk [] .pick [.app (.un .not) [.inp 119], .inp 120, .bool false]] <|
.ret (.app .pick [.app (.un .not) [.inp 119], .inp 120, .bool false]))
 (.seg [.call 120 [] 38 [qkfreemeets_0, qkfreemeets_1, .inp 114] false,
.chk [] (.bin .eql) [.inp 120, .inp 115]] <|
.seg [.call 121 [] 14 [qkfreemeets_2, .inp 114] false] <|
.seg [.chk [] (.tproj 0) [.inp 121]] <|
.seg [.chk [] (.tproj 1) [.inp 121]] <|
.seg [.chk [(.app (.tproj 1) [.inp 121], true)] (.bin .neq) [.app (.tproj 0) [.inp 121], .inp 115]] <|
.seg [.chk [] .pick [.app (.tproj 1) [.inp 121], qkfreemeets_6, .bool false]] <|
.cond (.app .pick [.app (.tproj 1) [.inp 121], qkfreemeets_6, .bool false])
 (.seg [.chk [] (.un .not) [.inp 119]] <|
.seg [.call 122 [(.app (.un .not) [.inp 119], true)] 11 [] false] <|
.seg [.chk [] .pick [.app (.un .not) [.inp 119], .inp 122, .bool false]] <|
.ret (.app .pick [.app (.un .not) [.inp 119], .inp 122, .bool false]))
 (.cond (.app (.bin .eql) [.inp 120, .inp 115])
 (.seg [.call 122 [(.inp 119, true)] 11 [] false] <|
.seg [.chk [] .pick [.inp 119, .inp 122, .bool false]] <|
.ret (.app .pick [.inp 119, .inp 122, .bool false]))
 (.cond (.app (.tproj 1) [.inp 121])
 (.seg [.call 122 [] 16 [qkfreemeets_2, .inp 114] false] <|
.seg [.chk [] (.un .not) [.inp 122]] <|
.seg [.chk [] (.eqb false) [.inp 119, .app (.un .not) [.inp 122]]] <|
.seg [.call 123 [(qkfreemeets_7, true)] 11 [] false] <|
.seg [.chk [] .pick [qkfreemeets_7, .inp 123, .bool false]] <|
.ret (.app .pick [qkfreemeets_7, .inp 123, .bool false]))
 (.seg [.chk [] (.inr 24) [.inp 114]] <|
.seg [.chk [] (.inr 24) [.inp 114]] <|
.seg [.chk [] (.aidx 24 3 4 1 false) [qkfreemeets_2, .inp 114]] <|
.seg [.chk [] (.un .not) [qkfreemeets_8]] <|
.seg [.call 122 [(qkfreemeets_9, true)] 18 [qkfreemeets_0, qkfreemeets_1, qkfreemeets_2, .inp 114] false] <|
.seg [.chk [] .pick [qkfreemeets_9, .inp 122, .bool false]] <|
.seg [.chk [] (.eqb false) [.inp 119, qkfreemeets_10]] <|
.seg [.call 123 [(qkfreemeets_11, true)] 11 [] false] <|
.seg [.chk [] .pick [qkfreemeets_11, .inp 123, .bool false]] <|
.seg [.bind 124 (.app .pick [qkfreemeets_11, .inp 123, .bool false]),
.bind 125 (qkfreemeets_8),
.bind 126 (qkfreemeets_9),
.bind 127 (qkfreemeets_10),
.bind 128 (qkfreemeets_11)] <|
.ret (.inp 124))))))
theorem run_lockbarlaw18_FreeMeets : runF E 7 [.agg [.inp 0, .inp 1, .inp 2, .inp 3, .inp 4, .inp 5, .inp 6, .inp 7, .inp 8, .inp 9, .inp 10], .agg [.inp 11, .inp 12, .inp 13, .inp 14, .inp 15, .inp 16, .inp 17, .inp 18, .inp 19, .inp 20, .inp 21, .inp 22, .inp 23, .inp 24, .inp 25, .inp 26, .inp 27, .inp 28, .inp 29, .inp 30, .inp 31, .inp 32, .inp 33, .inp 34, .inp 35, .inp 36, .inp 37, .inp 38, .inp 39], .agg [.inp 40, .inp 41, .inp 42, .inp 43, .inp 44, .inp 45, .inp 46, .inp 47, .inp 48, .inp 49, .inp 50, .inp 51, .inp 52, .inp 53, .inp 54, .inp 55, .inp 56, .inp 57, .inp 58, .inp 59, .inp 60, .inp 61, .inp 62, .inp 63, .inp 64, .inp 65, .inp 66, .inp 67, .inp 68, .inp 69, .inp 70, .inp 71, .inp 72, .inp 73, .inp 74, .inp 75, .inp 76, .inp 77, .inp 78, .inp 79, .inp 80, .inp 81, .inp 82, .inp 83, .inp 84, .inp 85, .inp 86, .inp 87, .inp 88, .inp 89, .inp 90, .inp 91, .inp 92, .inp 93, .inp 94, .inp 95, .inp 96, .inp 97, .inp 98, .inp 99, .inp 100, .inp 101, .inp 102, .inp 103, .inp 104, .inp 105, .inp 106, .inp 107, .inp 108, .inp 109, .inp 110, .inp 111, .inp 112, .inp 113], .agg [.inp 114, .inp 115, .inp 116]] 117 = rt_lockbarlaw18_FreeMeets := by kernel_rfl

end Go.Lb.LK

namespace Go.Lb.LK
open Go Go.Lb Go.Proofs Go.RowKit

set_option maxRecDepth 100000 in
set_option maxHeartbeats 4000000 in
theorem c_FreeMeets (l : Lay) (im : Img) (hi : im.ok) (k : Kern) (hkl : k.len) (hk : k.ok) (n : Need) : C f_lockbarlaw18_FreeMeets [l.av, im.av, k.av, n.av] (.bool true) := by
  refine ctr (l.cells ++ im.cells ++ k.cells ++ n.cells) run_lockbarlaw18_FreeMeets rfl (liks l im k _ (by simp)) rfl ?_ rfl
  unfold rt_lockbarlaw18_FreeMeets
  simp [Lay.cells, Img.cells, Kern.cells, Need.cells, -pv_aidx]
  refine call (c_r06_Great l) (by simp [Lay.cells]) (by simp) ?_
  simp [-pv_aidx]
  refine callIf (avs := [k.av]) (.bool (rightK k)) rfl (fun _ => ⟨by simp [Kern.cells], c_r18Right k hkl hk⟩) (fun _ => rfl) ?_
  cases g1 : great6 l
  case true =>
    simp [-pv_aidx]
    exact call c_wakes18 rfl (by simp) (by simp)
  cases g2 : rightK k
  case false =>
    simp [-pv_aidx]
    exact call c_wakes18 rfl (by simp) (by simp)
  simp [-pv_aidx]
  refine call (c_free_Meets l im hi k hkl n) (by simp [Lay.cells, Img.cells, Kern.cells, Need.cells]) (fun _ => rfl) ?_
  simp [-pv_aidx]
  refine ⟨fun hb => ?_, fun h0 h24 => ?_⟩
  · have hf : meetsN l im k n = false := by unfold meetsN; rw [decide_eq_false (by omega)]; rfl
    simp [hf, -pv_aidx]
    exact callIf (avs := []) (.bool true) rfl (fun _ => ⟨rfl, c_wakes18⟩) (fun _ => rfl) (by simp)
  have hA := aidxF k (i := n.p.toNat) (z := n.p) (by omega) (by omega)
  simp only [Kern.cells] at hA
  refine call (c_r15At l im hi n.p) (by simp [Lay.cells, Img.cells]) (fun _ => rfl) ?_
  simp [-pv_aidx]
  refine call (c_free_Wanted k hkl n.p) (by simp [Kern.cells]) (by simp [optP]) ?_
  have hr : decide (0 ≤ n.p ∧ n.p < 24) = true := decide_eq_true ⟨h0, h24⟩
  cases hm : wantedN k n.p with
  | some pos =>
    by_cases hp : pos = n.pos
    · by_cases ha : atP l im n.p = n.pos
      · have hf : meetsN l im k n = true := by simp [meetsN, hr, hm, hp, ha]
        simp [optP, hp, ha, hf, -pv_aidx]
        exact callIf (avs := []) (.bool true) rfl (fun _ => ⟨rfl, c_wakes18⟩) (fun _ => rfl) (by simp)
      · have hf : meetsN l im k n = !lockedN k n.p := by simp [meetsN, hr, hm, hp, ha]
        simp [optP, hp, ha, -pv_aidx]
        refine call (c_free_Locked k hkl n.p) (by simp [Kern.cells]) (fun _ => rfl) ?_
        simp [hf, -pv_aidx]
        exact callIf (avs := []) (.bool true) rfl (fun _ => ⟨rfl, c_wakes18⟩) (fun _ => rfl) (by simp)
    · have hf : meetsN l im k n = false := by simp [meetsN, hm, hp]
      simp [optP, hp, hf, -pv_aidx]
      exact callIf (avs := []) (.bool true) rfl (fun _ => ⟨rfl, c_wakes18⟩) (fun _ => rfl) (by simp)
  | none =>
    by_cases ha : atP l im n.p = n.pos
    · have hf : meetsN l im k n = true := by simp [meetsN, hr, hm, ha]
      simp [optP, ha, hf, -pv_aidx]
      exact callIf (avs := []) (.bool true) rfl (fun _ => ⟨rfl, c_wakes18⟩) (fun _ => rfl) (by simp)
    · have hf : meetsN l im k n = (!k.fail n.p.toNat && freeN l im k n.p) := by simp [meetsN, hr, hm, ha]
      simp [optP, ha, hA, -pv_aidx]
      repeat refine And.intro (by intros; omega) ?_
      refine callIf (avs := [l.av, im.av, k.av, I n.p]) (.bool (freeN l im k n.p)) rfl (fun _ => ⟨by simp [Lay.cells, Img.cells, Kern.cells], c_free_Free l im hi k hkl n.p⟩) (fun _ => rfl) ?_
      simp [hA, hf, -pv_aidx]
      refine callIf (avs := []) (.bool true) rfl (fun _ => ⟨rfl, c_wakes18⟩) (fun _ => rfl) ?_
      simp [hA, hf, -pv_aidx]
end Go.Lb.LK
