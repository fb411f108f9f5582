/- What functions come to, printed by a program, checked by the kernel. -/
/- A route that runs is timed just if no train is in it; one that was cancelled already stays so; one that was never shown, or is called, is gone at once. -/
import Derived.Test.YtkcpgfjlmicnnaaDoorCh1
import Derived.Test.YtkcpgfjlmicnnaaDoorCh5
set_option linter.unusedSimpArgs false
set_option linter.unusedVariables false
namespace Go.Lb.LK
open Go Go.Lb Go.Proofs
@[simp] noncomputable def qkbackruns_0 : SE := .agg [.inp 0, .inp 1, .inp 2, .inp 3, .inp 4, .inp 5, .inp 6, .inp 7, .inp 8, .inp 9, .inp 10]
@[simp] noncomputable def qkbackruns_1 : SE := .agg [.inp 11, .inp 12, .inp 13, .inp 14, .inp 15, .inp 16, .inp 17, .inp 18, .inp 19, .inp 20, .inp 21, .inp 22, .inp 23, .inp 24, .inp 25, .inp 26, .inp 27, .inp 28, .inp 29, .inp 30, .inp 31, .inp 32, .inp 33, .inp 34, .inp 35, .inp 36, .inp 37, .inp 38, .inp 39]
@[simp] noncomputable def qkbackruns_2 : SE := .agg [.inp 40, .inp 41, .inp 42, .inp 43, .inp 44, .inp 45, .inp 46, .inp 47, .inp 48, .inp 49, .inp 50, .inp 51, .inp 52, .inp 53, .inp 54, .inp 55, .inp 56, .inp 57, .inp 58, .inp 59, .inp 60, .inp 61, .inp 62]
@[simp] noncomputable def qkbackruns_3 : SE := .agg [.int .i64 1, .inp 63, .int .i64 0, .int .i64 0, .bool false, .int .i64 0, .int .i64 0, .bool false, .int .i64 0, .int .i64 0, .bool false, .int .i64 0, .int .i64 0, .bool false, .int .i64 0, .int .i64 0, .bool false, .int .i64 0, .int .i64 0, .bool false, .int .i64 0, .int .i64 0, .bool false, .int .i64 0, .int .i64 0, .bool false, .int .i64 0, .int .i64 0, .bool false, .int .i64 0, .int .i64 0, .bool false, .int .i64 0, .int .i64 0, .bool false, .int .i64 0, .int .i64 0, .bool false, .int .i64 0, .int .i64 0, .bool false, .int .i64 0, .int .i64 0, .bool false, .int .i64 0, .int .i64 0, .bool false, .int .i64 0, .int .i64 0, .bool false, .int .i64 0, .int .i64 0, .bool false, .int .i64 0, .int .i64 0, .bool false, .int .i64 0, .int .i64 0, .bool false, .int .i64 0, .int .i64 0, .bool false, .int .i64 0, .int .i64 0, .bool false, .int .i64 0, .int .i64 0, .bool false, .int .i64 0, .int .i64 0, .bool false, .int .i64 0, .int .i64 0, .bool false]
@[simp] noncomputable def qkbackruns_4 : SE := .app (.part 1 1 false) [.app (.tproj 0) [.inp 66]]
@[simp] noncomputable def qkbackruns_5 : SE := .app .len [qkbackruns_4]
@[simp] noncomputable def qkbackruns_6 : SE := .app (.bin .neq) [qkbackruns_5, .int .i64 1]
@[simp] noncomputable def qkbackruns_7 : SE := .app (.bin .eql) [qkbackruns_5, .int .i64 0]
@[simp] noncomputable def qkbackruns_8 : SE := .app .pick [qkbackruns_7, .app (.tproj 1) [.inp 66], .bool false]
@[simp] noncomputable def qkbackruns_9 : SE := .app .pick [.inp 62, .inp 68, .bool false]
@[simp] noncomputable def qkbackruns_10 : SE := .app (.un .not) [qkbackruns_9]
@[simp] noncomputable def qkbackruns_11 : SE := .app .pick [qkbackruns_10, qkbackruns_7, .bool false]
@[simp] noncomputable def qkbackruns_12 : SE := .app .pick [qkbackruns_11, .app (.tproj 1) [.inp 66], .bool false]
@[simp] noncomputable def qkbackruns_13 : SE := .app (.eqb true) [.app (.tproj 1) [.inp 66], qkbackruns_9]
@[simp] noncomputable def qkbackruns_14 : SE := .app (.eidx 23) [qkbackruns_4, .int .i64 0]
@[simp] noncomputable def qkbackruns_15 : SE := .app (.eload 23 true) [qkbackruns_14]
@[simp] noncomputable def qkbackruns_16 : SE := .app (.part 6 1 false) [qkbackruns_15]
@[simp] noncomputable def qkbackruns_17 : SE := .app (.bin .eql) [qkbackruns_16, .int .u8 4]
@[simp] noncomputable def qkbackruns_18 : SE := .app (.part 21 1 false) [qkbackruns_15]
@[simp] noncomputable def qkbackruns_19 : SE := .app (.bin .eql) [qkbackruns_18, .inp 7]
@[simp] noncomputable def qkbackruns_20 : SE := .app .pick [qkbackruns_17, qkbackruns_19, .bool false]
@[simp] noncomputable def qkbackruns_21 : SE := .agg [.app (.part 0 1 false) [qkbackruns_15], .app (.part 1 1 false) [qkbackruns_15], .app (.part 2 1 false) [qkbackruns_15], .app (.part 3 1 false) [qkbackruns_15], .app (.part 4 1 false) [qkbackruns_15], .app (.part 5 1 false) [qkbackruns_15], qkbackruns_16, .app (.part 7 1 false) [qkbackruns_15], .app (.part 8 1 false) [qkbackruns_15], .app (.part 9 1 false) [qkbackruns_15], .app (.part 10 1 false) [qkbackruns_15], .app (.part 11 1 false) [qkbackruns_15], .app (.part 12 1 false) [qkbackruns_15], .app (.part 13 1 false) [qkbackruns_15], .app (.part 14 1 false) [qkbackruns_15], .app (.part 15 1 false) [qkbackruns_15], .app (.part 16 1 false) [qkbackruns_15], .app (.part 17 1 false) [qkbackruns_15], .app (.part 18 1 false) [qkbackruns_15], .app (.part 19 1 false) [qkbackruns_15], .app (.part 20 1 false) [qkbackruns_15], qkbackruns_18, .app (.part 22 1 false) [qkbackruns_15]]
@[simp] noncomputable def qkbackruns_22 : SE := .app .pick [.inp 69, .inp 70, .bool false]
noncomputable def rt_lockbarlaw22_BackRuns : RT :=
.seg [.chk [] (.isAgg 11) [qkbackruns_0]] <|
.seg [.chk [] (.isAgg 29) [qkbackruns_1]] <|
.seg [.chk [] (.isAgg 23) [qkbackruns_2]] <|
.seg [.chk [] (.isAgg 23) [qkbackruns_2]] <|
.seg [.bind 63 (.app .lst [qkbackruns_2])] <|
.seg [.call 64 [] 4 [qkbackruns_0] false] <|
.seg [.call 65 [(.inp 64, false)] 5 [qkbackruns_3] true] <|
.seg [.chk [] .pick [.inp 64, .bool true, .inp 65]] <|
.cond (.app .pick [.inp 64, .bool true, .inp 65])
 (.seg [.call 66 [] 6 [] false] <|
.ret (.inp 66))
 (.seg [.call 66 [] 7 [qkbackruns_0, qkbackruns_1, qkbackruns_3, .inp 41] false] <|
.seg [.chk [] (.tproj 0) [.inp 66]] <|
.seg [.chk [] (.tproj 1) [.inp 66]] <|
.seg [.chk [] (.isAgg 74) [.app (.tproj 0) [.inp 66]]] <|
.seg [.call 67 [] 8 [qkbackruns_0, qkbackruns_1, qkbackruns_2] false,
.call 68 [] 9 [qkbackruns_0, qkbackruns_1, .inp 41] false] <|
.seg [.chk [] (.bin .eql) [.inp 46, .int .u8 1]] <|
.cond (.app (.bin .eql) [.inp 46, .int .u8 1])
 (.seg [.chk [] .len [qkbackruns_4]] <|
.seg [.chk [] (.bin .neq) [qkbackruns_5, .int .i64 1]] <|
.cond (qkbackruns_6)
 (.seg [.chk [] (.un .not) [.bool false]] <|
.seg [.chk [] .len [qkbackruns_4]] <|
.seg [.chk [] (.bin .eql) [qkbackruns_5, .int .i64 0]] <|
.seg [.chk [] .pick [qkbackruns_7, .app (.tproj 1) [.inp 66], .bool false]] <|
.seg [.call 69 [(qkbackruns_8, true)] 6 [] false] <|
.seg [.chk [] .pick [qkbackruns_8, .inp 69, .bool false]] <|
.seg [.bind 70 (.app .pick [qkbackruns_8, .inp 69, .bool false]),
.bind 71 (qkbackruns_8)] <|
.ret (.inp 70))
 (.seg [.chk [] (.un .not) [.bool false]] <|
.ret (.bool false)))
 (.seg [.chk [] (.bin .eql) [.inp 46, .int .u8 2]] <|
.cond (.app (.bin .eql) [.inp 46, .int .u8 2])
 (.seg [.chk [] .pick [.inp 62, .inp 68, .bool false]] <|
.seg [.chk [] .len [qkbackruns_4]] <|
.seg [.chk [] (.bin .neq) [qkbackruns_5, .int .i64 1]] <|
.cond (qkbackruns_6)
 (.seg [.chk [] (.un .not) [qkbackruns_9]] <|
.seg [.chk [(qkbackruns_10, true)] .len [qkbackruns_4]] <|
.seg [.chk [(qkbackruns_10, true)] (.bin .eql) [qkbackruns_5, .int .i64 0]] <|
.seg [.chk [] .pick [qkbackruns_10, qkbackruns_7, .bool false]] <|
.seg [.chk [] .pick [qkbackruns_11, .app (.tproj 1) [.inp 66], .bool false]] <|
.seg [.call 69 [(qkbackruns_12, true)] 6 [] false] <|
.seg [.chk [] .pick [qkbackruns_12, .inp 69, .bool false]] <|
.seg [.bind 70 (.app .pick [qkbackruns_12, .inp 69, .bool false]),
.bind 71 (qkbackruns_11),
.bind 72 (qkbackruns_12)] <|
.ret (.inp 70))
 (.seg [.chk [] (.un .not) [qkbackruns_9]] <|
.seg [.chk [(qkbackruns_10, false)] (.eqb true) [.app (.tproj 1) [.inp 66], qkbackruns_9]] <|
.seg [.chk [] .pick [qkbackruns_10, .bool true, qkbackruns_13]] <|
.seg [.bind 69 (.app .pick [qkbackruns_10, .bool true, qkbackruns_13])] <|
.cond (.inp 69)
 (.ret (.bool false))
 (.seg [.chk [] (.eidx 23) [qkbackruns_4, .int .i64 0]] <|
.seg [.chk [] (.eload 23 true) [qkbackruns_14]] <|
.seg [.chk [] (.isAgg 23) [qkbackruns_15]] <|
.cond (qkbackruns_9)
 (.seg [.chk [] (.bin .eql) [qkbackruns_16, .int .u8 4]] <|
.seg [.chk [(qkbackruns_17, true)] (.bin .eql) [qkbackruns_18, .inp 7]] <|
.seg [.chk [] .pick [qkbackruns_17, qkbackruns_19, .bool false]] <|
.seg [.call 70 [(qkbackruns_20, true)] 6 [] false] <|
.seg [.chk [] .pick [qkbackruns_20, .inp 70, .bool false]] <|
.seg [.bind 71 (.app .pick [qkbackruns_20, .inp 70, .bool false]),
.bind 72 (qkbackruns_20)] <|
.ret (.inp 71))
 (.seg [.call 70 [] 10 [qkbackruns_21, qkbackruns_2] false] <|
.seg [.call 71 [(.inp 70, true)] 6 [] false] <|
.seg [.chk [] .pick [.inp 70, .inp 71, .bool false]] <|
.ret (.app .pick [.inp 70, .inp 71, .bool false])))))
 (.seg [.chk [] (.bin .eql) [.inp 46, .int .u8 3]] <|
.cond (.app (.bin .eql) [.inp 46, .int .u8 3])
 (.seg [.chk [] (.un .not) [.inp 67]] <|
.seg [.chk [] .len [qkbackruns_4]] <|
.seg [.chk [] (.bin .neq) [qkbackruns_5, .int .i64 1]] <|
.cond (qkbackruns_6)
 (.seg [.chk [] (.un .not) [.bool true]] <|
.ret (.bool false))
 (.seg [.chk [] (.un .not) [.bool true]] <|
.seg [.chk [] (.eqb true) [.app (.tproj 1) [.inp 66], .app (.un .not) [.inp 67]]] <|
.cond (.app (.eqb true) [.app (.tproj 1) [.inp 66], .app (.un .not) [.inp 67]])
 (.ret (.bool false))
 (.seg [.chk [] (.eidx 23) [qkbackruns_4, .int .i64 0]] <|
.seg [.chk [] (.eload 23 true) [qkbackruns_14]] <|
.seg [.chk [] (.isAgg 23) [qkbackruns_15]] <|
.cond (.inp 67)
 (.seg [.call 69 [] 10 [qkbackruns_21, qkbackruns_2] false] <|
.seg [.call 70 [(.inp 69, true)] 6 [] false] <|
.seg [.chk [] .pick [.inp 69, .inp 70, .bool false]] <|
.ret (qkbackruns_22))
 (.seg [.chk [] (.bin .eql) [qkbackruns_16, .int .u8 4]] <|
.seg [.chk [(qkbackruns_17, true)] (.bin .eql) [qkbackruns_18, .inp 7]] <|
.seg [.chk [] .pick [qkbackruns_17, qkbackruns_19, .bool false]] <|
.seg [.call 69 [(qkbackruns_20, true)] 6 [] false] <|
.seg [.chk [] .pick [qkbackruns_20, .inp 69, .bool false]] <|
.seg [.bind 70 (.app .pick [qkbackruns_20, .inp 69, .bool false]),
.bind 71 (qkbackruns_20)] <|
.ret (.inp 70)))))
 (.seg [.chk [] .len [qkbackruns_4]] <|
.seg [.chk [] (.bin .neq) [qkbackruns_5, .int .i64 1]] <|
.cond (qkbackruns_6)
 (.seg [.chk [] (.un .not) [.bool true]] <|
.ret (.bool false))
 (.seg [.chk [] (.un .not) [.bool true]] <|
.seg [.chk [] (.eqb true) [.app (.tproj 1) [.inp 66], .bool false]] <|
.cond (.app (.eqb true) [.app (.tproj 1) [.inp 66], .bool false])
 (.ret (.bool false))
 (.seg [.chk [] (.eidx 23) [qkbackruns_4, .int .i64 0]] <|
.seg [.chk [] (.eload 23 true) [qkbackruns_14]] <|
.seg [.chk [] (.isAgg 23) [qkbackruns_15]] <|
.seg [.call 69 [] 10 [qkbackruns_21, qkbackruns_2] false] <|
.seg [.call 70 [(.inp 69, true)] 6 [] false] <|
.seg [.chk [] .pick [.inp 69, .inp 70, .bool false]] <|
.ret (qkbackruns_22)))))))
theorem run_lockbarlaw22_BackRuns : runF E 3 [.agg [.inp 0, .inp 1, .inp 2, .inp 3, .inp 4, .inp 5, .inp 6, .inp 7, .inp 8, .inp 9, .inp 10], .agg [.inp 11, .inp 12, .inp 13, .inp 14, .inp 15, .inp 16, .inp 17, .inp 18, .inp 19, .inp 20, .inp 21, .inp 22, .inp 23, .inp 24, .inp 25, .inp 26, .inp 27, .inp 28, .inp 29, .inp 30, .inp 31, .inp 32, .inp 33, .inp 34, .inp 35, .inp 36, .inp 37, .inp 38, .inp 39], .agg [.inp 40, .inp 41, .inp 42, .inp 43, .inp 44, .inp 45, .inp 46, .inp 47, .inp 48, .inp 49, .inp 50, .inp 51, .inp 52, .inp 53, .inp 54, .inp 55, .inp 56, .inp 57, .inp 58, .inp 59, .inp 60, .inp 61, .inp 62]] 63 = rt_lockbarlaw22_BackRuns := by kernel_rfl

end Go.Lb.LK

namespace Go.Lb.LK
open Go Go.Lb Go.Proofs Go.RowKit

def soleK (h : Hd) : Kern := ⟨1, [h], fun _ => 0, fun _ => 0, fun _ => false⟩
def soleC (l : Lay) (im : Img) (h : Hd) : Kern × Bool := if comesN l im h = 1 then (soleK h |> fun k => { k with held := [] }, true) else if comesN l im h = 2 then (soleK { h with stage := 4, timer := l.approach }, true) else (soleK h, false)
theorem sole_cancel (l : Lay) (im : Img) (h : Hd) : cancelN l im (soleK h) h.path.sig = soleC l im h := by
  have ha : atK (soleK h) h.path.sig = 0 := by simp [atK, soleK, atU]
  simp only [cancelN, ha]
  simp [soleK, cancelAt, soleC]
theorem sole_same {a : Hd} (h : a.len) : C f_lockbarref17_Same [a.av, a.av] (.bool true) := by
  have := c_r17Same a a h
  rw [sameS_refl] at this; exact this
set_option maxRecDepth 100000 in
set_option maxHeartbeats 4000000 in
theorem c_BackRuns (l : Lay) (hl : l.ok) (im : Img) (hi : im.ok) (h : Hd) : C f_lockbarlaw22_BackRuns [l.av, im.av, h.av] (.bool true) := by
  refine ctr (l.cells ++ im.cells ++ h.cells) run_lockbarlaw22_BackRuns rfl (by simp [pureAll_append]) rfl ?_ rfl
  unfold rt_lockbarlaw22_BackRuns
  simp [Lay.cells, Img.cells, Hd.cells]
  refine call (c_r06_Great l) (by simp [Lay.cells]) (by simp) ?_
  simp
  refine callIf (avs := [(soleK h).av]) (.bool (great18 (soleK h))) rfl (fun _ => ⟨by simp [Kern.cells, soleK, Hd.cells], c_r18Great (soleK h)⟩) (fun _ => rfl) ?_
  cases g1 : great6 l
  case true =>
    simp
    exact call c_wakes22 rfl (by simp) (by simp)
  cases g3 : great18 (soleK h)
  case true =>
    simp
    exact call c_wakes22 rfl (by simp) (by simp)
  have hkl := (small18 g3).1
  have hhl := hkl.2 h (by simp [soleK])
  simp
  have hcc := c_back_Cancel l hl im hi (soleK h) hkl h.path.sig
  rw [sole_cancel] at hcc
  refine call hcc (by simp [Lay.cells, Img.cells, Kern.cells, soleK, Hd.cells]) (by simp) ?_
  simp
  refine And.intro ⟨rfl, rfl⟩ ?_
  refine call (c_back_In l im hi h hhl) (by simp [Lay.cells, Img.cells, Hd.cells]) (fun _ => rfl) ?_
  simp
  refine call (c_back_Rear l hl im hi h.path.sig) (by simp [Lay.cells, Img.cells, Hd.cells]) (fun _ => rfl) ?_
  simp
  by_cases h1 : h.stage = 1
  · have hc : soleC l im h = ({ soleK h with held := [] }, true) := by simp [soleC, comesN, h1]
    rw [hc]
    simp [h1, Kern.cells, soleK]
    refine callIf (avs := []) (.bool true) rfl (fun _ => ⟨rfl, c_wakes22⟩) (by simp) ?_
    simp [Kern.cells]
  · by_cases h2 : h.stage = 2
    · cases hb : (h.shown && rearN l im h.path.sig)
      · have hc : soleC l im h = ({ soleK h with held := [] }, true) := by simp [soleC, comesN, comes2, h2, hb]
        rw [hc]
        simp [h2, Kern.cells, soleK, hb]
        refine callIf (avs := []) (.bool true) rfl (fun _ => ⟨rfl, c_wakes22⟩) (by simp) ?_
        simp [Kern.cells, hb]
      · have hc : soleC l im h = (soleK { h with stage := 4, timer := l.approach }, true) := by simp [soleC, comesN, comes2, h2, hb]
        rw [hc]
        simp only [Bool.and_eq_true] at hb
        simp [h2, Kern.cells, soleK, hb.1, hb.2, Hd.cells]
        refine callIf (avs := []) (.bool true) rfl (fun _ => ⟨rfl, c_wakes22⟩) (by simp) ?_
        simp [Kern.cells, Hd.cells, hb.1, hb.2]
    · by_cases h3 : h.stage = 3
      · cases hb : inN l im h
        · have hc : soleC l im h = (soleK { h with stage := 4, timer := l.approach }, true) := by simp [soleC, comesN, comes3, h3, hb]
          rw [hc]
          simp [h3, Kern.cells, soleK, hb, Hd.cells]
          refine callIf (avs := []) (.bool true) rfl (fun _ => ⟨rfl, c_wakes22⟩) (by simp) ?_
          simp [Kern.cells, Hd.cells, hb]
        · have hc : soleC l im h = (soleK h, false) := by simp [soleC, comesN, comes3, h3, hb]
          rw [hc]
          simp [h3, Kern.cells, soleK, hb, Hd.cells]
          refine call (sole_same hhl) (by simp [Kern.cells, Hd.cells, h3]) (fun _ => rfl) ?_
          simp
          refine callIf (avs := []) (.bool true) rfl (fun _ => ⟨rfl, c_wakes22⟩) (by simp) ?_
          simp
      · have hc : soleC l im h = (soleK h, false) := by simp [soleC, comesN, h1, h2, h3]
        rw [hc]
        simp [h1, h2, h3, Kern.cells, soleK, Hd.cells]
        refine call (sole_same hhl) (by simp [Kern.cells, Hd.cells]) (fun _ => rfl) ?_
        simp
        refine callIf (avs := []) (.bool true) rfl (fun _ => ⟨rfl, c_wakes22⟩) (by simp) ?_
        simp
end Go.Lb.LK
