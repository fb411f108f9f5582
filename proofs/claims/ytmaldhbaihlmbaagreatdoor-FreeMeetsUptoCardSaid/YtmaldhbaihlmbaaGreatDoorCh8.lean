/- A kernel: what is free, which needs can be met. -/
/- Ways through sections; overlaps. -/
/- What steps want, what paths need. -/
/- Whether a path can be had, as the document has it. -/
/- Whether a path can be had, as the program has it. -/
/- The document's ways and overlaps. -/
/- What the document says that steps want, that paths need. -/
/- What the document says that paths need. -/
/- Whether a path can be had, as the document has it: the walk. -/
/- A kernel of nothing; a layout of two sections; paths that are too great. -/
/- A kernel: in memory of its own, the same, which may be. -/
/- Kernels that are the same; a kernel in memory of its own. -/
/- What the document says of a new image; of a route in two sections: the values. -/
/- What the document says of a new image; of a route in two sections. -/
/- What the document says of a new image; of a route in two sections: the walk. -/
/- Kernels that may be: one holder of a section, one position of a point. -/
/- Ports, as the document has them; what lies beyond. -/
/- Which sections, exits, flanks, times may be, as the document has it. -/
import Derived.Test.YtmaldhbaihlmbaaGreatDoorCh7
import Derived.Test.YtmaldhbaihlmbaaGreatDoorFw10
set_option linter.unusedSimpArgs false
set_option linter.unusedVariables false
namespace Go.Lb.LK
open Go Go.Lb Go.Proofs Go.RowKit

theorem liks (l : Lay) (im : Img) (k : Kern) (xs : List AV) (h : AV.pureAll xs = true) : AV.pureAll (l.cells ++ im.cells ++ k.cells ++ xs) = true := by simp [pureAll_append, h]
def freeN (l : Lay) (im : Img) (k : Kern) (s : Int) : Bool := (holderN k s).isNone && !occupied l im s
theorem c_free_Free (l : Lay) (im : Img) (hi : im.ok) (k : Kern) (hl : k.len) (s : Int) : C f_free_Free [l.av, im.av, k.av, I s] (.bool (freeN l im k s)) := by
  refine ctr (l.cells ++ im.cells ++ k.cells ++ [I s]) run_free_Free rfl (liks l im k _ rfl) rfl ?_ rfl
  unfold rt_free_Free
  simp [Lay.cells, Img.cells, Kern.cells]
  refine call (c_free_Holder k hl s) (by simp [Kern.cells]) (by simp [optP]) ?_
  simp [optP]
  refine callIf (avs := [l.av, im.av, I s]) (.bool (occupied l im s)) rfl (fun _ => ⟨by simp [Lay.cells, Img.cells], c_image_Occupied l im hi s⟩) (by simp) ?_
  cases h : holderN k s <;> simp [freeN, h]
def meetsN (l : Lay) (im : Img) (k : Kern) (n : Need) : Bool :=
  decide (0 ≤ n.p ∧ n.p < 24) && (match wantedN k n.p with
    | some pos => decide (pos = n.pos) && (decide (atP l im n.p = n.pos) || !lockedN k n.p)
    | none => decide (atP l im n.p = n.pos) || (!k.fail n.p.toNat && freeN l im k n.p))
theorem aidxF (k : Kern) {i : Nat} {z : Int} (hz : z = i) (h : i < 24) : pv (.aidx 24 3 4 1 false) [.agg k.cells, I z] = .bool (k.fail i) := by
  subst hz
  have := mach_fail k.want k.run k.fail h .undef
  have e : k.cells.getD (i * 3 + 4) .undef = .bool (k.fail i) := by
    rw [← this]; rfl
  simp only [pv_aidx, Int.toNat_natCast, AV.cut]
  rw [e]
theorem c_free_Meets (l : Lay) (im : Img) (hi : im.ok) (k : Kern) (hl : k.len) (n : Need) : C f_free_Meets [l.av, im.av, k.av, n.av] (.bool (meetsN l im k n)) := by
  refine ctr (l.cells ++ im.cells ++ k.cells ++ n.cells) run_free_Meets rfl (liks l im k _ (by simp)) rfl ?_ rfl
  unfold rt_free_Meets
  simp [Lay.cells, Img.cells, Kern.cells, Need.cells, -pv_aidx]
  refine ⟨fun hb => by unfold meetsN; rw [decide_eq_false (by omega)]; rfl, fun h0 h24 => ?_⟩
  have hA := aidxF k (i := n.p.toNat) (z := n.p) (by omega) (by omega)
  simp only [Kern.cells] at hA
  refine call (c_image_At l im hi n.p) (by simp [Lay.cells, Img.cells]) (by simp) ?_
  simp [-pv_aidx]
  refine call (c_free_Wanted k hl n.p) (by simp [Kern.cells]) (by simp [optP]) ?_
  cases hm : wantedN k n.p with
  | some pos =>
    simp [optP, -pv_aidx]
    by_cases hp : pos = n.pos
    · simp [hp]
      refine callIf (avs := [k.av, I n.p]) (.bool (lockedN k n.p)) rfl (fun _ => ⟨by simp [Kern.cells], c_free_Locked k hl n.p⟩) (by simp) ?_
      by_cases ha : atP l im n.p = n.pos <;> simp [meetsN, h0, h24, hm, hp, ha]
    · simp [hp, meetsN, h0, h24, hm]
  | none =>
    simp [optP, hA, -pv_aidx]
    repeat refine And.intro (by intros; omega) ?_
    refine callIf (avs := [l.av, im.av, k.av, I n.p]) (.bool (freeN l im k n.p)) rfl (fun _ => ⟨by simp [Lay.cells, Img.cells, Kern.cells], c_free_Free l im hi k hl n.p⟩) (by simp) ?_
    simp [hA, -pv_aidx]
    repeat refine And.intro (by intros; omega) ?_
    by_cases ha : atP l im n.p = n.pos <;> cases hf : k.fail n.p.toNat <;> simp [meetsN, h0, h24, hm, ha, hf]
end Go.Lb.LK

namespace Go.Lb.LK
open Go Go.Lb Go.Proofs Go.RowKit

def kindCells (k : Int) : List AV :=
  if k = 1 then [I 2, I 0, I 1, I 0, I 0, I 1, .bool false] else if k = 2 then [I 3, I 0, I 1, I 0, I 2, I 2, .bool true]
  else if k = 3 then [I 4, I 0, I 1, I 2, I 3, I 2, .bool false] else [I 0, I 0, I 0, I 0, I 0, I 0, .bool false]
theorem kind_cases {k : Int} (h0 : 0 ≤ k) (h1 : k ≤ 255) : k = 0 ∨ k = 1 ∨ k = 2 ∨ k = 3 ∨ 4 ≤ k := by omega

theorem c_port_of (k : Int) (h0 : 0 ≤ k) (h1 : k ≤ 255) : C f_port_of [U k] (.agg (kindCells k)) := by
  refine ctr [U k] run_port_of rfl rfl ?_ ?_ rfl
  · unfold kindCells; repeat' split
    all_goals rfl
  · unfold rt_port_of
    have hw : IntKind.i64.wrap k = k := by rw [wrap_i] <;> omega
    rcases kind_cases h0 h1 with rfl | rfl | rfl | rfl | h
    · simp [kindCells, hw]
    · simp [kindCells, hw]
    · simp [kindCells, hw]
    · simp [kindCells, hw]
    · have : ¬ k < 4 := by omega
      simp [hw, this, kindCells, show k ≠ 1 by omega, show k ≠ 2 by omega, show k ≠ 3 by omega]

/-- The way from one port to another one. -/
def way (k i o : Int) : Int × Bool :=
  if (k = 1 ∨ k = 2 ∨ k = 3) ∧ (i = 0 ∧ o = 1 ∨ i = 1 ∧ o = 0) then (0, true)
  else if k = 2 ∧ (i = 0 ∧ o = 2 ∨ i = 2 ∧ o = 0) then (1, true)
  else if k = 3 ∧ (i = 2 ∧ o = 3 ∨ i = 3 ∧ o = 2) then (1, true) else (0, false)
theorem w1 : IntKind.i64.wrap 1 = 1 := by decide
theorem w2 : IntKind.i64.wrap 2 = 2 := by decide
abbrev ib (x : Int × Bool) : AV := .tup [I x.1, .bool x.2]

theorem c_port_Way (k i o : Int) (h0 : 0 ≤ k) (h1 : k ≤ 255) : C f_port_Way [U k, I i, I o] (ib (way k i o)) := by
  refine ctr [U k, I i, I o] run_port_Way rfl rfl rfl ?_ rfl
  unfold rt_port_Way
  simp
  refine RTwp_call0 (c_port_of k h0 h1) (by simp) ?_
  rcases kind_cases h0 h1 with rfl | rfl | rfl | rfl | h
  · simp [kindCells]
    refine RTwp_loop rfl (fun vs => vs = [I 0]) (fun _ => 0) rfl ?_
    rintro vs - rfl
    simp [way]
  · simp [kindCells]
    refine RTwp_loop rfl (fun vs => vs = [I 0] ∨ vs = [I 1] ∧ way 1 i o = (0, false)) (fun vs => match vs with | [.int _ j] => 3 - j.toNat | _ => 0) (.inl rfl) ?_
    rintro vs - (rfl | ⟨rfl, hw⟩)
    · by_cases c1 : i = 0 ∧ o = 1 ∨ i = 1 ∧ o = 0 <;> simp [way, c1, w1] <;> omega
    · simp [hw]
  · simp [kindCells]
    refine RTwp_loop rfl (fun vs => vs = [I 0] ∨ vs = [I 1] ∧ ¬ (i = 0 ∧ o = 1 ∨ i = 1 ∧ o = 0) ∨ vs = [I 2] ∧ way 2 i o = (0, false)) (fun vs => match vs with | [.int _ j] => 3 - j.toNat | _ => 0) (.inl rfl) ?_
    rintro vs - (rfl | ⟨rfl, hw⟩ | ⟨rfl, hw⟩)
    · by_cases c1 : i = 0 ∧ o = 1 ∨ i = 1 ∧ o = 0 <;> simp [way, c1, w1] <;> omega
    · by_cases c1 : i = 0 ∧ o = 2 ∨ i = 2 ∧ o = 0 <;> simp [way, c1, hw, w2] <;> omega
    · simp [hw]
  · simp [kindCells]
    refine RTwp_loop rfl (fun vs => vs = [I 0] ∨ vs = [I 1] ∧ ¬ (i = 0 ∧ o = 1 ∨ i = 1 ∧ o = 0) ∨ vs = [I 2] ∧ way 3 i o = (0, false)) (fun vs => match vs with | [.int _ j] => 3 - j.toNat | _ => 0) (.inl rfl) ?_
    rintro vs - (rfl | ⟨rfl, hw⟩ | ⟨rfl, hw⟩)
    · by_cases c1 : i = 0 ∧ o = 1 ∨ i = 1 ∧ o = 0 <;> simp [way, c1, w1] <;> omega
    · by_cases c1 : i = 2 ∧ o = 3 ∨ i = 3 ∧ o = 2 <;> simp [way, c1, hw, w2] <;> omega
    · simp [hw]
  · simp [kindCells, show k ≠ 1 by omega, show k ≠ 2 by omega, show k ≠ 3 by omega]
    refine RTwp_loop rfl (fun vs => vs = [I 0]) (fun _ => 0) rfl ?_
    rintro vs - rfl
    simp [way, show k ≠ 1 by omega, show k ≠ 2 by omega, show k ≠ 3 by omega]

theorem c_port_Pos (k i o : Int) (h0 : 0 ≤ k) (h1 : k ≤ 255) : C f_port_Pos [U k, I i, I o] (ib (if (way k i o).2 = true ∧ k ≠ 2 then (-1, true) else way k i o)) := by
  refine ctr [U k, I i, I o] run_port_Pos rfl rfl rfl ?_ rfl
  unfold rt_port_Pos
  refine RTwp_call0 (c_port_Way k i o h0 h1) (by simp) ?_
  simp
  refine RTwp_call (.agg (kindCells k)) (c_port_of k h0 h1).1 (fun _ => ⟨c_port_of k h0 h1, by simp⟩) ?_
  generalize way k i o = w
  obtain ⟨a, b⟩ := w
  rcases kind_cases h0 h1 with rfl | rfl | rfl | rfl | h <;> cases b
  any_goals simp [kindCells]
  · simp [kindCells, show k ≠ 1 by omega, show k ≠ 2 by omega, show k ≠ 3 by omega]

/-! ### A layout's places -/
def secAt (l : Lay) (s : Int) : Option Sec := if 0 ≤ s then l.secs[s.toNat]? else none
theorem secAt_in {l : Lay} {s : Int} (h0 : 0 ≤ s) (h1 : s < l.secs.length) : ∃ n : Nat, s = n ∧ ∃ h : n < l.secs.length, secAt l s = some (l.secs[n]) := by
  refine ⟨s.toNat, by omega, by omega, ?_⟩
  unfold secAt
  rw [if_pos h0, List.getElem?_eq_getElem]
theorem secAt_out {l : Lay} {s : Int} (h : ¬ (0 ≤ s ∧ s < l.secs.length)) : secAt l s = none := by
  unfold secAt
  split
  · exact List.getElem?_eq_none (by omega)
  · rfl
/-- The way of a step. -/
def lstep (l : Lay) (s : Step) : Int × Bool := match secAt l s.s with
  | some x => way x.kind s.i s.o
  | none => (0, false)

theorem c_layout_Step (l : Lay) (hl : l.ok) (s : Step) : C f_layout_Step [l.av, s.av] (ib (lstep l s)) := by
  refine ctr (l.cells ++ s.cells) run_layout_Step rfl (by simp [pureAll_append]) rfl ?_ rfl
  unfold rt_layout_Step
  simp [Lay.cells, Step.cells]
  by_cases hc : 0 ≤ s.s ∧ s.s < l.secs.length
  · obtain ⟨n, hn, hlt, he⟩ := secAt_in hc.1 hc.2
    have hk := hl _ (List.getElem_mem hlt)
    simp [hn, hlt, Sec.cells]
    refine ⟨fun h => absurd h (by omega), ?_⟩
    refine call (c_port_Way _ s.i s.o hk.1 hk.2) (by simp [hlt, Sec.cells]) (by simp) ?_
    simp [lstep, he]
  · have h2 : 0 ≤ s.s → ¬ s.s < l.secs.length := by omega
    simp [lstep, secAt_out hc]
    exact fun a b => absurd ⟨a, b⟩ hc

/-! ### Overlaps -/
def exitAt (l : Lay) (x : Int) : Option Exi := if 0 ≤ x then l.exits[x.toNat]? else none
theorem exitAt_in {l : Lay} {s : Int} (h0 : 0 ≤ s) (h1 : s < l.exits.length) : ∃ n : Nat, s = n ∧ ∃ h : n < l.exits.length, exitAt l s = some (l.exits[n]) := by
  refine ⟨s.toNat, by omega, by omega, ?_⟩
  unfold exitAt
  rw [if_pos h0, List.getElem?_eq_getElem]
theorem exitAt_out {l : Lay} {s : Int} (h : ¬ (0 ≤ s ∧ s < l.exits.length)) : exitAt l s = none := by
  unfold exitAt
  split
  · exact List.getElem?_eq_none (by omega)
  · rfl
/-- An exit's overlap. -/
def over (l : Lay) (x : Int) : List Step := match exitAt l x with
  | some e => e.over
  | none => []
/-- Overlaps are no longer than the machine bears. -/
def Lay.ovOk (l : Lay) : Prop := ∀ e ∈ l.exits, e.over.length ≤ 4294967296
theorem c_beyond_Over (l : Lay) (ho : l.ovOk) (x : Int) : C f_beyond_Over [l.av, I x] (steps (over l x)) := by
  refine ctr (l.cells ++ [I x]) run_beyond_Over rfl (by simp [pureAll_append, AV.pureAll, AV.pure]) (by simp [AV.pure]) ?_ rfl
  unfold rt_beyond_Over
  simp [Lay.cells]
  by_cases hc : 0 ≤ x ∧ x < l.exits.length
  · obtain ⟨n, hn, hlt, he⟩ := exitAt_in hc.1 hc.2
    have hk := ho _ (List.getElem_mem hlt)
    subst hn
    simp [hlt, Exi.cells]
    refine ⟨fun h => by omega, ?_⟩
    refine call (c_slices_Clone_Step _ hk) (by simp [hlt, Exi.cells]) (by simp) ?_
    simp [over, he]
  · simp [over, exitAt_out hc]
    exact fun a b => absurd ⟨a, b⟩ hc
end Go.Lb.LK

namespace Go.Lb.LK
open Go Go.Lb Go.Proofs Go.RowKit

/-- A step's point. -/
def point (l : Lay) (s : Step) : Int × Int × Bool := match secAt l s.s with
  | some x => if (way x.kind s.i s.o).2 = true ∧ x.kind = 2 then (s.s, (way 2 s.i s.o).1, true) else (0, 0, false)
  | none => (0, 0, false)
abbrev iib (x : Int × Int × Bool) : AV := .tup [I x.1, I x.2.1, .bool x.2.2]

theorem c_beyond_Point (l : Lay) (hl : l.ok) (s : Step) : C f_beyond_Point [l.av, s.av] (iib (point l s)) := by
  refine ctr (l.cells ++ s.cells) run_beyond_Point rfl (by simp [pureAll_append]) rfl ?_ rfl
  unfold rt_beyond_Point
  simp [Lay.cells, Step.cells]
  refine call (c_layout_Step l hl s) (by simp [Lay.cells, Step.cells]) (by simp) ?_
  by_cases hc : 0 ≤ s.s ∧ s.s < l.secs.length
  · obtain ⟨n, hn, hlt, he⟩ := secAt_in hc.1 hc.2
    have hls : lstep l s = way l.secs[n].kind s.i s.o := by simp [lstep, he]
    have hpt : point l s = if (way l.secs[n].kind s.i s.o).2 = true ∧ l.secs[n].kind = 2 then (s.s, (way 2 s.i s.o).1, true) else (0, 0, false) := by simp [point, he]
    rw [hls, hpt]
    clear hls hpt
    cases hw : (way l.secs[n].kind s.i s.o).2
    · simp [hn, hlt, Sec.cells, hw]
    · by_cases hk : l.secs[n].kind = 2
      · rw [hk] at hw ⊢
        simp [hn, hlt, Sec.cells, hw, hk]
        refine call (c_port_Pos 2 s.i s.o (by omega) (by omega)) (by simp) (by simp) ?_
        simp
      · simp [hn, hlt, Sec.cells, hw, hk]
  · simp [point, lstep, secAt_out hc]

def flankOn (l : Lay) (s : Step) (f : Flank) : Bool := (lstep l s).2 && decide (f.s = s.s) && decide (f.way = (lstep l s).1)
/-- What a step wants. -/
def wants (l : Lay) (s : Step) (k : Int) : List Need :=
  (if (point l s).2.2 = true then [⟨(point l s).1, (point l s).2.1, k⟩] else []) ++ (l.flanks.filter (flankOn l s)).map fun f => ⟨f.point, f.pos, k⟩

theorem c_beyond_Wants (l : Lay) (hl : l.ok) (hf : l.flanks.length ≤ 2147483648) (s : Step) (k : Int) : C f_beyond_Wants [l.av, s.av, I k] (needs (wants l s k)) := by
  refine ctr (l.cells ++ s.cells ++ [I k]) run_beyond_Wants rfl (by simp [pureAll_append, AV.pureAll, AV.pure]) (by simp [AV.pure]) ?_ rfl
  unfold rt_beyond_Wants
  simp [Lay.cells, Step.cells]
  refine call (c_beyond_Point l hl s) (by simp [Lay.cells, Step.cells]) (by simp) ?_
  simp
  have hlen : ∀ i, ((l.flanks.take i).filter (flankOn l s)).length ≤ 2147483648 := fun i => by
    have := List.length_filter_le (flankOn l s) (l.flanks.take i)
    have : (l.flanks.take i).length ≤ l.flanks.length := by simp; omega
    omega
  refine ⟨fun hp => ?_, fun hp => ?_⟩
  all_goals
    refine call (c_layout_Step l hl s) (by simp [Lay.cells, Step.cells]) (by simp) ?_
    simp
    refine RTwp_loop rfl (fun vs => ∃ i : Nat, i ≤ l.flanks.length ∧ vs = [I i, needs ((if (point l s).2.2 = true then [⟨(point l s).1, (point l s).2.1, k⟩] else []) ++ ((l.flanks.take i).filter (flankOn l s)).map (fun f => ⟨f.point, f.pos, k⟩))]) (fun vs => match vs with | .int _ j :: _ => l.flanks.length - j.toNat | _ => 0) ⟨0, by simp, by simp [hp, Need.cells]⟩ ?_
    rintro vs - ⟨i, hi, rfl⟩
    have hli := hlen i
    simp
    refine ⟨fun hlt => ?_, fun hge => ?_⟩
    · have hw := wrap_succ (i := i) (by omega)
      have ht := filter_take (flankOn l s) l.flanks hlt
      cases hon : flankOn l s l.flanks[i]
      · have h3 : ¬ ((lstep l s).2 = true ∧ l.flanks[i].s = s.s ∧ l.flanks[i].way = (lstep l s).1) := by
          intro ⟨h1, h2, h3⟩
          simp [flankOn, h1, h2, h3] at hon
        simp [hlt, Flank.cells, hp]
        refine .inl ⟨fun h1 h2 h4 => h3 ⟨h1, h2, h4⟩, ⟨i + 1, by omega, hw, ?_⟩, by rw [hw]; omega⟩
        rw [ht, hon]; simp
      · have h3 : (lstep l s).2 = true ∧ l.flanks[i].s = s.s ∧ l.flanks[i].way = (lstep l s).1 := by
          simp only [flankOn, Bool.and_eq_true, decide_eq_true_eq] at hon
          exact ⟨hon.1.1, hon.1.2, hon.2⟩
        simp [hlt, Flank.cells, hp]
        refine .inr ⟨⟨⟨h3.1, h3.2.1⟩, h3.2.2⟩, by omega, ⟨i + 1, by omega, hw, ?_⟩, by rw [hw]; omega⟩
        rw [ht, hon]; simp [Need.cells]
    · have : l.flanks.take i = l.flanks := List.take_of_length_le hge
      simp [this, wants, hp, Need.cells]

/-- The steps that a path needs for, and their numbers. -/
def numbered (l : Lay) (p : Path) : List (Int × Step) := p.steps.mapIdx (fun k s => ((k : Int), s)) ++ (over l p.exit).map fun s => ((p.steps.length : Int), s)
/-- What a path needs. -/
def needOf (l : Lay) (p : Path) : List Need := (numbered l p).flatMap fun x => wants l x.2 x.1

theorem wants_len (l : Lay) (s : Step) (k : Int) : (wants l s k).length ≤ l.flanks.length + 1 := by
  unfold wants
  rw [List.length_append, List.length_map]
  have := List.length_filter_le (flankOn l s) l.flanks
  split <;> simp <;> omega
theorem flat_len {α β : Type} (f : α → List β) (m : Nat) (h : ∀ x, (f x).length ≤ m) : ∀ l : List α, (l.flatMap f).length ≤ l.length * m
  | [] => by simp
  | x :: l => by
    have := flat_len f m h l
    have := h x
    simp only [List.flatMap_cons, List.length_append, List.length_cons, Nat.add_mul]
    omega

theorem c_need_Of (l : Lay) (hl : l.ok) (ho : l.ovOk) (hf : l.flanks.length ≤ 1000) (p : Path) (hp : p.steps.length ≤ 1000) (hov : (over l p.exit).length ≤ 1000) : C f_need_Of [l.av, p.av] (needs (needOf l p)) := by
  refine ctr (l.cells ++ p.cells) run_need_Of rfl (by simp [pureAll_append, AV.pureAll, AV.pure]) (by simp [AV.pure]) ?_ rfl
  unfold rt_need_Of
  simp [Lay.cells, Path.cells]
  have hw1 : ∀ s k, (wants l s k).length ≤ 1001 := fun s k => by have := wants_len l s k; omega
  have hnl : (numbered l p).length = p.steps.length + (over l p.exit).length := by simp [numbered]
  have hN : ∀ m : Nat, (((numbered l p).take m).flatMap fun x => wants l x.2 x.1).length ≤ 2002000 := fun m => by
    have h1 := flat_len (fun x : Int × Step => wants l x.2 x.1) 1001 (fun x => hw1 x.2 x.1) ((numbered l p).take m)
    have h2 : ((numbered l p).take m).length ≤ 2000 := by rw [List.length_take]; omega
    omega
  have hA : ∀ (i : Nat) (h : i < p.steps.length), (numbered l p)[i]'(by rw [hnl]; omega) = ((i : Int), p.steps[i]) := fun i h => by
    simp [numbered, List.getElem_append_left, h]
  have hB : ∀ (i : Nat) (h : i < (over l p.exit).length), (numbered l p)[p.steps.length + i]'(by rw [hnl]; omega) = ((p.steps.length : Int), (over l p.exit)[i]) := fun i h => by
    simp [numbered, List.getElem_append_right]
  refine RTwp_loop rfl (fun vs => ∃ i : Nat, i ≤ p.steps.length ∧ vs = [I i, needs (((numbered l p).take i).flatMap fun x => wants l x.2 x.1)]) (fun vs => match vs with | .int _ j :: _ => p.steps.length - j.toNat | _ => 0) ⟨0, by simp, by simp⟩ ?_
  rintro vs - ⟨i, hi, rfl⟩
  have hNi := hN i
  simp
  refine ⟨fun hlt => ?_, fun hge => ?_⟩
  · have hw := wrap_succ (i := i) (by omega)
    simp [hlt, Step.cells]
    have hx := flatMap_take (fun x : Int × Step => wants l x.2 x.1) (numbered l p) (i := i) (by rw [hnl]; omega)
    rw [hA i hlt] at hx
    have hy := hw1 p.steps[i] i
    refine call (c_beyond_Wants l hl (by omega) p.steps[i] i) (by simp [hlt, Step.cells, Lay.cells]) (by simp) ?_
    simp [-List.length_flatMap]
    refine ⟨fun x _ => by simp [Need.cells], by omega, ⟨i + 1, by omega, hw, ?_⟩, by rw [hw]; omega⟩
    rw [hx]; simp
  · have hi' : i = p.steps.length := by omega
    subst hi'
    refine call (c_beyond_Over l ho p.exit) (by simp [Lay.cells]) (by simp) ?_
    simp
    refine RTwp_loop rfl (fun vs => ∃ i : Nat, i ≤ (over l p.exit).length ∧ vs = [I i, needs (((numbered l p).take (p.steps.length + i)).flatMap fun x => wants l x.2 x.1)]) (fun vs => match vs with | .int _ j :: _ => (over l p.exit).length - j.toNat | _ => 0) ⟨0, by simp, by simp⟩ ?_
    rintro vs - ⟨i, hi, rfl⟩
    have hNi := hN (p.steps.length + i)
    simp
    refine ⟨fun hlt => ?_, fun hge => ?_⟩
    · have hw := wrap_succ (i := i) (by omega)
      simp [hlt, Step.cells]
      have hx := flatMap_take (fun x : Int × Step => wants l x.2 x.1) (numbered l p) (i := p.steps.length + i) (by rw [hnl]; omega)
      rw [hB i hlt] at hx
      have hy := hw1 (over l p.exit)[i] p.steps.length
      refine call (c_beyond_Wants l hl (by omega) (over l p.exit)[i] p.steps.length) (by simp [hlt, Step.cells, Lay.cells]) (by simp) ?_
      simp [-List.length_flatMap]
      refine ⟨fun x _ => by simp [Need.cells], by omega, ⟨i + 1, by omega, hw, ?_⟩, by rw [hw]; omega⟩
      rw [show p.steps.length + (i + 1) = p.steps.length + i + 1 from rfl, hx]; simp
    · have : (numbered l p).take (p.steps.length + i) = numbered l p := List.take_of_length_le (by rw [hnl]; omega)
      simp [this, needOf]
end Go.Lb.LK

namespace Go.Lb.LK
open Go Go.Lb Go.Proofs Go.RowKit

def sigTaken (p : Path) (h : Hd) : Bool := decide (h.path.sig = p.sig) && !decide (h.stage = 3)
def canN (l : Lay) (im : Img) (k : Kern) (p : Path) : Int :=
  if (k.held.any (sigTaken p) || ((p.steps ++ over l p.exit).any (fun s => !freeN l im k s.s) || (needOf l p).any (fun n => !meetsN l im k n))) = true then 190
  else if 6 ≤ k.held.length then 191 else 0
structure CanOk (l : Lay) (k : Kern) (p : Path) : Prop where
  kl : k.len
  lo : l.ok
  ov : l.ovOk
  fl : l.flanks.length ≤ 1000
  pl : p.steps.length ≤ 1000
  ol : (over l p.exit).length ≤ 1000
theorem needOf_len {l : Lay} {k : Kern} {p : Path} (h : CanOk l k p) : (needOf l p).length ≤ 2002000 := by
  have hw1 : ∀ s k, (wants l s k).length ≤ 1001 := fun s k => by have := wants_len l s k; have := h.fl; omega
  have h1 := flat_len (fun x : Int × Step => wants l x.2 x.1) 1001 (fun x => hw1 x.2 x.1) (numbered l p)
  have h2 : (numbered l p).length ≤ 2000 := by have := h.pl; have := h.ol; simp [numbered]; omega
  unfold needOf
  omega
end Go.Lb.LK

namespace Go.Lb.LK
open Go Go.Lb Go.Proofs Go.RowKit

theorem likp (l : Lay) (im : Img) (k : Kern) (p : Path) : AV.pureAll (l.cells ++ im.cells ++ k.cells ++ p.cells) = true := by simp [pureAll_append]
theorem can_sig {l : Lay} {im : Img} {k : Kern} {p : Path} (h : k.held.any (sigTaken p) = true) : canN l im k p = 190 := by simp [canN, h]
theorem can_step {l : Lay} {im : Img} {k : Kern} {p : Path} {s : Step} (hs : s ∈ p.steps ++ over l p.exit) (h : freeN l im k s.s = false) : canN l im k p = 190 := by
  have : ((p.steps ++ over l p.exit).any fun s => !freeN l im k s.s) = true := List.any_eq_true.2 ⟨s, hs, by simp [h]⟩
  simp only [canN, this, Bool.true_or, Bool.or_true, if_true]
theorem can_need {l : Lay} {im : Img} {k : Kern} {p : Path} {n : Need} (hs : n ∈ needOf l p) (h : meetsN l im k n = false) : canN l im k p = 190 := by
  have : ((needOf l p).any fun n => !meetsN l im k n) = true := List.any_eq_true.2 ⟨n, hs, by simp [h]⟩
  simp only [canN, this, Bool.or_true, if_true]
theorem can_fine {l : Lay} {im : Img} {k : Kern} {p : Path} (h1 : NoneIn (sigTaken p) k.held) (h2 : NoneIn (fun s : Step => !freeN l im k s.s) p.steps) (h3 : NoneIn (fun s : Step => !freeN l im k s.s) (over l p.exit)) (h4 : NoneIn (fun n => !meetsN l im k n) (needOf l p)) : canN l im k p = if 6 ≤ k.held.length then 191 else 0 := by
  unfold NoneIn at *
  simp only [canN, List.any_append, h1, h2, h3, h4, Bool.or_false, Bool.false_eq_true, if_false]
set_option maxHeartbeats 4000000 in
theorem c_free_Can (l : Lay) (im : Img) (hi : im.ok) (k : Kern) (p : Path) (hc : CanOk l k p) : C f_free_Can [l.av, im.av, k.av, p.av] (I (canN l im k p)) := by
  have hk1 := hc.kl.1
  have hp1 := hc.pl
  have ho1 := hc.ol
  have hn1 := needOf_len hc
  refine ctr (l.cells ++ im.cells ++ k.cells ++ p.cells) run_free_Can rfl (likp l im k p) rfl ?_ rfl
  unfold rt_free_Can
  simp [Lay.cells, Img.cells, Kern.cells, Path.cells]
  refine RTwp_loop rfl (fun vs => ∃ i : Nat, i ≤ k.held.length ∧ vs = [I i] ∧ NoneIn (sigTaken p) (k.held.take i)) (fun vs => match vs with | [.int _ j] => k.held.length - j.toNat | _ => 0) ⟨0, by omega, by simp, rfl⟩ ?_
  rintro vs - ⟨i, hii, rfl, hq1⟩
  simp
  refine ⟨fun hlt => ?_, fun hge => ?_⟩
  · have hw := wrap_succ (i := i) (by omega)
    cases hs : sigTaken p k.held[i]
    · have hs2 : k.held[i].path.sig = p.sig → k.held[i].stage = 3 := by
        intro h; simpa [sigTaken, h] using hs
      simp [hlt, Hd.cells, hw]
      left
      exact ⟨hs2, ⟨i + 1, by omega, by omega, any_step hlt hq1 hs⟩, by omega⟩
    · have hs2 : k.held[i].path.sig = p.sig ∧ ¬ k.held[i].stage = 3 := by simpa [sigTaken] using hs
      simp [hlt, Hd.cells, hw, hs2.1, hs2.2, can_sig (l := l) (im := im) (any_hit hlt hs)]
  · have ht : k.held.take i = k.held := List.take_of_length_le (by omega)
    rw [ht] at hq1
    refine RTwp_loop rfl (fun vs => ∃ i : Nat, i ≤ p.steps.length ∧ vs = [I i] ∧ NoneIn (fun s : Step => !freeN l im k s.s) (p.steps.take i)) (fun vs => match vs with | [.int _ j] => p.steps.length - j.toNat | _ => 0) ⟨0, by omega, by simp, rfl⟩ ?_
    rintro vs - ⟨j, hj, rfl, hq2⟩
    simp
    refine ⟨fun hlt2 => ?_, fun hge2 => ?_⟩
    · have hw := wrap_succ (i := j) (by omega)
      simp [hlt2, Step.cells]
      refine call (c_free_Free l im hi k hc.kl p.steps[j].s) (by simp [Lay.cells, Img.cells, Kern.cells, hlt2, Step.cells]) (by simp) ?_
      cases hf : freeN l im k p.steps[j].s
      · simp
        refine callIf (avs := []) (steps (over l p.exit)) (by simp [AV.pure]) (fun hh => ?_) (by simp) ?_
        · simp at hh
        · simp [can_step (List.mem_append_left (over l p.exit) (List.getElem_mem hlt2)) hf]
      · simp [hw]
        exact ⟨⟨j + 1, by omega, by omega, any_step hlt2 hq2 (by simp [hf])⟩, by omega⟩
    · have ht2 : p.steps.take j = p.steps := List.take_of_length_le (by omega)
      rw [ht2] at hq2
      refine call (c_beyond_Over l hc.ov p.exit) (by simp [Lay.cells]) (by simp) ?_
      simp
      refine RTwp_loop rfl (fun vs => ∃ i : Nat, i ≤ (over l p.exit).length ∧ vs = [I i] ∧ NoneIn (fun s : Step => !freeN l im k s.s) ((over l p.exit).take i)) (fun vs => match vs with | [.int _ j] => (over l p.exit).length - j.toNat | _ => 0) ⟨0, by omega, by simp, rfl⟩ ?_
      rintro vs - ⟨m, hm, rfl, hq3⟩
      simp
      refine ⟨fun hlt3 => ?_, fun hge3 => ?_⟩
      · have hw := wrap_succ (i := m) (by omega)
        simp [hlt3, Step.cells]
        refine call (c_free_Free l im hi k hc.kl (over l p.exit)[m].s) (by simp [Lay.cells, Img.cells, Kern.cells, hlt3, Step.cells]) (by simp) ?_
        cases hf : freeN l im k (over l p.exit)[m].s
        · simp [can_step (List.mem_append_right p.steps (List.getElem_mem hlt3)) hf]
        · simp [hw]
          exact ⟨⟨m + 1, by omega, by omega, any_step hlt3 hq3 (by simp [hf])⟩, by omega⟩
      · have ht3 : (over l p.exit).take m = over l p.exit := List.take_of_length_le (by omega)
        rw [ht3] at hq3
        refine call (c_need_Of l hc.lo hc.ov hc.fl p hc.pl hc.ol) (by simp [Lay.cells, Path.cells]) (by simp) ?_
        simp
        refine RTwp_loop rfl (fun vs => ∃ i : Nat, i ≤ (needOf l p).length ∧ vs = [I i] ∧ NoneIn (fun n => !meetsN l im k n) ((needOf l p).take i)) (fun vs => match vs with | [.int _ j] => (needOf l p).length - j.toNat | _ => 0) ⟨0, by omega, by simp, rfl⟩ ?_
        rintro vs - ⟨q, hqq, rfl, hq4⟩
        simp
        refine ⟨fun hlt4 => ?_, fun hge4 => ?_⟩
        · have hw := wrap_succ (i := q) (by omega)
          simp [hlt4, Need.cells]
          refine call (c_free_Meets l im hi k hc.kl (needOf l p)[q]) (by simp [Lay.cells, Img.cells, Kern.cells, hlt4, Need.cells]) (by simp) ?_
          cases hf : meetsN l im k (needOf l p)[q]
          · simp [can_need (List.getElem_mem hlt4) hf]
          · simp [hw]
            exact ⟨⟨q + 1, by omega, by omega, any_step hlt4 hq4 (by simp [hf])⟩, by omega⟩
        · have ht4 : (needOf l p).take q = needOf l p := List.take_of_length_le (by omega)
          rw [ht4] at hq4
          rw [can_fine hq1 hq2 hq3 hq4]
          by_cases h6 : 6 ≤ k.held.length
          · have h6' : (6 : Int) ≤ k.held.length := by omega
            simp [h6, h6']
          · have h6' : ¬ (6 : Int) ≤ k.held.length := by omega
            simp [h6, h6']
end Go.Lb.LK

namespace Go.Lb.LK
open Go Go.Lb Go.Proofs Go.RowKit

def ways (k : Int) : Int := if k = 1 then 1 else if k = 2 then 2 else if k = 3 then 2 else 0
theorem c_r05_Ways (k : Int) : C f_lockbarref05_Ways [U k] (I (ways k)) := by
  refine ctr [U k] run_lockbarref05_Ways rfl rfl rfl ?_ rfl
  unfold rt_lockbarref05_Ways
  by_cases h1 : k = 1
  · simp [h1, ways]
  · by_cases h2 : k = 2
    · simp [h2, ways]
    · by_cases h3 : k = 3
      · simp [h3, ways]
      · simp [h1, h2, h3, ways]
def ends (k w : Int) : Int × Int × Bool := if w < 0 ∨ w ≥ ways k then (0, 0, false) else if w = 0 then (0, 1, true) else if k = 2 then (0, 2, true) else (2, 3, true)
theorem c_r05_Ends (k w : Int) : C f_lockbarref05_Ends [U k, I w] (iib (ends k w)) := by
  refine ctr [U k, I w] run_lockbarref05_Ends rfl rfl rfl ?_ rfl
  unfold rt_lockbarref05_Ends
  simp
  refine callIf (I (ways k)) rfl (fun _ => ⟨by simp, c_r05_Ways k⟩) (by simp) ?_
  by_cases h0 : w < 0
  · simp [h0, ends]
  · by_cases h1 : ways k ≤ w
    · simp [h0, h1, ends]
    · by_cases h2 : w = 0
      · subst h2; simp [h1, ends]
      · by_cases h3 : k = 2
        · subst h3; simp [h0, h1, h2, ends]
        · simp [h0, h1, h2, h3, ends]
theorem ways_le (k : Int) : 0 ≤ ways k ∧ ways k ≤ 2 := by unfold ways; split <;> (try split) <;> (try split) <;> omega

theorem c_r05_Way (k i o : Int) : C f_lockbarref05_Way [U k, I i, I o] (ib (way k i o)) := by
  refine ctr [U k, I i, I o] run_lockbarref05_Way rfl rfl rfl ?_ rfl
  unfold rt_lockbarref05_Way
  have hw := ways_le k
  refine RTwp_loop rfl (fun vs => ∃ j : Nat, (j : Int) ≤ 2 ∧ vs = [I j] ∧ (1 ≤ j → 1 ≤ ways k → ¬ (i = 0 ∧ o = 1 ∨ i = 1 ∧ o = 0)) ∧ (2 ≤ j → k = 2 → ¬ (i = 0 ∧ o = 2 ∨ i = 2 ∧ o = 0)) ∧ (2 ≤ j → k = 3 → ¬ (i = 2 ∧ o = 3 ∨ i = 3 ∧ o = 2)) ∧ (j : Int) ≤ ways k)
    (fun vs => match vs with | [.int _ j] => 3 - j.toNat | _ => 0) ⟨0, by simp, by simp, by omega, by omega, by omega, by simp; omega⟩ ?_
  rintro vs - ⟨j, hj, rfl, a1, a2, a3, a4⟩
  simp
  refine call (c_r05_Ways k) (by simp) (by simp) ?_
  simp
  refine ⟨fun hlt => ?_, fun hge => ?_⟩
  · refine call (c_r05_Ends k j) (by simp) (by simp) ?_
    simp
    have hk : k = 1 ∨ k = 2 ∨ k = 3 := by
      unfold ways at hlt
      split at hlt
      · exact .inl ‹_›
      · split at hlt
        · exact .inr (.inl ‹_›)
        · split at hlt
          · exact .inr (.inr ‹_›)
          · omega
    have hj2 : j = 0 ∨ j = 1 := by omega
    rcases hj2 with rfl | rfl
    · have he : ends k ((0 : Nat) : Int) = (0, 1, true) := by
        unfold ends
        rw [if_neg (by simp; omega)]; rfl
      rw [he]
      simp only [Int.natCast_zero, Int.zero_add, w1]
      by_cases c1 : i = 0 ∧ o = 1 ∨ i = 1 ∧ o = 0
      · have hwy : way k i o = (0, true) := by unfold way; rw [if_pos ⟨by omega, c1⟩]
        rw [hwy]
        exact ⟨fun _ => ⟨rfl, rfl⟩, fun h1 h2 => absurd c1 (by omega)⟩
      · refine ⟨fun h => absurd h (by omega), fun h1 h2 => ⟨⟨1, by omega, rfl, fun _ _ => by omega, fun h => by omega, fun h => by omega, by simp; omega⟩, by decide⟩⟩
    · have hk2 : k = 2 ∨ k = 3 := by
        rcases hk with rfl | h
        · simp [ways] at hlt
        · exact h
      have n1 := a1 (by omega) (by omega)
      have wj : IntKind.i64.wrap (((1 : Nat) : Int) + 1) = 2 := by decide
      rw [wj]
      rcases hk2 with rfl | rfl
      · have he : ends 2 ((1 : Nat) : Int) = (0, 2, true) := rfl
        rw [he]
        by_cases c1 : i = 0 ∧ o = 2 ∨ i = 2 ∧ o = 0
        · have hwy : way 2 i o = (1, true) := by unfold way; rw [if_neg (fun h => n1 h.2), if_pos ⟨rfl, c1⟩]
          rw [hwy]
          exact ⟨fun _ => ⟨rfl, rfl⟩, fun h1 h2 => absurd c1 (by dsimp only at h1 h2; omega)⟩
        · refine ⟨fun h => absurd h (by dsimp only; omega), fun h1 h2 => ⟨⟨2, by omega, rfl, fun _ _ => by omega, fun _ _ => by omega, fun _ h => by omega, by decide⟩, by decide⟩⟩
      · have he : ends 3 ((1 : Nat) : Int) = (2, 3, true) := rfl
        rw [he]
        by_cases c1 : i = 2 ∧ o = 3 ∨ i = 3 ∧ o = 2
        · have hwy : way 3 i o = (1, true) := by unfold way; rw [if_neg (fun h => n1 h.2), if_neg (fun h => by omega), if_pos ⟨rfl, c1⟩]
          rw [hwy]
          exact ⟨fun _ => ⟨rfl, rfl⟩, fun h1 h2 => absurd c1 (by dsimp only at h1 h2; omega)⟩
        · refine ⟨fun h => absurd h (by dsimp only; omega), fun h1 h2 => ⟨⟨2, by omega, rfl, fun _ _ => by omega, fun _ h => by omega, fun _ _ => by omega, by decide⟩, by decide⟩⟩
  · have hwy : way k i o = (0, false) := by
      have hjw : (j : Int) = ways k := by omega
      unfold way
      rw [if_neg, if_neg, if_neg]
      · rintro ⟨rfl, h⟩
        have : (j : Int) = 2 := hjw
        exact a3 (by omega) rfl h
      · rintro ⟨rfl, h⟩
        have : (j : Int) = 2 := hjw
        exact a2 (by omega) rfl h
      · rintro ⟨hk, h⟩
        have h1 : 1 ≤ ways k := by rcases hk with rfl | rfl | rfl <;> decide
        exact a1 (by omega) h1 h
    rw [hwy]
    exact ⟨rfl, rfl⟩

theorem c_r06_Step (l : Lay) (s : Step) : C f_lockbarref06_Step [l.av, s.av] (ib (lstep l s)) := by
  refine ctr (l.cells ++ s.cells) run_lockbarref06_Step rfl (by simp [pureAll_append]) rfl ?_ rfl
  unfold rt_lockbarref06_Step
  simp [Lay.cells, Step.cells]
  by_cases hc : 0 ≤ s.s ∧ s.s < l.secs.length
  · obtain ⟨n, hn, hlt, he⟩ := secAt_in hc.1 hc.2
    have hls : lstep l s = way l.secs[n].kind s.i s.o := by simp [lstep, he]
    rw [hls]
    simp [hn, hlt, Sec.cells]
    refine ⟨fun h => by omega, ?_⟩
    refine call (c_r05_Way l.secs[n].kind s.i s.o) (by simp [hlt, Sec.cells]) (by simp) ?_
    simp
  · simp [lstep, secAt_out hc]
    exact fun a b => absurd ⟨a, b⟩ hc

theorem c_r05_Pos (k i o : Int) : C f_lockbarref05_Pos [U k, I i, I o] (ib (if (way k i o).2 = true ∧ k ≠ 2 then (-1, true) else way k i o)) := by
  refine ctr [U k, I i, I o] run_lockbarref05_Pos rfl rfl rfl ?_ rfl
  unfold rt_lockbarref05_Pos
  refine call (c_r05_Way k i o) (by simp) (by simp) ?_
  generalize way k i o = w
  obtain ⟨a, b⟩ := w
  cases b <;> by_cases h : k = 2 <;> simp [h]
theorem c_r10_there (l : Lay) (s : Step) : C f_lockbarref10_there [l.av, s.av] (.bool (lstep l s).2) := by
  refine ctr (l.cells ++ s.cells) run_lockbarref10_there rfl (by simp [pureAll_append]) rfl ?_ rfl
  unfold rt_lockbarref10_there
  simp [Lay.cells, Step.cells]
  refine call (c_r06_Step l s) (by simp [Lay.cells, Step.cells]) (by simp) ?_
  simp
theorem c_r10_Over (l : Lay) (ho : l.ovOk) (x : Int) : C f_lockbarref10_Over [l.av, I x] (steps (over l x)) := by
  refine ctr (l.cells ++ [I x]) run_lockbarref10_Over rfl (by simp [pureAll_append, AV.pureAll, AV.pure]) (by simp [AV.pure]) ?_ rfl
  unfold rt_lockbarref10_Over
  simp [Lay.cells]
  by_cases hc : 0 ≤ x ∧ x < l.exits.length
  · obtain ⟨n, hn, hlt, he⟩ := exitAt_in hc.1 hc.2
    have hk := ho _ (List.getElem_mem hlt)
    subst hn
    simp [hlt, Exi.cells, over, he]
    refine ⟨fun h => by omega, fun x _ => by simp [Step.cells], by omega⟩
  · simp [over, exitAt_out hc]
    exact fun a b => absurd ⟨a, b⟩ hc
theorem c_r10_Point (l : Lay) (s : Step) : C f_lockbarref10_Point [l.av, s.av] (iib (point l s)) := by
  refine ctr (l.cells ++ s.cells) run_lockbarref10_Point rfl (by simp [pureAll_append]) rfl ?_ rfl
  unfold rt_lockbarref10_Point
  simp [Lay.cells, Step.cells]
  refine call (c_r10_there l s) (by simp [Lay.cells, Step.cells]) (by simp) ?_
  by_cases hc : 0 ≤ s.s ∧ s.s < l.secs.length
  · obtain ⟨n, hn, hlt, he⟩ := secAt_in hc.1 hc.2
    have hls : lstep l s = way l.secs[n].kind s.i s.o := by simp [lstep, he]
    have hpt : point l s = if (way l.secs[n].kind s.i s.o).2 = true ∧ l.secs[n].kind = 2 then (s.s, (way 2 s.i s.o).1, true) else (0, 0, false) := by simp [point, he]
    rw [hls, hpt]
    clear hls hpt
    cases hw : (way l.secs[n].kind s.i s.o).2
    · simp [hn, hlt, Sec.cells, hw]
    · by_cases hk : l.secs[n].kind = 2
      · rw [hk] at hw ⊢
        simp [hn, hlt, Sec.cells, hw, hk]
        refine call (c_r05_Pos 2 s.i s.o) (by simp) (by simp) ?_
        simp
      · simp [hn, hlt, Sec.cells, hw, hk]
  · simp [point, lstep, secAt_out hc]
end Go.Lb.LK

namespace Go.Lb.LK
open Go Go.Lb Go.Proofs Go.RowKit

def fneed (k : Int) (f : Flank) : Need := ⟨f.point, f.pos, k⟩
theorem wants_eq (l : Lay) (s : Step) (k : Int) : wants l s k = (if (point l s).2.2 = true then [⟨(point l s).1, (point l s).2.1, k⟩] else []) ++ (l.flanks.filter (flankOn l s)).map (fneed k) := rfl
theorem c_r10_Wants (l : Lay) (hf : l.flanks.length ≤ 2147483648) (s : Step) (k : Int) : C f_lockbarref10_Wants [l.av, s.av, I k] (needs (wants l s k)) := by
  refine ctr (l.cells ++ s.cells ++ [I k]) run_lockbarref10_Wants rfl (by simp [pureAll_append, AV.pureAll, AV.pure]) (by simp [AV.pure]) ?_ rfl
  unfold rt_lockbarref10_Wants
  simp [Lay.cells, Step.cells]
  refine call (c_r10_Point l s) (by simp [Lay.cells, Step.cells]) (by simp) ?_
  have hlen : ∀ i, ((l.flanks.take i).filter (flankOn l s)).length ≤ 2147483648 := fun i => by
    have := List.length_filter_le (flankOn l s) (l.flanks.take i)
    have : (l.flanks.take i).length ≤ l.flanks.length := by simp; omega
    omega
  rw [wants_eq]
  generalize hpt : point l s = pt
  obtain ⟨a, b, c⟩ := pt
  cases c
  · simp
    refine call (c_r06_Step l s) (by simp [Lay.cells, Step.cells]) (by simp) ?_
    simp
    refine RTwp_loop rfl (fun vs => ∃ i : Nat, i ≤ l.flanks.length ∧ vs = [needs (([] : List Need) ++ ((l.flanks.take i).filter (flankOn l s)).map (fneed k)), I i]) (fun vs => match vs with | [_, .int _ j] => l.flanks.length - j.toNat | _ => 0) ⟨0, by omega, by simp [Need.cells]⟩ ?_
    rintro vs - ⟨i, hi, rfl⟩
    have hli := hlen i
    simp
    by_cases hlt : i < l.flanks.length
    · have hw := wrap_succ (i := i) (by omega)
      have ht := filter_take (flankOn l s) l.flanks hlt
      cases hst : (lstep l s).2
      · have hnone : l.flanks.filter (flankOn l s) = [] := by
          rw [List.filter_eq_nil_iff]; intro f _; simp [flankOn, hst]
        have hnone2 : (l.flanks.take i).filter (flankOn l s) = [] := by
          rw [List.filter_eq_nil_iff]; intro f _; simp [flankOn, hst]
        simp [hlt, hst, hnone, hnone2, Need.cells]
      · simp [hlt, hst, Flank.cells, hw]
        cases hon : flankOn l s l.flanks[i]
        · have h3 : l.flanks[i].s = s.s → ¬ l.flanks[i].way = (lstep l s).1 := by
            intro h2 h3
            simp [flankOn, hst, h2, h3] at hon
          left
          refine ⟨h3, ⟨i + 1, by omega, ?_, by omega⟩, by omega⟩
          rw [ht, hon]; simp
        · have h3 : l.flanks[i].s = s.s ∧ l.flanks[i].way = (lstep l s).1 := by
            simp only [flankOn, Bool.and_eq_true, decide_eq_true_eq] at hon
            exact ⟨hon.1.2, hon.2⟩
          right
          refine ⟨h3, by omega, ⟨i + 1, by omega, ?_, by omega⟩, by omega⟩
          rw [ht, hon]; simp [fneed, Need.cells]
    · have hta : l.flanks.take i = l.flanks := List.take_of_length_le (by omega)
      simp [hlt, hta, Need.cells]
  · simp
    refine call (c_r06_Step l s) (by simp [Lay.cells, Step.cells]) (by simp) ?_
    simp
    refine RTwp_loop rfl (fun vs => ∃ i : Nat, i ≤ l.flanks.length ∧ vs = [needs ([(⟨a, b, k⟩ : Need)] ++ ((l.flanks.take i).filter (flankOn l s)).map (fneed k)), I i]) (fun vs => match vs with | [_, .int _ j] => l.flanks.length - j.toNat | _ => 0) ⟨0, by omega, by simp [Need.cells]⟩ ?_
    rintro vs - ⟨i, hi, rfl⟩
    have hli := hlen i
    simp
    by_cases hlt : i < l.flanks.length
    · have hw := wrap_succ (i := i) (by omega)
      have ht := filter_take (flankOn l s) l.flanks hlt
      cases hst : (lstep l s).2
      · have hnone : l.flanks.filter (flankOn l s) = [] := by
          rw [List.filter_eq_nil_iff]; intro f _; simp [flankOn, hst]
        have hnone2 : (l.flanks.take i).filter (flankOn l s) = [] := by
          rw [List.filter_eq_nil_iff]; intro f _; simp [flankOn, hst]
        simp [hlt, hst, hnone, hnone2, Need.cells]
      · simp [hlt, hst, Flank.cells, hw]
        cases hon : flankOn l s l.flanks[i]
        · have h3 : l.flanks[i].s = s.s → ¬ l.flanks[i].way = (lstep l s).1 := by
            intro h2 h3
            simp [flankOn, hst, h2, h3] at hon
          left
          refine ⟨h3, ⟨i + 1, by omega, ?_, by omega⟩, by omega⟩
          rw [ht, hon]; simp
        · have h3 : l.flanks[i].s = s.s ∧ l.flanks[i].way = (lstep l s).1 := by
            simp only [flankOn, Bool.and_eq_true, decide_eq_true_eq] at hon
            exact ⟨hon.1.2, hon.2⟩
          right
          refine ⟨h3, by omega, ⟨i + 1, by omega, ?_, by omega⟩, by omega⟩
          rw [ht, hon]; simp [fneed, Need.cells]
    · have hta : l.flanks.take i = l.flanks := List.take_of_length_le (by omega)
      simp [hlt, hta, Need.cells]
end Go.Lb.LK

namespace Go.Lb.LK
open Go Go.Lb Go.Proofs Go.RowKit

theorem c_r13_Of (l : Lay) (ho : l.ovOk) (hf : l.flanks.length ≤ 1000) (p : Path) (hp : p.steps.length ≤ 1000) (hov : (over l p.exit).length ≤ 1000) : C f_lockbarref13_Of [l.av, p.av] (needs (needOf l p)) := by
  refine ctr (l.cells ++ p.cells) run_lockbarref13_Of rfl (by simp [pureAll_append, AV.pureAll, AV.pure]) (by simp [AV.pure]) ?_ rfl
  unfold rt_lockbarref13_Of
  simp [Lay.cells, Path.cells]
  have hw1 : ∀ s k, (wants l s k).length ≤ 1001 := fun s k => by have := wants_len l s k; omega
  have hnl : (numbered l p).length = p.steps.length + (over l p.exit).length := by simp [numbered]
  have hN : ∀ m : Nat, (((numbered l p).take m).flatMap fun x => wants l x.2 x.1).length ≤ 2002000 := fun m => by
    have h1 := flat_len (fun x : Int × Step => wants l x.2 x.1) 1001 (fun x => hw1 x.2 x.1) ((numbered l p).take m)
    have h2 : ((numbered l p).take m).length ≤ 2000 := by rw [List.length_take]; omega
    omega
  have hA : ∀ (i : Nat) (h : i < p.steps.length), (numbered l p)[i]'(by rw [hnl]; omega) = ((i : Int), p.steps[i]) := fun i h => by
    simp [numbered, List.getElem_append_left, h]
  have hB : ∀ (i : Nat) (h : i < (over l p.exit).length), (numbered l p)[p.steps.length + i]'(by rw [hnl]; omega) = ((p.steps.length : Int), (over l p.exit)[i]) := fun i h => by
    simp [numbered, List.getElem_append_right]
  refine RTwp_loop rfl (fun vs => ∃ i : Nat, i ≤ p.steps.length ∧ vs = [needs (((numbered l p).take i).flatMap fun x => wants l x.2 x.1), I i]) (fun vs => match vs with | [_, .int _ j] => p.steps.length - j.toNat | _ => 0) ⟨0, by simp, by simp⟩ ?_
  rintro vs - ⟨i, hi, rfl⟩
  have hNi := hN i
  simp
  refine ⟨fun hlt => ?_, fun hge => ?_⟩
  · have hw := wrap_succ (i := i) (by omega)
    simp [hlt, Step.cells]
    have hx := flatMap_take (fun x : Int × Step => wants l x.2 x.1) (numbered l p) (i := i) (by rw [hnl]; omega)
    rw [hA i hlt] at hx
    have hy := hw1 p.steps[i] i
    refine call (c_r10_Wants l (by omega) p.steps[i] i) (by simp [hlt, Step.cells, Lay.cells]) (by simp) ?_
    simp [-List.length_flatMap]
    refine ⟨fun x _ => by simp [Need.cells], by omega, ⟨i + 1, by omega, ?_, hw⟩, by rw [hw]; omega⟩
    rw [hx]; simp
  · have hi' : i = p.steps.length := by omega
    subst hi'
    refine call (c_r10_Over l ho p.exit) (by simp [Lay.cells]) (by simp) ?_
    simp
    refine RTwp_loop rfl (fun vs => ∃ i : Nat, i ≤ (over l p.exit).length ∧ vs = [needs (((numbered l p).take (p.steps.length + i)).flatMap fun x => wants l x.2 x.1), I i]) (fun vs => match vs with | [_, .int _ j] => (over l p.exit).length - j.toNat | _ => 0) ⟨0, by simp, by simp⟩ ?_
    rintro vs - ⟨i, hi, rfl⟩
    have hNi := hN (p.steps.length + i)
    simp
    refine ⟨fun hlt => ?_, fun hge => ?_⟩
    · have hw := wrap_succ (i := i) (by omega)
      simp [hlt, Step.cells]
      have hx := flatMap_take (fun x : Int × Step => wants l x.2 x.1) (numbered l p) (i := p.steps.length + i) (by rw [hnl]; omega)
      rw [hB i hlt] at hx
      have hy := hw1 (over l p.exit)[i] p.steps.length
      refine call (c_r10_Wants l (by omega) (over l p.exit)[i] p.steps.length) (by simp [hlt, Step.cells, Lay.cells]) (by simp) ?_
      simp [-List.length_flatMap]
      refine ⟨fun x _ => by simp [Need.cells], by omega, ⟨i + 1, by omega, ?_, hw⟩, by rw [hw]; omega⟩
      rw [show p.steps.length + (i + 1) = p.steps.length + i + 1 from rfl, hx]; simp
    · have : (numbered l p).take (p.steps.length + i) = numbered l p := List.take_of_length_le (by rw [hnl]; omega)
      simp [this, needOf]
end Go.Lb.LK

namespace Go.Lb.LK
open Go Go.Lb Go.Proofs Go.RowKit

end Go.Lb.LK

namespace Go.Lb.LK
open Go Go.Lb Go.Proofs Go.RowKit

theorem pv_cellset3 (b len n j : Nat) (k : IntKind) (u v : AV) : pv (.cellset b len 3 0 1 j) [.int k (n : Nat), u, .agg [v]] = if j = b + n * 3 then v else u := by
  simp only [pv, AV.cells, Int.toNat_natCast, Nat.add_zero]
  by_cases h : j = b + n * 3
  · subst h; simp
  · have : ¬ (b + n * 3 ≤ j ∧ j < b + n * 3 + 1) := by omega
    simp [this, h]
def restK : Kern := ⟨1, [], fun _ => -1, fun _ => 0, fun _ => false⟩
set_option maxHeartbeats 2000000 in
theorem c_rest : C f_lockbarlaw18_rest [] restK.av := by
  refine ctr [] run_lockbarlaw18_rest rfl rfl (by simp [AV.pure]) ?_ rfl
  unfold rt_lockbarlaw18_rest
  refine RTwp_loop rfl (fun vs => ∃ m : Nat, m ≤ 24 ∧ vs = I m :: mcells (fun i => if i < m then -1 else 0) (fun _ => 0) (fun _ => false)) (fun vs => match vs with | .int _ j :: _ => 24 - j.toNat | _ => 0) ⟨0, by omega, by simp [mcells]⟩ ?_
  rintro vs - ⟨m, hm, rfl⟩
  simp [mcells]
  refine ⟨fun hlt => ?_, fun hge => ?_⟩
  · have hw := wrap_succ (i := m) (by omega)
    simp [hw, pv_cellset3]
    refine ⟨by omega, ⟨m + 1, by omega, by omega, ?_⟩, by omega⟩
    and_intros <;> first | rfl | omega | (split <;> split <;> first | rfl | omega) | (split <;> first | rfl | omega)
  · have : m = 24 := by omega
    subst this
    simp [restK, Kern.cells]
def noneP : Port := ⟨-1, 0⟩
def lay18 : Lay := ⟨[⟨1, noneP, ⟨1, 0⟩, noneP, noneP, 0, 0⟩, ⟨1, ⟨0, 1⟩, noneP, noneP, noneP, 0, 0⟩], [⟨0, 0⟩], [⟨⟨0, 1⟩, [⟨1, 0, 1⟩]⟩], [], 1, 1, 9, 1, 1, 1, 1⟩
def im18 : Img := takeI lay18 imNew 0 0 0 0
theorem im18_ok : im18.ok := ⟨⟨by decide, by decide⟩, ⟨by decide, by decide⟩, ⟨by decide, by decide⟩, ⟨by decide, by decide⟩⟩
theorem c_two18 : C f_lockbarlaw18_two [] (.tup [lay18.av, im18.av]) := by
  refine ctr [] run_lockbarlaw18_two rfl rfl (by simp [AV.pure, AV.pureAll]) ?_ rfl
  unfold rt_lockbarlaw18_two
  simp
  refine call c_r15New rfl (by simp) ?_
  simp
  refine call (r := im18.av) (c_r15Take lay18 imNew 0 0 0 0 (by omega) (by omega) (by omega) (by omega) (by omega) (by omega) (by omega) (by omega)) (by simp [Lay.cells, lay18, noneP, Sec.cells, Port.cells, Exi.cells, Step.cells]) (fun _ => rfl) ?_
  simp [Img.cells, Lay.cells, lay18, noneP, Sec.cells, Port.cells, Exi.cells, Step.cells]
end Go.Lb.LK

namespace Go.Lb.LK
open Go Go.Lb Go.Proofs Go.RowKit

theorem c_slices_Equal_Step (a b : List Step) (ha : a.length ≤ 4294967296) : C f_slices_Equal_Step [steps a, steps b] (.bool (decide (a = b))) := by
  refine ctr [steps a, steps b] run_slices_Equal_Step rfl (by simp [AV.pureAll, AV.pure]) rfl ?_ rfl
  unfold rt_slices_Equal_Step
  simp
  by_cases hl : a.length = b.length
  · simp [hl]
    refine RTwp_loop rfl (fun vs => ∃ i : Nat, i ≤ a.length ∧ vs = [I i] ∧ a.take i = b.take i) (fun vs => match vs with | [.int _ j] => a.length - j.toNat | _ => 0) ⟨0, by simp, by simp, by simp⟩ ?_
    rintro vs - ⟨i, hi, rfl, hq⟩
    simp
    refine ⟨fun hlt => ?_, fun hge => ?_⟩
    · have hlt2 : i < b.length := by omega
      have hw := wrap_succ (i := i) (by omega)
      have he := step_eqs a[i] b[i]
      simp [hlt, hlt2, Step.cells] at he ⊢
      by_cases hab : a[i] = b[i]
      · simp [hab] at he ⊢
        rw [hw]
        refine ⟨⟨i + 1, by omega, rfl, ?_⟩, by omega⟩
        rw [List.take_add_one, List.take_add_one, List.getElem?_eq_getElem hlt, List.getElem?_eq_getElem hlt2, hq, hab]
      · right
        refine ⟨fun h1 h2 h3 => hab (step_ext h1 h2 h3), ?_⟩
        rintro rfl
        exact hab rfl
    · have h1 : a.take i = a := List.take_of_length_le (by omega)
      have h2 : b.take i = b := List.take_of_length_le (by omega)
      rw [h1, h2] at hq
      simp [hq]
  · have hne : a ≠ b := fun h => hl (by rw [h])
    have hl2 : ¬ (a.length : Int) = b.length := by omega
    simp [hne]
    exact fun h => absurd h hl2
theorem c_slices_Equal_Need (a b : List Need) (ha : a.length ≤ 4294967296) : C f_slices_Equal_Need [needs a, needs b] (.bool (decide (a = b))) := by
  refine ctr [needs a, needs b] run_slices_Equal_Need rfl (by simp [AV.pureAll, AV.pure]) rfl ?_ rfl
  unfold rt_slices_Equal_Need
  simp
  by_cases hl : a.length = b.length
  · simp [hl]
    refine RTwp_loop rfl (fun vs => ∃ i : Nat, i ≤ a.length ∧ vs = [I i] ∧ a.take i = b.take i) (fun vs => match vs with | [.int _ j] => a.length - j.toNat | _ => 0) ⟨0, by simp, by simp, by simp⟩ ?_
    rintro vs - ⟨i, hi, rfl, hq⟩
    simp
    refine ⟨fun hlt => ?_, fun hge => ?_⟩
    · have hlt2 : i < b.length := by omega
      have hw := wrap_succ (i := i) (by omega)
      have he := need_eqs a[i] b[i]
      simp [hlt, hlt2, Need.cells] at he ⊢
      by_cases hab : a[i] = b[i]
      · simp [hab] at he ⊢
        rw [hw]
        refine ⟨⟨i + 1, by omega, rfl, ?_⟩, by omega⟩
        rw [List.take_add_one, List.take_add_one, List.getElem?_eq_getElem hlt, List.getElem?_eq_getElem hlt2, hq, hab]
      · right
        refine ⟨fun h1 h2 h3 => hab (need_ext h1 h2 h3), ?_⟩
        rintro rfl
        exact hab rfl
    · have h1 : a.take i = a := List.take_of_length_le (by omega)
      have h2 : b.take i = b := List.take_of_length_le (by omega)
      rw [h1, h2] at hq
      simp [hq]
  · have hne : a ≠ b := fun h => hl (by rw [h])
    have hl2 : ¬ (a.length : Int) = b.length := by omega
    simp [hne]
    exact fun h => absurd h hl2
theorem c_route_Same (a b : Path) (ha : a.steps.length ≤ 4294967296) : C f_route_Same [a.av, b.av] (.bool (pathSame a b)) := by
  refine ctr (a.cells ++ b.cells) run_route_Same rfl (by simp [pureAll_append]) rfl ?_ rfl
  unfold rt_route_Same
  simp [Path.cells]
  refine callIf (avs := [steps a.steps, steps b.steps]) (.bool (decide (a.steps = b.steps))) rfl (fun _ => ⟨by simp, c_slices_Equal_Step _ _ ha⟩) (by simp) ?_
  by_cases h1 : a.sig = b.sig <;> by_cases h2 : a.exit = b.exit <;> simp [pathSame, h1, h2]
theorem c_held_Same (a b : Hd) (ha : a.len) : C f_held_Same [a.av, b.av] (.bool (sameS a b)) := by
  obtain ⟨l1, l2, l3⟩ := ha
  refine ctr (a.cells ++ b.cells) run_held_Same rfl (by simp [pureAll_append]) rfl ?_ rfl
  unfold rt_held_Same
  simp [Hd.cells]
  refine callIf (avs := [a.path.av, b.path.av]) (.bool (pathSame a.path b.path)) rfl (fun _ => ⟨by simp [Path.cells], c_route_Same _ _ (by omega)⟩) (by simp) ?_
  simp
  refine callIf (avs := [steps a.over, steps b.over]) (.bool (decide (a.over = b.over))) rfl (fun _ => ⟨by simp, c_slices_Equal_Step _ _ (by omega)⟩) (by simp) ?_
  simp
  refine callIf (avs := [needs a.needs, needs b.needs]) (.bool (decide (a.needs = b.needs))) rfl (fun _ => ⟨by simp, c_slices_Equal_Need _ _ (by omega)⟩) (by simp) ?_
  simp [sameS, wasSame, Bool.and_assoc]
  simp only [bdec]
  ac_rfl
end Go.Lb.LK

namespace Go.Lb.LK
open Go Go.Lb Go.Proofs Go.RowKit

def machSame (a b : Kern) : Bool := AV.eqs (mcells a.want a.run a.fail) (mcells b.want b.run b.fail)
def allSame (a b : List Hd) : Bool := (List.zipWith sameS a b).all id
def sameK (a b : Kern) : Bool := decide (a.held.length = b.held.length) && (allSame a.held b.held && (decide (a.next = b.next) && machSame a b))
theorem machSame_refl (a : Kern) : machSame a a = true := by
  unfold machSame mcells
  simp [AV.eqs, AV.eq1]
theorem allSame_refl : ∀ l : List Hd, allSame l l = true
  | [] => rfl
  | x :: l => by simp [allSame, sameS_refl]
theorem sameK_refl (a : Kern) : sameK a a = true := by simp [sameK, machSame_refl, allSame_refl]
theorem kk (a b : Kern) : AV.pureAll (a.cells ++ b.cells) = true := by simp [pureAll_append]
theorem zip_at {a b : List Hd} {i : Nat} (h1 : i < a.length) (h2 : i < b.length) : (List.zipWith sameS a b)[i]'(by simp; omega) = sameS a[i] b[i] := by simp
theorem machSame_def (a b : Kern) : AV.eqs (mcells a.want a.run a.fail) (mcells b.want b.run b.fail) = machSame a b := rfl

set_option maxRecDepth 100000 in
set_option maxHeartbeats 1000000 in
theorem c_free_Same (a b : Kern) (ha : a.len) : C f_free_Same [a.av, b.av] (.bool (sameK a b)) := by
  have h1 := ha.1
  have hm := machSame_def a b
  simp only [mcells] at hm
  refine ctr (a.cells ++ b.cells) run_free_Same rfl (kk a b) rfl ?_ rfl
  unfold rt_free_Same
  simp [Kern.cells, hm, -AV.eqs]
  refine ⟨fun hn hma => ⟨fun hl => ?_, fun hl => ?_⟩, fun hno => ?_⟩
  · have hl2 : ¬ a.held.length = b.held.length := by omega
    simp [sameK, hl2]
  · have hl : a.held.length = b.held.length := by omega
    refine RTwp_loop rfl (fun vs => ∃ i : Nat, i ≤ a.held.length ∧ vs = [I i] ∧ NoneIn (fun x => !x) ((List.zipWith sameS a.held b.held).take i)) (fun vs => match vs with | [.int _ j] => a.held.length - j.toNat | _ => 0) ⟨0, by simp, by simp, rfl⟩ ?_
    rintro vs - ⟨i, hi, rfl, hq⟩
    simp [-AV.eqs]
    refine ⟨fun hlt => ?_, fun hge => ?_⟩
    · have hlt2 : i < b.held.length := by omega
      have hw := wrap_succ (i := i) (by omega)
      have hz := zip_at hlt hlt2
      simp [hlt, hlt2, Hd.cells, -AV.eqs]
      refine call (c_held_Same a.held[i] b.held[i] (a.at ha hlt)) (by simp [hlt, hlt2, Hd.cells]) (by simp) ?_
      cases hs : sameS a.held[i] b.held[i]
      · have : allSame a.held b.held = false := by
          unfold allSame
          rw [List.all_eq_false]
          exact ⟨(List.zipWith sameS a.held b.held)[i]'(by simp; omega), List.getElem_mem _, by rw [hz, hs]; simp⟩
        simp [sameK, this, -AV.eqs]
      · simp [hw, -AV.eqs]
        exact ⟨⟨i + 1, by omega, by omega, any_step (i := i) (l := List.zipWith sameS a.held b.held) (by simp; omega) hq (by rw [hz, hs]; rfl)⟩, by omega⟩
    · have ht : (List.zipWith sameS a.held b.held).take i = List.zipWith sameS a.held b.held := List.take_of_length_le (by simp; omega)
      rw [ht] at hq
      have hall : allSame a.held b.held = true := by
        unfold allSame
        unfold NoneIn at hq
        rw [List.all_eq_true]
        intro x hx
        have := List.any_eq_false.1 hq x hx
        simpa using this
      simp [hm, hn, hma, sameK, hl, hall, -AV.eqs]
  · by_cases h : a.next = b.next
    · simp [sameK, hno h]
    · simp [sameK, h]
end Go.Lb.LK

namespace Go.Lb.LK
open Go Go.Lb Go.Proofs Go.RowKit

def p18 : Path := ⟨0, 0, [⟨0, 0, 1⟩]⟩
def q18 : Path := ⟨5, 0, [⟨1, 0, 0⟩]⟩
def hd18 (st : Int) : Hd := ⟨3, p18, [⟨1, 0, 1⟩], [⟨7, 1, 0⟩], st, 0, fun _ => false, false, 0, false⟩
def k18 (st : Int) : Kern := ⟨4, [hd18 st], fun _ => -1, fun _ => 0, fun _ => false⟩
def zeroK : Kern := ⟨0, [], fun _ => 0, fun _ => 0, fun _ => false⟩
theorem f1 : canN lay18 im18 restK p18 = 0 := by decide +kernel
theorem f2 : canN lay18 imNew restK p18 = 190 := by decide +kernel
theorem f3 : freeN lay18 im18 restK 1 = true ∧ freeN lay18 imNew restK 1 = false := by decide +kernel
theorem f4 : holderN (k18 1) 1 = some 3 ∧ holderN (k18 1) 2 = none := by decide +kernel
theorem f5 : wantedN (k18 1) 7 = some 1 := by decide +kernel
theorem f6 : lockedN (k18 1) 7 = false ∧ lockedN (k18 2) 7 = true := by decide +kernel
theorem f7 : canN lay18 im18 (k18 2) q18 = 190 := by decide +kernel
theorem f8 : meetsN lay18 im18 (k18 2) ⟨7, 0, 0⟩ = false ∧ meetsN lay18 im18 (k18 2) ⟨-1, 0, 0⟩ = false := by decide +kernel
theorem f9 : rightK (k18 2) = true ∧ rightK restK = true ∧ rightK zeroK = false := by decide +kernel
theorem f10 : sameK (k18 2) restK = false := by decide +kernel
end Go.Lb.LK

namespace Go.Lb.LK
open Go Go.Lb Go.Proofs Go.RowKit

theorem k18_len (st : Int) : (k18 st).len := by
  refine ⟨by simp [k18], fun h hh => ?_⟩
  simp only [k18, List.mem_singleton] at hh
  subst hh
  exact ⟨by simp [hd18, p18], by simp [hd18], by simp [hd18]⟩
theorem k18_ok (st : Int) (h : 0 ≤ st ∧ st ≤ 255) : (k18 st).ok := by
  intro x hx
  simp only [k18, List.mem_singleton] at hx
  subst hx; exact h
theorem restK_len : restK.len := ⟨by simp [restK], fun h hh => by simp [restK] at hh⟩
theorem restK_ok : restK.ok := fun x hx => by simp [restK] at hx
theorem zeroK_len : zeroK.len := ⟨by simp [zeroK], fun h hh => by simp [zeroK] at hh⟩
theorem zeroK_ok : zeroK.ok := fun x hx => by simp [zeroK] at hx
theorem lay18_ok : lay18.ok := by
  intro s hs
  simp only [lay18, List.mem_cons, List.not_mem_nil, or_false] at hs
  rcases hs with rfl | rfl <;> decide
theorem lay18_ov : lay18.ovOk := by
  intro e he
  simp only [lay18, List.mem_singleton] at he
  subst he; simp
theorem can18 (k : Kern) (p : Path) (hk : k.len) (hp : p.steps.length ≤ 1000) (ho : (over lay18 p.exit).length ≤ 1000) : CanOk lay18 k p := ⟨hk, lay18_ok, lay18_ov, by simp [lay18], hp, ho⟩
theorem g1c : C f_free_Can [lay18.av, im18.av, restK.av, p18.av] (I 0) := by
  have := c_free_Can lay18 im18 im18_ok restK p18 (can18 _ _ restK_len (by decide) (by decide))
  rw [f1] at this; exact this
theorem g2c : C f_free_Can [lay18.av, imNew.av, restK.av, p18.av] (I 190) := by
  have := c_free_Can lay18 imNew imNew_ok restK p18 (can18 _ _ restK_len (by decide) (by decide))
  rw [f2] at this; exact this
theorem g3c : C f_free_Free [lay18.av, im18.av, restK.av, I 1] (.bool true) := by
  have := c_free_Free lay18 im18 im18_ok restK restK_len 1
  rw [f3.1] at this; exact this
theorem g4c : C f_free_Free [lay18.av, imNew.av, restK.av, I 1] (.bool false) := by
  have := c_free_Free lay18 imNew imNew_ok restK restK_len 1
  rw [f3.2] at this; exact this
theorem g5c : C f_free_Holder [(k18 1).av, I 1] (.tup [I 3, .bool true]) := by
  have := c_free_Holder (k18 1) (k18_len 1) 1
  rw [f4.1] at this; exact this
theorem g6c : C f_free_Holder [(k18 1).av, I 2] (.tup [I 0, .bool false]) := by
  have := c_free_Holder (k18 1) (k18_len 1) 2
  rw [f4.2] at this; exact this
theorem g7c : C f_free_Wanted [(k18 1).av, I 7] (.tup [I 1, .bool true]) := by
  have := c_free_Wanted (k18 1) (k18_len 1) 7
  rw [f5] at this; exact this
theorem g8c : C f_free_Locked [(k18 1).av, I 7] (.bool false) := by
  have := c_free_Locked (k18 1) (k18_len 1) 7
  rw [f6.1] at this; exact this
theorem g9c : C f_free_Can [lay18.av, im18.av, (k18 2).av, q18.av] (I 190) := by
  have := c_free_Can lay18 im18 im18_ok (k18 2) q18 (can18 _ _ (k18_len 2) (by decide) (by decide))
  rw [f7] at this; exact this
theorem g10c : C f_free_Locked [(k18 2).av, I 7] (.bool true) := by
  have := c_free_Locked (k18 2) (k18_len 2) 7
  rw [f6.2] at this; exact this
theorem g11c : C f_free_Meets [lay18.av, im18.av, (k18 2).av, (Need.mk 7 0 0).av] (.bool false) := by
  have := c_free_Meets lay18 im18 im18_ok (k18 2) (k18_len 2) ⟨7, 0, 0⟩
  rw [f8.1] at this; exact this
theorem g12c : C f_free_Meets [lay18.av, im18.av, (k18 2).av, (Need.mk (-1) 0 0).av] (.bool false) := by
  have := c_free_Meets lay18 im18 im18_ok (k18 2) (k18_len 2) ⟨-1, 0, 0⟩
  rw [f8.2] at this; exact this
theorem g13c : C f_free_Right [(k18 2).av] (.bool true) := by
  have := c_free_Right (k18 2) (k18_len 2) (k18_ok 2 (by decide))
  rw [f9.1] at this; exact this
theorem g14c : C f_free_Right [restK.av] (.bool true) := by
  have := c_free_Right restK restK_len restK_ok
  rw [f9.2.1] at this; exact this
theorem g15c : C f_free_Right [zeroK.av] (.bool false) := by
  have := c_free_Right zeroK zeroK_len zeroK_ok
  rw [f9.2.2] at this; exact this
theorem g16c : C f_free_Own [(k18 2).av] (k18 2).av := c_free_Own (k18 2) (k18_len 2)
theorem g17c : C f_free_Same [(k18 2).av, (k18 2).av] (.bool true) := by
  have := c_free_Same (k18 2) (k18 2) (k18_len 2)
  rw [sameK_refl] at this; exact this
theorem g18c : C f_free_Same [(k18 2).av, restK.av] (.bool false) := by
  have := c_free_Same (k18 2) restK (k18_len 2)
  rw [f10] at this; exact this
end Go.Lb.LK

namespace Go.Lb.LK
open Go Go.Lb Go.Proofs Go.RowKit

set_option maxRecDepth 100000 in
set_option maxHeartbeats 4000000 in
theorem c_wakes18 : C f_lockbarlaw18_wakes [] (.bool true) := by
  refine ctr [] run_lockbarlaw18_wakes rfl rfl rfl ?_ rfl
  unfold rt_lockbarlaw18_wakes
  refine call c_two18 rfl (by simp) ?_
  simp [Lay.cells, lay18, noneP, Sec.cells, Port.cells, Exi.cells, Step.cells, Img.cells, Kern.cells, restK, k18, hd18, Hd.cells, p18, q18, Path.cells, Need.cells, zeroK]
  refine call c_rest rfl (by simp) ?_
  simp [Lay.cells, lay18, noneP, Sec.cells, Port.cells, Exi.cells, Step.cells, Img.cells, Kern.cells, restK, k18, hd18, Hd.cells, p18, q18, Path.cells, Need.cells, zeroK]
  refine call g1c (by simp [Lay.cells, lay18, noneP, Sec.cells, Port.cells, Exi.cells, Step.cells, Img.cells, Kern.cells, restK, k18, hd18, Hd.cells, p18, q18, Path.cells, Need.cells, zeroK] <;> rfl) (fun _ => rfl) ?_
  simp [Lay.cells, lay18, noneP, Sec.cells, Port.cells, Exi.cells, Step.cells, Img.cells, Kern.cells, restK, k18, hd18, Hd.cells, p18, q18, Path.cells, Need.cells, zeroK]
  refine call c_r15New rfl (by simp) ?_
  simp [Lay.cells, lay18, noneP, Sec.cells, Port.cells, Exi.cells, Step.cells, Img.cells, Kern.cells, restK, k18, hd18, Hd.cells, p18, q18, Path.cells, Need.cells, zeroK]
  refine call g2c (by simp [Lay.cells, lay18, noneP, Sec.cells, Port.cells, Exi.cells, Step.cells, Img.cells, Kern.cells, restK, k18, hd18, Hd.cells, p18, q18, Path.cells, Need.cells, zeroK] <;> rfl) (fun _ => rfl) ?_
  simp [Lay.cells, lay18, noneP, Sec.cells, Port.cells, Exi.cells, Step.cells, Img.cells, Kern.cells, restK, k18, hd18, Hd.cells, p18, q18, Path.cells, Need.cells, zeroK]
  refine call g3c (by simp [Lay.cells, lay18, noneP, Sec.cells, Port.cells, Exi.cells, Step.cells, Img.cells, Kern.cells, restK, k18, hd18, Hd.cells, p18, q18, Path.cells, Need.cells, zeroK] <;> rfl) (fun _ => rfl) ?_
  simp [Lay.cells, lay18, noneP, Sec.cells, Port.cells, Exi.cells, Step.cells, Img.cells, Kern.cells, restK, k18, hd18, Hd.cells, p18, q18, Path.cells, Need.cells, zeroK]
  refine call c_r15New rfl (by simp) ?_
  simp [Lay.cells, lay18, noneP, Sec.cells, Port.cells, Exi.cells, Step.cells, Img.cells, Kern.cells, restK, k18, hd18, Hd.cells, p18, q18, Path.cells, Need.cells, zeroK]
  refine call g4c (by simp [Lay.cells, lay18, noneP, Sec.cells, Port.cells, Exi.cells, Step.cells, Img.cells, Kern.cells, restK, k18, hd18, Hd.cells, p18, q18, Path.cells, Need.cells, zeroK] <;> rfl) (fun _ => rfl) ?_
  simp [Lay.cells, lay18, noneP, Sec.cells, Port.cells, Exi.cells, Step.cells, Img.cells, Kern.cells, restK, k18, hd18, Hd.cells, p18, q18, Path.cells, Need.cells, zeroK]
  refine call g5c (by simp [Lay.cells, lay18, noneP, Sec.cells, Port.cells, Exi.cells, Step.cells, Img.cells, Kern.cells, restK, k18, hd18, Hd.cells, p18, q18, Path.cells, Need.cells, zeroK] <;> rfl) (fun _ => rfl) ?_
  simp [Lay.cells, lay18, noneP, Sec.cells, Port.cells, Exi.cells, Step.cells, Img.cells, Kern.cells, restK, k18, hd18, Hd.cells, p18, q18, Path.cells, Need.cells, zeroK]
  refine call g6c (by simp [Lay.cells, lay18, noneP, Sec.cells, Port.cells, Exi.cells, Step.cells, Img.cells, Kern.cells, restK, k18, hd18, Hd.cells, p18, q18, Path.cells, Need.cells, zeroK] <;> rfl) (fun _ => rfl) ?_
  simp [Lay.cells, lay18, noneP, Sec.cells, Port.cells, Exi.cells, Step.cells, Img.cells, Kern.cells, restK, k18, hd18, Hd.cells, p18, q18, Path.cells, Need.cells, zeroK]
  refine call g7c (by simp [Lay.cells, lay18, noneP, Sec.cells, Port.cells, Exi.cells, Step.cells, Img.cells, Kern.cells, restK, k18, hd18, Hd.cells, p18, q18, Path.cells, Need.cells, zeroK] <;> rfl) (fun _ => rfl) ?_
  simp [Lay.cells, lay18, noneP, Sec.cells, Port.cells, Exi.cells, Step.cells, Img.cells, Kern.cells, restK, k18, hd18, Hd.cells, p18, q18, Path.cells, Need.cells, zeroK]
  refine call g8c (by simp [Lay.cells, lay18, noneP, Sec.cells, Port.cells, Exi.cells, Step.cells, Img.cells, Kern.cells, restK, k18, hd18, Hd.cells, p18, q18, Path.cells, Need.cells, zeroK] <;> rfl) (fun _ => rfl) ?_
  simp [Lay.cells, lay18, noneP, Sec.cells, Port.cells, Exi.cells, Step.cells, Img.cells, Kern.cells, restK, k18, hd18, Hd.cells, p18, q18, Path.cells, Need.cells, zeroK]
  refine call g9c (by simp [Lay.cells, lay18, noneP, Sec.cells, Port.cells, Exi.cells, Step.cells, Img.cells, Kern.cells, restK, k18, hd18, Hd.cells, p18, q18, Path.cells, Need.cells, zeroK] <;> rfl) (fun _ => rfl) ?_
  simp [Lay.cells, lay18, noneP, Sec.cells, Port.cells, Exi.cells, Step.cells, Img.cells, Kern.cells, restK, k18, hd18, Hd.cells, p18, q18, Path.cells, Need.cells, zeroK]
  refine callIf (.bool true) (by simp [AV.pure]) (fun _ => ⟨by (simp [Lay.cells, lay18, noneP, Sec.cells, Port.cells, Exi.cells, Step.cells, Img.cells, Kern.cells, restK, k18, hd18, Hd.cells, p18, q18, Path.cells, Need.cells, zeroK] <;> rfl), g10c⟩) (fun _ => rfl) ?_
  simp [Lay.cells, lay18, noneP, Sec.cells, Port.cells, Exi.cells, Step.cells, Img.cells, Kern.cells, restK, k18, hd18, Hd.cells, p18, q18, Path.cells, Need.cells, zeroK]
  refine callIf (.bool false) (by simp [AV.pure]) (fun _ => ⟨by (simp [Lay.cells, lay18, noneP, Sec.cells, Port.cells, Exi.cells, Step.cells, Img.cells, Kern.cells, restK, k18, hd18, Hd.cells, p18, q18, Path.cells, Need.cells, zeroK] <;> rfl), g11c⟩) (fun _ => rfl) ?_
  simp [Lay.cells, lay18, noneP, Sec.cells, Port.cells, Exi.cells, Step.cells, Img.cells, Kern.cells, restK, k18, hd18, Hd.cells, p18, q18, Path.cells, Need.cells, zeroK]
  refine callIf (.bool false) (by simp [AV.pure]) (fun _ => ⟨by (simp [Lay.cells, lay18, noneP, Sec.cells, Port.cells, Exi.cells, Step.cells, Img.cells, Kern.cells, restK, k18, hd18, Hd.cells, p18, q18, Path.cells, Need.cells, zeroK] <;> rfl), g12c⟩) (fun _ => rfl) ?_
  simp [Lay.cells, lay18, noneP, Sec.cells, Port.cells, Exi.cells, Step.cells, Img.cells, Kern.cells, restK, k18, hd18, Hd.cells, p18, q18, Path.cells, Need.cells, zeroK]
  refine callIf (.bool true) (by simp [AV.pure]) (fun _ => ⟨by (simp [Lay.cells, lay18, noneP, Sec.cells, Port.cells, Exi.cells, Step.cells, Img.cells, Kern.cells, restK, k18, hd18, Hd.cells, p18, q18, Path.cells, Need.cells, zeroK] <;> rfl), g13c⟩) (fun _ => rfl) ?_
  simp [Lay.cells, lay18, noneP, Sec.cells, Port.cells, Exi.cells, Step.cells, Img.cells, Kern.cells, restK, k18, hd18, Hd.cells, p18, q18, Path.cells, Need.cells, zeroK]
  refine callIf (avs := []) restK.av (by simp [AV.pure]) (fun _ => ⟨rfl, c_rest⟩) (by simp) ?_
  simp [Lay.cells, lay18, noneP, Sec.cells, Port.cells, Exi.cells, Step.cells, Img.cells, Kern.cells, restK, k18, hd18, Hd.cells, p18, q18, Path.cells, Need.cells, zeroK]
  refine callIf (.bool true) (by simp [AV.pure]) (fun _ => ⟨by (simp [Lay.cells, lay18, noneP, Sec.cells, Port.cells, Exi.cells, Step.cells, Img.cells, Kern.cells, restK, k18, hd18, Hd.cells, p18, q18, Path.cells, Need.cells, zeroK] <;> rfl), g14c⟩) (fun _ => rfl) ?_
  simp [Lay.cells, lay18, noneP, Sec.cells, Port.cells, Exi.cells, Step.cells, Img.cells, Kern.cells, restK, k18, hd18, Hd.cells, p18, q18, Path.cells, Need.cells, zeroK]
  refine callIf (.bool false) (by simp [AV.pure]) (fun _ => ⟨by (simp [Lay.cells, lay18, noneP, Sec.cells, Port.cells, Exi.cells, Step.cells, Img.cells, Kern.cells, restK, k18, hd18, Hd.cells, p18, q18, Path.cells, Need.cells, zeroK] <;> rfl), g15c⟩) (fun _ => rfl) ?_
  simp [Lay.cells, lay18, noneP, Sec.cells, Port.cells, Exi.cells, Step.cells, Img.cells, Kern.cells, restK, k18, hd18, Hd.cells, p18, q18, Path.cells, Need.cells, zeroK]
  refine callIf (k18 2).av (by simp [AV.pure]) (fun _ => ⟨by (simp [Lay.cells, lay18, noneP, Sec.cells, Port.cells, Exi.cells, Step.cells, Img.cells, Kern.cells, restK, k18, hd18, Hd.cells, p18, q18, Path.cells, Need.cells, zeroK] <;> rfl), g16c⟩) (by simp) ?_
  simp [Lay.cells, lay18, noneP, Sec.cells, Port.cells, Exi.cells, Step.cells, Img.cells, Kern.cells, restK, k18, hd18, Hd.cells, p18, q18, Path.cells, Need.cells, zeroK]
  refine callIf (.bool true) (by simp [AV.pure]) (fun _ => ⟨by (simp [Lay.cells, lay18, noneP, Sec.cells, Port.cells, Exi.cells, Step.cells, Img.cells, Kern.cells, restK, k18, hd18, Hd.cells, p18, q18, Path.cells, Need.cells, zeroK] <;> rfl), g17c⟩) (fun _ => rfl) ?_
  simp [Lay.cells, lay18, noneP, Sec.cells, Port.cells, Exi.cells, Step.cells, Img.cells, Kern.cells, restK, k18, hd18, Hd.cells, p18, q18, Path.cells, Need.cells, zeroK]
  refine callIf (avs := []) restK.av (by simp [AV.pure]) (fun _ => ⟨rfl, c_rest⟩) (by simp) ?_
  simp [Lay.cells, lay18, noneP, Sec.cells, Port.cells, Exi.cells, Step.cells, Img.cells, Kern.cells, restK, k18, hd18, Hd.cells, p18, q18, Path.cells, Need.cells, zeroK]
  refine callIf (.bool false) (by simp [AV.pure]) (fun _ => ⟨by (simp [Lay.cells, lay18, noneP, Sec.cells, Port.cells, Exi.cells, Step.cells, Img.cells, Kern.cells, restK, k18, hd18, Hd.cells, p18, q18, Path.cells, Need.cells, zeroK] <;> rfl), g18c⟩) (fun _ => rfl) ?_
  simp [Lay.cells, lay18, noneP, Sec.cells, Port.cells, Exi.cells, Step.cells, Img.cells, Kern.cells, restK, k18, hd18, Hd.cells, p18, q18, Path.cells, Need.cells, zeroK]
end Go.Lb.LK

namespace Go.Lb.LK
open Go Go.Lb Go.Proofs Go.RowKit

theorem hd_bnd {h : Hd} (hb : AV.bnd 1048576 h.av) : h.len := by
  have hb : AV.bnds 1048576 h.cells := by simpa only [AV.bnd] using hb
  have h4 : AV.bnd 1048576 (steps h.path.steps) := bnds_mem hb _ (by simp [Hd.cells])
  have h2 : AV.bnd 1048576 (steps h.over) := bnds_mem hb _ (by simp [Hd.cells])
  have h3 : AV.bnd 1048576 (needs h.needs) := bnds_mem hb _ (by simp [Hd.cells])
  exact ⟨(bnd_sl h4).1, (bnd_sl h2).1, (bnd_sl h3).1⟩
theorem kern_bnd {k : Kern} (hb : AV.bnd 1048576 k.av) : k.len := by
  rw [Kern.av, kcells] at hb
  simp only [AV.bnd, AV.bnds] at hb
  obtain ⟨_, h1, _⟩ := hb
  have := bnd_sl (g := Hd.av) (l := k.held) (by simpa only [AV.bnd] using h1)
  exact ⟨this.1, fun h hh => hd_bnd (this.2 h hh)⟩
theorem rightK_at {k : Kern} (h : rightK k = true) {i : Nat} (hi : i < k.held.length) : rightS k.held[i] = true ∧ k.held[i].id < k.next ∧ lastId k i < k.held[i].id ∧ ∀ j, j < i → ∀ hj : j < k.held.length, apartS k.held[i] k.held[j] = true := by
  simp only [rightK, Bool.and_eq_true] at h
  have h1 := List.all_eq_true.1 h.2.1 i (List.mem_range.2 hi)
  rw [okAt_lt hi] at h1
  simp only [Bool.and_eq_true, decide_eq_true_eq] at h1
  refine ⟨h1.1, h1.2.1, h1.2.2.1, fun j hj hj2 => ?_⟩
  exact List.all_eq_true.1 h1.2.2.2 _ (List.mem_take_iff_getElem.2 ⟨j, by omega, rfl⟩)
theorem apart_secs {a b : Hd} (h : apartS a b = true) {s : Int} (h1 : s ∈ secsN a) (h2 : s ∈ secsN b) : False := by
  rw [apart_hit h1 h2] at h; cases h
theorem wants_mem {h : Hd} {p a : Int} (hw : wantsN h p = some a) : ∃ n ∈ needsN h, n.p = p ∧ n.pos = a := by
  unfold wantsN at hw
  obtain ⟨n, h1, h2⟩ := Option.map_eq_some_iff.1 hw
  exact ⟨n, List.mem_of_find?_eq_some h1, by simpa using List.find?_some h1, h2⟩
theorem apart_wants {a b : Hd} (h : apartS a b = true) {p x y : Int} (h1 : wantsN a p = some x) (h2 : wantsN b p = some y) : x = y := by
  obtain ⟨n, n1, n2, n3⟩ := wants_mem h1
  obtain ⟨m, m1, m2, m3⟩ := wants_mem h2
  by_cases hxy : x = y
  · exact hxy
  · exfalso
    have hc : clashN (needsN a) (needsN b) = true := by
      unfold clashN
      refine List.any_eq_true.2 ⟨n, n1, List.any_eq_true.2 ⟨m, m1, ?_⟩⟩
      simp [both, n2, m2, n3, m3, hxy]
    simp [apartS, hc] at h
theorem holder_at {k : Kern} (hr : rightK k = true) {i : Nat} (hi : i < k.held.length) {s : Int} (hs : s ∈ secsN k.held[i]) : holderN k s = some k.held[i].id := by
  have : NoneIn (fun h => decide (s ∈ secsN h)) (k.held.take i) := by
    refine List.any_eq_false.2 fun x hx => ?_
    obtain ⟨j, hj, rfl⟩ := List.mem_take_iff_getElem.1 hx
    have := (rightK_at hr hi).2.2.2 j (by omega) (by omega)
    simp only [decide_eq_true_eq]
    exact fun h => apart_secs this hs h
  unfold holderN
  rw [find_hit hi this (by simpa using hs)]; rfl
theorem wanted_at {k : Kern} (hr : rightK k = true) {i : Nat} (hi : i < k.held.length) {p a : Int} (hw : wantsN k.held[i] p = some a) : wantedN k p = some a := by
  unfold wantedN
  cases hf : k.held.findSome? fun h => wantsN h p with
  | none =>
    rw [List.findSome?_eq_none_iff] at hf
    rw [hf _ (List.getElem_mem hi)] at hw; cases hw
  | some b =>
    obtain ⟨l1, x, l2, e, h1, h2⟩ := List.findSome?_eq_some_iff.1 hf
    have hj : l1.length < k.held.length := by rw [e]; simp
    have hx : k.held[l1.length] = x := by simp [e]
    by_cases hij : i = l1.length
    · subst hij
      rw [hx, h1] at hw; exact hw
    · rcases Nat.lt_or_gt_of_ne hij with hlt | hgt
      · exfalso
        have : k.held[i] ∈ l1 := by
          have : k.held[i] = l1[i]'hlt := by simp [e, List.getElem_append_left hlt]
          rw [this]; exact List.getElem_mem _
        rw [h2 _ this] at hw; cases hw
      · have h3 := (rightK_at hr hi).2.2.2 l1.length hgt hj
        rw [hx] at h3
        rw [apart_wants h3 hw h1]
def cntS (s : Int) (l : List Hd) : Nat := l.countP fun h => decide (s ∈ secsN h)
def cntW (s : Int) (l : List Hd) : Nat := l.countP fun h => (wantsN h s).isSome
theorem countP_take {q : Hd → Bool} {l : List Hd} {i : Nat} (hi : i < l.length) : (l.take (i + 1)).countP q = (l.take i).countP q + (if q l[i] = true then 1 else 0) := by
  rw [List.take_add_one, List.getElem?_eq_getElem hi, List.countP_append]
  simp [List.countP_cons]
theorem cntS_one {k : Kern} (hr : rightK k = true) (s : Int) : ∀ i, i ≤ k.held.length → cntS s (k.held.take i) ≤ 1 ∧ (0 < cntS s (k.held.take i) → ∃ j, j < i ∧ ∃ hj : j < k.held.length, s ∈ secsN k.held[j]) := by
  intro i
  induction i with
  | zero => intro _; simp [cntS]
  | succ i ih =>
    intro h
    have hi : i < k.held.length := by omega
    obtain ⟨h1, h2⟩ := ih (by omega)
    unfold cntS at h1 h2 ⊢
    rw [countP_take hi]
    by_cases hs : s ∈ secsN k.held[i]
    · have h0 : (k.held.take i).countP (fun h => decide (s ∈ secsN h)) = 0 := by
        by_cases hp : 0 < (k.held.take i).countP fun h => decide (s ∈ secsN h)
        · obtain ⟨j, hj, hj2, hsj⟩ := h2 hp
          exact (apart_secs ((rightK_at hr hi).2.2.2 j hj hj2) hs hsj).elim
        · omega
      rw [h0]
      simp only [hs, decide_true, if_true]
      exact ⟨by omega, fun _ => ⟨i, by omega, hi, hs⟩⟩
    · simp only [hs, decide_false, Bool.false_eq_true, if_false, Nat.add_zero]
      exact ⟨h1, fun hp => by obtain ⟨j, hj, r⟩ := h2 hp; exact ⟨j, by omega, r⟩⟩
theorem holder_cnt {k : Kern} (hr : rightK k = true) (s : Int) : (holderN k s).isSome = decide (cntS s k.held = 1) := by
  have h1 := cntS_one hr s k.held.length (Nat.le_refl _)
  rw [List.take_of_length_le (Nat.le_refl _)] at h1
  by_cases hp : 0 < cntS s k.held
  · obtain ⟨j, _, hj, hs⟩ := h1.2 hp
    rw [holder_at hr hj hs]
    simp only [Option.isSome_some]
    symm; rw [decide_eq_true_eq]; omega
  · have h0 : cntS s k.held = 0 := by omega
    have : holderN k s = none := by
      unfold holderN
      have : k.held.find? (fun h => decide (s ∈ secsN h)) = none := by
        rw [List.find?_eq_none]
        intro x hx hq
        have := List.countP_eq_zero.1 h0 x hx
        exact this hq
      rw [this]; rfl
    rw [this, h0]; rfl
theorem wanted_cnt (k : Kern) (s : Int) : (wantedN k s).isSome = decide (0 < cntW s k.held) := by
  by_cases hp : 0 < cntW s k.held
  · obtain ⟨x, hx, hq⟩ := List.countP_pos_iff.1 hp
    rw [decide_eq_true hp]
    unfold wantedN
    rw [List.findSome?_isSome_iff]
    exact ⟨x, hx, hq⟩
  · rw [decide_eq_false hp]
    have h0 : cntW s k.held = 0 := by omega
    unfold wantedN
    have : k.held.findSome? (fun h => wantsN h s) = none := by
      rw [List.findSome?_eq_none_iff]
      intro x hx
      have := List.countP_eq_zero.1 h0 x hx
      simpa using this
    rw [this]; rfl
theorem stage_of {k : Kern} (hr : rightK k = true) {i : Nat} (hi : i < k.held.length) : 1 ≤ k.held[i].stage ∧ k.held[i].stage ≤ 4 := by
  have := (right_facts (rightK_at hr hi).1).2.1
  unfold Hd.g2 at this
  omega
theorem locked_more {k : Kern} (hr : rightK k = true) (s : Int) : lockedN k s = k.held.any fun h => (wantsN h s).isSome && decide (1 < h.stage) := by
  unfold lockedN
  rw [Bool.eq_iff_iff, List.any_eq_true, List.any_eq_true]
  constructor
  · rintro ⟨x, hx, hq⟩
    obtain ⟨i, hi, rfl⟩ := List.mem_iff_getElem.1 hx
    have := stage_of hr hi
    refine ⟨_, hx, ?_⟩
    simp only [Bool.and_eq_true, Bool.not_eq_true', decide_eq_false_iff_not, decide_eq_true_eq] at hq ⊢
    exact ⟨hq.1, by omega⟩
  · rintro ⟨x, hx, hq⟩
    refine ⟨_, hx, ?_⟩
    simp only [Bool.and_eq_true, Bool.not_eq_true', decide_eq_false_iff_not, decide_eq_true_eq] at hq ⊢
    exact ⟨hq.1, by omega⟩
end Go.Lb.LK

namespace Go.Lb.LK
open Go Go.Lb Go.Proofs Go.RowKit

def portsK (k : Int) : Int := if k = 1 then 2 else if k = 2 then 3 else if k = 3 then 4 else 0
theorem portsK_le (k : Int) : 0 ≤ portsK k ∧ portsK k ≤ 4 := by unfold portsK; split <;> (try split) <;> (try split) <;> omega
theorem c_r05_Ports (k : Int) : C f_lockbarref05_Ports [U k] (I (portsK k)) := by
  refine ctr [U k] run_lockbarref05_Ports rfl rfl rfl ?_ rfl
  unfold rt_lockbarref05_Ports
  by_cases h1 : k = 1
  · simp [portsK, h1]
  · by_cases h2 : k = 2
    · simp [portsK, h2]
    · by_cases h3 : k = 3 <;> simp [portsK, h1, h2, h3]
def noP : Port := ⟨-1, 0⟩
def Sec.join (s : Sec) (i : Nat) : Port := if i = 0 then s.j0 else if i = 1 then s.j1 else if i = 2 then s.j2 else s.j3
def Sec.cls (s : Sec) (i : Nat) : Int := if i = 0 then s.c0 else s.c1
theorem aidxJ (s : Sec) {i : Nat} {z : Int} (hz : z = i) (h : i < 4) : pv (.aidx 4 2 1 2 true) [.agg s.cells, I z] = (s.join i).av := by
  subst hz
  match i, h with
  | 0, _ => rfl
  | 1, _ => rfl
  | 2, _ => rfl
  | 3, _ => rfl
theorem aidxJs (s : Sec) {i : Nat} {z : Int} (hz : z = i) (h : i < 4) : pv (.aidx 4 2 1 1 false) [.agg s.cells, I z] = I (s.join i).s := by
  subst hz
  match i, h with
  | 0, _ => rfl
  | 1, _ => rfl
  | 2, _ => rfl
  | 3, _ => rfl
theorem aidxC (s : Sec) {i : Nat} {z : Int} (hz : z = i) (h : i < 2) : pv (.aidx 2 1 9 1 false) [.agg s.cells, I z] = I (s.cls i) := by
  subst hz
  match i, h with
  | 0, _ => rfl
  | 1, _ => rfl
theorem port_eqs (x y : Port) : AV.eqs x.cells y.cells = decide (x = y) := by
  obtain ⟨a, b⟩ := x
  obtain ⟨d, e⟩ := y
  simp [Port.cells, AV.eqs, AV.eq1]
  by_cases h1 : a = d <;> by_cases h2 : b = e <;> simp [h1, h2]
def hasP (l : Lay) (p : Port) : Bool := match secAt l p.s with
  | some s => decide (0 ≤ p.p) && decide (p.p < portsK s.kind)
  | none => false
def beyondP (l : Lay) (p : Port) : Port := match secAt l p.s with
  | some s => if 0 ≤ p.p ∧ p.p < portsK s.kind then s.join p.p.toNat else noP
  | none => noP
theorem c_r07_Has (l : Lay) (p : Port) : C f_lockbarref07_Has [l.av, p.av] (.bool (hasP l p)) := by
  refine ctr (l.cells ++ p.cells) run_lockbarref07_Has rfl (by simp [pureAll_append]) rfl ?_ rfl
  unfold rt_lockbarref07_Has
  simp [Lay.cells, Port.cells]
  by_cases hc : 0 ≤ p.s ∧ p.s < l.secs.length
  · obtain ⟨n, hn, hlt, he⟩ := secAt_in hc.1 hc.2
    have hls : hasP l p = (decide (0 ≤ p.p) && decide (p.p < portsK l.secs[n].kind)) := by simp [hasP, he]
    rw [hls]
    simp [hn, hlt, Sec.cells]
    refine callIf (avs := [U l.secs[n].kind]) (I (portsK l.secs[n].kind)) rfl (fun _ => ⟨by simp [hlt, Sec.cells], c_r05_Ports _⟩) (fun _ => rfl) ?_
    by_cases h0 : 0 ≤ p.p <;> simp [h0, hlt]
  · have hls : hasP l p = false := by simp [hasP, secAt_out hc]
    rw [hls]
    have hc2 : 0 ≤ p.s → ¬ p.s < l.secs.length := fun h1 h2 => hc ⟨h1, h2⟩
    by_cases h0 : 0 ≤ p.s
    · have h1 := hc2 h0
      simp [h0, h1]
      refine callIf (avs := []) (I 0) rfl (fun hh => ?_) (fun _ => rfl) ?_
      · simp [h0, h1] at hh
      · simp [h0, h1]
    · simp [h0]
      refine callIf (avs := []) (I 0) rfl (fun hh => ?_) (fun _ => rfl) ?_
      · simp [h0] at hh
      · simp [h0]
theorem c_r07_none : C f_lockbarref07_none [] noP.av := by
  refine ctr [] run_lockbarref07_none rfl rfl rfl ?_ rfl
  unfold rt_lockbarref07_none
  simp [noP, Port.cells]
theorem hasP_iff {l : Lay} {p : Port} : hasP l p = true ↔ ∃ n : Nat, ∃ m : Nat, p.s = n ∧ p.p = m ∧ m < 4 ∧ ∃ h : n < l.secs.length, (m : Int) < portsK l.secs[n].kind := by
  unfold hasP
  constructor
  · intro h
    by_cases hc : 0 ≤ p.s ∧ p.s < l.secs.length
    · obtain ⟨n, hn, hlt, he⟩ := secAt_in hc.1 hc.2
      rw [he] at h
      simp only [Bool.and_eq_true, decide_eq_true_eq] at h
      have := portsK_le l.secs[n].kind
      exact ⟨n, p.p.toNat, hn, by omega, by omega, hlt, by omega⟩
    · rw [secAt_out hc] at h; cases h
  · rintro ⟨n, m, h1, h2, h3, hlt, h4⟩
    obtain ⟨n', hn', hlt', he⟩ := secAt_in (l := l) (s := p.s) (by omega) (by omega)
    have : n' = n := by omega
    subst this
    rw [he]
    simp only [Bool.and_eq_true, decide_eq_true_eq]
    exact ⟨by omega, by omega⟩
theorem beyondP_has {l : Lay} {p : Port} (h : hasP l p = true) : ∃ n : Nat, ∃ m : Nat, p.s = n ∧ p.p = m ∧ m < 4 ∧ ∃ h : n < l.secs.length, beyondP l p = l.secs[n].join m := by
  obtain ⟨n, m, h1, h2, h3, hlt, h4⟩ := hasP_iff.1 h
  obtain ⟨n', hn', hlt', he⟩ := secAt_in (l := l) (s := p.s) (by omega) (by omega)
  have : n' = n := by omega
  subst this
  refine ⟨n', m, h1, h2, h3, hlt, ?_⟩
  unfold beyondP
  rw [he]
  simp only
  rw [if_pos ⟨by omega, by omega⟩, h2]; rfl
theorem beyondP_not {l : Lay} {p : Port} (h : hasP l p = false) : beyondP l p = noP := by
  unfold hasP at h
  unfold beyondP
  split
  · rename_i s hs
    rw [hs] at h
    simp only [Bool.and_eq_false_iff, decide_eq_false_iff_not] at h
    rw [if_neg (by omega)]
  · rfl
theorem c_r07_Beyond (l : Lay) (p : Port) : C f_lockbarref07_Beyond [l.av, p.av] (beyondP l p).av := by
  refine ctr (l.cells ++ p.cells) run_lockbarref07_Beyond rfl (by simp [pureAll_append]) (by simp [AV.pure]) ?_ rfl
  unfold rt_lockbarref07_Beyond
  simp [Lay.cells, Port.cells]
  refine call (c_r07_Has l p) (by simp [Lay.cells, Port.cells]) (fun _ => rfl) ?_
  cases hh : hasP l p
  · simp
    refine call c_r07_none rfl (by simp) ?_
    simp [beyondP_not hh, noP, Port.cells]
  · obtain ⟨n, m, h1, h2, h3, hlt, h4⟩ := beyondP_has hh
    have hm : m = 0 ∨ m = 1 ∨ m = 2 ∨ m = 3 := by omega
    rcases hm with rfl | rfl | rfl | rfl <;> simp [h1, h2, h4, hlt, Sec.cells, Sec.join, Port.cells]
end Go.Lb.LK

namespace Go.Lb.LK
open Go Go.Lb Go.Proofs Go.RowKit

def mayP (p : Port) : Bool := decide (p = noP) || (decide (0 ≤ p.s) && (decide (p.s < 24) && (decide (0 ≤ p.p) && decide (p.p < 4))))
theorem noP_iff (a b : Int) : ((⟨a, b⟩ : Port) = noP) ↔ a = -1 ∧ b = 0 := by simp [noP]
theorem c_r05_May (p : Port) : C f_lockbarref05_May [p.av] (.bool (mayP p)) := by
  refine ctr p.cells run_lockbarref05_May rfl (by simp) rfl ?_ rfl
  unfold rt_lockbarref05_May
  obtain ⟨a, b⟩ := p
  simp [Port.cells, mayP, noP_iff]
  by_cases h1 : a = -1 <;> by_cases h2 : b = 0 <;> by_cases h3 : 0 ≤ a <;> by_cases h4 : a < 24 <;> by_cases h5 : 0 ≤ b <;> by_cases h6 : b < 4 <;> simp [h1, h2, h3, h4, h5, h6, AV.eqs, AV.eq1]
def joinOk (s : Sec) (i : Nat) : Bool := if (i : Int) < portsK s.kind then mayP (s.join i) else decide (s.join i = noP)
def clsOk (s : Sec) (i : Nat) : Bool := (decide (0 ≤ s.cls i) && decide (s.cls i ≤ 3)) && (decide ((i : Int) < ways s.kind) || decide (s.cls i = 0))
def secOk (s : Sec) : Bool := (List.range 4).all (joinOk s) && ((List.range 2).all (clsOk s) && decide (0 < portsK s.kind))
theorem c_r05_Right (s : Sec) : C f_lockbarref05_Right [s.av] (.bool (secOk s)) := by
  refine ctr s.cells run_lockbarref05_Right rfl (by simp) rfl ?_ rfl
  unfold rt_lockbarref05_Right
  simp [Sec.cells, -pv_aidx]
  refine RTwp_loop rfl (fun vs => ∃ i : Nat, i ≤ 4 ∧ vs = [I i] ∧ ∀ j, j < i → joinOk s j = true) (fun vs => match vs with | [.int _ j] => 4 - j.toNat | _ => 0) ⟨0, by omega, by simp, fun j hj => by omega⟩ ?_
  rintro vs - ⟨i, hi, rfl, hq⟩
  simp [-pv_aidx]
  refine ⟨fun hlt => ?_, fun hge => ?_⟩
  · have hw := wrap_succ (i := i) (by omega)
    have hi4 : i < 4 := by omega
    have hJ := aidxJ s (i := i) (z := (i : Int)) rfl hi4
    simp only [Sec.cells] at hJ
    refine call (c_r05_Ports s.kind) (by simp) (fun _ => rfl) ?_
    simp [hJ, -pv_aidx]
    repeat refine And.intro (by intros; omega) ?_
    refine callIf (avs := [(s.join i).av]) (.bool (mayP (s.join i))) rfl (fun _ => ⟨by simp [hJ, -pv_aidx], c_r05_May _⟩) (fun _ => rfl) ?_
    simp [hJ, -pv_aidx]
    refine callIf (avs := [U s.kind]) (I (portsK s.kind)) rfl (fun _ => ⟨by simp, c_r05_Ports _⟩) (fun _ => rfl) ?_
    have hje : joinOk s i = if (i : Int) < portsK s.kind then mayP (s.join i) else decide (s.join i = noP) := rfl
    have hbad : joinOk s i = false → secOk s = false := fun hk => by simp [secOk, range_hit hi4 hk]
    have hgood : joinOk s i = true → ∀ j, j < i + 1 → joinOk s j = true := fun hk j hj => by
      by_cases hji : j = i
      · subst hji; exact hk
      · exact hq j (by omega)
    by_cases hp : (i : Int) < portsK s.kind
    · rw [if_pos hp] at hje
      have hp2 : ¬ portsK s.kind ≤ (i : Int) := by omega
      cases hm : mayP (s.join i)
      · have := hbad (by rw [hje, hm])
        simp [hp, hp2, hm, hJ, this, -pv_aidx]
      · have := hgood (by rw [hje, hm])
        simp [hp, hp2, hm, hJ, hw, -pv_aidx]
        exact ⟨⟨i + 1, by omega, by omega, this⟩, by omega⟩
    · rw [if_neg hp] at hje
      have hp2 : portsK s.kind ≤ (i : Int) := by omega
      have hpe := port_eqs (s.join i) noP
      by_cases hj : s.join i = noP
      · have := hgood (by rw [hje]; simpa using hj)
        simp [hj, Port.cells, noP, AV.eqs, AV.eq1] at hpe
        simp [hp, hp2, hJ, hj, hw, noP, Port.cells, AV.eqs, AV.eq1, -pv_aidx]
        repeat refine And.intro (by intros; omega) ?_
        exact ⟨⟨i + 1, by omega, by omega, this⟩, by omega⟩
      · have := hbad (by rw [hje]; simpa using hj)
        have hj2 : ¬ ((s.join i).s = -1 ∧ (s.join i).p = 0) := fun h => hj (by rw [← noP_iff] at h; exact h)
        simp [hp, hp2, hJ, hw, this, Port.cells, AV.eqs, AV.eq1, -pv_aidx]
        repeat refine And.intro (by intros; omega) ?_
        exact fun h1 h2 => absurd ⟨h1, h2⟩ hj2
  · have h4 : (List.range 4).all (joinOk s) = true := range_all fun j hj => hq j (by omega)
    refine RTwp_loop rfl (fun vs => ∃ i : Nat, i ≤ 2 ∧ vs = [I i] ∧ ∀ j, j < i → clsOk s j = true) (fun vs => match vs with | [.int _ j] => 2 - j.toNat | _ => 0) ⟨0, by omega, by simp, fun j hj => by omega⟩ ?_
    rintro vs - ⟨m, hm, rfl, hqm⟩
    simp [-pv_aidx]
    refine ⟨fun hlt => ?_, fun hge => ?_⟩
    · have hw := wrap_succ (i := m) (by omega)
      have hm2 : m < 2 := by omega
      have hC := aidxC s (i := m) (z := (m : Int)) rfl hm2
      simp only [Sec.cells] at hC
      simp [hC, -pv_aidx]
      repeat refine And.intro (by intros; omega) ?_
      refine callIf (avs := [U s.kind]) (I (ways s.kind)) rfl (fun _ => ⟨by simp, c_r05_Ways _⟩) (fun _ => rfl) ?_
      simp [hC, -pv_aidx]
      repeat refine And.intro (by intros; omega) ?_
      have hce : clsOk s m = ((decide (0 ≤ s.cls m) && decide (s.cls m ≤ 3)) && (decide ((m : Int) < ways s.kind) || decide (s.cls m = 0))) := rfl
      refine ⟨fun hb => ?_, fun h1 h2 h3 => ⟨⟨m + 1, by omega, hw, fun j hj => ?_⟩, by omega⟩⟩
      · have hk : clsOk s m = false := by
          rw [hce]
          rcases hb with (hb | hb) | ⟨hb, hb2⟩
          · simp [show ¬ 0 ≤ s.cls m by omega]
          · simp [show ¬ s.cls m ≤ 3 by omega]
          · simp [show ¬ (m : Int) < ways s.kind by omega, hb2]
        simp [secOk, h4, range_hit hm2 hk]
      · by_cases hjm : j = m
        · subst hjm
          rw [hce]
          by_cases hw2 : (j : Int) < ways s.kind
          · simp [h1, h2, hw2]
          · simp [h1, h2, h3 (by omega)]
        · exact hqm j (by omega)
    · have h2 : (List.range 2).all (clsOk s) = true := range_all fun j hj => hqm j (by omega)
      refine call (c_r05_Ports s.kind) (by simp) (fun _ => rfl) ?_
      simp [secOk, h4, h2]
end Go.Lb.LK
