/- Contracts over this program. -/
/- Counting, bits, an image. -/
/- Counting, an image. -/
/- An image: what is occupied, where points stand; counting on. -/
/- Counting on; an image behind a tick. -/
/- Rows that are sorted and compacted: the plain law. -/
/- Rows cloned, joined; needs that clash; those that hold. -/
/- Whether a held route may be. -/
/- The document's answers of held routes. -/
/- A train through a route: the plain law. -/
/- Whose points stand; the document's held routes. -/
import Derived.Test.YteihefiaceohdaaDoorCh4
import Derived.Test.YteihefiaceohdaaDoorFw9
set_option linter.unusedSimpArgs false
set_option linter.unusedVariables false
namespace Go.Lb.LK
open Go Go.Lb Go.Proofs Go.RowKit

/-- A function of numbers that leaves the world alone. -/
theorem contract_of_calls {P : Program} {f : FuncId} {avs : List AV} {vs : List Value} {r : AV} {v : Value} (hr : r.pure = true) (ha : ∀ c us, Rvs c avs us → us = vs) (hv : ∀ c, Rv c r v) (h : ∀ w, Calls P f ⟨vs⟩ w fun e w' => e = .returned v ∧ w' = w) : Contract P [] f avs r := by
  refine ⟨hr, fun w c us _ him _ hvs => ?_⟩
  rw [ha c us hvs]
  refine (h w).mono ?_
  rintro e w' ⟨rfl, rfl⟩
  exact ⟨v, c, rfl, Cx.Le.refl c, by assumption, him, fun _ _ => ⟨fun _ _ h => h, fun _ h => h⟩, hv c, Below.refl _ _⟩

theorem EOkS : EnvOk ES := ⟨fun f h => by simp [ES] at h, fun f h => by simp [ES] at h, fun g es h => by simp [ES] at h⟩
theorem bits0 : Contract PR [] f_mathbits_Len [.int .u64 0] (.int .i64 0) := by
  refine contract_of_calls (vs := [.int .u64 0]) (v := .int .i64 0) rfl (fun c us h => ?_) (fun c => .int _ _) (fun w => Tryd.bits_Len 0 w (by omega) (by omega))
  cases h with
  | cons _ v _ vs h1 h2 => cases h1; cases h2; rfl
theorem sort0 : Contract PR [] f_slices_Sort_int [.sl []] (.tup []) := by
  refine contract_of EOkS EmixS [] run_slices_Sort_int rfl rfl rfl ?_ rfl
  unfold rt_slices_Sort_int
  refine RTwp_chk.2 ⟨fun _ => by simp, ?_⟩
  refine RTwp_nil.2 (RTwp_chk.2 ⟨fun _ => by simp, RTwp_nil.2 ?_⟩)
  refine RTwp_call0 (r := .int .i64 0) bits0 (by simp) ?_
  simp
  refine RTwp_loop rfl (fun vs => vs = []) (fun _ => 0) rfl ?_
  rintro vs - rfl
  simp
  refine RTwp_loop rfl (fun vs => vs = []) (fun _ => 0) rfl ?_
  rintro vs - rfl
  simp
theorem srtOk : SrtOk PR f_slices_Sort_int := ⟨fun blk off cap zs w h1 h2 h3 => Tryd.slices_Sort_int blk off cap zs w h1 h2 h3, sort0⟩
theorem cptOk : CptOk PR f_slices_Compact_int := ⟨fun blk off cap zs w h1 h2 h3 => Tryd.slices_Compact_int blk off cap zs w h1 h2 h3, fun a cap w => Tryd.slices_Compact_int_empty a cap w⟩
theorem EOk : EnvOk E := by
  refine ⟨fun f h => ?_, fun f h => ?_, fun g es h => ?_⟩
  · have : f = f_slices_Compact_int := by simpa [E, cptF] using h
    rw [this]; exact cptOk
  · have : f = f_slices_Sort_int := by simpa [E, srtF] using h
    rw [this]; exact srtOk
  · have : g = 0 := by
      have := (List.getElem?_eq_some_iff.1 h).1
      simp [E, GL] at this; omega
    subst this
    have : es = GL[0] := by simpa [E, GL] using h.symm
    rw [this]; rfl
abbrev C (f : Nat) (avs : List AV) (r : AV) : Prop := Contract PR GL f avs r
theorem ctr {f n : Nat} {args : List SE} (vs : List AV) {rt : RT} (hrun : runF E f args n = rt) (hw : SE.wfs n (fun _ => false) args = true)
    (hp : AV.pureAll vs = true) {r : AV} (hr : r.pure = true) (h : RTwp PR GL (fun x => x = r) rt (fun _ _ => False) (envOf vs)) {avs : List AV} (ha : dens (envOf vs) args = avs) : C f avs r :=
  contract_of EOk Emix vs hrun hw hp hr h ha

theorem filter_take {α : Type} (p : α → Bool) (l : List α) {i : Nat} (h : i < l.length) : (l.take (i + 1)).filter p = (l.take i).filter p ++ (if p l[i] = true then [l[i]] else []) := by
  rw [List.take_add_one, List.getElem?_eq_getElem h, List.filter_append]
  congr 1
  simp only [Option.toList_some, List.filter_cons, List.filter_nil]
theorem filter_take_len {α : Type} (p : α → Bool) (l : List α) (i : Nat) : ((l.take i).filter p).length ≤ l.length := by
  have := List.length_filter_le p (l.take i)
  have : (l.take i).length ≤ l.length := by simp; omega
  omega
theorem flatMap_take {α β : Type} (f : α → List β) (l : List α) {i : Nat} (h : i < l.length) : (l.take (i + 1)).flatMap f = (l.take i).flatMap f ++ f l[i] := by
  rw [List.take_add_one, List.getElem?_eq_getElem h, List.flatMap_append]
  simp
theorem map_take {α β : Type} (f : α → β) (l : List α) {i : Nat} (h : i < l.length) : (l.take (i + 1)).map f = (l.take i).map f ++ [f l[i]] := by
  rw [List.take_add_one, List.getElem?_eq_getElem h, List.map_append]
  simp
@[simp] theorem ite_avbool (c : Prop) [Decidable c] (a b : Bool) : (if c then AV.bool a else AV.bool b) = AV.bool (if c then a else b) := by split <;> rfl
@[simp] theorem ite_avint (c : Prop) [Decidable c] (k : IntKind) (a b : Int) : (if c then AV.int k a else AV.int k b) = AV.int k (if c then a else b) := by split <;> rfl

/-- A call that is sure, its arguments reckoned. -/
theorem call {ρ : Nat → AV} {R : AV → Prop} {L : Nat → List AV → Prop} {n f : Nat} {args : List SE} {bo : Bool} {ns : List Nd} {k : RT} {r : AV} {avs : List AV} (hc : C f avs r) (ha : dens ρ args = avs) (hb : bo = true → r.scalar = true)
    (h : RTwp PR GL R (.seg ns k) L (setEnv ρ n r)) : RTwp PR GL R (.seg (.call n [] f args bo :: ns) k) L ρ := RTwp_call0 (by rw [ha]; exact hc) hb h
/-- A call that is wanted under conditions. -/
theorem callIf {ρ : Nat → AV} {R : AV → Prop} {L : Nat → List AV → Prop} {pcs : List (SE × Bool)} {n f : Nat} {args : List SE} {bo : Bool} {ns : List Nd} {k : RT} {avs : List AV} (r : AV) (hr : r.pure = true) (hc : Holds ρ pcs → dens ρ args = avs ∧ C f avs r) (hb : bo = true → r.scalar = true)
    (h : RTwp PR GL R (.seg ns k) L (setEnv ρ n r)) : RTwp PR GL R (.seg (.call n pcs f args bo :: ns) k) L ρ := RTwp_call r hr (fun hp => ⟨by rw [(hc hp).1]; exact (hc hp).2, hb⟩) h
end Go.Lb.LK

namespace Go.Lb.LK
open Go Go.Lb Go.Proofs Go.RowKit

def stale (l : Lay) (im : Img) : Bool := decide (l.stale < im.age)
def bitAt (x n : Int) : Bool := decide (0 ≤ n) && (decide (n < 32) && x.toNat.testBit n.toNat)

theorem u32wrap {n : Int} (h0 : 0 ≤ n) (h1 : n ≤ 4294967295) : IntKind.u32.wrap n = n := by
  simp only [IntKind.wrap, IntKind.signed, IntKind.bits]
  simp
  omega
theorem u64wrap {n : Int} (h0 : 0 ≤ n) (h1 : n ≤ 4294967295) : IntKind.u64.wrap n = n := by
  simp only [IntKind.wrap, IntKind.signed, IntKind.bits]
  simp
  omega
theorem pow_i (n : Nat) : (2 : Int) ^ n = ((2 ^ n : Nat) : Int) := by simp
theorem and_pow (x n : Nat) : (((x &&& 2 ^ n : Nat) : Int) != 0) = x.testBit n := by
  cases h : x.testBit n
  · have : x &&& 2 ^ n = 0 := by
      apply Nat.eq_of_testBit_eq
      intro i
      rw [Nat.testBit_and, Nat.testBit_two_pow, Nat.zero_testBit]
      by_cases hi : n = i
      · subst hi; simp [h]
      · simp [hi]
    rw [this]; rfl
  · have : x &&& 2 ^ n ≠ 0 := by
      intro h0
      have := congrArg (Nat.testBit · n) h0
      simp [Nat.testBit_and, h] at this
    simpa using this
theorem g1 (x n : Nat) (hx : x ≤ 4294967295) (hn : n < 32) : (IntKind.u32.wrap ((x % 2 ^ IntKind.u32.bits &&& (IntKind.u32.wrap (2 ^ min n IntKind.u32.bits) % 2 ^ IntKind.u32.bits).toNat : Nat) : Int) != 0) = x.testBit n := by
  have hb : IntKind.u32.bits = 32 := rfl
  have h2 : 2 ^ n ≤ 2 ^ 31 := Nat.pow_le_pow_right (by omega) (by omega)
  have h1 : min n 32 = n := by omega
  have h4 : 2 ^ n ≤ 4294967295 := by omega
  generalize hp : 2 ^ n = p at h4
  rw [hb, h1, pow_i, hp, u32wrap (n := (p : Int)) (by omega) (by omega)]
  have e1 : ((p : Int) % 2 ^ 32).toNat = p := by omega
  have e2 : x % 2 ^ 32 = x := by omega
  have e3 : x &&& p ≤ x := Nat.and_le_left
  rw [e1, e2, u32wrap (by omega) (by omega), ← hp]
  exact and_pow x n
theorem g2 (x n : Nat) (hx : x ≤ 4294967295) (hn : n < 32) : (IntKind.u32.wrap ((((x : Int).fdiv (2 ^ min n IntKind.u32.bits) % 2 ^ IntKind.u32.bits).toNat &&& 1 % 2 ^ IntKind.u32.bits : Nat) : Int) == 1) = x.testBit n := by
  have hb : IntKind.u32.bits = 32 := rfl
  have h1 : min n 32 = n := by omega
  have e4 : Int.fdiv (x : Int) (2 ^ n) = ((x / 2 ^ n : Nat) : Int) := by
    rw [pow_i]
    exact (Int.ofNat_fdiv x (2 ^ n)).symm
  have h6 : x / 2 ^ n ≤ x := Nat.div_le_self _ _
  rw [hb, h1, e4]
  have e1 : (((x / 2 ^ n : Nat) : Int) % 2 ^ 32).toNat = x / 2 ^ n := by generalize x / 2 ^ n = q at h6; omega
  have e2 : 1 % 2 ^ 32 = 1 := rfl
  rw [e1, e2, Nat.and_one_is_mod, Nat.testBit_eq_decide_div_mod_eq]
  have := Nat.mod_two_eq_zero_or_one (x / 2 ^ n)
  rcases this with h | h <;> simp [h] <;> decide

theorem c_bit (x : Int) : C f_image_bit [W x] (.clo f_image_bit_1 [] [.ref [W x] 0]) := by
  refine ctr [W x] run_image_bit rfl rfl rfl ?_ rfl
  unfold rt_image_bit
  simp
theorem c_bit1 (x n : Int) (h0 : 0 ≤ x) (h1 : x ≤ 4294967295) : C f_image_bit_1 [I n, .ref [W x] 0] (.bool (bitAt x n)) := by
  refine ctr [I n, W x] run_image_bit_1 rfl rfl rfl ?_ rfl
  unfold rt_image_bit_1
  obtain ⟨x, rfl⟩ : ∃ k : Nat, x = k := ⟨x.toNat, by omega⟩
  by_cases hn : 0 ≤ n
  · obtain ⟨n, rfl⟩ : ∃ k : Nat, n = k := ⟨n.toNat, by omega⟩
    by_cases hn2 : n < 32
    · have h3 : ((n : Nat) : Int) < 32 := by omega
      simp [bitAt, h3]
      exact g1 x n (by omega) hn2
    · have h3 : ¬ ((n : Nat) : Int) < 32 := by omega
      simp [bitAt, h3]
  · have h3 : ¬ (n ≥ 0) := by omega
    simp [bitAt, hn, h3]
theorem c_r15bit (x n : Int) (h0 : 0 ≤ x) (h1 : x ≤ 4294967295) : C f_lockbarref15_bit [W x, I n] (.bool (bitAt x n)) := by
  refine ctr [W x, I n] run_lockbarref15_bit rfl rfl rfl ?_ rfl
  unfold rt_lockbarref15_bit
  obtain ⟨x, rfl⟩ : ∃ k : Nat, x = k := ⟨x.toNat, by omega⟩
  by_cases hn : 0 ≤ n
  · obtain ⟨n, rfl⟩ : ∃ k : Nat, n = k := ⟨n.toNat, by omega⟩
    by_cases hn2 : n < 32
    · have h3 : ((n : Nat) : Int) < 32 := by omega
      have e1 : IntKind.u64.wrap (n : Int) = n := u64wrap (by omega) (by omega)
      simp [bitAt, h3, e1]
      exact g2 x n (by omega) hn2
    · have h3 : ¬ ((n : Nat) : Int) < 32 := by omega
      simp [bitAt, h3]
  · have h3 : ¬ (n ≥ 0) := by omega
    simp [bitAt, hn, h3]
end Go.Lb.LK

namespace Go.Lb.LK
open Go Go.Lb Go.Proofs Go.RowKit

theorem c_tick_Late (a t : Int) : C f_tick_Late [I a, I t] (.bool (decide (t < a))) := by
  refine ctr [I a, I t] run_tick_Late rfl rfl rfl ?_ rfl
  unfold rt_tick_Late
  simp
theorem c_r03Late (a t : Int) : C f_lockbarref03_Late [I a, I t] (.bool (decide (t < a))) := by
  refine ctr [I a, I t] run_lockbarref03_Late rfl rfl rfl ?_ rfl
  unfold rt_lockbarref03_Late
  simp
theorem li (l : Lay) (im : Img) : AV.pureAll (l.cells ++ im.cells) = true := by simp [pureAll_append]
theorem lii (l : Lay) (im : Img) (s : Int) : AV.pureAll (l.cells ++ im.cells ++ [I s]) = true := by simp [pureAll_append, AV.pureAll, AV.pure]
theorem c_image_Stale (l : Lay) (im : Img) : C f_image_Stale [l.av, im.av] (.bool (stale l im)) := by
  refine ctr (l.cells ++ im.cells) run_image_Stale rfl (li l im) rfl ?_ rfl
  unfold rt_image_Stale
  simp [Lay.cells, Img.cells]
  refine call (c_tick_Late im.age l.stale) (by simp) (by simp) ?_
  simp [stale]
theorem c_r15Stale (l : Lay) (im : Img) : C f_lockbarref15_Stale [l.av, im.av] (.bool (stale l im)) := by
  refine ctr (l.cells ++ im.cells) run_lockbarref15_Stale rfl (li l im) rfl ?_ rfl
  unfold rt_lockbarref15_Stale
  simp [Lay.cells, Img.cells]
  refine call (c_r03Late im.age l.stale) (by simp) (by simp) ?_
  simp [stale]

abbrev cloB (x : Int) : AV := .clo f_image_bit_1 [] [.ref [W x] 0]
theorem c_image_clear (l : Lay) (im : Img) : C f_image_clear [l.av, im.av] (.clo f_image_clear_1 [] [.ref [.bool (stale l im)] 0, .ref [cloB im.occ] 0]) := by
  refine ctr (l.cells ++ im.cells) run_image_clear rfl (li l im) rfl ?_ rfl
  unfold rt_image_clear
  simp [Lay.cells, Img.cells]
  refine call (c_image_Stale l im) (by simp [Lay.cells, Img.cells]) (by simp) ?_
  simp
  refine call (c_bit im.occ) (by simp) (by simp) ?_
  simp
theorem c_image_clear1 (s occ : Int) (st : Bool) (h0 : 0 ≤ occ) (h1 : occ ≤ 4294967295) : C f_image_clear_1 [I s, .ref [.bool st] 0, .ref [cloB occ] 0] (.bool (!st && !bitAt occ s)) := by
  refine ctr [I s, .bool st, W occ] run_image_clear_1 rfl rfl rfl ?_ rfl
  unfold rt_image_clear_1
  simp
  refine callIf (avs := [I s, .ref [W occ] 0]) (.bool (bitAt occ s)) rfl (fun _ => ⟨by simp, c_bit1 occ s h0 h1⟩) (by simp) ?_
  cases st <;> simp

def told (l : Lay) (im : Img) (s : Int) : Bool := decide (0 ≤ s ∧ s < l.secs.length ∧ s < 24) && (!stale l im && bitAt im.occ s)
def occupied (l : Lay) (im : Img) (s : Int) : Bool := !decide (0 ≤ s ∧ s < l.secs.length ∧ s < 24) || (stale l im || (bitAt im.occ s || decide (im.free s.toNat < l.clear)))
theorem bitAt_neg {x s : Int} (h : ¬ 0 ≤ s) : bitAt x s = false := by simp [bitAt, h]

theorem c_image_Told (l : Lay) (im : Img) (hi : im.ok) (s : Int) : C f_image_Told [l.av, im.av, I s] (.bool (told l im s)) := by
  refine ctr (l.cells ++ im.cells ++ [I s]) run_image_Told rfl (lii l im s) rfl ?_ rfl
  unfold rt_image_Told
  simp [Lay.cells, Img.cells]
  refine callIf (avs := [W im.occ]) (cloB im.occ) rfl (fun _ => ⟨by simp, c_bit im.occ⟩) (by simp) ?_
  simp
  refine callIf (avs := [I s, .ref [W im.occ] 0]) (.bool (bitAt im.occ s)) rfl (fun _ => ⟨by simp, c_bit1 im.occ s hi.1.1 hi.1.2⟩) (by simp) ?_
  simp
  refine callIf (avs := [l.av, im.av]) (.bool (stale l im)) rfl (fun _ => ⟨by simp [Lay.cells, Img.cells], c_image_Stale l im⟩) (by simp) ?_
  by_cases h1 : s < l.secs.length <;> by_cases h2 : s < 24 <;> by_cases h0 : 0 ≤ s
  all_goals first | simp [told, h1, h2, h0, bitAt_neg h0, Int.lt_min] | simp [told, h1, h2, h0, Int.lt_min]
  · cases stale l im <;> cases bitAt im.occ s <;> simp
theorem c_r15Told (l : Lay) (im : Img) (hi : im.ok) (s : Int) : C f_lockbarref15_Told [l.av, im.av, I s] (.bool (told l im s)) := by
  refine ctr (l.cells ++ im.cells ++ [I s]) run_lockbarref15_Told rfl (lii l im s) rfl ?_ rfl
  unfold rt_lockbarref15_Told
  simp [Lay.cells, Img.cells]
  refine callIf (avs := [l.av, im.av]) (.bool (stale l im)) rfl (fun _ => ⟨by simp [Lay.cells, Img.cells], c_r15Stale l im⟩) (by simp) ?_
  simp
  refine callIf (avs := [W im.occ, I s]) (.bool (bitAt im.occ s)) rfl (fun _ => ⟨by simp, c_r15bit im.occ s hi.1.1 hi.1.2⟩) (by simp) ?_
  by_cases h1 : s < l.secs.length <;> by_cases h2 : s < 24 <;> by_cases h0 : 0 ≤ s
  all_goals simp [told, h1, h2, h0]
  all_goals cases stale l im <;> cases bitAt im.occ s <;> simp

end Go.Lb.LK

namespace Go.Lb.LK
open Go Go.Lb Go.Proofs Go.RowKit

theorem free_cell (im : Img) (s : Int) (h0 : 0 ≤ s) (h1 : s < 24) : im.cells.getD (s.toNat * 1 + 1) .undef = I (im.free s.toNat) := by
  rw [Nat.mul_one]; exact free_get im (by omega) _
theorem free_cell' (im : Img) (s : Int) (h0 : 0 ≤ s) (h1 : s < 24) : (im.cells[s.toNat * 1 + 1]?).getD .undef = I (im.free s.toNat) := by
  rw [← List.getD_eq_getElem?_getD]; exact free_cell im s h0 h1

def atP (l : Lay) (im : Img) (p : Int) : Int :=
  if 0 ≤ p ∧ p < l.secs.length ∧ (l.secs[p.toNat]?.map (·.kind)) = some 2 ∧ stale l im = false then
    (if bitAt im.nor p = bitAt im.rev p then -1 else if bitAt im.nor p = true then 0 else 1) else -1

theorem c_image_Occupied (l : Lay) (im : Img) (hi : im.ok) (s : Int) : C f_image_Occupied [l.av, im.av, I s] (.bool (occupied l im s)) := by
  refine ctr (l.cells ++ im.cells ++ [I s]) run_image_Occupied rfl (lii l im s) rfl ?_ rfl
  unfold rt_image_Occupied
  simp [Lay.cells, Img.cells]
  by_cases hr : 0 ≤ s ∧ s < l.secs.length ∧ s < 24
  · have h1 : ¬ s < 0 := by omega
    have h2 : ¬ min (l.secs.length : Int) 24 ≤ s := by omega
    simp [h1, h2]
    intro _ _
    refine call (c_image_clear l im) (by simp [Lay.cells, Img.cells]) (by simp) ?_
    simp [stale]
    refine call (c_image_clear1 s im.occ (stale l im) hi.1.1 hi.1.2) (by simp [stale]) (by simp) ?_
    have hc := free_cell' im s hr.1 hr.2.2
    simp only [Img.cells] at hc
    simp at hc
    simp [hc, occupied, hr]
    refine ⟨fun _ => by omega, ?_⟩
    cases stale l im <;> cases bitAt im.occ s <;> simp
  · have h1 : s < 0 ∨ min (l.secs.length : Int) 24 ≤ s := by omega
    rcases h1 with h1 | h1
    · have h2 : ¬ 0 ≤ s := by omega
      simp [occupied, h1, h2]
    · have h2 : 0 ≤ s := by omega
      have h3 : ¬ s < 0 := by omega
      have h5 : ¬ s < min (l.secs.length : Int) 24 := by omega
      simp [occupied, h1, h2, h3, h5]
      exact .inl (by omega)
theorem c_r15Occupied (l : Lay) (im : Img) (hi : im.ok) (s : Int) : C f_lockbarref15_Occupied [l.av, im.av, I s] (.bool (occupied l im s)) := by
  refine ctr (l.cells ++ im.cells ++ [I s]) run_lockbarref15_Occupied rfl (lii l im s) rfl ?_ rfl
  unfold rt_lockbarref15_Occupied
  simp [Lay.cells, Img.cells]
  by_cases hr : 0 ≤ s ∧ s < l.secs.length ∧ s < 24
  · have h1 : ¬ s < 0 := by omega
    have h2 : ¬ (l.secs.length : Int) ≤ s := by omega
    have h3 : ¬ 24 ≤ s := by omega
    simp [h1, h2, h3]
    intro _ _ _
    refine call (c_r15Stale l im) (by simp [Lay.cells, Img.cells]) (by simp) ?_
    simp
    refine callIf (avs := [W im.occ, I s]) (.bool (bitAt im.occ s)) rfl (fun _ => ⟨by simp, c_r15bit im.occ s hi.1.1 hi.1.2⟩) (by simp) ?_
    have hc := free_cell' im s hr.1 hr.2.2
    simp only [Img.cells] at hc
    simp at hc
    simp [hc, occupied, hr]
    refine ⟨?_, ?_⟩
    · intros; omega
    · cases stale l im <;> cases bitAt im.occ s <;> simp
  · have h1 : s < 0 ∨ (l.secs.length : Int) ≤ s ∨ 24 ≤ s := by omega
    by_cases h2 : s < 0
    · have h0 : ¬ 0 ≤ s := by omega
      simp [occupied, h2, h0]
    · by_cases h3 : (l.secs.length : Int) ≤ s
      · simp [occupied, h2, h3]
        intros; omega
      · have h4 : 24 ≤ s := by omega
        simp [occupied, h2, h3, h4]
        intros; omega

theorem c_image_At (l : Lay) (im : Img) (hi : im.ok) (p : Int) : C f_image_At [l.av, im.av, I p] (I (atP l im p)) := by
  refine ctr (l.cells ++ im.cells ++ [I p]) run_image_At rfl (lii l im p) rfl ?_ rfl
  unfold rt_image_At
  simp [Lay.cells, Img.cells]
  by_cases hr : 0 ≤ p ∧ p < l.secs.length
  · obtain ⟨n, rfl⟩ : ∃ n : Nat, p = n := ⟨p.toNat, by omega⟩
    have hlt : n < l.secs.length := by omega
    have h1 : ¬ ((n : Nat) : Int) < 0 := by omega
    have h2 : ¬ (l.secs.length : Int) ≤ n := by omega
    simp [h1, h2, hlt, Sec.cells]
    refine callIf (avs := [l.av, im.av]) (.bool (stale l im)) rfl (fun _ => ⟨by simp [Lay.cells, Img.cells], c_image_Stale l im⟩) (by simp) ?_
    by_cases hk : (l.secs[n]).kind = 2
    · simp [hk, hlt, Sec.cells]
      cases hs : stale l im
      · simp
        refine ⟨fun h => absurd h (by omega), ?_⟩
        refine call (c_bit im.nor) (by simp) (by simp) ?_
        simp
        refine call (c_bit1 im.nor n hi.2.1.1 hi.2.1.2) (by simp) (by simp) ?_
        simp
        refine call (c_bit im.rev) (by simp) (by simp) ?_
        simp
        refine call (c_bit1 im.rev n hi.2.2.1.1 hi.2.2.1.2) (by simp) (by simp) ?_
        simp [atP, hlt, hk, hs]
        cases bitAt im.nor n <;> cases bitAt im.rev n <;> simp
      · simp [atP, hs]
    · simp [hk, hlt, Sec.cells, atP]
  · have h3 : p < 0 ∨ (l.secs.length : Int) ≤ p := by omega
    have ha : atP l im p = -1 := by
      unfold atP; rw [if_neg (by omega)]
    rw [ha]
    rcases h3 with h3 | h3
    · have h5 : ¬ 0 ≤ p := by omega
      simp [h3, h5]
      refine callIf (avs := [l.av, im.av]) (.bool (stale l im)) rfl (fun _ => ⟨by simp [Lay.cells, Img.cells], c_image_Stale l im⟩) (by simp) ?_
      simp [h3, h5]
    · have h4 : ¬ p < 0 := by omega
      have h5 : ¬ p < l.secs.length := by omega
      simp [h3, h4, h5]
      refine callIf (avs := [l.av, im.av]) (.bool (stale l im)) rfl (fun _ => ⟨by simp [Lay.cells, Img.cells], c_image_Stale l im⟩) (by simp) ?_
      simp [h3, h4, h5]
theorem c_r15At (l : Lay) (im : Img) (hi : im.ok) (p : Int) : C f_lockbarref15_At [l.av, im.av, I p] (I (atP l im p)) := by
  refine ctr (l.cells ++ im.cells ++ [I p]) run_lockbarref15_At rfl (lii l im p) rfl ?_ rfl
  unfold rt_lockbarref15_At
  simp [Lay.cells, Img.cells]
  by_cases hr : 0 ≤ p ∧ p < l.secs.length
  · obtain ⟨n, rfl⟩ : ∃ n : Nat, p = n := ⟨p.toNat, by omega⟩
    have hlt : n < l.secs.length := by omega
    have h1 : ¬ ((n : Nat) : Int) < 0 := by omega
    have h2 : ¬ (l.secs.length : Int) ≤ n := by omega
    simp [h1, h2, hlt, Sec.cells]
    refine callIf (avs := [l.av, im.av]) (.bool (stale l im)) rfl (fun _ => ⟨by simp [Lay.cells, Img.cells], c_r15Stale l im⟩) (by simp) ?_
    by_cases hk : (l.secs[n]).kind = 2
    · simp [hk, hlt, Sec.cells]
      cases hs : stale l im
      · simp
        refine ⟨fun h => absurd h (by omega), ?_⟩
        refine call (c_r15bit im.nor n hi.2.1.1 hi.2.1.2) (by simp) (by simp) ?_
        simp
        refine call (c_r15bit im.rev n hi.2.2.1.1 hi.2.2.1.2) (by simp) (by simp) ?_
        simp [atP, hlt, hk, hs]
        cases bitAt im.nor n <;> cases bitAt im.rev n <;> simp
      · simp [atP, hs]
    · simp [hk, hlt, Sec.cells, atP]
  · have h3 : p < 0 ∨ (l.secs.length : Int) ≤ p := by omega
    have ha : atP l im p = -1 := by
      unfold atP; rw [if_neg (by omega)]
    rw [ha]
    rcases h3 with h3 | h3
    · have h5 : ¬ 0 ≤ p := by omega
      simp [h3, h5]
      refine callIf (avs := [l.av, im.av]) (.bool (stale l im)) rfl (fun _ => ⟨by simp [Lay.cells, Img.cells], c_r15Stale l im⟩) (by simp) ?_
      simp [h3, h5]
    · have h4 : ¬ p < 0 := by omega
      have h5 : ¬ p < l.secs.length := by omega
      simp [h3, h4, h5]
      refine callIf (avs := [l.av, im.av]) (.bool (stale l im)) rfl (fun _ => ⟨by simp [Lay.cells, Img.cells], c_r15Stale l im⟩) (by simp) ?_
      simp [h3, h4, h5]
end Go.Lb.LK

namespace Go.Lb.LK
open Go Go.Lb Go.Proofs Go.RowKit

theorem ite_iff {α : Type} {c d : Prop} [Decidable c] [Decidable d] (h : c ↔ d) (x y : α) : (if c then x else y) = if d then x else y := by
  by_cases hc : c
  · rw [if_pos hc, if_pos (h.1 hc)]
  · rw [if_neg hc, if_neg (fun hd => hc (h.2 hd))]
def nextT (n : Int) : Int := min (min (max n 0) 1073741824 + 1) 1073741824
def countT (n : Int) : Int := min (max n 0) 65535
def moreT (n k : Int) : Int := min (countT n + countT k) 65535
def rowT (b : Bool) (n : Int) : Int := if b = true then moreT n 1 else 0

theorem c_tick_on1 (n : Int) : C f_tick_on [I 0, I n, I 1] (I (nextT n)) := by
  refine ctr [I 0, I n, I 1] run_tick_on rfl rfl rfl ?_ rfl
  unfold rt_tick_on
  simp
  have e1 : max 0 (min n 1073741824) = min (max n 0) 1073741824 := by omega
  rw [e1]
  have e2 : IntKind.i64.wrap (1073741824 - min (max n 0) 1073741824) = 1073741824 - min (max n 0) 1073741824 := by rw [wrap_i] <;> omega
  rw [e2, show max (1 : Int) 0 = 1 from rfl]
  by_cases h : min (max n 0) 1073741824 = 1073741824
  · rw [h]; simp [nextT, h, show min (1 : Int) 0 = 0 from rfl, show min (1073741825 : Int) 1073741824 = 1073741824 from rfl]
  · have e3 : min 1 (1073741824 - min (max n 0) 1073741824) = 1 := by omega
    rw [e3]
    have e4 : IntKind.i64.wrap (min (max n 0) 1073741824 + 1) = min (max n 0) 1073741824 + 1 := by rw [wrap_i] <;> omega
    simp [e4, nextT]
    omega
theorem c_tick_Next (n : Int) : C f_tick_Next [I n] (I (nextT n)) := by
  refine ctr [I n] run_tick_Next rfl rfl rfl ?_ rfl
  unfold rt_tick_Next
  refine call (c_tick_on1 n) (by simp) (by simp) ?_
  simp

theorem c_r03within (n t : Int) : C f_lockbarref03_within [I n, I t] (I (min (max n 0) t)) := by
  refine ctr [I n, I t] run_lockbarref03_within rfl rfl rfl ?_ rfl
  unfold rt_lockbarref03_within
  simp
theorem c_r03Clock (n : Int) : C f_lockbarref03_Clock [I n] (I (min (max n 0) 1073741824)) := by
  refine ctr [I n] run_lockbarref03_Clock rfl rfl rfl ?_ rfl
  unfold rt_lockbarref03_Clock
  refine call (c_r03within n 1073741824) (by simp) (by simp) ?_
  simp
theorem c_r03Next (n : Int) : C f_lockbarref03_Next [I n] (I (nextT n)) := by
  refine ctr [I n] run_lockbarref03_Next rfl rfl rfl ?_ rfl
  unfold rt_lockbarref03_Next
  refine call (c_r03Clock n) (by simp) (by simp) ?_
  simp
  rw [wrap_i (by omega) (by omega)]; rfl
theorem c_r03Count (n : Int) : C f_lockbarref03_Count [I n] (I (countT n)) := by
  refine ctr [I n] run_lockbarref03_Count rfl rfl rfl ?_ rfl
  unfold rt_lockbarref03_Count
  refine call (c_r03within n 65535) (by simp) (by simp) ?_
  simp [countT]
theorem c_r03More (n k : Int) : C f_lockbarref03_More [I n, I k] (I (moreT n k)) := by
  refine ctr [I n, I k] run_lockbarref03_More rfl rfl rfl ?_ rfl
  unfold rt_lockbarref03_More
  refine call (c_r03Count n) (by simp) (by simp) ?_
  simp
  refine call (c_r03Count k) (by simp) (by simp) ?_
  simp
  rw [wrap_i (by simp only [countT]; omega) (by simp only [countT]; omega)]; rfl
theorem c_r03Row (b : Bool) (n : Int) : C f_lockbarref03_Row [.bool b, I n] (I (rowT b n)) := by
  refine ctr [.bool b, I n] run_lockbarref03_Row rfl rfl rfl ?_ rfl
  unfold rt_lockbarref03_Row
  simp
  cases b
  · simp [rowT]
  · simp
    refine call (c_r03More n 1) (by simp) (by simp) ?_
    simp [rowT]

def imNew : Img := ⟨65535, fun _ => 0, 0, 0, 0, 0⟩
theorem imNew_ok : imNew.ok := by simp [Img.ok, imNew]
theorem c_r15New : C f_lockbarref15_New [] imNew.av := by
  refine ctr [] run_lockbarref15_New rfl rfl (by simp [AV.pure]) ?_ rfl
  unfold rt_lockbarref15_New
  simp [Img.cells, imNew]

/-- An image's rows, the first m of them gone on. -/
def rowsM (l : Lay) (im : Img) (m : Nat) : Img := { im with free := fun i => if i < m then rowT (!stale l im && !bitAt im.occ i) (im.free i) else im.free i }
theorem rowsM_zero (l : Lay) (im : Img) : rowsM l im 0 = im := by simp [rowsM]
theorem rowsM_succ (l : Lay) (im : Img) (m j : Nat) : (rowsM l im (m + 1)).free j = if j = m then rowT (!stale l im && !bitAt im.occ m) (im.free m) else (rowsM l im m).free j := by
  simp only [rowsM]
  by_cases h : j = m
  · subst h; simp
  · by_cases h2 : j < m
    · simp [h, h2, show j < m + 1 by omega]
    · simp [h, h2, show ¬ j < m + 1 by omega]
theorem stale_rows (l : Lay) (im : Img) (m : Nat) : stale l (rowsM l im m) = stale l im := rfl
def takeI (l : Lay) (im : Img) (o n r p : Int) : Img := rowsM l { im with age := 0, occ := o, nor := n, rev := r, lamp := p } 24
def tellI (l : Lay) (im : Img) (o : Int) : Img := takeI l im o 0 0 0
theorem tellI_ok (l : Lay) (im : Img) (o : Int) (h0 : 0 ≤ o) (h1 : o ≤ 4294967295) : (tellI l im o).ok := by simp [Img.ok, tellI, takeI, rowsM, h0, h1]
def imRow (f : Img) : List AV := [I (f.free 0), I (f.free 1), I (f.free 2), I (f.free 3), I (f.free 4), I (f.free 5), I (f.free 6), I (f.free 7), I (f.free 8), I (f.free 9), I (f.free 10), I (f.free 11), I (f.free 12), I (f.free 13), I (f.free 14), I (f.free 15), I (f.free 16), I (f.free 17), I (f.free 18), I (f.free 19), I (f.free 20), I (f.free 21), I (f.free 22), I (f.free 23)]

@[simp] theorem ite_I (c : Prop) [Decidable c] (a b : Int) : (if c then I a else I b) = I (if c then a else b) := by split <;> rfl
theorem c_r15rows (l : Lay) (im : Img) (hi : im.ok) : C f_lockbarref15_rows [l.av, im.av] (rowsM l im 24).av := by
  refine ctr (l.cells ++ im.cells) run_lockbarref15_rows rfl (li l im) (by simp [AV.pure]) ?_ rfl
  unfold rt_lockbarref15_rows
  simp [Lay.cells, Img.cells]
  refine RTwp_loop rfl (fun vs => ∃ m : Nat, m ≤ 24 ∧ vs = I m :: imRow (rowsM l im m)) (fun vs => match vs with | .int _ m :: _ => 24 - m.toNat | _ => 0) ⟨0, by omega, by simp [imRow, rowsM_zero]⟩ ?_
  rintro vs - ⟨m, hm, rfl⟩
  simp [imRow]
  refine ⟨fun hlt => ?_, fun hge => ?_⟩
  · have hlt' : m < 24 := by omega
    refine call (c_r15Stale l (rowsM l im m)) (by simp [Lay.cells, Img.cells]; exact ⟨rfl, rfl, rfl, rfl, rfl⟩) (by simp) ?_
    simp [stale_rows]
    refine callIf (avs := [W im.occ, I m]) (.bool (bitAt im.occ m)) rfl (fun _ => ⟨by simp, c_r15bit im.occ m hi.1.1 hi.1.2⟩) (by simp) ?_
    simp
    have hc := free_cell' (rowsM l im m) m (by omega) (by omega)
    simp only [Img.cells] at hc
    simp at hc
    simp only [show (rowsM l im m).occ = im.occ from rfl, show (rowsM l im m).nor = im.nor from rfl, show (rowsM l im m).rev = im.rev from rfl, show (rowsM l im m).lamp = im.lamp from rfl] at hc
    refine ⟨hlt, ⟨hlt, by omega⟩, ?_⟩
    refine call (avs := [.bool (!stale l im && !bitAt im.occ m), I (im.free m)]) (c_r03Row _ _) (by
      have h1 : (rowsM l im m).free m = im.free m := by simp [rowsM]
      simp [hc, h1]) (by simp) ?_
    simp [hlt]
    refine ⟨⟨m + 1, by omega, ?_⟩, ?_⟩
    · rw [wrap_succ (by omega)]
      simp [rowsM_succ]
      and_intros <;> exact ite_iff (by omega) _ _
    · rw [wrap_succ (by omega)]
      simp; omega
  · have : m = 24 := by omega
    subst this
    simp [Img.cells, rowsM]

theorem c_r15Take (l : Lay) (im : Img) (o n r p : Int) (h0 : 0 ≤ o) (h1 : o ≤ 4294967295) (n0 : 0 ≤ n) (n1 : n ≤ 4294967295) (r0 : 0 ≤ r) (r1 : r ≤ 4294967295) (p0 : 0 ≤ p) (p1 : p ≤ 4294967295) :
    C f_lockbarref15_Take [l.av, im.av, .agg [W o, W n, W r, W p]] (takeI l im o n r p).av := by
  refine ctr (l.cells ++ im.cells ++ [W o, W n, W r, W p]) run_lockbarref15_Take rfl (by simp [pureAll_append, AV.pureAll, AV.pure]) (by simp [AV.pure]) ?_ rfl
  unfold rt_lockbarref15_Take
  simp [Lay.cells, Img.cells]
  refine call (c_r15rows l { im with age := 0, occ := o, nor := n, rev := r, lamp := p } ⟨⟨h0, h1⟩, ⟨n0, n1⟩, ⟨r0, r1⟩, ⟨p0, p1⟩⟩) (by simp [Lay.cells, Img.cells]) (by simp [Img.cells, AV.scalar, AV.scalars]) ?_
  simp [Img.cells, takeI]
theorem c_tell (l : Lay) (im : Img) (o : Int) (h0 : 0 ≤ o) (h1 : o ≤ 4294967295) : C f_lockbarlaw21_tell [l.av, im.av, W o] (tellI l im o).av := by
  refine ctr (l.cells ++ im.cells ++ [W o]) run_lockbarlaw21_tell rfl (by simp [pureAll_append, AV.pureAll, AV.pure]) (by simp [AV.pure]) ?_ rfl
  unfold rt_lockbarlaw21_tell
  simp [Lay.cells, Img.cells]
  refine call (c_r15Take l im o 0 0 0 h0 h1 (by omega) (by omega) (by omega) (by omega) (by omega) (by omega)) (by simp [Lay.cells, Img.cells]) (by simp [Img.cells]) ?_
  simp [Img.cells, tellI]
def none2 : Port := ⟨0, 0⟩
def plain : Sec := ⟨1, none2, none2, none2, none2, 0, 0⟩
def lay2 : Lay := ⟨[plain, plain], [], [], [], 1, 0, 2, 0, 5, 0, 0⟩
def held2 : Hd := ⟨1, ⟨0, 0, [⟨0, 0, 1⟩, ⟨1, 0, 1⟩]⟩, [], [], 2, 0, fun _ => false, false, 0, false⟩
theorem c_two : C f_lockbarlaw21_two [] (.tup [lay2.av, held2.av]) := by
  refine ctr [] run_lockbarlaw21_two rfl rfl (by simp [AV.pure, AV.pureAll]) ?_ rfl
  unfold rt_lockbarlaw21_two
  simp [Lay.cells, Hd.cells, lay2, held2, plain, none2, Sec.cells, Step.cells]
end Go.Lb.LK

namespace Go.Lb.LK
open Go Go.Lb Go.Proofs Go.RowKit

/-! ### Points -/
theorem sortI_mem {l : List Int} {n : Int} : n ∈ sortI l ↔ n ∈ l := by unfold sortI; exact List.mem_mergeSort
theorem sortI_sorted (l : List Int) : (sortI l).Pairwise (fun x y => x ≤ y) := by
  have := List.pairwise_mergeSort (le := fun x y : Int => decide (x ≤ y)) (fun a b c h1 h2 => by simp at *; omega) (fun a b => by simp; omega) l
  exact this.imp (fun h => by simpa using h)
theorem compact_upTo {l : List Int} (hs : l.Pairwise (fun x y => x ≤ y)) : ∀ m, m ≤ l.length → (∀ n, n ∈ Go.Lib.compactUpTo l.toArray m ↔ n ∈ l.take m) ∧ (Go.Lib.compactUpTo l.toArray m).Pairwise (fun x y => x < y)
  | 0, _ => by simp [Go.Lib.compactUpTo]
  | m + 1, h => by
    obtain ⟨h1, h2⟩ := compact_upTo hs m (by omega)
    have hm : l.toArray[m]! = l[m] := by simp [show m < l.length by omega]
    rw [Go.Lib.compactUpTo_succ, hm]
    have ht : l.take (m + 1) = l.take m ++ [l[m]] := by rw [List.take_add_one, List.getElem?_eq_getElem (by omega)]; rfl
    have hle : ∀ x ∈ l.take m, x ≤ l[m] := by
      intro x hx
      obtain ⟨j, hj, rfl⟩ := List.mem_iff_getElem.1 hx
      rw [List.getElem_take]
      rw [List.length_take] at hj
      exact List.pairwise_iff_getElem.1 hs j m (by omega) (by omega) (by omega)
    cases hk : Go.Lib.keeps l.toArray m with
    | true =>
      refine ⟨fun n => ?_, ?_⟩
      · rw [ht]; simp only [h1, if_true, List.mem_append, List.mem_singleton]
      · simp only [if_true]
        rw [List.pairwise_append]
        refine ⟨h2, by simp, fun x hx y hy => ?_⟩
        simp only [List.mem_singleton] at hy; subst hy
        have hx' := (h1 x).1 hx
        have := hle x hx'
        simp only [Go.Lib.keeps, decide_eq_true_eq] at hk
        rcases hk with h0 | hk
        · subst h0; simp at hx'
        · have hm1 : l.toArray[m - 1]! = l[m - 1] := by simp [show m - 1 < l.length by omega]
          rw [hm, hm1] at hk
          obtain ⟨j, hj, rfl⟩ := List.mem_iff_getElem.1 hx'
          rw [List.getElem_take]
          rw [List.length_take] at hj
          have a1 : l[j] ≤ l[m - 1] := by
            rcases Nat.lt_or_ge j (m - 1) with hlt | hge
            · exact List.pairwise_iff_getElem.1 hs j (m - 1) (by omega) (by omega) hlt
            · have : j = m - 1 := by omega
              subst this; exact Int.le_refl _
          have a2 : l[m - 1] ≤ l[m] := by
            rcases Nat.eq_zero_or_pos m with h0 | h0
            · subst h0; exact Int.le_refl _
            · exact List.pairwise_iff_getElem.1 hs (m - 1) m (by omega) (by omega) (by omega)
          omega
    | false =>
      refine ⟨fun n => ?_, by simpa using h2⟩
      rw [ht]
      simp only [Bool.false_eq_true, if_false, List.append_nil, List.mem_append, List.mem_singleton, h1]
      refine ⟨.inl, fun h => h.elim id ?_⟩
      rintro rfl
      have hk' : ¬ (m = 0 ∨ l.toArray[m]! ≠ l.toArray[m - 1]!) := by simpa [Go.Lib.keeps] using hk
      have hm0 : m ≠ 0 := fun h => hk' (.inl h)
      have hm1 : l.toArray[m - 1]! = l[m - 1] := by simp [show m - 1 < l.length by omega]
      rw [hm, hm1] at hk'
      have : l[m] = l[m - 1] := Classical.byContradiction fun h => hk' (.inr h)
      rw [this]
      exact List.mem_iff_getElem.2 ⟨m - 1, by rw [List.length_take]; omega, by rw [List.getElem_take]⟩
theorem compactI_spec {l : List Int} (hs : l.Pairwise (fun x y => x ≤ y)) : (∀ n, n ∈ compactI l ↔ n ∈ l) ∧ (compactI l).Pairwise (fun x y => x < y) := by
  have := compact_upTo hs l.length (Nat.le_refl _)
  rwa [List.take_length] at this

theorem compact_sub (l : List Int) : ∀ m, m ≤ l.length → (Go.Lib.compactUpTo l.toArray m).Sublist (l.take m)
  | 0, _ => by simp [Go.Lib.compactUpTo]
  | m + 1, h => by
    have ih := compact_sub l m (by omega)
    have hm : l.toArray[m]! = l[m] := by simp [show m < l.length by omega]
    rw [Go.Lib.compactUpTo_succ, hm]
    have ht : l.take (m + 1) = l.take m ++ [l[m]] := by rw [List.take_add_one, List.getElem?_eq_getElem (by omega)]; rfl
    rw [ht]
    split
    · exact ih.append (List.Sublist.refl _)
    · exact ih.append (List.nil_sublist [l[m]])
theorem compact_full {l : List Int} (hs : l.Pairwise (fun x y => x < y)) : ∀ m, m ≤ l.length → (Go.Lib.compactUpTo l.toArray m).length = m
  | 0, _ => by simp [Go.Lib.compactUpTo]
  | m + 1, h => by
    have ih := compact_full hs m (by omega)
    have hm : l.toArray[m]! = l[m] := by simp [show m < l.length by omega]
    rw [Go.Lib.compactUpTo_succ]
    have hk : Go.Lib.keeps l.toArray m = true := by
      simp only [Go.Lib.keeps, decide_eq_true_eq]
      rcases Nat.eq_zero_or_pos m with h0 | h0
      · exact .inl h0
      · right
        have hm1 : l.toArray[m - 1]! = l[m - 1] := by simp [show m - 1 < l.length by omega]
        rw [hm, hm1]
        have := List.pairwise_iff_getElem.1 hs (m - 1) m (by omega) (by omega) (by omega)
        omega
    simp [hk, ih]
theorem compact_nodup (l : List Int) : (compactI (sortI l)).length < l.length ↔ ¬ l.Nodup := by
  have hp : (sortI l).Perm l := List.mergeSort_perm _ _
  have hlen : (sortI l).length = l.length := hp.length_eq
  have hs := sortI_sorted l
  constructor
  · intro h hn
    have hn2 : (sortI l).Nodup := hp.nodup_iff.2 hn
    have hlt : (sortI l).Pairwise (fun x y => x < y) := by
      refine List.Pairwise.imp₂ (R := fun x y => x ≤ y) (S := fun x y => x ≠ y) (fun a b h1 h2 => by omega) hs hn2
    have := compact_full hlt (sortI l).length (Nat.le_refl _)
    have e : compactI (sortI l) = Go.Lib.compactUpTo (sortI l).toArray (sortI l).length := by simp [compactI, Go.Lib.compact]
    rw [e] at h
    omega
  · intro hn
    refine Classical.byContradiction fun h => hn ?_
    have hsub := compact_sub (sortI l) (sortI l).length (Nat.le_refl _)
    have e : compactI (sortI l) = Go.Lib.compactUpTo (sortI l).toArray (sortI l).length := by simp [compactI, Go.Lib.compact]
    rw [← e, List.take_length] at hsub
    have heq := hsub.eq_of_length_le (by omega)
    have h2 := (compactI_spec hs).2
    rw [heq] at h2
    exact hp.nodup_iff.1 (h2.imp (fun h => by omega))
end Go.Lb.LK

namespace Go.Lb.LK
open Go Go.Lb Go.Proofs Go.RowKit

theorem c_slices_Clone_Step (l : List Step) (h : l.length ≤ 4294967296) : C f_slices_Clone_Step [steps l] (steps l) := by
  refine ctr [steps l] run_slices_Clone_Step rfl (by simp [AV.pureAll, AV.pure]) (by simp [AV.pure]) ?_ rfl
  unfold rt_slices_Clone_Step
  simp
  exact ⟨fun x _ => by simp [Step.cells], h⟩
theorem c_slices_Clone_Need (l : List Need) (h : l.length ≤ 4294967296) : C f_slices_Clone_Need [needs l] (needs l) := by
  refine ctr [needs l] run_slices_Clone_Need rfl (by simp [AV.pureAll, AV.pure]) (by simp [AV.pure]) ?_ rfl
  unfold rt_slices_Clone_Need
  simp
  exact ⟨fun x _ => by simp [Need.cells], h⟩

def total (xs : List (List Step)) : Nat := (xs.map List.length).sum
theorem total_flat (xs : List (List Step)) : xs.flatten.length = total xs := by simp [total, List.length_flatten]
theorem flatten_take (xs : List (List Step)) {i : Nat} (h : i < xs.length) : (xs.take (i + 1)).flatten = (xs.take i).flatten ++ xs[i] := by
  rw [List.take_add_one, List.getElem?_eq_getElem h, List.flatten_append]; simp
theorem total_take (xs : List (List Step)) {i : Nat} (h : i < xs.length) : total (xs.take (i + 1)) = total (xs.take i) + xs[i].length := by
  rw [← total_flat, ← total_flat, flatten_take xs h, List.length_append]
theorem total_le (xs : List (List Step)) (i : Nat) : total (xs.take i) ≤ total xs := by
  unfold total
  conv => rhs; rw [← List.take_append_drop i xs, List.map_append, List.sum_append]
  omega

theorem c_slices_Concat_Step (xs : List (List Step)) (hx : xs.length ≤ 1000000) (ht : total xs ≤ 1000000000) : C f_slices_Concat_Step [.sl (xs.map steps)] (steps xs.flatten) := by
  refine ctr [.sl (xs.map steps)] run_slices_Concat_Step rfl (by simp [AV.pureAll, AV.pure, pureAll_map steps (fun x => by simp [AV.pure])]) (by simp only [AV.pure]; exact steps_pure _) ?_ rfl
  unfold rt_slices_Concat_Step
  simp
  refine RTwp_loop rfl (fun vs => ∃ i : Nat, i ≤ xs.length ∧ vs = [I (total (xs.take i)), I i]) (fun vs => match vs with | [_, .int _ j] => xs.length - j.toNat | _ => 0) ⟨0, by simp, by simp [total]⟩ ?_
  rintro vs - ⟨i, hi, rfl⟩
  have hti := total_le xs i
  simp
  refine ⟨fun hlt => ?_, fun hge => ?_⟩
  · have hw := wrap_succ (i := i) (by omega)
    have ht1 := total_take xs hlt
    have ht2 := total_le xs (i + 1)
    have hw2 : IntKind.i64.wrap ((total (xs.take i) : Int) + xs[i].length) = (total (xs.take (i + 1)) : Int) := by rw [wrap_i] <;> omega
    simp [hlt, hw2]
    exact ⟨⟨i + 1, by omega, rfl, hw⟩, by rw [hw]; omega⟩
  · have hti : xs.take i = xs := List.take_of_length_le hge
    have w0 : IntKind.i64.wrap 0 = 0 := by decide
    have wt : IntKind.i64.wrap (total xs : Int) = total xs := by rw [wrap_i] <;> omega
    simp [hti, w0, wt]
    refine ⟨fun hpos => ⟨by omega, ?_⟩, fun hz => ?_⟩
    all_goals
      refine RTwp_loop rfl (fun vs => ∃ i : Nat, i ≤ xs.length ∧ vs = [steps (xs.take i).flatten, I i]) (fun vs => match vs with | [_, .int _ j] => xs.length - j.toNat | _ => 0) ⟨0, by simp, by simp⟩ ?_
      rintro vs - ⟨j, hj, rfl⟩
      have htj := total_le xs j
      rw [← total_flat] at htj
      simp only [envOf, List.cons_append, List.nil_append]
      have hfl := fun h => flatten_take xs (i := j) h
      generalize hcur : (xs.take j).flatten = cur at htj hfl ⊢
      simp
      refine ⟨fun hlt => ?_, fun hge => ?_⟩
      · have hw := wrap_succ (i := j) (by omega)
        have ht1 := total_take xs hlt
        have ht2 := total_le xs (j + 1)
        rw [← total_flat (xs.take j), hcur] at ht1
        simp [hlt]
        refine ⟨fun x _ => by simp [Step.cells], by omega, ⟨j + 1, by omega, ?_, hw⟩, by rw [hw]; omega⟩
        have := congrArg (List.map Step.av) (hfl hlt)
        simpa using this.symm
      · have : xs.take j = xs := List.take_of_length_le hge
        simp [← hcur, this]


/-- None of them. -/
def NoneIn {α : Type} (q : α → Bool) (l : List α) : Prop := l.any q = false
theorem NoneIn.nil {α : Type} (q : α → Bool) : NoneIn q [] := rfl
theorem any_hit {α : Type} {q : α → Bool} {l : List α} {i : Nat} (hi : i < l.length) (hq : q l[i] = true) : l.any q = true := List.any_eq_true.2 ⟨l[i], List.getElem_mem hi, hq⟩
theorem any_step {α : Type} {q : α → Bool} {l : List α} {i : Nat} (hi : i < l.length) (h : NoneIn q (l.take i)) (hq : q l[i] = false) : NoneIn q (l.take (i + 1)) := by
  unfold NoneIn at *
  rw [List.take_add_one, List.getElem?_eq_getElem hi, List.any_append, h]; simp [hq]
def both (x y : Need) : Bool := decide (x.p = y.p) && !decide (x.pos = y.pos)
def clashN (a b : List Need) : Bool := a.any fun x => b.any fun y => both x y

theorem c_held_clash (a b : List Need) (ha : a.length ≤ 4294967296) (hb : b.length ≤ 4294967296) : C f_held_clash [needs a, needs b] (.bool (clashN a b)) := by
  refine ctr [needs a, needs b] run_held_clash rfl (by simp [AV.pureAll, AV.pure]) rfl ?_ rfl
  unfold rt_held_clash
  simp
  refine RTwp_loop rfl (fun vs => ∃ i : Nat, i ≤ a.length ∧ vs = [I i] ∧ NoneIn (fun x => b.any fun y => both x y) (a.take i)) (fun vs => match vs with | [.int _ j] => a.length - j.toNat | _ => 0) ⟨0, by simp, by simp, rfl⟩ ?_
  rintro vs - ⟨i, hi, rfl, hn⟩
  simp
  refine ⟨fun hlt => ?_, fun hge => ?_⟩
  · simp [hlt, Need.cells]
    refine RTwp_loop rfl (fun vs => ∃ j : Nat, j ≤ b.length ∧ vs = [I j] ∧ NoneIn (fun y => both a[i] y) (b.take j)) (fun vs => match vs with | [.int _ k] => b.length - k.toNat | _ => 0) ⟨0, by simp, by simp, rfl⟩ ?_
    rintro vs - ⟨j, hj, rfl, hm⟩
    simp
    refine ⟨fun hlt2 => ?_, fun hge2 => ?_⟩
    · have hw := wrap_succ (i := j) (by omega)
      simp [hlt, hlt2, Need.cells]
      by_cases h1 : a[i].p = b[j].p <;> by_cases h2 : a[i].pos = b[j].pos
      · simp [h1, h2, hw]
        exact ⟨⟨j + 1, by omega, rfl, any_step hlt2 hm (by simp [both, h1, h2])⟩, by omega⟩
      · simp [h1, h2]
        exact any_hit hlt (any_hit hlt2 (by simp [both, h1, h2]))
      · simp [h1, hw]
        exact ⟨⟨j + 1, by omega, rfl, any_step hlt2 hm (by simp [both, h1])⟩, by omega⟩
      · simp [h1, hw]
        exact ⟨⟨j + 1, by omega, rfl, any_step hlt2 hm (by simp [both, h1])⟩, by omega⟩
    · have hb2 : b.take j = b := List.take_of_length_le (by omega)
      rw [hb2] at hm
      have hw := wrap_succ (i := i) (by omega)
      simp [hw]
      exact ⟨⟨i + 1, by omega, rfl, any_step hlt hn hm⟩, by omega⟩
  · have ha2 : a.take i = a := List.take_of_length_le (by omega)
    rw [ha2] at hn
    have hn2 : clashN a b = false := hn
    simp [hn2]

theorem c_route_Own (p : Path) (h : p.steps.length ≤ 4294967296) : C f_route_Own [p.av] p.av := by
  refine ctr p.cells run_route_Own rfl (by simp) (by simp [AV.pure]) ?_ rfl
  unfold rt_route_Own
  simp [Path.cells]
  refine call (c_slices_Clone_Step p.steps h) (by simp) (by simp) ?_
  simp [Path.cells]
def Hd.len (h : Hd) : Prop := h.path.steps.length ≤ 1000000 ∧ h.over.length ≤ 1000000 ∧ h.needs.length ≤ 1000000
theorem c_held_Own (h : Hd) (hl : h.len) : C f_held_Own [h.av] h.av := by
  obtain ⟨h1, h2, h3⟩ := hl
  refine ctr h.cells run_held_Own rfl (by simp) (by simp [AV.pure]) ?_ rfl
  unfold rt_held_Own
  simp [Hd.cells]
  refine call (c_route_Own h.path (by omega)) (by simp [Path.cells]) (by simp) ?_
  simp
  refine call (c_slices_Clone_Step h.over (by omega)) (by simp) (by simp) ?_
  simp
  refine call (c_slices_Clone_Need h.needs (by omega)) (by simp) (by simp) ?_
  simp [Path.cells, Hd.cells]

def holdsN (h : Hd) (x : Need) : Bool := decide (max h.gone 0 ≤ x.k) && (!decide (x.k = h.path.steps.length) || !h.opn)
def needsN (h : Hd) : List Need := h.needs.filter (holdsN h)
theorem c_held_Needs (h : Hd) (hl : h.len) : C f_held_Needs [h.av] (needs (needsN h)) := by
  obtain ⟨h1, h2, h3⟩ := hl
  refine ctr h.cells run_held_Needs rfl (by simp) (by simp [AV.pure]) ?_ rfl
  unfold rt_held_Needs
  simp [Hd.cells]
  refine RTwp_loop rfl (fun vs => ∃ i : Nat, i ≤ h.needs.length ∧ vs = [needs ((h.needs.take i).filter (holdsN h)), I i]) (fun vs => match vs with | [_, .int _ j] => h.needs.length - j.toNat | _ => 0) ⟨0, by simp, by simp⟩ ?_
  rintro vs - ⟨i, hi, rfl⟩
  simp
  refine ⟨fun hlt => ?_, fun hge => ?_⟩
  · have hw := wrap_succ (i := i) (by omega)
    have hfl := filter_take_len (holdsN h) h.needs i
    have hft := filter_take (holdsN h) h.needs hlt
    simp [hlt, Need.cells]
    rw [hw]
    cases hq : holdsN h h.needs[i]
    · left
      refine ⟨?_, ⟨i + 1, by omega, by rw [hft, hq]; simp, rfl⟩, by omega⟩
      intro hk
      simpa [holdsN, hk] using hq
    · right
      refine ⟨by simpa [holdsN] using hq, by omega, ⟨i + 1, by omega, by rw [hft, hq]; simp [Need.cells], rfl⟩, by omega⟩
  · have : h.needs.take i = h.needs := List.take_of_length_le (by omega)
    simp [this, needsN]
end Go.Lb.LK

namespace Go.Lb.LK
open Go Go.Lb Go.Proofs Go.RowKit

def Hd.g1 (h : Hd) : Prop := 1 ≤ h.id ∧ h.id ≤ 1073741824 ∧ 0 ≤ h.timer ∧ h.timer ≤ 1073741824 ∧ 1 ≤ h.path.steps.length ∧ h.path.steps.length ≤ 12 ∧ h.over.length ≤ 2
def Hd.g2 (h : Hd) : Prop := 1 ≤ h.stage ∧ h.stage < 5 ∧ 0 ≤ h.gone ∧ h.gone ≤ h.path.steps.length
def Hd.wasOk (h : Hd) : Bool := (List.range 12).all fun k => decide (k < h.path.steps.length) || !h.was k
def needOk (n : Nat) (x : Need) : Bool := decide (0 ≤ x.k ∧ x.k ≤ n ∧ 0 ≤ x.p ∧ x.p < 24 ∧ 0 ≤ x.pos ∧ x.pos ≤ 1)
def Hd.secs (h : Hd) : List Int := (h.path.steps ++ h.over).map (·.s)
instance (h : Hd) : Decidable h.g1 := by unfold Hd.g1; infer_instance
instance (h : Hd) : Decidable h.g2 := by unfold Hd.g2; infer_instance
def rightS (h : Hd) : Bool := decide h.g1 && (decide h.g2 && (!clashN h.needs h.needs && (h.wasOk && (decide h.secs.Nodup && h.needs.all (needOk h.path.steps.length)))))

theorem wc (w : Nat → Bool) (n j : Nat) (hn : n ≤ 12) (hj : j < 12) : (if j < min n 12 then ((List.take n (wcells w))[j]?.getD .undef).cells[0]?.getD .undef else B false) = B (decide (j < n) && w j) := by
  by_cases h : j < n
  · have h2 : j < min n 12 := by omega
    rw [if_pos h2, List.getElem?_take, if_pos h]
    have := wget w hj .undef
    rw [List.getD_eq_getElem?_getD] at this
    rw [this]; simp [h]
  · have h2 : ¬ j < min n 12 := by omega
    rw [if_neg h2]; simp [h]
theorem wci (w : Nat → Bool) (n j : Nat) (i : Int) (hi : i = j) (hn : n ≤ 12) (hj : j < 12) : (if i < ((min n 12 : Nat) : Int) then ((List.take n (wcells w))[j]?.getD .undef).cells[0]?.getD .undef else B false) = B (decide (j < n) && w j) := by
  rw [← wc w n j hn hj]
  exact ite_iff (by omega) _ _
theorem take_ok (w : Nat → Bool) (n : Nat) : ∀ e ∈ List.take n (wcells w), e.cells.length = 1 ∧ AV.ones e.cells = true := by
  intro e he
  have := List.mem_of_mem_take he
  simp only [wcells, List.mem_cons, List.not_mem_nil, or_false] at this
  rcases this with rfl | rfl | rfl | rfl | rfl | rfl | rfl | rfl | rfl | rfl | rfl | rfl <;> simp

theorem c_held_Right (h : Hd) (hl : h.len) (hs : 0 ≤ h.stage ∧ h.stage ≤ 255) : C f_held_Right [h.av] (.bool (rightS h)) := by
  obtain ⟨l1, l2, l3⟩ := hl
  refine ctr h.cells run_held_Right rfl (by simp) rfl ?_ rfl
  unfold rt_held_Right
  simp [Hd.cells]
  by_cases g1 : h.g1
  · have g1' := g1
    obtain ⟨a1, a2, a3, a4, a5, a6, a7⟩ := g1
    have b1 : ¬ h.id < 1 := by omega
    have b2 : ¬ 1073741824 < max h.id h.timer := by omega
    have b3 : ¬ h.timer < 0 := by omega
    have b4 : ¬ ((h.path.steps.length : Int) < 1) := by omega
    have b5 : ¬ (12 < (h.path.steps.length : Int)) := by omega
    have b6 : ¬ (2 < (h.over.length : Int)) := by omega
    have b7 : (0 : Int) < h.path.steps.length := by omega
    refine ⟨fun hh => by simp [b1, b2, b3, b5, b6] at hh; omega, ?_⟩
    intro _ _ _ _ _ _
    refine callIf (avs := [needs h.needs, needs h.needs]) (.bool (clashN h.needs h.needs)) rfl (fun _ => ⟨by simp, c_held_clash _ _ (by omega) (by omega)⟩) (by simp) ?_
    by_cases g2 : h.g2
    · have g2' := g2
      obtain ⟨d1, d2, d3, d4⟩ := g2
      have e1 : ¬ h.stage = 0 := by omega
      have e2 : ¬ 5 ≤ h.stage := by omega
      have e3 : ¬ h.gone < 0 := by omega
      have e4 : ¬ (h.path.steps.length : Int) < h.gone := by omega
      cases hc : clashN h.needs h.needs
      · have tk := take_ok h.was h.path.steps.length
        have c0 := wc h.was h.path.steps.length 0 a6 (by omega)
        have c1 := wci h.was h.path.steps.length 1 1 rfl a6 (by omega)
        have c2 := wci h.was h.path.steps.length 2 2 rfl a6 (by omega)
        have c3 := wci h.was h.path.steps.length 3 3 rfl a6 (by omega)
        have c4 := wci h.was h.path.steps.length 4 4 rfl a6 (by omega)
        have c5 := wci h.was h.path.steps.length 5 5 rfl a6 (by omega)
        have c6 := wci h.was h.path.steps.length 6 6 rfl a6 (by omega)
        have c7 := wci h.was h.path.steps.length 7 7 rfl a6 (by omega)
        have c8 := wci h.was h.path.steps.length 8 8 rfl a6 (by omega)
        have c9 := wci h.was h.path.steps.length 9 9 rfl a6 (by omega)
        have c10 := wci h.was h.path.steps.length 10 10 rfl a6 (by omega)
        have c11 := wci h.was h.path.steps.length 11 11 rfl a6 (by omega)
        simp only [AV.cells, wcells] at tk c0 c1 c2 c3 c4 c5 c6 c7 c8 c9 c10 c11
        simp [e1, e2, e3, e4, c0, c1, c2, c3, c4, c5, c6, c7, c8, c9, c10, c11]
        refine ⟨by omega, tk, fun hh => ?_, ?_⟩
        · have hw : h.wasOk = false := by
            cases hq : h.wasOk
            · rfl
            · exfalso
              simp only [Hd.wasOk, List.all_eq_true, List.mem_range, Bool.or_eq_true, decide_eq_true_eq, Bool.not_eq_true'] at hq
              have hstep : ∀ k, k < 12 → h.was k = true → h.path.steps.length ≤ k → False := fun k hk h1 h2 => by
                rcases hq k hk with h3 | h3
                · omega
                · rw [h1] at h3; cases h3
              rcases hh with ⟨h1, h2⟩ | ⟨h1, h2⟩ | ⟨h1, h2⟩ | ⟨h1, h2⟩ | ⟨h1, h2⟩ | ⟨h1, h2⟩ | ⟨h1, h2⟩ | ⟨h1, h2⟩ | ⟨h1, h2⟩ | ⟨h1, h2⟩ | ⟨h1, h2⟩ | ⟨h1, h2⟩
              · rw [h2] at a5; simp at a5
              all_goals exact hstep _ (by omega) h1 h2
          simp [rightS, hw]
        · intro w0 w1 w2 w3 w4 w5 w6 w7 w8 w9 w10 w11
          have hw : h.wasOk = true := by
            simp only [Hd.wasOk, List.all_eq_true, List.mem_range, Bool.or_eq_true, decide_eq_true_eq, Bool.not_eq_true']
            intro k hk
            cases hq : h.was k
            · exact .inr rfl
            · left
              match k, hk, hq with
              | 0, _, hq => exact w0 hq
              | 1, _, hq => exact w1 hq
              | 2, _, hq => exact w2 hq
              | 3, _, hq => exact w3 hq
              | 4, _, hq => exact w4 hq
              | 5, _, hq => exact w5 hq
              | 6, _, hq => exact w6 hq
              | 7, _, hq => exact w7 hq
              | 8, _, hq => exact w8 hq
              | 9, _, hq => exact w9 hq
              | 10, _, hq => exact w10 hq
              | 11, _, hq => exact w11 hq
          refine call (c_slices_Concat_Step [h.path.steps, h.over] (by simp) (by simp [total]; omega)) (by simp) (by simp) ?_
          generalize hall : [h.path.steps, h.over].flatten = all
          have hal : all = h.path.steps ++ h.over := by rw [← hall]; simp
          have hlen : all.length = h.path.steps.length + h.over.length := by rw [hal]; simp
          simp
          refine RTwp_loop rfl (fun vs => ∃ i : Nat, i ≤ all.length ∧ vs = [ints ((all.take i).map (·.s)), I i]) (fun vs => match vs with | [_, .int _ j] => all.length - j.toNat | _ => 0) ⟨0, by simp, by simp⟩ ?_
          rintro vs - ⟨i, hi, rfl⟩
          simp
          refine ⟨fun hlt => ?_, fun hge => ?_⟩
          · have hwr := wrap_succ (i := i) (by omega)
            have hmt := map_take (fun x : Step => x.s) all hlt
            simp [hlt, Step.cells, hwr]
            refine ⟨by omega, ⟨i + 1, by omega, ?_, by omega⟩, by omega⟩
            rw [List.take_add_one, List.getElem?_map, List.getElem?_eq_getElem hlt]; rfl
          · have hta : List.take i (List.map (I ∘ fun x : Step => x.s) all) = (all.map (·.s)).map I := by
              rw [List.take_of_length_le (by simp; omega), List.map_map]
            rw [hta]
            refine ⟨all.map (·.s), by simp; omega, by simp, ?_⟩
            refine ⟨sortI (all.map (·.s)), by simp [sortI]; omega, rfl, ?_⟩
            have hsec : h.secs = all.map (·.s) := by rw [hal]; rfl
            have hcl := compactI_le (sortI (all.map (·.s)))
            have hsl : (sortI (all.map (·.s))).length = all.length := by simp [sortI]
            have hwa : IntKind.i64.wrap ((h.path.steps.length : Int) + h.over.length) = h.path.steps.length + h.over.length := by rw [wrap_i] <;> omega
            simp [hwa]
            have hnd := compact_nodup (all.map (·.s))
            rw [List.length_map, hlen] at hnd
            refine ⟨fun hh => ?_, fun hh => ?_⟩
            · have : ¬ h.secs.Nodup := by rw [hsec]; exact hnd.1 (by omega)
              simp [rightS, this]
            · have hno : h.secs.Nodup := by
                rw [hsec]
                refine Classical.byContradiction fun hn => ?_
                have := hnd.2 hn
                omega
              have hr : rightS h = h.needs.all (needOk h.path.steps.length) := by simp [rightS, g1', g2', hc, hw, hno]
              rw [hr]
              refine RTwp_loop rfl (fun vs => ∃ i : Nat, i ≤ h.needs.length ∧ vs = [I i] ∧ NoneIn (fun x => !needOk h.path.steps.length x) (h.needs.take i)) (fun vs => match vs with | [.int _ j] => h.needs.length - j.toNat | _ => 0) ⟨0, by simp, by simp, rfl⟩ ?_
              rintro vs - ⟨k, hk, rfl, hq⟩
              simp
              refine ⟨fun hlt => ?_, fun hge => ?_⟩
              · have hwr := wrap_succ (i := k) (by omega)
                simp [hlt, Need.cells, hwr]
                have hf : h.needs[k].pos.fdiv (2 ^ min 1 IntKind.i64.bits) = 0 ↔ 0 ≤ h.needs[k].pos ∧ h.needs[k].pos ≤ 1 := by
                  have e : (2 : Int) ^ min 1 IntKind.i64.bits = 2 := by decide
                  rw [e, Int.fdiv_eq_ediv_of_nonneg _ (by omega)]; omega
                rw [hf]
                cases hok : needOk h.path.steps.length h.needs[k]
                · right
                  refine ⟨?_, h.needs[k], List.getElem_mem hlt, hok⟩
                  simp only [needOk, decide_eq_false_iff_not] at hok
                  omega
                · left
                  have hok2 := hok
                  simp only [needOk, decide_eq_true_eq] at hok2
                  exact ⟨by omega, ⟨k + 1, by omega, by omega, any_step hlt hq (by simp [hok])⟩, by omega⟩
              · have : h.needs.take k = h.needs := List.take_of_length_le (by omega)
                rw [this] at hq
                unfold NoneIn at hq
                simp at hq
                exact fun x hx => hq x hx
      · have hr : rightS h = false := by simp [rightS, g1', g2', hc]
        simp [e1, e2, e3, e4, hr]
    · have hr : rightS h = false := by simp [rightS, g2]
      rw [hr]
      have hg : h.stage = 0 ∨ 5 ≤ h.stage ∨ h.gone < 0 ∨ (h.path.steps.length : Int) < h.gone := by
        unfold Hd.g2 at g2; omega
      by_cases e1 : h.stage = 0
      · simp [e1]
      · by_cases e2 : 5 ≤ h.stage
        · simp [e1, e2]
        · by_cases e3 : h.gone < 0
          · simp [e1, e2, e3]
          · have e4 : (h.path.steps.length : Int) < h.gone := by omega
            simp [e1, e2, e3, e4]
  · have hr : rightS h = false := by simp [rightS, g1]
    rw [hr]
    refine ⟨fun _ => rfl, ?_⟩
    intro h1 h2 h3 h4 h5 h6
    exfalso
    unfold Hd.g1 at g1
    omega
end Go.Lb.LK

namespace Go.Lb.LK
open Go Go.Lb Go.Proofs Go.RowKit

def great7 (l : Lay) : Bool := (l.exits.take 21).any (fun e => decide ((e.over.length : Int) > 20)) || decide ((l.secs.length : Int) > 30) || decide ((l.sigs.length : Int) > 20) || decide ((l.exits.length : Int) > 20) || decide ((l.flanks.length : Int) > 30)
theorem great7_small {l : Lay} (h : great7 l = false) : l.secs.length ≤ 30 ∧ l.sigs.length ≤ 20 ∧ l.exits.length ≤ 20 ∧ l.flanks.length ≤ 30 ∧ ∀ e ∈ l.exits, e.over.length ≤ 20 := by
  simp only [great7, Bool.or_eq_false_iff, decide_eq_false_iff_not] at h
  obtain ⟨⟨⟨⟨h1, h2⟩, h3⟩, h4⟩, h5⟩ := h
  refine ⟨by omega, by omega, by omega, by omega, fun e he => ?_⟩
  rw [List.take_of_length_le (by omega)] at h1
  have := List.any_eq_false.1 h1 e he
  simp at this; omega
theorem c_r07_Great (l : Lay) : C f_lockbarref07_Great [l.av] (.bool (great7 l)) := by
  refine ctr l.cells run_lockbarref07_Great rfl (by simp) rfl ?_ rfl
  unfold rt_lockbarref07_Great
  simp [Lay.cells]
  refine RTwp_loop rfl (fun vs => ∃ j : Nat, j ≤ l.exits.length ∧ j ≤ 21 ∧ vs = [I j] ∧ (l.exits.take j).any (fun e => decide ((e.over.length : Int) > 20)) = false) (fun vs => match vs with | [.int _ j] => 22 - j.toNat | _ => 0) ⟨0, by simp⟩ ?_
  rintro vs - ⟨j, hj, hj2, rfl, hprev⟩
  simp
  refine ⟨fun hlt hle => ?_, fun hstop => ?_⟩
  · have hw := wrap_succ (i := j) (by omega)
    simp [hlt, Exi.cells]
    by_cases hbig : 20 < (l.exits[j].over.length : Int)
    · refine .inr ⟨by omega, ?_⟩
      have : (l.exits.take 21).any (fun e => decide ((e.over.length : Int) > 20)) = true := by
        refine List.any_eq_true.2 ⟨l.exits[j], List.mem_iff_getElem.2 ⟨j, by rw [List.length_take]; omega, by rw [List.getElem_take]⟩, by simpa using hbig⟩
      simp only [great7, this, Bool.true_or]
    · refine .inl ⟨by omega, ⟨j + 1, by omega, by omega, hw, fun y hy => ?_⟩, by rw [hw]; omega⟩
      rw [List.take_add_one, List.getElem?_eq_getElem hlt] at hy
      rcases List.mem_append.1 hy with hy | hy
      · have := List.any_eq_false.1 hprev y hy
        simp at this; omega
      · simp at hy; subst hy; omega
  · have hno : (l.exits.take 21).any (fun e => decide ((e.over.length : Int) > 20)) = false := by
      by_cases hlt : j < l.exits.length
      · have : j = 21 := by have := hstop hlt; omega
        rw [← this]; exact hprev
      · rw [List.take_of_length_le (show l.exits.length ≤ j by omega)] at hprev
        refine List.any_eq_false.2 fun y hy => ?_
        have := List.any_eq_false.1 hprev y (List.mem_of_mem_take hy)
        exact this
    simp only [great7, hno, Bool.false_or]


theorem c_r17clash (a b : List Need) (ha : a.length ≤ 4294967296) (hb : b.length ≤ 4294967296) : C f_lockbarref17_clash [needs a, needs b] (.bool (clashN a b)) := by
  refine ctr [needs a, needs b] run_lockbarref17_clash rfl (by simp [AV.pureAll, AV.pure]) rfl ?_ rfl
  unfold rt_lockbarref17_clash
  refine RTwp_loop rfl (fun vs => ∃ i : Nat, i ≤ a.length ∧ vs = [I i] ∧ NoneIn (fun x => b.any fun y => both x y) (a.take i)) (fun vs => match vs with | [.int _ j] => a.length - j.toNat | _ => 0) ⟨0, by simp, by simp, rfl⟩ ?_
  rintro vs - ⟨i, hi, rfl, hn⟩
  simp
  refine ⟨fun hlt => ?_, fun hge => ?_⟩
  · refine RTwp_loop rfl (fun vs => ∃ j : Nat, j ≤ b.length ∧ vs = [I j] ∧ NoneIn (fun y => both a[i] y) (b.take j)) (fun vs => match vs with | [.int _ k] => b.length - k.toNat | _ => 0) ⟨0, by simp, by simp, rfl⟩ ?_
    rintro vs - ⟨j, hj, rfl, hm⟩
    simp
    refine ⟨fun hlt2 => ?_, fun hge2 => ?_⟩
    · have hw := wrap_succ (i := j) (by omega)
      simp [hlt, hlt2, Need.cells]
      by_cases h1 : a[i].p = b[j].p <;> by_cases h2 : a[i].pos = b[j].pos
      · simp [h1, h2, hw]
        exact ⟨⟨j + 1, by omega, rfl, any_step hlt2 hm (by simp [both, h1, h2])⟩, by omega⟩
      · simp [h1, h2]
        exact any_hit hlt (any_hit hlt2 (by simp [both, h1, h2]))
      · simp [h1, hw]
        exact ⟨⟨j + 1, by omega, rfl, any_step hlt2 hm (by simp [both, h1])⟩, by omega⟩
      · simp [h1, hw]
        exact ⟨⟨j + 1, by omega, rfl, any_step hlt2 hm (by simp [both, h1])⟩, by omega⟩
    · have hb2 : b.take j = b := List.take_of_length_le (by omega)
      rw [hb2] at hm
      have hw := wrap_succ (i := i) (by omega)
      simp [hw]
      exact ⟨⟨i + 1, by omega, rfl, any_step hlt hn hm⟩, by omega⟩
  · have ha2 : a.take i = a := List.take_of_length_le (by omega)
    rw [ha2] at hn
    have hn2 : clashN a b = false := hn
    simp [hn2]

theorem c_r17Needs (h : Hd) (hl : h.len) : C f_lockbarref17_Needs [h.av] (needs (needsN h)) := by
  obtain ⟨h1, h2, h3⟩ := hl
  refine ctr h.cells run_lockbarref17_Needs rfl (by simp) (by simp [AV.pure]) ?_ rfl
  unfold rt_lockbarref17_Needs
  simp [Hd.cells]
  refine RTwp_loop rfl (fun vs => ∃ i : Nat, i ≤ h.needs.length ∧ vs = [needs ((h.needs.take i).filter (holdsN h)), I i]) (fun vs => match vs with | [_, .int _ j] => h.needs.length - j.toNat | _ => 0) ⟨0, by simp, by simp⟩ ?_
  rintro vs - ⟨i, hi, rfl⟩
  simp
  refine ⟨fun hlt => ?_, fun hge => ?_⟩
  · have hw := wrap_succ (i := i) (by omega)
    have hfl := filter_take_len (holdsN h) h.needs i
    have hft := filter_take (holdsN h) h.needs hlt
    simp [hlt, Need.cells]
    rw [hw]
    cases hq : holdsN h h.needs[i]
    · left
      refine ⟨?_, ⟨i + 1, by omega, by rw [hft, hq]; simp, rfl⟩, by omega⟩
      intro hk
      simpa [holdsN, hk] using hq
    · right
      refine ⟨by simpa [holdsN] using hq, by omega, ⟨i + 1, by omega, by rw [hft, hq]; simp [Need.cells], rfl⟩, by omega⟩
  · have : h.needs.take i = h.needs := List.take_of_length_le (by omega)
    simp [this, needsN]

def overS (h : Hd) : Bool := decide ((h.path.steps.length : Int) ≤ max h.gone 0) && h.opn
theorem c_r17Over (h : Hd) : C f_lockbarref17_Over [h.av] (.bool (overS h)) := by
  refine ctr h.cells run_lockbarref17_Over rfl (by simp) rfl ?_ rfl
  unfold rt_lockbarref17_Over
  simp [Hd.cells, overS]
theorem c_r11Own (p : Path) (h : p.steps.length ≤ 4294967296) : C f_lockbarref11_Own [p.av] p.av := by
  refine ctr p.cells run_lockbarref11_Own rfl (by simp) (by simp [AV.pure]) ?_ rfl
  unfold rt_lockbarref11_Own
  simp [Path.cells]
  exact ⟨fun x _ => by simp [Step.cells], h⟩
theorem c_r17Own (h : Hd) (hl : h.len) : C f_lockbarref17_Own [h.av] h.av := by
  obtain ⟨h1, h2, h3⟩ := hl
  refine ctr h.cells run_lockbarref17_Own rfl (by simp) (by simp [AV.pure]) ?_ rfl
  unfold rt_lockbarref17_Own
  simp [Hd.cells]
  refine call (c_r11Own h.path (by omega)) (by simp [Path.cells]) (by simp) ?_
  simp [Path.cells, Hd.cells]
  exact ⟨fun x _ => by simp [Step.cells], by omega, fun x _ => by simp [Need.cells], by omega⟩

theorem step_eqs (x y : Step) : AV.eqs x.cells y.cells = decide (x = y) := by
  obtain ⟨a, b, c⟩ := x
  obtain ⟨d, e, f⟩ := y
  simp [Step.cells, AV.eqs, AV.eq1]
  by_cases h1 : a = d <;> by_cases h2 : b = e <;> by_cases h3 : c = f <;> simp [h1, h2, h3]
theorem need_eqs (x y : Need) : AV.eqs x.cells y.cells = decide (x = y) := by
  obtain ⟨a, b, c⟩ := x
  obtain ⟨d, e, f⟩ := y
  simp [Need.cells, AV.eqs, AV.eq1]
  by_cases h1 : a = d <;> by_cases h2 : b = e <;> by_cases h3 : c = f <;> simp [h1, h2, h3]

theorem step_ext {x y : Step} (h1 : x.s = y.s) (h2 : x.i = y.i) (h3 : x.o = y.o) : x = y := by
  obtain ⟨a, b, c⟩ := x
  obtain ⟨d, e, f⟩ := y
  simp only at h1 h2 h3
  rw [h1, h2, h3]
theorem c_lockbarref11_Steps (a b : List Step) (ha : a.length ≤ 4294967296) : C f_lockbarref11_Steps [steps a, steps b] (.bool (decide (a = b))) := by
  refine ctr [steps a, steps b] run_lockbarref11_Steps rfl (by simp [AV.pureAll, AV.pure]) rfl ?_ rfl
  unfold rt_lockbarref11_Steps
  simp
  by_cases hl : a.length = b.length
  · simp [hl]
    refine RTwp_loop rfl (fun vs => ∃ i : Nat, i ≤ a.length ∧ vs = [I i] ∧ a.take i = b.take i) (fun vs => match vs with | [.int _ j] => a.length - j.toNat | _ => 0) ⟨0, by simp, by simp, by simp⟩ ?_
    rintro vs - ⟨i, hi, rfl, hq⟩
    simp
    refine ⟨fun hlt => ?_, fun hge => ?_⟩
    · have hlt2 : i < b.length := by omega
      have hw := wrap_succ (i := i) (by omega)
      have he := step_eqs a[i] b[i]
      simp [hlt, hlt2, Step.cells] at he ⊢
      by_cases hab : a[i] = b[i]
      · simp [hab] at he ⊢
        rw [hw]
        refine ⟨⟨i + 1, by omega, rfl, ?_⟩, by omega⟩
        rw [List.take_add_one, List.take_add_one, List.getElem?_eq_getElem hlt, List.getElem?_eq_getElem hlt2, hq, hab]
      · right
        refine ⟨fun h1 h2 h3 => hab (step_ext h1 h2 h3), ?_⟩
        rintro rfl
        exact hab rfl
    · have h1 : a.take i = a := List.take_of_length_le (by omega)
      have h2 : b.take i = b := List.take_of_length_le (by omega)
      rw [h1, h2] at hq
      simp [hq]
  · have hne : a ≠ b := fun h => hl (by rw [h])
    have hl2 : ¬ (a.length : Int) = b.length := by omega
    simp [hne]
    exact fun h => absurd h hl2

theorem need_ext {x y : Need} (h1 : x.p = y.p) (h2 : x.pos = y.pos) (h3 : x.k = y.k) : x = y := by
  obtain ⟨a, b, c⟩ := x
  obtain ⟨d, e, f⟩ := y
  simp only at h1 h2 h3
  rw [h1, h2, h3]
theorem c_lockbarref17_All (a b : List Need) (ha : a.length ≤ 4294967296) : C f_lockbarref17_All [needs a, needs b] (.bool (decide (a = b))) := by
  refine ctr [needs a, needs b] run_lockbarref17_All rfl (by simp [AV.pureAll, AV.pure]) rfl ?_ rfl
  unfold rt_lockbarref17_All
  simp
  by_cases hl : a.length = b.length
  · simp [hl]
    refine RTwp_loop rfl (fun vs => ∃ i : Nat, i ≤ a.length ∧ vs = [I i] ∧ a.take i = b.take i) (fun vs => match vs with | [.int _ j] => a.length - j.toNat | _ => 0) ⟨0, by simp, by simp, by simp⟩ ?_
    rintro vs - ⟨i, hi, rfl, hq⟩
    simp
    refine ⟨fun hlt => ?_, fun hge => ?_⟩
    · have hlt2 : i < b.length := by omega
      have hw := wrap_succ (i := i) (by omega)
      have he := need_eqs a[i] b[i]
      simp [hlt, hlt2, Need.cells] at he ⊢
      by_cases hab : a[i] = b[i]
      · simp [hab] at he ⊢
        rw [hw]
        refine ⟨⟨i + 1, by omega, rfl, ?_⟩, by omega⟩
        rw [List.take_add_one, List.take_add_one, List.getElem?_eq_getElem hlt, List.getElem?_eq_getElem hlt2, hq, hab]
      · right
        refine ⟨fun h1 h2 h3 => hab (need_ext h1 h2 h3), ?_⟩
        rintro rfl
        exact hab rfl
    · have h1 : a.take i = a := List.take_of_length_le (by omega)
      have h2 : b.take i = b := List.take_of_length_le (by omega)
      rw [h1, h2] at hq
      simp [hq]
  · have hne : a ≠ b := fun h => hl (by rw [h])
    have hl2 : ¬ (a.length : Int) = b.length := by omega
    simp [hne]
    exact fun h => absurd h hl2

def pathSame (a b : Path) : Bool := decide (a.sig = b.sig) && (decide (a.exit = b.exit) && decide (a.steps = b.steps))
theorem c_r11Same (a b : Path) (ha : a.steps.length ≤ 4294967296) : C f_lockbarref11_Same [a.av, b.av] (.bool (pathSame a b)) := by
  refine ctr (a.cells ++ b.cells) run_lockbarref11_Same rfl (by simp [pureAll_append]) rfl ?_ rfl
  unfold rt_lockbarref11_Same
  simp [Path.cells]
  refine callIf (avs := [steps a.steps, steps b.steps]) (.bool (decide (a.steps = b.steps))) rfl (fun _ => ⟨by simp, c_lockbarref11_Steps _ _ ha⟩) (by simp) ?_
  by_cases h1 : a.sig = b.sig <;> by_cases h2 : a.exit = b.exit <;> simp [pathSame, h1, h2]
def great17 (h : Hd) : Bool := decide (30 < h.path.steps.length) || (decide (20 < h.over.length) || decide (60 < h.needs.length))
theorem c_r17Great (h : Hd) : C f_lockbarref17_Great [h.av] (.bool (great17 h)) := by
  refine ctr h.cells run_lockbarref17_Great rfl (by simp) rfl ?_ rfl
  unfold rt_lockbarref17_Great
  simp [Hd.cells]
  have e1 : decide (30 < (h.path.steps.length : Int)) = decide (30 < h.path.steps.length) := decide_eq_decide.2 (by omega)
  have e2 : decide (20 < (h.over.length : Int)) = decide (20 < h.over.length) := decide_eq_decide.2 (by omega)
  have e3 : decide (60 < (h.needs.length : Int)) = decide (60 < h.needs.length) := decide_eq_decide.2 (by omega)
  simp [great17, e1, e2, e3, Bool.or_assoc]
theorem small17 {h : Hd} (hg : great17 h = false) : h.len ∧ h.path.steps.length ≤ 30 ∧ h.over.length ≤ 20 ∧ h.needs.length ≤ 60 := by
  simp only [great17, Bool.or_eq_false_iff, decide_eq_false_iff_not] at hg
  exact ⟨⟨by omega, by omega, by omega⟩, by omega, by omega, by omega⟩

theorem bdec (x y : Bool) : decide (x = y) = (x == y) := by cases x <;> cases y <;> rfl
def wasSame (a b : Hd) : Bool := AV.eqs [.bool (a.was 0), .bool (a.was 1), .bool (a.was 2), .bool (a.was 3), .bool (a.was 4), .bool (a.was 5), .bool (a.was 6), .bool (a.was 7), .bool (a.was 8), .bool (a.was 9), .bool (a.was 10), .bool (a.was 11)] [.bool (b.was 0), .bool (b.was 1), .bool (b.was 2), .bool (b.was 3), .bool (b.was 4), .bool (b.was 5), .bool (b.was 6), .bool (b.was 7), .bool (b.was 8), .bool (b.was 9), .bool (b.was 10), .bool (b.was 11)]
theorem wasSame_refl (a : Hd) : wasSame a a = true := by simp [wasSame]
def sameS (a b : Hd) : Bool := decide (a.id = b.id) && (pathSame a.path b.path && (decide (a.over = b.over) && (decide (a.needs = b.needs) && (decide (a.stage = b.stage) && (decide (a.gone = b.gone) && (wasSame a b && ((a.opn == b.opn) && (decide (a.timer = b.timer) && (a.shown == b.shown)))))))))
theorem sameS_refl (a : Hd) : sameS a a = true := by simp [sameS, wasSame_refl, pathSame]
theorem c_r17Same (a b : Hd) (ha : a.len) : C f_lockbarref17_Same [a.av, b.av] (.bool (sameS a b)) := by
  obtain ⟨l1, l2, l3⟩ := ha
  refine ctr (a.cells ++ b.cells) run_lockbarref17_Same rfl (by simp [pureAll_append]) rfl ?_ rfl
  unfold rt_lockbarref17_Same
  simp [Hd.cells]
  refine callIf (avs := [a.path.av, b.path.av]) (.bool (pathSame a.path b.path)) rfl (fun _ => ⟨by simp [Path.cells], c_r11Same _ _ (by omega)⟩) (by simp) ?_
  simp
  refine callIf (avs := [steps a.over, steps b.over]) (.bool (decide (a.over = b.over))) rfl (fun _ => ⟨by simp, c_lockbarref11_Steps _ _ (by omega)⟩) (by simp) ?_
  simp
  refine callIf (avs := [needs a.needs, needs b.needs]) (.bool (decide (a.needs = b.needs))) rfl (fun _ => ⟨by simp, c_lockbarref17_All _ _ (by omega)⟩) (by simp) ?_
  simp [sameS, wasSame, Bool.and_assoc]
  simp only [bdec]
end Go.Lb.LK

namespace Go.Lb.LK
open Go Go.Lb Go.Proofs Go.RowKit

def Hd.n (h : Hd) : Nat := h.path.steps.length
def standsS (l : Lay) (im : Img) (h : Hd) : Bool := (needsN h).all fun x => decide (atP l im x.p = x.pos)
def asleepS (l : Lay) (im : Img) (h : Hd) : Bool := !rightS h || stale l im
def secOf (h : Hd) (k : Nat) : Int := (h.path.steps[k]?.map (·.s)).getD 0
def wr (l : Lay) (im : Img) (h : Hd) : Nat → Bool
  | 0 => h.was 0 || (decide (h.gone ≤ 0 ∧ 0 < h.n) && told l im (secOf h 0))
  | k + 1 => h.was (k + 1) || (decide (h.gone ≤ (k + 1 : Nat) ∧ k + 1 < h.n) && (told l im (secOf h (k + 1)) && wr l im h k))
def wrM (l : Lay) (im : Img) (h : Hd) (m : Nat) : Nat → Bool := fun j => if j < m then wr l im h j else h.was j
def canGo (l : Lay) (im : Img) (h : Hd) (g : Nat) : Bool := decide (g < h.n) && (wr l im h g && ((decide (g + 1 = h.n) || wr l im h (g + 1)) && !occupied l im (secOf h g)))
def goF (l : Lay) (im : Img) (h : Hd) : Nat → Nat → Nat
  | 0, g => g
  | f + 1, g => if canGo l im h g = true then goF l im h f (g + 1) else g
def goX (l : Lay) (im : Img) (h : Hd) (g : Nat) : Nat := goF l im h (h.n - g) g
theorem canGo_lt {l : Lay} {im : Img} {h : Hd} {g : Nat} (hc : canGo l im h g = true) : g < h.n := by
  simp only [canGo, Bool.and_eq_true, decide_eq_true_eq] at hc; exact hc.1
theorem goX_go {l : Lay} {im : Img} {h : Hd} {g : Nat} (hc : canGo l im h g = true) : goX l im h g = goX l im h (g + 1) := by
  have := canGo_lt hc
  unfold goX
  obtain ⟨f, hf⟩ : ∃ f, h.n - g = f + 1 := ⟨h.n - g - 1, by omega⟩
  rw [hf, show h.n - (g + 1) = f by omega]
  simp [goF, hc]
theorem goX_stop {l : Lay} {im : Img} {h : Hd} {g : Nat} (hc : canGo l im h g = false) : goX l im h g = g := by
  unfold goX
  cases h.n - g with
  | zero => rfl
  | succ f => simp [goF, hc]
theorem goX_ge {l : Lay} {im : Img} {h : Hd} : ∀ {f g : Nat}, g ≤ goF l im h f g
  | 0, g => Nat.le_refl _
  | f + 1, g => by
    simp only [goF]
    split
    · have := @goX_ge l im h f (g + 1); omega
    · exact Nat.le_refl _
theorem goF_le {l : Lay} {im : Img} {h : Hd} : ∀ {f g : Nat}, g ≤ h.n → goF l im h f g ≤ h.n
  | 0, g, hg => hg
  | f + 1, g, hg => by
    simp only [goF]
    split
    · rename_i hc
      exact goF_le (canGo_lt hc)
    · exact hg
/-- What was gone through could be. -/
theorem goF_all {l : Lay} {im : Img} {h : Hd} : ∀ {f g k : Nat}, g ≤ k → k < goF l im h f g → canGo l im h k = true
  | 0, g, k, h1, h2 => by simp only [goF] at h2; omega
  | f + 1, g, k, h1, h2 => by
    simp only [goF] at h2
    split at h2
    · rename_i hc
      by_cases hk : g = k
      · subst hk; exact hc
      · exact goF_all (show g + 1 ≤ k by omega) h2
    · omega
/-- Where it stops it could go no further. -/
theorem goX_end {l : Lay} {im : Img} {h : Hd} : ∀ {f g : Nat}, h.n - g ≤ f → canGo l im h (goF l im h f g) = false
  | 0, g, hf => by
    cases hc : canGo l im h g with
    | false => exact hc
    | true => have := canGo_lt hc; omega
  | f + 1, g, hf => by
    simp only [goF]
    split
    · rename_i hc
      exact goX_end (by omega)
    · rename_i hc; simpa using hc
def lastW (l : Lay) (im : Img) (h : Hd) : Bool := wr l im h (h.n - 1)
def timerS (l : Lay) (im : Img) (h : Hd) : Int := if lastW l im h = true then nextT h.timer else h.timer
def opnS (l : Lay) (im : Img) (h : Hd) : Bool := h.opn || (decide (goX l im h h.gone.toNat = h.n) || (lastW l im h && decide (l.over ≤ timerS l im h)))
def runS (l : Lay) (im : Img) (h : Hd) : Hd :=
  if asleepS l im h = true then h else { h with was := wr l im h, gone := goX l im h h.gone.toNat, timer := timerS l im h, opn := opnS l im h }
def tickS (l : Lay) (im : Img) (h : Hd) : Hd :=
  if asleepS l im h = true then h
  else if h.stage = 1 then (if standsS l im h = true then { h with stage := 2 } else h)
  else if h.stage = 2 then (if told l im (secOf h 0) = true then runS l im { h with stage := 3, timer := 0 } else h)
  else if h.stage = 3 then runS l im h else h

theorem wr_low {l : Lay} {im : Img} {h : Hd} {k : Nat} (hk : (k : Int) < h.gone) : wr l im h k = h.was k := by
  cases k with
  | zero => simp only [wr]; rw [decide_eq_false (by omega)]; simp
  | succ k => simp only [wr]; rw [decide_eq_false (by omega)]; simp
theorem wr_high {l : Lay} {im : Img} {h : Hd} {k : Nat} (hk : h.n ≤ k) : wr l im h k = h.was k := by
  cases k with
  | zero => simp only [wr]; rw [decide_eq_false (by omega)]; simp
  | succ k => simp only [wr]; rw [decide_eq_false (by omega)]; simp
theorem wr_was {l : Lay} {im : Img} {h : Hd} {k : Nat} (hw : h.was k = true) : wr l im h k = true := by
  cases k <;> simp [wr, hw]
theorem wr_new {l : Lay} {im : Img} {h : Hd} {k : Nat} (hw : h.was k = false) (hr : wr l im h k = true) : h.gone ≤ k ∧ k < h.n ∧ told l im (secOf h k) = true ∧ (k = 0 ∨ wr l im h (k - 1) = true) := by
  cases k with
  | zero =>
    simp only [wr, hw, Bool.false_or, Bool.and_eq_true, decide_eq_true_eq] at hr
    exact ⟨by omega, hr.1.2, hr.2, .inl rfl⟩
  | succ k =>
    simp only [wr, hw, Bool.false_or, Bool.and_eq_true, decide_eq_true_eq] at hr
    exact ⟨hr.1.1, hr.1.2, hr.2.1, .inr hr.2.2⟩
theorem wrM_zero {l : Lay} {im : Img} {h : Hd} {m : Nat} (hm : (m : Int) ≤ h.gone) : wrM l im h m = h.was := by
  funext j
  unfold wrM
  split
  · exact wr_low (by omega)
  · rfl
theorem wrM_all {l : Lay} {im : Img} {h : Hd} {m : Nat} (hm : h.n ≤ m) : wrM l im h m = wr l im h := by
  funext j
  unfold wrM
  split
  · rfl
  · exact (wr_high (by omega)).symm
theorem wrM_succ {l : Lay} {im : Img} {h : Hd} {m : Nat} (j : Nat) : wrM l im h (m + 1) j = if j = m then wr l im h m else wrM l im h m j := by
  unfold wrM
  by_cases h1 : j = m
  · subst h1; simp
  · by_cases h2 : j < m
    · simp [h1, h2, show j < m + 1 by omega]
    · simp [h1, h2, show ¬ j < m + 1 by omega]
theorem wr_at {l : Lay} {im : Img} {h : Hd} {k : Nat} (h1 : h.gone ≤ k) (h2 : k < h.n) : wr l im h k = (h.was k || (told l im (secOf h k) && (decide (k = 0) || wr l im h (k - 1)))) := by
  cases k with
  | zero => simp only [wr]; rw [decide_eq_true (by omega : h.gone ≤ 0 ∧ 0 < h.n)]; simp
  | succ k => simp only [wr]; rw [decide_eq_true (by omega : h.gone ≤ (k + 1 : Nat) ∧ k + 1 < h.n)]; simp
theorem wrM_same {l : Lay} {im : Img} {h : Hd} {k : Nat} (hk : wr l im h k = h.was k) : wrM l im h (k + 1) = wrM l im h k := by
  funext j
  rw [wrM_succ]
  split
  · rename_i h1; subst h1; rw [hk]; simp [wrM]
  · rfl
theorem wrM_on {l : Lay} {im : Img} {h : Hd} {k : Nat} (hk : wr l im h k = true) (j : Nat) : wrM l im h (k + 1) j = (decide (j = k) || wrM l im h k j) := by
  rw [wrM_succ]
  by_cases h1 : j = k
  · subst h1; simp [hk]
  · simp [h1]
theorem wtail_get (w : Nat → Bool) (t : List AV) {i : Nat} (h : i < 12) : ((AV.bool (w 0) :: AV.bool (w 1) :: AV.bool (w 2) :: AV.bool (w 3) :: AV.bool (w 4) :: AV.bool (w 5) :: AV.bool (w 6) :: AV.bool (w 7) :: AV.bool (w 8) :: AV.bool (w 9) :: AV.bool (w 10) :: AV.bool (w 11) :: t)[i]?).getD .undef = .bool (w i) := by
  match i, h with
  | 0, _ => rfl
  | 1, _ => rfl
  | 2, _ => rfl
  | 3, _ => rfl
  | 4, _ => rfl
  | 5, _ => rfl
  | 6, _ => rfl
  | 7, _ => rfl
  | 8, _ => rfl
  | 9, _ => rfl
  | 10, _ => rfl
  | 11, _ => rfl
  | n + 12, h => exact absurd h (by omega)
theorem aidx8 (w : Nat → Bool) (a0 a1 a2 a3 a4 a5 a6 a7 : AV) (t : List AV) {i : Nat} {z : Int} (hz : z = i) (h : i < 12) : pv (.aidx 12 1 8 1 false) [.agg (a0 :: a1 :: a2 :: a3 :: a4 :: a5 :: a6 :: a7 :: AV.bool (w 0) :: AV.bool (w 1) :: AV.bool (w 2) :: AV.bool (w 3) :: AV.bool (w 4) :: AV.bool (w 5) :: AV.bool (w 6) :: AV.bool (w 7) :: AV.bool (w 8) :: AV.bool (w 9) :: AV.bool (w 10) :: AV.bool (w 11) :: t), I z] = .bool (w i) := by
  subst hz
  match i, h with
  | 0, _ => rfl
  | 1, _ => rfl
  | 2, _ => rfl
  | 3, _ => rfl
  | 4, _ => rfl
  | 5, _ => rfl
  | 6, _ => rfl
  | 7, _ => rfl
  | 8, _ => rfl
  | 9, _ => rfl
  | 10, _ => rfl
  | 11, _ => rfl
  | n + 12, h => exact absurd h (by omega)
theorem aidx0 (w : Nat → Bool) {i : Nat} {z : Int} (hz : z = i) (h : i < 12) : pv (.aidx 12 1 0 1 false) [.agg [AV.bool (w 0), AV.bool (w 1), AV.bool (w 2), AV.bool (w 3), AV.bool (w 4), AV.bool (w 5), AV.bool (w 6), AV.bool (w 7), AV.bool (w 8), AV.bool (w 9), AV.bool (w 10), AV.bool (w 11)], I z] = .bool (w i) := by
  subst hz
  match i, h with
  | 0, _ => rfl
  | 1, _ => rfl
  | 2, _ => rfl
  | 3, _ => rfl
  | 4, _ => rfl
  | 5, _ => rfl
  | 6, _ => rfl
  | 7, _ => rfl
  | 8, _ => rfl
  | 9, _ => rfl
  | 10, _ => rfl
  | 11, _ => rfl
  | n + 12, h => exact absurd h (by omega)
end Go.Lb.LK

namespace Go.Lb.LK
open Go Go.Lb Go.Proofs Go.RowKit

theorem lih (l : Lay) (im : Img) (h : Hd) : AV.pureAll (l.cells ++ im.cells ++ h.cells) = true := by simp [pureAll_append]
theorem needsN_len (h : Hd) : (needsN h).length ≤ h.needs.length := List.length_filter_le _ _
theorem c_pass_Stands (l : Lay) (im : Img) (hi : im.ok) (h : Hd) (hl : h.len) : C f_pass_Stands [l.av, im.av, h.av] (.bool (standsS l im h)) := by
  refine ctr (l.cells ++ im.cells ++ h.cells) run_pass_Stands rfl (lih l im h) rfl ?_ rfl
  unfold rt_pass_Stands
  have hn := needsN_len h
  have hl3 := hl.2.2
  simp [Lay.cells, Img.cells, Hd.cells]
  refine call (c_held_Needs h hl) (by simp [Hd.cells]) (by simp) ?_
  simp
  refine RTwp_loop rfl (fun vs => ∃ i : Nat, i ≤ (needsN h).length ∧ vs = [I i] ∧ NoneIn (fun x => !decide (atP l im x.p = x.pos)) ((needsN h).take i)) (fun vs => match vs with | [.int _ j] => (needsN h).length - j.toNat | _ => 0) ⟨0, by simp, by simp, rfl⟩ ?_
  rintro vs - ⟨i, hik, rfl, hq⟩
  simp
  refine ⟨fun hlt => ?_, fun hge => ?_⟩
  · have hw := wrap_succ (i := i) (by omega)
    simp [hlt, Need.cells]
    refine call (c_image_At l im hi (needsN h)[i].p) (by simp [Lay.cells, Img.cells, hlt, Need.cells]) (by simp) ?_
    simp [hlt, Need.cells]
    cases hq2 : decide (atP l im (needsN h)[i].p = (needsN h)[i].pos)
    · have hq3 : ¬ atP l im (needsN h)[i].p = (needsN h)[i].pos := by simpa using hq2
      simp [hq3]
      have : standsS l im h = false := by
        unfold standsS
        rw [List.all_eq_false]
        exact ⟨_, List.getElem_mem hlt, by simpa using hq3⟩
      simp [this]
    · have hq3 : atP l im (needsN h)[i].p = (needsN h)[i].pos := by simpa using hq2
      simp [hq3, hw]
      exact ⟨⟨i + 1, by omega, rfl, any_step hlt hq (by simp [hq3])⟩, by omega⟩
  · have : (needsN h).take i = needsN h := List.take_of_length_le (by omega)
    rw [this] at hq
    unfold NoneIn at hq
    have : standsS l im h = true := by
      unfold standsS
      simpa using hq
    simp [this]
theorem c_r21Stands (l : Lay) (im : Img) (hi : im.ok) (h : Hd) (hl : h.len) : C f_lockbarref21_Stands [l.av, im.av, h.av] (.bool (standsS l im h)) := by
  refine ctr (l.cells ++ im.cells ++ h.cells) run_lockbarref21_Stands rfl (lih l im h) rfl ?_ rfl
  unfold rt_lockbarref21_Stands
  have hn := needsN_len h
  have hl3 := hl.2.2
  simp [Lay.cells, Img.cells, Hd.cells]
  refine call (c_r17Needs h hl) (by simp [Hd.cells]) (by simp) ?_
  simp
  refine RTwp_loop rfl (fun vs => ∃ i : Nat, i ≤ (needsN h).length ∧ vs = [I i] ∧ NoneIn (fun x => !decide (atP l im x.p = x.pos)) ((needsN h).take i)) (fun vs => match vs with | [.int _ j] => (needsN h).length - j.toNat | _ => 0) ⟨0, by simp, by simp, rfl⟩ ?_
  rintro vs - ⟨i, hik, rfl, hq⟩
  simp
  refine ⟨fun hlt => ?_, fun hge => ?_⟩
  · have hw := wrap_succ (i := i) (by omega)
    simp [hlt, Need.cells]
    refine call (c_r15At l im hi (needsN h)[i].p) (by simp [Lay.cells, Img.cells, hlt, Need.cells]) (by simp) ?_
    simp [hlt, Need.cells]
    cases hq2 : decide (atP l im (needsN h)[i].p = (needsN h)[i].pos)
    · have hq3 : ¬ atP l im (needsN h)[i].p = (needsN h)[i].pos := by simpa using hq2
      simp [hq3]
      have : standsS l im h = false := by
        unfold standsS
        rw [List.all_eq_false]
        exact ⟨_, List.getElem_mem hlt, by simpa using hq3⟩
      simp [this]
    · have hq3 : atP l im (needsN h)[i].p = (needsN h)[i].pos := by simpa using hq2
      simp [hq3, hw]
      exact ⟨⟨i + 1, by omega, rfl, any_step hlt hq (by simp [hq3])⟩, by omega⟩
  · have : (needsN h).take i = needsN h := List.take_of_length_le (by omega)
    rw [this] at hq
    unfold NoneIn at hq
    have : standsS l im h = true := by
      unfold standsS
      simpa using hq
    simp [this]
theorem c_pass_asleep (l : Lay) (im : Img) (h : Hd) (hl : h.len) (hs : 0 ≤ h.stage ∧ h.stage ≤ 255) : C f_pass_asleep [l.av, im.av, h.av] (.bool (asleepS l im h)) := by
  refine ctr (l.cells ++ im.cells ++ h.cells) run_pass_asleep rfl (lih l im h) rfl ?_ rfl
  unfold rt_pass_asleep
  simp [Lay.cells, Img.cells, Hd.cells]
  refine call (c_held_Right h hl hs) (by simp [Hd.cells]) (by simp) ?_
  simp
  refine callIf (avs := [l.av, im.av]) (.bool (stale l im)) rfl (fun _ => ⟨by simp [Lay.cells, Img.cells], c_image_Stale l im⟩) (by simp) ?_
  cases hq : rightS h <;> simp [asleepS, hq]
def secsN (h : Hd) : List Int := (h.path.steps.drop h.gone.toNat).map (·.s) ++ if h.opn = true then [] else h.over.map (·.s)
theorem take_drop_succ {α : Type} (l : List α) {g i : Nat} (hg : g ≤ i) (h : i < l.length) : (l.take (i + 1)).drop g = (l.take i).drop g ++ [l[i]] := by
  rw [List.take_add_one, List.getElem?_eq_getElem h, List.drop_append_of_le_length (by rw [List.length_take]; omega)]; rfl
theorem secsN_len (h : Hd) : (secsN h).length ≤ h.path.steps.length + h.over.length := by
  unfold secsN
  rw [List.length_append, List.length_map, List.length_drop]
  split <;> simp <;> omega
theorem c_r17Sections (h : Hd) (hl : h.len) : C f_lockbarref17_Sections [h.av] (ints (secsN h)) := by
  obtain ⟨h1, h2, h3⟩ := hl
  refine ctr h.cells run_lockbarref17_Sections rfl (by simp) (by simp) ?_ rfl
  unfold rt_lockbarref17_Sections
  simp [Hd.cells]
  obtain ⟨g, hg⟩ : ∃ g : Nat, g = h.gone.toNat := ⟨_, rfl⟩
  refine RTwp_loop rfl (fun vs => ∃ i : Nat, g ≤ i ∧ vs = [ints (((h.path.steps.take i).drop g).map (·.s)), I i]) (fun vs => match vs with | [_, .int _ j] => h.path.steps.length - j.toNat | _ => 0) ⟨g, by omega, by simp; omega⟩ ?_
  rintro vs - ⟨i, hgi, rfl⟩
  simp
  refine ⟨fun hlt => ?_, fun hge => ?_⟩
  · have hw := wrap_succ (i := i) (by omega)
    have := take_drop_succ h.path.steps hgi hlt
    simp [hlt, Step.cells, hw]
    refine ⟨by omega, ⟨i + 1, by omega, ?_, by omega⟩, by omega⟩
    have e := congrArg (List.map (I ∘ fun x : Step => x.s)) this
    simp at e
    exact e.symm
  · have ht : (h.path.steps.map (fun x => x.s)).take i = h.path.steps.map (fun x => x.s) := List.take_of_length_le (by simp; omega)
    rw [ht]
    refine RTwp_loop rfl (fun vs => ∃ k : Nat, k ≤ h.over.length ∧ (h.opn = true → k = 0) ∧ vs = [ints ((h.path.steps.drop g).map (·.s) ++ (h.over.take k).map (·.s)), I k]) (fun vs => match vs with | [_, .int _ j] => h.over.length - j.toNat | _ => 0) ⟨0, by omega, by simp, by simp⟩ ?_
    rintro vs - ⟨k, hk, hko, rfl⟩
    simp
    cases ho : h.opn
    · simp
      refine ⟨fun hlt => ?_, fun hge => ?_⟩
      · have hw := wrap_succ (i := k) (by omega)
        have hmt := map_take (I ∘ fun x : Step => x.s) h.over hlt
        simp [hlt, Step.cells, hw]
        refine ⟨by omega, ⟨k + 1, by omega, ?_, by omega⟩, by omega⟩
        simpa using hmt.symm
      · have : h.over.take k = h.over := List.take_of_length_le (by omega)
        simp [secsN, ho, this, hg]
        rw [List.take_of_length_le (by simpa using hge)]
    · simp [secsN, ho, hg, hko ho]
theorem c_r17Has (h : Hd) (hl : h.len) (s : Int) : C f_lockbarref17_Has [h.av, I s] (.bool (decide (s ∈ secsN h))) := by
  have hl' := hl
  obtain ⟨h1, h2, h3⟩ := hl
  have hsl := secsN_len h
  refine ctr (h.cells ++ [I s]) run_lockbarref17_Has rfl (by simp [pureAll_append, AV.pureAll, AV.pure]) rfl ?_ rfl
  unfold rt_lockbarref17_Has
  simp [Hd.cells]
  refine call (c_r17Sections h hl') (by simp [Hd.cells]) (by simp) ?_
  simp
  refine RTwp_loop rfl (fun vs => ∃ i : Nat, i ≤ (secsN h).length ∧ vs = [I i] ∧ NoneIn (fun x => decide (x = s)) ((secsN h).take i)) (fun vs => match vs with | [.int _ j] => (secsN h).length - j.toNat | _ => 0) ⟨0, by simp, by simp, rfl⟩ ?_
  rintro vs - ⟨i, hik, rfl, hq⟩
  simp
  refine ⟨fun hlt => ?_, fun hge => ?_⟩
  · have hw := wrap_succ (i := i) (by omega)
    simp [hlt, hw]
    by_cases he : (secsN h)[i] = s
    · right
      exact ⟨he, he ▸ List.getElem_mem hlt⟩
    · left
      exact ⟨he, ⟨i + 1, by omega, by omega, any_step hlt hq (by simpa using he)⟩, by omega⟩
  · have : (secsN h).take i = secsN h := List.take_of_length_le (by omega)
    rw [this] at hq
    unfold NoneIn at hq
    simp at hq
    exact fun hm => hq s hm rfl
end Go.Lb.LK
