/- Contracts over this program. -/
import Derived.Test.YtkcpgfjlmicnnaaGreatDoorCh2
import Derived.Test.YtkcpgfjlmicnnaaGreatDoorFw11
set_option linter.unusedSimpArgs false
set_option linter.unusedVariables false
namespace Go.Lb.LK
open Go Go.Lb Go.Proofs Go.RowKit
theorem zeq {P : Program} {f : FuncId} {avs : List AV} {vs : List Value} {r : AV} {v : Value} (hr : r.pure = true) (ha : ∀ c us, Rvs c avs us → us = vs) (hv : ∀ c, Rv c r v) (h : ∀ w, Calls P f ⟨vs⟩ w fun e w' => e = .returned v ∧ w' = w) : zbh P [] f avs r := by
 refine ⟨hr, fun w c us _ him _ hvs => ?_⟩
 rw [ha c us hvs]
 refine (h w).mono ?_
 rintro e w' ⟨rfl, rfl⟩
 exact ⟨v, c, rfl, Cx.Le.refl c, by assumption, him, fun _ _ => ⟨fun _ _ h => h, fun _ h => h⟩, hv c, Below.refl _ _⟩
theorem EOkS : EnvOk ES := ⟨fun f h => by simp [ES] at h, fun f h => by simp [ES] at h, fun f h => by simp [ES] at h, fun g es h => by simp [ES] at h⟩
theorem bits0 : zbh PR [] f_mathbits_Len [.int .u64 0] (.int .i64 0) := by
 refine zeq (vs := [.int .u64 0]) (v := .int .i64 0) rfl (fun c us h => ?_) (fun c => .int _ _) (fun w => Tryz.bits_Len 0 w (by omega) (by omega))
 cases h with
 | cons _ v _ vs h1 h2 => cases h1; cases h2; rfl
theorem sort0 : zbh PR [] f_slices_Sort_int [.sl []] (.tup []) := by
 refine zfu EOkS EmixS [] run_slices_Sort_int rfl rfl rfl ?_ rfl
 unfold rt_slices_Sort_int
 refine zdW.2 ⟨fun _ => by simp, ?_⟩
 refine zc8.2 (zdW.2 ⟨fun _ => by simp, zc8.2 ?_⟩)
 refine zgf (r := .int .i64 0) bits0 (by simp) ?_
 simp
 refine zae rfl (fun vs => vs = []) (fun _ => 0) rfl ?_
 rintro vs - rfl
 simp
 refine zae rfl (fun vs => vs = []) (fun _ => 0) rfl ?_
 rintro vs - rfl
 simp
theorem srtOk : zm3 PR f_slices_Sort_int := ⟨fun blk off cap zs w h1 h2 h3 => Tryz.slices_Sort_int blk off cap zs w h1 h2 h3, sort0⟩
theorem cptOk : zm0 PR f_slices_Compact_int := ⟨fun blk off cap zs w h1 h2 h3 => Tryz.slices_Compact_int blk off cap zs w h1 h2 h3, fun a cap w => Tryz.slices_Compact_int_empty a cap w⟩
theorem EOk : EnvOk E := by
 refine ⟨fun f h => ?_, fun f h => ?_, delOk, fun g es h => ?_⟩
 ·have : f = f_slices_Compact_int := by simpa [E, cptF] using h
  rw [this]; exact cptOk
 ·have : f = f_slices_Sort_int := by simpa [E, srtF] using h
  rw [this]; exact srtOk
 ·have hall : (GL.all fun es => SE.wfs 0 (fun _ => false) es) = true := by kernel_rfl
  have hm : es ∈ GL := by
   have h : GL[g]? = some es := h
   exact List.mem_of_getElem? h
  exact List.all_eq_true.1 hall es hm
abbrev C (f : Nat) (avs : List AV) (r : AV) : Prop := zbh PR GL f avs r
theorem ctr {f n : Nat} {args : List SE} (vs : List AV) {rt : RT} (hrun : runF E f args n = rt) (hw : SE.wfs n (fun _ => false) args = true)
  (hp : AV.pureAll vs = true) {r : AV} (hr : r.pure = true) (h : RTwp PR GL (fun x => x = r) rt (fun _ _ => False) (zcB vs)) {avs : List AV} (ha : dens (zcB vs) args = avs) : C f avs r :=
 zfu EOk Emix vs hrun hw hp hr h ha
theorem zi8 {α : Type} (p : α → Bool) (l : List α) {i : Nat} (h : i < l.length) : (l.take (i + 1)).filter p = (l.take i).filter p ++ (if p l[i] = true then [l[i]] else []) := by
 rw [List.take_add_one, List.getElem?_eq_getElem h, List.filter_append]
 congr 1
 simp only [Option.toList_some, List.filter_cons, List.filter_nil]
theorem zfw {α : Type} (p : α → Bool) (l : List α) (i : Nat) : ((l.take i).filter p).length ≤ l.length := by
 have := List.length_filter_le p (l.take i)
 have : (l.take i).length ≤ l.length := by simp; omega
 omega
theorem map_take {α β : Type} (f : α → β) (l : List α) {i : Nat} (h : i < l.length) : (l.take (i + 1)).map f = (l.take i).map f ++ [f l[i]] := by
 rw [List.take_add_one, List.getElem?_eq_getElem h, List.map_append]
 simp
@[simp] theorem znS (c : Prop) [Decidable c] (a b : Bool) : (if c then AV.bool a else AV.bool b) = AV.bool (if c then a else b) := by split <;> rfl
@[simp] theorem zoo (c : Prop) [Decidable c] (k : IntKind) (a b : Int) : (if c then AV.int k a else AV.int k b) = AV.int k (if c then a else b) := by split <;> rfl
theorem call {ρ : Nat → AV} {R : AV → Prop} {L : Nat → List AV → Prop} {n f : Nat} {args : List SE} {bo : Bool} {ns : List Nd} {k : RT} {r : AV} {avs : List AV} (hc : C f avs r) (ha : dens ρ args = avs) (hb : bo = true → r.scalar = true)
  (h : RTwp PR GL R (.seg ns k) L (zaC ρ n r)) : RTwp PR GL R (.seg (.call n [] f args bo :: ns) k) L ρ := zgf (by rw [ha]; exact hc) hb h
theorem zap {ρ : Nat → AV} {R : AV → Prop} {L : Nat → List AV → Prop} {pcs : List (SE × Bool)} {n f : Nat} {args : List SE} {bo : Bool} {ns : List Nd} {k : RT} {avs : List AV} (r : AV) (hr : r.pure = true) (hc : Holds ρ pcs → dens ρ args = avs ∧ C f avs r) (hb : bo = true → r.scalar = true)
  (h : RTwp PR GL R (.seg ns k) L (zaC ρ n r)) : RTwp PR GL R (.seg (.call n pcs f args bo :: ns) k) L ρ := zkG r hr (fun hp => ⟨by rw [(hc hp).1]; exact (hc hp).2, hb⟩) h
end Go.Lb.LK
namespace Go.Lb.LK
open Go Go.Lb Go.Proofs Go.RowKit
def stale (l : Lay) (im : Img) : Bool := decide (l.stale < im.age)
def zbC (x n : Int) : Bool := decide (0 ≤ n) && (decide (n < 32) && x.toNat.testBit n.toNat)
theorem zlP {n : Int} (h0 : 0 ≤ n) (h1 : n ≤ 4294967295) : IntKind.u32.wrap n = n := by
 simp only [IntKind.wrap, IntKind.signed, IntKind.bits]
 simp
 omega
theorem znI {n : Int} (h0 : 0 ≤ n) (h1 : n ≤ 4294967295) : IntKind.u64.wrap n = n := by
 simp only [IntKind.wrap, IntKind.signed, IntKind.bits]
 simp
 omega
theorem zoC (n : Nat) : (2 : Int) ^ n = ((2 ^ n : Nat) : Int) := by simp
theorem zm6 (x n : Nat) : (((x &&& 2 ^ n : Nat) : Int) != 0) = x.testBit n := by
 cases h : x.testBit n
 ·have : x &&& 2 ^ n = 0 := by
   apply Nat.eq_of_testBit_eq
   intro i
   rw [Nat.testBit_and, Nat.testBit_two_pow, Nat.zero_testBit]
   by_cases hi : n = i
   ·subst hi; simp [h]
   ·simp [hi]
  rw [this]; rfl
 ·have : x &&& 2 ^ n ≠ 0 := by
   intro h0
   have := congrArg (Nat.testBit · n) h0
   simp [Nat.testBit_and, h] at this
  simpa using this
theorem g1 (x n : Nat) (hx : x ≤ 4294967295) (hn : n < 32) : (IntKind.u32.wrap ((x % 2 ^ IntKind.u32.bits &&& (IntKind.u32.wrap (2 ^ min n IntKind.u32.bits) % 2 ^ IntKind.u32.bits).toNat : Nat) : Int) != 0) = x.testBit n := by
 have hb : IntKind.u32.bits = 32 := rfl
 have h2 : 2 ^ n ≤ 2 ^ 31 := Nat.pow_le_pow_right (by omega) (by omega)
 have h1 : min n 32 = n := by omega
 have h4 : 2 ^ n ≤ 4294967295 := by omega
 generalize hp : 2 ^ n = p at h4
 rw [hb, h1, zoC, hp, zlP (n := (p : Int)) (by omega) (by omega)]
 have e1 : ((p : Int) % 2 ^ 32).toNat = p := by omega
 have e2 : x % 2 ^ 32 = x := by omega
 have e3 : x &&& p ≤ x := Nat.and_le_left
 rw [e1, e2, zlP (by omega) (by omega), ← hp]
 exact zm6 x n
theorem g2 (x n : Nat) (hx : x ≤ 4294967295) (hn : n < 32) : (IntKind.u32.wrap ((((x : Int).fdiv (2 ^ min n IntKind.u32.bits) % 2 ^ IntKind.u32.bits).toNat &&& 1 % 2 ^ IntKind.u32.bits : Nat) : Int) == 1) = x.testBit n := by
 have hb : IntKind.u32.bits = 32 := rfl
 have h1 : min n 32 = n := by omega
 have e4 : Int.fdiv (x : Int) (2 ^ n) = ((x / 2 ^ n : Nat) : Int) := by
  rw [zoC]
  exact (Int.ofNat_fdiv x (2 ^ n)).symm
 have h6 : x / 2 ^ n ≤ x := Nat.div_le_self _ _
 rw [hb, h1, e4]
 have e1 : (((x / 2 ^ n : Nat) : Int) % 2 ^ 32).toNat = x / 2 ^ n := by generalize x / 2 ^ n = q at h6; omega
 have e2 : 1 % 2 ^ 32 = 1 := rfl
 rw [e1, e2, Nat.and_one_is_mod, Nat.testBit_eq_decide_div_mod_eq]
 have := Nat.mod_two_eq_zero_or_one (x / 2 ^ n)
 rcases this with h | h <;> simp [h] <;> decide
theorem zoa (x : Int) : C f_image_bit [W x] (.clo f_image_bit_1 [] [.ref [W x] 0]) := by
 refine ctr [W x] run_image_bit rfl rfl rfl ?_ rfl
 unfold rt_image_bit
 simp
theorem zmS (x n : Int) (h0 : 0 ≤ x) (h1 : x ≤ 4294967295) : C f_image_bit_1 [I n, .ref [W x] 0] (.bool (zbC x n)) := by
 refine ctr [I n, W x] run_image_bit_1 rfl rfl rfl ?_ rfl
 unfold rt_image_bit_1
 obtain ⟨x, rfl⟩ : ∃ k : Nat, x = k := ⟨x.toNat, by omega⟩
 by_cases hn : 0 ≤ n
 ·obtain ⟨n, rfl⟩ : ∃ k : Nat, n = k := ⟨n.toNat, by omega⟩
  by_cases hn2 : n < 32
  ·have h3 : ((n : Nat) : Int) < 32 := by omega
   simp [zbC, h3]
   exact g1 x n (by omega) hn2
  ·have h3 : ¬ ((n : Nat) : Int) < 32 := by omega
   simp [zbC, h3]
 ·have h3 : ¬ (n ≥ 0) := by omega
  simp [zbC, hn, h3]
theorem zg6 (x n : Int) (h0 : 0 ≤ x) (h1 : x ≤ 4294967295) : C f_lockbarref15_bit [W x, I n] (.bool (zbC x n)) := by
 refine ctr [W x, I n] run_lockbarref15_bit rfl rfl rfl ?_ rfl
 unfold rt_lockbarref15_bit
 obtain ⟨x, rfl⟩ : ∃ k : Nat, x = k := ⟨x.toNat, by omega⟩
 by_cases hn : 0 ≤ n
 ·obtain ⟨n, rfl⟩ : ∃ k : Nat, n = k := ⟨n.toNat, by omega⟩
  by_cases hn2 : n < 32
  ·have h3 : ((n : Nat) : Int) < 32 := by omega
   have e1 : IntKind.u64.wrap (n : Int) = n := znI (by omega) (by omega)
   simp [zbC, h3, e1]
   exact g2 x n (by omega) hn2
  ·have h3 : ¬ ((n : Nat) : Int) < 32 := by omega
   simp [zbC, h3]
 ·have h3 : ¬ (n ≥ 0) := by omega
  simp [zbC, hn, h3]
end Go.Lb.LK
namespace Go.Lb.LK
open Go Go.Lb Go.Proofs Go.RowKit
theorem zi3 (a t : Int) : C f_tick_Late [I a, I t] (.bool (decide (t < a))) := by
 refine ctr [I a, I t] run_tick_Late rfl rfl rfl ?_ rfl
 unfold rt_tick_Late
 simp
theorem zkO (a t : Int) : C f_lockbarref03_Late [I a, I t] (.bool (decide (t < a))) := by
 refine ctr [I a, I t] run_lockbarref03_Late rfl rfl rfl ?_ rfl
 unfold rt_lockbarref03_Late
 simp
theorem li (l : Lay) (im : Img) : AV.pureAll (l.cells ++ im.cells) = true := by simp [zaj]
theorem lii (l : Lay) (im : Img) (s : Int) : AV.pureAll (l.cells ++ im.cells ++ [I s]) = true := by simp [zaj, AV.pureAll, AV.pure]
theorem zbZ (l : Lay) (im : Img) : C f_image_Stale [l.av, im.av] (.bool (stale l im)) := by
 refine ctr (l.cells ++ im.cells) run_image_Stale rfl (li l im) rfl ?_ rfl
 unfold rt_image_Stale
 simp [Lay.cells, Img.cells]
 refine call (zi3 im.age l.stale) (by simp) (by simp) ?_
 simp [stale]
theorem zbt (l : Lay) (im : Img) : C f_lockbarref15_Stale [l.av, im.av] (.bool (stale l im)) := by
 refine ctr (l.cells ++ im.cells) run_lockbarref15_Stale rfl (li l im) rfl ?_ rfl
 unfold rt_lockbarref15_Stale
 simp [Lay.cells, Img.cells]
 refine call (zkO im.age l.stale) (by simp) (by simp) ?_
 simp [stale]
abbrev cloB (x : Int) : AV := .clo f_image_bit_1 [] [.ref [W x] 0]
theorem zg2 (l : Lay) (im : Img) : C f_image_clear [l.av, im.av] (.clo f_image_clear_1 [] [.ref [.bool (stale l im)] 0, .ref [cloB im.occ] 0]) := by
 refine ctr (l.cells ++ im.cells) run_image_clear rfl (li l im) rfl ?_ rfl
 unfold rt_image_clear
 simp [Lay.cells, Img.cells]
 refine call (zbZ l im) (by simp [Lay.cells, Img.cells]) (by simp) ?_
 simp
 refine call (zoa im.occ) (by simp) (by simp) ?_
 simp
theorem zf4 (s occ : Int) (st : Bool) (h0 : 0 ≤ occ) (h1 : occ ≤ 4294967295) : C f_image_clear_1 [I s, .ref [.bool st] 0, .ref [cloB occ] 0] (.bool (!st && !zbC occ s)) := by
 refine ctr [I s, .bool st, W occ] run_image_clear_1 rfl rfl rfl ?_ rfl
 unfold rt_image_clear_1
 simp
 refine zap (avs := [I s, .ref [W occ] 0]) (.bool (zbC occ s)) rfl (fun _ => ⟨by simp, zmS occ s h0 h1⟩) (by simp) ?_
 cases st <;> simp
def told (l : Lay) (im : Img) (s : Int) : Bool := decide (0 ≤ s ∧ s < l.secs.length ∧ s < 24) && (!stale l im && zbC im.occ s)
def zai (l : Lay) (im : Img) (s : Int) : Bool := !decide (0 ≤ s ∧ s < l.secs.length ∧ s < 24) || (stale l im || (zbC im.occ s || decide (im.free s.toNat < l.clear)))
theorem zkK {x s : Int} (h : ¬ 0 ≤ s) : zbC x s = false := by simp [zbC, h]
theorem zeN (l : Lay) (im : Img) (hi : im.ok) (s : Int) : C f_image_Told [l.av, im.av, I s] (.bool (told l im s)) := by
 refine ctr (l.cells ++ im.cells ++ [I s]) run_image_Told rfl (lii l im s) rfl ?_ rfl
 unfold rt_image_Told
 simp [Lay.cells, Img.cells]
 refine zap (avs := [W im.occ]) (cloB im.occ) rfl (fun _ => ⟨by simp, zoa im.occ⟩) (by simp) ?_
 simp
 refine zap (avs := [I s, .ref [W im.occ] 0]) (.bool (zbC im.occ s)) rfl (fun _ => ⟨by simp, zmS im.occ s hi.1.1 hi.1.2⟩) (by simp) ?_
 simp
 refine zap (avs := [l.av, im.av]) (.bool (stale l im)) rfl (fun _ => ⟨by simp [Lay.cells, Img.cells], zbZ l im⟩) (by simp) ?_
 by_cases h1 : s < l.secs.length <;> by_cases h2 : s < 24 <;> by_cases h0 : 0 ≤ s
 all_goals first | simp [told, h1, h2, h0, zkK h0, Int.lt_min] | simp [told, h1, h2, h0, Int.lt_min]
 ·cases stale l im <;> cases zbC im.occ s <;> simp
theorem zhW (l : Lay) (im : Img) (hi : im.ok) (s : Int) : C f_lockbarref15_Told [l.av, im.av, I s] (.bool (told l im s)) := by
 refine ctr (l.cells ++ im.cells ++ [I s]) run_lockbarref15_Told rfl (lii l im s) rfl ?_ rfl
 unfold rt_lockbarref15_Told
 simp [Lay.cells, Img.cells]
 refine zap (avs := [l.av, im.av]) (.bool (stale l im)) rfl (fun _ => ⟨by simp [Lay.cells, Img.cells], zbt l im⟩) (by simp) ?_
 simp
 refine zap (avs := [W im.occ, I s]) (.bool (zbC im.occ s)) rfl (fun _ => ⟨by simp, zg6 im.occ s hi.1.1 hi.1.2⟩) (by simp) ?_
 by_cases h1 : s < l.secs.length <;> by_cases h2 : s < 24 <;> by_cases h0 : 0 ≤ s
 all_goals simp [told, h1, h2, h0]
 all_goals cases stale l im <;> cases zbC im.occ s <;> simp
end Go.Lb.LK
namespace Go.Lb.LK
open Go Go.Lb Go.Proofs Go.RowKit
theorem zk8 (im : Img) (s : Int) (h0 : 0 ≤ s) (h1 : s < 24) : im.cells.getD (s.toNat * 1 + 1) .undef = I (im.free s.toNat) := by
 rw [Nat.mul_one]; exact zmo im (by omega) _
theorem zeu (im : Img) (s : Int) (h0 : 0 ≤ s) (h1 : s < 24) : (im.cells[s.toNat * 1 + 1]?).getD .undef = I (im.free s.toNat) := by
 rw [← List.getD_eq_getElem?_getD]; exact zk8 im s h0 h1
def atP (l : Lay) (im : Img) (p : Int) : Int :=
 if 0 ≤ p ∧ p < l.secs.length ∧ (l.secs[p.toNat]?.map (·.kind)) = some 2 ∧ stale l im = false then
  (if zbC im.nor p = zbC im.rev p then -1 else if zbC im.nor p = true then 0 else 1) else -1
theorem zak (l : Lay) (im : Img) (hi : im.ok) (s : Int) : C f_image_Occupied [l.av, im.av, I s] (.bool (zai l im s)) := by
 refine ctr (l.cells ++ im.cells ++ [I s]) run_image_Occupied rfl (lii l im s) rfl ?_ rfl
 unfold rt_image_Occupied
 simp [Lay.cells, Img.cells]
 by_cases hr : 0 ≤ s ∧ s < l.secs.length ∧ s < 24
 ·have h1 : ¬ s < 0 := by omega
  have h2 : ¬ min (l.secs.length : Int) 24 ≤ s := by omega
  simp [h1, h2]
  intro _ _
  refine call (zg2 l im) (by simp [Lay.cells, Img.cells]) (by simp) ?_
  simp [stale]
  refine call (zf4 s im.occ (stale l im) hi.1.1 hi.1.2) (by simp [stale]) (by simp) ?_
  have hc := zeu im s hr.1 hr.2.2
  simp only [Img.cells] at hc
  simp at hc
  simp [hc, zai, hr]
  refine ⟨fun _ => by omega, ?_⟩
  cases stale l im <;> cases zbC im.occ s <;> simp
 ·have h1 : s < 0 ∨ min (l.secs.length : Int) 24 ≤ s := by omega
  rcases h1 with h1 | h1
  ·have h2 : ¬ 0 ≤ s := by omega
   simp [zai, h1, h2]
  ·have h2 : 0 ≤ s := by omega
   have h3 : ¬ s < 0 := by omega
   have h5 : ¬ s < min (l.secs.length : Int) 24 := by omega
   simp [zai, h1, h2, h3, h5]
   exact .inl (by omega)
theorem zd2 (l : Lay) (im : Img) (hi : im.ok) (s : Int) : C f_lockbarref15_Occupied [l.av, im.av, I s] (.bool (zai l im s)) := by
 refine ctr (l.cells ++ im.cells ++ [I s]) run_lockbarref15_Occupied rfl (lii l im s) rfl ?_ rfl
 unfold rt_lockbarref15_Occupied
 simp [Lay.cells, Img.cells]
 by_cases hr : 0 ≤ s ∧ s < l.secs.length ∧ s < 24
 ·have h1 : ¬ s < 0 := by omega
  have h2 : ¬ (l.secs.length : Int) ≤ s := by omega
  have h3 : ¬ 24 ≤ s := by omega
  simp [h1, h2, h3]
  intro _ _ _
  refine call (zbt l im) (by simp [Lay.cells, Img.cells]) (by simp) ?_
  simp
  refine zap (avs := [W im.occ, I s]) (.bool (zbC im.occ s)) rfl (fun _ => ⟨by simp, zg6 im.occ s hi.1.1 hi.1.2⟩) (by simp) ?_
  have hc := zeu im s hr.1 hr.2.2
  simp only [Img.cells] at hc
  simp at hc
  simp [hc, zai, hr]
  refine ⟨?_, ?_⟩
  ·intros; omega
  ·cases stale l im <;> cases zbC im.occ s <;> simp
 ·have h1 : s < 0 ∨ (l.secs.length : Int) ≤ s ∨ 24 ≤ s := by omega
  by_cases h2 : s < 0
  ·have h0 : ¬ 0 ≤ s := by omega
   simp [zai, h2, h0]
  ·by_cases h3 : (l.secs.length : Int) ≤ s
   ·simp [zai, h2, h3]
    intros; omega
   ·have h4 : 24 ≤ s := by omega
    simp [zai, h2, h3, h4]
    intros; omega
end Go.Lb.LK
namespace Go.Lb.LK
open Go Go.Lb Go.Proofs Go.RowKit
theorem zlh {α : Type} {c d : Prop} [Decidable c] [Decidable d] (h : c ↔ d) (x y : α) : (if c then x else y) = if d then x else y := by
 by_cases hc : c
 ·rw [if_pos hc, if_pos (h.1 hc)]
 ·rw [if_neg hc, if_neg (fun hd => hc (h.2 hd))]
def zgs (n : Int) : Int := min (max n 0) 65535
def zos (n k : Int) : Int := min (zgs n + zgs k) 65535
def rowT (b : Bool) (n : Int) : Int := if b = true then zos n 1 else 0
theorem zfn (n t : Int) : C f_lockbarref03_within [I n, I t] (I (min (max n 0) t)) := by
 refine ctr [I n, I t] run_lockbarref03_within rfl rfl rfl ?_ rfl
 unfold rt_lockbarref03_within
 simp
theorem zgk (n : Int) : C f_lockbarref03_Count [I n] (I (zgs n)) := by
 refine ctr [I n] run_lockbarref03_Count rfl rfl rfl ?_ rfl
 unfold rt_lockbarref03_Count
 refine call (zfn n 65535) (by simp) (by simp) ?_
 simp [zgs]
theorem zkP (n k : Int) : C f_lockbarref03_More [I n, I k] (I (zos n k)) := by
 refine ctr [I n, I k] run_lockbarref03_More rfl rfl rfl ?_ rfl
 unfold rt_lockbarref03_More
 refine call (zgk n) (by simp) (by simp) ?_
 simp
 refine call (zgk k) (by simp) (by simp) ?_
 simp
 rw [zaB (by simp only [zgs]; omega) (by simp only [zgs]; omega)]; rfl
theorem zl8 (b : Bool) (n : Int) : C f_lockbarref03_Row [.bool b, I n] (I (rowT b n)) := by
 refine ctr [.bool b, I n] run_lockbarref03_Row rfl rfl rfl ?_ rfl
 unfold rt_lockbarref03_Row
 simp
 cases b
 ·simp [rowT]
 ·simp
  refine call (zkP n 1) (by simp) (by simp) ?_
  simp [rowT]
def zcL : Img := ⟨65535, fun _ => 0, 0, 0, 0, 0⟩
theorem zmq : zcL.ok := by simp [Img.ok, zcL]
theorem zg5 : C f_lockbarref15_New [] zcL.av := by
 refine ctr [] run_lockbarref15_New rfl rfl (by simp [AV.pure]) ?_ rfl
 unfold rt_lockbarref15_New
 simp [Img.cells, zcL]
def zcM (l : Lay) (im : Img) (m : Nat) : Img := { im with free := fun i => if i < m then rowT (!stale l im && !zbC im.occ i) (im.free i) else im.free i }
theorem zks (l : Lay) (im : Img) : zcM l im 0 = im := by simp [zcM]
theorem zkr (l : Lay) (im : Img) (m j : Nat) : (zcM l im (m + 1)).free j = if j = m then rowT (!stale l im && !zbC im.occ m) (im.free m) else (zcM l im m).free j := by
 simp only [zcM]
 by_cases h : j = m
 ·subst h; simp
 ·by_cases h2 : j < m
  ·simp [h, h2, show j < m + 1 by omega]
  ·simp [h, h2, show ¬ j < m + 1 by omega]
theorem zkw (l : Lay) (im : Img) (m : Nat) : stale l (zcM l im m) = stale l im := rfl
def zjs (l : Lay) (im : Img) (o n r p : Int) : Img := zcM l { im with age := 0, occ := o, nor := n, rev := r, lamp := p } 24
def znk (f : Img) : List AV := [I (f.free 0), I (f.free 1), I (f.free 2), I (f.free 3), I (f.free 4), I (f.free 5), I (f.free 6), I (f.free 7), I (f.free 8), I (f.free 9), I (f.free 10), I (f.free 11), I (f.free 12), I (f.free 13), I (f.free 14), I (f.free 15), I (f.free 16), I (f.free 17), I (f.free 18), I (f.free 19), I (f.free 20), I (f.free 21), I (f.free 22), I (f.free 23)]
@[simp] theorem ite_I (c : Prop) [Decidable c] (a b : Int) : (if c then I a else I b) = I (if c then a else b) := by split <;> rfl
theorem zkR (l : Lay) (im : Img) (hi : im.ok) : C f_lockbarref15_rows [l.av, im.av] (zcM l im 24).av := by
 refine ctr (l.cells ++ im.cells) run_lockbarref15_rows rfl (li l im) (by simp [AV.pure]) ?_ rfl
 unfold rt_lockbarref15_rows
 simp [Lay.cells, Img.cells]
 refine zae rfl (fun vs => ∃ m : Nat, m ≤ 24 ∧ vs = I m :: znk (zcM l im m)) (fun vs => match vs with | .int _ m :: _ => 24 - m.toNat | _ => 0) ⟨0, by omega, by simp [znk, zks]⟩ ?_
 rintro vs - ⟨m, hm, rfl⟩
 simp [znk]
 refine ⟨fun hlt => ?_, fun hge => ?_⟩
 ·have hlt' : m < 24 := by omega
  refine call (zbt l (zcM l im m)) (by simp [Lay.cells, Img.cells]; exact ⟨rfl, rfl, rfl, rfl, rfl⟩) (by simp) ?_
  simp [zkw]
  refine zap (avs := [W im.occ, I m]) (.bool (zbC im.occ m)) rfl (fun _ => ⟨by simp, zg6 im.occ m hi.1.1 hi.1.2⟩) (by simp) ?_
  simp
  have hc := zeu (zcM l im m) m (by omega) (by omega)
  simp only [Img.cells] at hc
  simp at hc
  simp only [show (zcM l im m).occ = im.occ from rfl, show (zcM l im m).nor = im.nor from rfl, show (zcM l im m).rev = im.rev from rfl, show (zcM l im m).lamp = im.lamp from rfl] at hc
  refine ⟨hlt, ⟨hlt, by omega⟩, ?_⟩
  refine call (avs := [.bool (!stale l im && !zbC im.occ m), I (im.free m)]) (zl8 _ _) (by
   have h1 : (zcM l im m).free m = im.free m := by simp [zcM]
   simp [hc, h1]) (by simp) ?_
  simp [hlt]
  refine ⟨⟨m + 1, by omega, ?_⟩, ?_⟩
  ·rw [zaf (by omega)]
   simp [zkr]
   and_intros <;> exact zlh (by omega) _ _
  ·rw [zaf (by omega)]
   simp; omega
 ·have : m = 24 := by omega
  subst this
  simp [Img.cells, zcM]
theorem zd3 (l : Lay) (im : Img) (o n r p : Int) (h0 : 0 ≤ o) (h1 : o ≤ 4294967295) (n0 : 0 ≤ n) (n1 : n ≤ 4294967295) (r0 : 0 ≤ r) (r1 : r ≤ 4294967295) (p0 : 0 ≤ p) (p1 : p ≤ 4294967295) :
  C f_lockbarref15_Take [l.av, im.av, .agg [W o, W n, W r, W p]] (zjs l im o n r p).av := by
 refine ctr (l.cells ++ im.cells ++ [W o, W n, W r, W p]) run_lockbarref15_Take rfl (by simp [zaj, AV.pureAll, AV.pure]) (by simp [AV.pure]) ?_ rfl
 unfold rt_lockbarref15_Take
 simp [Lay.cells, Img.cells]
 refine call (zkR l { im with age := 0, occ := o, nor := n, rev := r, lamp := p } ⟨⟨h0, h1⟩, ⟨n0, n1⟩, ⟨r0, r1⟩, ⟨p0, p1⟩⟩) (by simp [Lay.cells, Img.cells]) (by simp [Img.cells, AV.scalar, AV.scalars]) ?_
 simp [Img.cells, zjs]
end Go.Lb.LK
namespace Go.Lb.LK
open Go Go.Lb Go.Proofs Go.RowKit
theorem ziF (l : List Int) : (zbA l).Pairwise (fun x y => x ≤ y) := by
 have := List.pairwise_mergeSort (le := fun x y : Int => decide (x ≤ y)) (fun a b c h1 h2 => by simp at *; omega) (fun a b => by simp; omega) l
 exact this.imp (fun h => by simpa using h)
theorem zeQ {l : List Int} (hs : l.Pairwise (fun x y => x ≤ y)) : ∀ m, m ≤ l.length → (∀ n, n ∈ Go.Lib.compactUpTo l.toArray m ↔ n ∈ l.take m) ∧ (Go.Lib.compactUpTo l.toArray m).Pairwise (fun x y => x < y)
 | 0, _ => by simp [Go.Lib.compactUpTo]
 | m + 1, h => by
  obtain ⟨h1, h2⟩ := zeQ hs m (by omega)
  have hm : l.toArray[m]! = l[m] := by simp [show m < l.length by omega]
  rw [Go.Lib.compactUpTo_succ, hm]
  have ht : l.take (m + 1) = l.take m ++ [l[m]] := by rw [List.take_add_one, List.getElem?_eq_getElem (by omega)]; rfl
  have hle : ∀ x ∈ l.take m, x ≤ l[m] := by
   intro x hx
   obtain ⟨j, hj, rfl⟩ := List.mem_iff_getElem.1 hx
   rw [List.getElem_take]
   rw [List.length_take] at hj
   exact List.pairwise_iff_getElem.1 hs j m (by omega) (by omega) (by omega)
  cases hk : Go.Lib.keeps l.toArray m with
  | true =>
   refine ⟨fun n => ?_, ?_⟩
   ·rw [ht]; simp only [h1, if_true, List.mem_append, List.mem_singleton]
   ·simp only [if_true]
    rw [List.pairwise_append]
    refine ⟨h2, by simp, fun x hx y hy => ?_⟩
    simp only [List.mem_singleton] at hy; subst hy
    have hx' := (h1 x).1 hx
    have := hle x hx'
    simp only [Go.Lib.keeps, decide_eq_true_eq] at hk
    rcases hk with h0 | hk
    ·subst h0; simp at hx'
    ·have hm1 : l.toArray[m - 1]! = l[m - 1] := by simp [show m - 1 < l.length by omega]
     rw [hm, hm1] at hk
     obtain ⟨j, hj, rfl⟩ := List.mem_iff_getElem.1 hx'
     rw [List.getElem_take]
     rw [List.length_take] at hj
     have a1 : l[j] ≤ l[m - 1] := by
      rcases Nat.lt_or_ge j (m - 1) with hlt | hge
      ·exact List.pairwise_iff_getElem.1 hs j (m - 1) (by omega) (by omega) hlt
      ·have : j = m - 1 := by omega
       subst this; exact Int.le_refl _
     have a2 : l[m - 1] ≤ l[m] := by
      rcases Nat.eq_zero_or_pos m with h0 | h0
      ·subst h0; exact Int.le_refl _
      ·exact List.pairwise_iff_getElem.1 hs (m - 1) m (by omega) (by omega) (by omega)
     omega
  | false =>
   refine ⟨fun n => ?_, by simpa using h2⟩
   rw [ht]
   simp only [Bool.false_eq_true, if_false, List.append_nil, List.mem_append, List.mem_singleton, h1]
   refine ⟨.inl, fun h => h.elim id ?_⟩
   rintro rfl
   have hk' : ¬ (m = 0 ∨ l.toArray[m]! ≠ l.toArray[m - 1]!) := by simpa [Go.Lib.keeps] using hk
   have hm0 : m ≠ 0 := fun h => hk' (.inl h)
   have hm1 : l.toArray[m - 1]! = l[m - 1] := by simp [show m - 1 < l.length by omega]
   rw [hm, hm1] at hk'
   have : l[m] = l[m - 1] := Classical.byContradiction fun h => hk' (.inr h)
   rw [this]
   exact List.mem_iff_getElem.2 ⟨m - 1, by rw [List.length_take]; omega, by rw [List.getElem_take]⟩
theorem zg9 {l : List Int} (hs : l.Pairwise (fun x y => x ≤ y)) : (∀ n, n ∈ zaO l ↔ n ∈ l) ∧ (zaO l).Pairwise (fun x y => x < y) := by
 have := zeQ hs l.length (Nat.le_refl _)
 rwa [List.take_length] at this
theorem zft (l : List Int) : ∀ m, m ≤ l.length → (Go.Lib.compactUpTo l.toArray m).Sublist (l.take m)
 | 0, _ => by simp [Go.Lib.compactUpTo]
 | m + 1, h => by
  have ih := zft l m (by omega)
  have hm : l.toArray[m]! = l[m] := by simp [show m < l.length by omega]
  rw [Go.Lib.compactUpTo_succ, hm]
  have ht : l.take (m + 1) = l.take m ++ [l[m]] := by rw [List.take_add_one, List.getElem?_eq_getElem (by omega)]; rfl
  rw [ht]
  split
  ·exact ih.append (List.Sublist.refl _)
  ·exact ih.append (List.nil_sublist [l[m]])
theorem zeP {l : List Int} (hs : l.Pairwise (fun x y => x < y)) : ∀ m, m ≤ l.length → (Go.Lib.compactUpTo l.toArray m).length = m
 | 0, _ => by simp [Go.Lib.compactUpTo]
 | m + 1, h => by
  have ih := zeP hs m (by omega)
  have hm : l.toArray[m]! = l[m] := by simp [show m < l.length by omega]
  rw [Go.Lib.compactUpTo_succ]
  have hk : Go.Lib.keeps l.toArray m = true := by
   simp only [Go.Lib.keeps, decide_eq_true_eq]
   rcases Nat.eq_zero_or_pos m with h0 | h0
   ·exact .inl h0
   ·right
    have hm1 : l.toArray[m - 1]! = l[m - 1] := by simp [show m - 1 < l.length by omega]
    rw [hm, hm1]
    have := List.pairwise_iff_getElem.1 hs (m - 1) m (by omega) (by omega) (by omega)
    omega
  simp [hk, ih]
theorem zha (l : List Int) : (zaO (zbA l)).length < l.length ↔ ¬ l.Nodup := by
 have hp : (zbA l).Perm l := List.mergeSort_perm _ _
 have hlen : (zbA l).length = l.length := hp.length_eq
 have hs := ziF l
 constructor
 ·intro h hn
  have hn2 : (zbA l).Nodup := hp.nodup_iff.2 hn
  have hlt : (zbA l).Pairwise (fun x y => x < y) := by
   refine List.Pairwise.imp₂ (R := fun x y => x ≤ y) (S := fun x y => x ≠ y) (fun a b h1 h2 => by omega) hs hn2
  have := zeP hlt (zbA l).length (Nat.le_refl _)
  have e : zaO (zbA l) = Go.Lib.compactUpTo (zbA l).toArray (zbA l).length := by simp [zaO, Go.Lib.compact]
  rw [e] at h
  omega
 ·intro hn
  refine Classical.byContradiction fun h => hn ?_
  have hsub := zft (zbA l) (zbA l).length (Nat.le_refl _)
  have e : zaO (zbA l) = Go.Lib.compactUpTo (zbA l).toArray (zbA l).length := by simp [zaO, Go.Lib.compact]
  rw [← e, List.take_length] at hsub
  have heq := hsub.eq_of_length_le (by omega)
  have h2 := (zg9 hs).2
  rw [heq] at h2
  exact hp.nodup_iff.1 (h2.imp (fun h => by omega))
end Go.Lb.LK
namespace Go.Lb.LK
open Go Go.Lb Go.Proofs Go.RowKit
theorem zb6 (l : List Step) (h : l.length ≤ 8796093022208) : C f_slices_Clone_Step [steps l] (steps l) := by
 refine ctr [steps l] run_slices_Clone_Step rfl (by simp [AV.pureAll, AV.pure]) (by simp [AV.pure]) ?_ rfl
 unfold rt_slices_Clone_Step
 simp
 exact ⟨fun x _ => by simp [Step.cells], h⟩
theorem zdC (l : List Need) (h : l.length ≤ 8796093022208) : C f_slices_Clone_Need [needs l] (needs l) := by
 refine ctr [needs l] run_slices_Clone_Need rfl (by simp [AV.pureAll, AV.pure]) (by simp [AV.pure]) ?_ rfl
 unfold rt_slices_Clone_Need
 simp
 exact ⟨fun x _ => by simp [Need.cells], h⟩
def zbV (xs : List (List Step)) : Nat := (xs.map List.length).sum
theorem zdi (xs : List (List Step)) : xs.flatten.length = zbV xs := by simp [zbV, List.length_flatten]
theorem zeU (xs : List (List Step)) {i : Nat} (h : i < xs.length) : (xs.take (i + 1)).flatten = (xs.take i).flatten ++ xs[i] := by
 rw [List.take_add_one, List.getElem?_eq_getElem h, List.flatten_append]; simp
theorem zgQ (xs : List (List Step)) {i : Nat} (h : i < xs.length) : zbV (xs.take (i + 1)) = zbV (xs.take i) + xs[i].length := by
 rw [← zdi, ← zdi, zeU xs h, List.length_append]
theorem zfj (xs : List (List Step)) (i : Nat) : zbV (xs.take i) ≤ zbV xs := by
 unfold zbV
 conv => rhs; rw [← List.take_append_drop i xs, List.map_append, List.sum_append]
 omega
theorem zdk (xs : List (List Step)) (hx : xs.length ≤ 1000000) (ht : zbV xs ≤ 1000000000) : C f_slices_Concat_Step [.sl (xs.map steps)] (steps xs.flatten) := by
 refine ctr [.sl (xs.map steps)] run_slices_Concat_Step rfl (by simp [AV.pureAll, AV.pure, za2 steps (fun x => by simp [AV.pure])]) (by simp only [AV.pure]; exact zkx _) ?_ rfl
 unfold rt_slices_Concat_Step
 simp
 refine zae rfl (fun vs => ∃ i : Nat, i ≤ xs.length ∧ vs = [I (zbV (xs.take i)), I i]) (fun vs => match vs with | [_, .int _ j] => xs.length - j.toNat | _ => 0) ⟨0, by simp, by simp [zbV]⟩ ?_
 rintro vs - ⟨i, hi, rfl⟩
 have hti := zfj xs i
 simp
 refine ⟨fun hlt => ?_, fun hge => ?_⟩
 ·have hw := zaf (i := i) (by omega)
  have ht1 := zgQ xs hlt
  have ht2 := zfj xs (i + 1)
  have hw2 : IntKind.i64.wrap ((zbV (xs.take i) : Int) + xs[i].length) = (zbV (xs.take (i + 1)) : Int) := by rw [zaB] <;> omega
  simp [hlt, hw2]
  exact ⟨⟨i + 1, by omega, rfl, hw⟩, by rw [hw]; omega⟩
 ·have hti : xs.take i = xs := List.take_of_length_le hge
  have w0 : IntKind.i64.wrap 0 = 0 := by decide
  have wt : IntKind.i64.wrap (zbV xs : Int) = zbV xs := by rw [zaB] <;> omega
  simp [hti, w0, wt]
  refine ⟨fun hpos => ⟨by omega, ?_⟩, fun hz => ?_⟩
  all_goals
   refine zae rfl (fun vs => ∃ i : Nat, i ≤ xs.length ∧ vs = [steps (xs.take i).flatten, I i]) (fun vs => match vs with | [_, .int _ j] => xs.length - j.toNat | _ => 0) ⟨0, by simp, by simp⟩ ?_
   rintro vs - ⟨j, hj, rfl⟩
   have htj := zfj xs j
   rw [← zdi] at htj
   simp only [zcB, List.cons_append, List.nil_append]
   have hfl := fun h => zeU xs (i := j) h
   generalize hcur : (xs.take j).flatten = cur at htj hfl ⊢
   simp
   refine ⟨fun hlt => ?_, fun hge => ?_⟩
   ·have hw := zaf (i := j) (by omega)
    have ht1 := zgQ xs hlt
    have ht2 := zfj xs (j + 1)
    rw [← zdi (xs.take j), hcur] at ht1
    simp [hlt]
    refine ⟨fun x _ => by simp [Step.cells], by omega, ⟨j + 1, by omega, ?_, hw⟩, by rw [hw]; omega⟩
    have := congrArg (List.map Step.av) (hfl hlt)
    simpa using this.symm
   ·have : xs.take j = xs := List.take_of_length_le hge
    simp [← hcur, this]
def zbj {α : Type} (q : α → Bool) (l : List α) : Prop := l.any q = false
theorem zbj.nil {α : Type} (q : α → Bool) : zbj q [] := rfl
theorem zgY {α : Type} {q : α → Bool} {l : List α} {i : Nat} (hi : i < l.length) (hq : q l[i] = true) : l.any q = true := List.any_eq_true.2 ⟨l[i], List.getElem_mem hi, hq⟩
theorem zaS {α : Type} {q : α → Bool} {l : List α} {i : Nat} (hi : i < l.length) (h : zbj q (l.take i)) (hq : q l[i] = false) : zbj q (l.take (i + 1)) := by
 unfold zbj at *
 rw [List.take_add_one, List.getElem?_eq_getElem hi, List.any_append, h]; simp [hq]
def both (x y : Need) : Bool := decide (x.p = y.p) && !decide (x.pos = y.pos)
def zdm (a b : List Need) : Bool := a.any fun x => b.any fun y => both x y
theorem zhU (a b : List Need) (ha : a.length ≤ 8796093022208) (hb : b.length ≤ 8796093022208) : C f_held_clash [needs a, needs b] (.bool (zdm a b)) := by
 refine ctr [needs a, needs b] run_held_clash rfl (by simp [AV.pureAll, AV.pure]) rfl ?_ rfl
 unfold rt_held_clash
 simp
 refine zae rfl (fun vs => ∃ i : Nat, i ≤ a.length ∧ vs = [I i] ∧ zbj (fun x => b.any fun y => both x y) (a.take i)) (fun vs => match vs with | [.int _ j] => a.length - j.toNat | _ => 0) ⟨0, by simp, by simp, rfl⟩ ?_
 rintro vs - ⟨i, hi, rfl, hn⟩
 simp
 refine ⟨fun hlt => ?_, fun hge => ?_⟩
 ·simp [hlt, Need.cells]
  refine zae rfl (fun vs => ∃ j : Nat, j ≤ b.length ∧ vs = [I j] ∧ zbj (fun y => both a[i] y) (b.take j)) (fun vs => match vs with | [.int _ k] => b.length - k.toNat | _ => 0) ⟨0, by simp, by simp, rfl⟩ ?_
  rintro vs - ⟨j, hj, rfl, hm⟩
  simp
  refine ⟨fun hlt2 => ?_, fun hge2 => ?_⟩
  ·have hw := zaf (i := j) (by omega)
   simp [hlt, hlt2, Need.cells]
   by_cases h1 : a[i].p = b[j].p <;> by_cases h2 : a[i].pos = b[j].pos
   ·simp [h1, h2, hw]
    exact ⟨⟨j + 1, by omega, rfl, zaS hlt2 hm (by simp [both, h1, h2])⟩, by omega⟩
   ·simp [h1, h2]
    exact zgY hlt (zgY hlt2 (by simp [both, h1, h2]))
   ·simp [h1, hw]
    exact ⟨⟨j + 1, by omega, rfl, zaS hlt2 hm (by simp [both, h1])⟩, by omega⟩
   ·simp [h1, hw]
    exact ⟨⟨j + 1, by omega, rfl, zaS hlt2 hm (by simp [both, h1])⟩, by omega⟩
  ·have hb2 : b.take j = b := List.take_of_length_le (by omega)
   rw [hb2] at hm
   have hw := zaf (i := i) (by omega)
   simp [hw]
   exact ⟨⟨i + 1, by omega, rfl, zaS hlt hn hm⟩, by omega⟩
 ·have ha2 : a.take i = a := List.take_of_length_le (by omega)
  rw [ha2] at hn
  have hn2 : zdm a b = false := hn
  simp [hn2]
theorem zi1 (p : Path) (h : p.steps.length ≤ 8796093022208) : C f_route_Own [p.av] p.av := by
 refine ctr p.cells run_route_Own rfl (by simp) (by simp [AV.pure]) ?_ rfl
 unfold rt_route_Own
 simp [Path.cells]
 refine call (zb6 p.steps h) (by simp) (by simp) ?_
 simp [Path.cells]
def Hd.wide (h : Hd) : Prop := h.path.steps.length ≤ 6000000000000 ∧ h.over.length ≤ 6000000000000 ∧ h.needs.length ≤ 6000000000000
def Hd.len (h : Hd) : Prop := h.path.steps.length ≤ 1048576 ∧ h.over.length ≤ 1048576 ∧ h.needs.length ≤ 6000000000000
theorem Hd.len.wide {h : Hd} (hl : h.len) : h.wide := by
 obtain ⟨h1, h2, h3⟩ := hl
 exact ⟨by omega, by omega, h3⟩
theorem zen (h : Hd) (hl : h.len) : C f_held_Own [h.av] h.av := by
 obtain ⟨h1, h2, h3⟩ := hl
 refine ctr h.cells run_held_Own rfl (by simp) (by simp [AV.pure]) ?_ rfl
 unfold rt_held_Own
 simp [Hd.cells]
 refine call (zi1 h.path (by omega)) (by simp [Path.cells]) (by simp) ?_
 simp
 refine call (zb6 h.over (by omega)) (by simp) (by simp) ?_
 simp
 refine call (zdC h.needs (by omega)) (by simp) (by simp) ?_
 simp [Path.cells, Hd.cells]
def zfC (h : Hd) (x : Need) : Bool := decide (max h.gone 0 ≤ x.k) && (!decide (x.k = h.path.steps.length) || !h.opn)
def zdt (h : Hd) : List Need := h.needs.filter (zfC h)
end Go.Lb.LK
namespace Go.Lb.LK
open Go Go.Lb Go.Proofs Go.RowKit
def Hd.g1 (h : Hd) : Prop := 1 ≤ h.id ∧ h.id ≤ 1073741824 ∧ 0 ≤ h.timer ∧ h.timer ≤ 1073741824 ∧ 1 ≤ h.path.steps.length ∧ h.path.steps.length ≤ 12 ∧ h.over.length ≤ 2
def Hd.g2 (h : Hd) : Prop := 1 ≤ h.stage ∧ h.stage < 5 ∧ 0 ≤ h.gone ∧ h.gone ≤ h.path.steps.length
def Hd.wasOk (h : Hd) : Bool := (List.range 12).all fun k => decide (k < h.path.steps.length) || !h.was k
def zcH (n : Nat) (x : Need) : Bool := decide (0 ≤ x.k ∧ x.k ≤ n ∧ 0 ≤ x.p ∧ x.p < 24 ∧ 0 ≤ x.pos ∧ x.pos ≤ 1)
def Hd.secs (h : Hd) : List Int := (h.path.steps ++ h.over).map (·.s)
instance (h : Hd) : Decidable h.g1 := by unfold Hd.g1; infer_instance
instance (h : Hd) : Decidable h.g2 := by unfold Hd.g2; infer_instance
def zav (h : Hd) : Bool := decide h.g1 && (decide h.g2 && (!zdm h.needs h.needs && (h.wasOk && (decide h.secs.Nodup && h.needs.all (zcH h.path.steps.length)))))
theorem wc (w : Nat → Bool) (n j : Nat) (hn : n ≤ 12) (hj : j < 12) : (if j < min n 12 then ((List.take n (zcI w))[j]?.getD .undef).cells[0]?.getD .undef else B false) = B (decide (j < n) && w j) := by
 by_cases h : j < n
 ·have h2 : j < min n 12 := by omega
  rw [if_pos h2, List.getElem?_take, if_pos h]
  have := wget w hj .undef
  rw [List.getD_eq_getElem?_getD] at this
  rw [this]; simp [h]
 ·have h2 : ¬ j < min n 12 := by omega
  rw [if_neg h2]; simp [h]
theorem wci (w : Nat → Bool) (n j : Nat) (i : Int) (hi : i = j) (hn : n ≤ 12) (hj : j < 12) : (if i < ((min n 12 : Nat) : Int) then ((List.take n (zcI w))[j]?.getD .undef).cells[0]?.getD .undef else B false) = B (decide (j < n) && w j) := by
 rw [← wc w n j hn hj]
 exact zlh (by omega) _ _
theorem znH (w : Nat → Bool) (n : Nat) : ∀ e ∈ List.take n (zcI w), e.cells.length = 1 ∧ AV.ones e.cells = true := by
 intro e he
 have := List.mem_of_mem_take he
 simp only [zcI, List.mem_cons, List.not_mem_nil, or_false] at this
 rcases this with rfl | rfl | rfl | rfl | rfl | rfl | rfl | rfl | rfl | rfl | rfl | rfl <;> simp
theorem zg1 (h : Hd) (hl : h.wide) (hs : 0 ≤ h.stage ∧ h.stage ≤ 255) : C f_held_Right [h.av] (.bool (zav h)) := by
 obtain ⟨l1, l2, l3⟩ := hl
 refine ctr h.cells run_held_Right rfl (by simp) rfl ?_ rfl
 unfold rt_held_Right
 simp [Hd.cells]
 by_cases g1 : h.g1
 ·have g1' := g1
  obtain ⟨a1, a2, a3, a4, a5, a6, a7⟩ := g1
  have b1 : ¬ h.id < 1 := by omega
  have b2 : ¬ 1073741824 < max h.id h.timer := by omega
  have b3 : ¬ h.timer < 0 := by omega
  have b4 : ¬ ((h.path.steps.length : Int) < 1) := by omega
  have b5 : ¬ (12 < (h.path.steps.length : Int)) := by omega
  have b6 : ¬ (2 < (h.over.length : Int)) := by omega
  have b7 : (0 : Int) < h.path.steps.length := by omega
  refine ⟨fun hh => by simp [b1, b2, b3, b5, b6] at hh; omega, ?_⟩
  intro _ _ _ _ _ _
  refine zap (avs := [needs h.needs, needs h.needs]) (.bool (zdm h.needs h.needs)) rfl (fun _ => ⟨by simp, zhU _ _ (by omega) (by omega)⟩) (by simp) ?_
  by_cases g2 : h.g2
  ·have g2' := g2
   obtain ⟨d1, d2, d3, d4⟩ := g2
   have e1 : ¬ h.stage = 0 := by omega
   have e2 : ¬ 5 ≤ h.stage := by omega
   have e3 : ¬ h.gone < 0 := by omega
   have e4 : ¬ (h.path.steps.length : Int) < h.gone := by omega
   cases hc : zdm h.needs h.needs
   ·have tk := znH h.was h.path.steps.length
    have c0 := wc h.was h.path.steps.length 0 a6 (by omega)
    have c1 := wci h.was h.path.steps.length 1 1 rfl a6 (by omega)
    have c2 := wci h.was h.path.steps.length 2 2 rfl a6 (by omega)
    have c3 := wci h.was h.path.steps.length 3 3 rfl a6 (by omega)
    have c4 := wci h.was h.path.steps.length 4 4 rfl a6 (by omega)
    have c5 := wci h.was h.path.steps.length 5 5 rfl a6 (by omega)
    have c6 := wci h.was h.path.steps.length 6 6 rfl a6 (by omega)
    have c7 := wci h.was h.path.steps.length 7 7 rfl a6 (by omega)
    have c8 := wci h.was h.path.steps.length 8 8 rfl a6 (by omega)
    have c9 := wci h.was h.path.steps.length 9 9 rfl a6 (by omega)
    have c10 := wci h.was h.path.steps.length 10 10 rfl a6 (by omega)
    have c11 := wci h.was h.path.steps.length 11 11 rfl a6 (by omega)
    simp only [AV.cells, zcI] at tk c0 c1 c2 c3 c4 c5 c6 c7 c8 c9 c10 c11
    simp [e1, e2, e3, e4, c0, c1, c2, c3, c4, c5, c6, c7, c8, c9, c10, c11]
    refine ⟨by omega, tk, fun hh => ?_, ?_⟩
    ·have hw : h.wasOk = false := by
      cases hq : h.wasOk
      ·rfl
      ·exfalso
       simp only [Hd.wasOk, List.all_eq_true, List.mem_range, Bool.or_eq_true, decide_eq_true_eq, Bool.not_eq_true'] at hq
       have hstep : ∀ k, k < 12 → h.was k = true → h.path.steps.length ≤ k → False := fun k hk h1 h2 => by
        rcases hq k hk with h3 | h3
        ·omega
        ·rw [h1] at h3; cases h3
       rcases hh with ⟨h1, h2⟩ | ⟨h1, h2⟩ | ⟨h1, h2⟩ | ⟨h1, h2⟩ | ⟨h1, h2⟩ | ⟨h1, h2⟩ | ⟨h1, h2⟩ | ⟨h1, h2⟩ | ⟨h1, h2⟩ | ⟨h1, h2⟩ | ⟨h1, h2⟩ | ⟨h1, h2⟩
       ·rw [h2] at a5; simp at a5
       all_goals exact hstep _ (by omega) h1 h2
     simp [zav, hw]
    ·intro w0 w1 w2 w3 w4 w5 w6 w7 w8 w9 w10 w11
     have hw : h.wasOk = true := by
      simp only [Hd.wasOk, List.all_eq_true, List.mem_range, Bool.or_eq_true, decide_eq_true_eq, Bool.not_eq_true']
      intro k hk
      cases hq : h.was k
      ·exact .inr rfl
      ·left
       match k, hk, hq with
       | 0, _, hq => exact w0 hq
       | 1, _, hq => exact w1 hq
       | 2, _, hq => exact w2 hq
       | 3, _, hq => exact w3 hq
       | 4, _, hq => exact w4 hq
       | 5, _, hq => exact w5 hq
       | 6, _, hq => exact w6 hq
       | 7, _, hq => exact w7 hq
       | 8, _, hq => exact w8 hq
       | 9, _, hq => exact w9 hq
       | 10, _, hq => exact w10 hq
       | 11, _, hq => exact w11 hq
     refine call (zdk [h.path.steps, h.over] (by simp) (by simp [zbV]; omega)) (by simp) (by simp) ?_
     generalize hall : [h.path.steps, h.over].flatten = all
     have hal : all = h.path.steps ++ h.over := by rw [← hall]; simp
     have hlen : all.length = h.path.steps.length + h.over.length := by rw [hal]; simp
     simp
     refine zae rfl (fun vs => ∃ i : Nat, i ≤ all.length ∧ vs = [ints ((all.take i).map (·.s)), I i]) (fun vs => match vs with | [_, .int _ j] => all.length - j.toNat | _ => 0) ⟨0, by simp, by simp⟩ ?_
     rintro vs - ⟨i, hi, rfl⟩
     simp
     refine ⟨fun hlt => ?_, fun hge => ?_⟩
     ·have hwr := zaf (i := i) (by omega)
      have hmt := map_take (fun x : Step => x.s) all hlt
      simp [hlt, Step.cells, hwr]
      refine ⟨by omega, ⟨i + 1, by omega, ?_, by omega⟩, by omega⟩
      rw [List.take_add_one, List.getElem?_map, List.getElem?_eq_getElem hlt]; rfl
     ·have hta : List.take i (List.map (I ∘ fun x : Step => x.s) all) = (all.map (·.s)).map I := by
       rw [List.take_of_length_le (by simp; omega), List.map_map]
      rw [hta]
      refine ⟨all.map (·.s), by simp; omega, by simp, ?_⟩
      refine ⟨zbA (all.map (·.s)), by simp [zbA]; omega, rfl, ?_⟩
      have hsec : h.secs = all.map (·.s) := by rw [hal]; rfl
      have hcl := zdE (zbA (all.map (·.s)))
      have hsl : (zbA (all.map (·.s))).length = all.length := by simp [zbA]
      have hwa : IntKind.i64.wrap ((h.path.steps.length : Int) + h.over.length) = h.path.steps.length + h.over.length := by rw [zaB] <;> omega
      simp [hwa]
      have hnd := zha (all.map (·.s))
      rw [List.length_map, hlen] at hnd
      refine ⟨fun hh => ?_, fun hh => ?_⟩
      ·have : ¬ h.secs.Nodup := by rw [hsec]; exact hnd.1 (by omega)
       simp [zav, this]
      ·have hno : h.secs.Nodup := by
        rw [hsec]
        refine Classical.byContradiction fun hn => ?_
        have := hnd.2 hn
        omega
       have hr : zav h = h.needs.all (zcH h.path.steps.length) := by simp [zav, g1', g2', hc, hw, hno]
       rw [hr]
       refine zae rfl (fun vs => ∃ i : Nat, i ≤ h.needs.length ∧ vs = [I i] ∧ zbj (fun x => !zcH h.path.steps.length x) (h.needs.take i)) (fun vs => match vs with | [.int _ j] => h.needs.length - j.toNat | _ => 0) ⟨0, by simp, by simp, rfl⟩ ?_
       rintro vs - ⟨k, hk, rfl, hq⟩
       simp
       refine ⟨fun hlt => ?_, fun hge => ?_⟩
       ·have hwr := zaf (i := k) (by omega)
        simp [hlt, Need.cells, hwr]
        have hf : h.needs[k].pos.fdiv (2 ^ min 1 IntKind.i64.bits) = 0 ↔ 0 ≤ h.needs[k].pos ∧ h.needs[k].pos ≤ 1 := by
         have e : (2 : Int) ^ min 1 IntKind.i64.bits = 2 := by decide
         rw [e, Int.fdiv_eq_ediv_of_nonneg _ (by omega)]; omega
        rw [hf]
        cases hok : zcH h.path.steps.length h.needs[k]
        ·right
         refine ⟨?_, h.needs[k], List.getElem_mem hlt, hok⟩
         simp only [zcH, decide_eq_false_iff_not] at hok
         omega
        ·left
         have hok2 := hok
         simp only [zcH, decide_eq_true_eq] at hok2
         exact ⟨by omega, ⟨k + 1, by omega, by omega, zaS hlt hq (by simp [hok])⟩, by omega⟩
       ·have : h.needs.take k = h.needs := List.take_of_length_le (by omega)
        rw [this] at hq
        unfold zbj at hq
        simp at hq
        exact fun x hx => hq x hx
   ·have hr : zav h = false := by simp [zav, g1', g2', hc]
    simp [e1, e2, e3, e4, hr]
  ·have hr : zav h = false := by simp [zav, g2]
   rw [hr]
   have hg : h.stage = 0 ∨ 5 ≤ h.stage ∨ h.gone < 0 ∨ (h.path.steps.length : Int) < h.gone := by
    unfold Hd.g2 at g2; omega
   by_cases e1 : h.stage = 0
   ·simp [e1]
   ·by_cases e2 : 5 ≤ h.stage
    ·simp [e1, e2]
    ·by_cases e3 : h.gone < 0
     ·simp [e1, e2, e3]
     ·have e4 : (h.path.steps.length : Int) < h.gone := by omega
      simp [e1, e2, e3, e4]
 ·have hr : zav h = false := by simp [zav, g1]
  rw [hr]
  refine ⟨fun _ => rfl, ?_⟩
  intro h1 h2 h3 h4 h5 h6
  exfalso
  unfold Hd.g1 at g1
  omega
theorem zhT (h : Hd) (hl : h.len) (hs : 0 ≤ h.stage ∧ h.stage ≤ 255) : C f_held_Right [h.av] (.bool (zav h)) := zg1 h hl.wide hs
end Go.Lb.LK
namespace Go.Lb.LK
open Go Go.Lb Go.Proofs Go.RowKit
theorem zgn (a b : List Need) (ha : a.length ≤ 8796093022208) (hb : b.length ≤ 8796093022208) : C f_lockbarref17_clash [needs a, needs b] (.bool (zdm a b)) := by
 refine ctr [needs a, needs b] run_lockbarref17_clash rfl (by simp [AV.pureAll, AV.pure]) rfl ?_ rfl
 unfold rt_lockbarref17_clash
 refine zae rfl (fun vs => ∃ i : Nat, i ≤ a.length ∧ vs = [I i] ∧ zbj (fun x => b.any fun y => both x y) (a.take i)) (fun vs => match vs with | [.int _ j] => a.length - j.toNat | _ => 0) ⟨0, by simp, by simp, rfl⟩ ?_
 rintro vs - ⟨i, hi, rfl, hn⟩
 simp
 refine ⟨fun hlt => ?_, fun hge => ?_⟩
 ·refine zae rfl (fun vs => ∃ j : Nat, j ≤ b.length ∧ vs = [I j] ∧ zbj (fun y => both a[i] y) (b.take j)) (fun vs => match vs with | [.int _ k] => b.length - k.toNat | _ => 0) ⟨0, by simp, by simp, rfl⟩ ?_
  rintro vs - ⟨j, hj, rfl, hm⟩
  simp
  refine ⟨fun hlt2 => ?_, fun hge2 => ?_⟩
  ·have hw := zaf (i := j) (by omega)
   simp [hlt, hlt2, Need.cells]
   by_cases h1 : a[i].p = b[j].p <;> by_cases h2 : a[i].pos = b[j].pos
   ·simp [h1, h2, hw]
    exact ⟨⟨j + 1, by omega, rfl, zaS hlt2 hm (by simp [both, h1, h2])⟩, by omega⟩
   ·simp [h1, h2]
    exact zgY hlt (zgY hlt2 (by simp [both, h1, h2]))
   ·simp [h1, hw]
    exact ⟨⟨j + 1, by omega, rfl, zaS hlt2 hm (by simp [both, h1])⟩, by omega⟩
   ·simp [h1, hw]
    exact ⟨⟨j + 1, by omega, rfl, zaS hlt2 hm (by simp [both, h1])⟩, by omega⟩
  ·have hb2 : b.take j = b := List.take_of_length_le (by omega)
   rw [hb2] at hm
   have hw := zaf (i := i) (by omega)
   simp [hw]
   exact ⟨⟨i + 1, by omega, rfl, zaS hlt hn hm⟩, by omega⟩
 ·have ha2 : a.take i = a := List.take_of_length_le (by omega)
  rw [ha2] at hn
  have hn2 : zdm a b = false := hn
  simp [hn2]
theorem zgm (h : Hd) (hl : h.len) : C f_lockbarref17_Needs [h.av] (needs (zdt h)) := by
 obtain ⟨h1, h2, h3⟩ := hl
 refine ctr h.cells run_lockbarref17_Needs rfl (by simp) (by simp [AV.pure]) ?_ rfl
 unfold rt_lockbarref17_Needs
 simp [Hd.cells]
 refine zae rfl (fun vs => ∃ i : Nat, i ≤ h.needs.length ∧ vs = [needs ((h.needs.take i).filter (zfC h)), I i]) (fun vs => match vs with | [_, .int _ j] => h.needs.length - j.toNat | _ => 0) ⟨0, by simp, by simp⟩ ?_
 rintro vs - ⟨i, hi, rfl⟩
 simp
 refine ⟨fun hlt => ?_, fun hge => ?_⟩
 ·have hw := zaf (i := i) (by omega)
  have hfl := zfw (zfC h) h.needs i
  have hft := zi8 (zfC h) h.needs hlt
  simp [hlt, Need.cells]
  rw [hw]
  cases hq : zfC h h.needs[i]
  ·left
   refine ⟨?_, ⟨i + 1, by omega, by rw [hft, hq]; simp, rfl⟩, by omega⟩
   intro hk
   simpa [zfC, hk] using hq
  ·right
   refine ⟨by simpa [zfC] using hq, by omega, ⟨i + 1, by omega, by rw [hft, hq]; simp [Need.cells], rfl⟩, by omega⟩
 ·have : h.needs.take i = h.needs := List.take_of_length_le (by omega)
  simp [this, zdt]
theorem zl9 (p : Path) (h : p.steps.length ≤ 8796093022208) : C f_lockbarref11_Own [p.av] p.av := by
 refine ctr p.cells run_lockbarref11_Own rfl (by simp) (by simp [AV.pure]) ?_ rfl
 unfold rt_lockbarref11_Own
 simp [Path.cells]
 exact ⟨fun x _ => by simp [Step.cells], h⟩
theorem zmb (h : Hd) (hl : h.len) : C f_lockbarref17_Own [h.av] h.av := by
 obtain ⟨h1, h2, h3⟩ := hl
 refine ctr h.cells run_lockbarref17_Own rfl (by simp) (by simp [AV.pure]) ?_ rfl
 unfold rt_lockbarref17_Own
 simp [Hd.cells]
 refine call (zl9 h.path (by omega)) (by simp [Path.cells]) (by simp) ?_
 simp [Path.cells, Hd.cells]
 exact ⟨fun x _ => by simp [Step.cells], by omega, fun x _ => by simp [Need.cells], by omega⟩
theorem zmN (x y : Step) : AV.eqs x.cells y.cells = decide (x = y) := by
 obtain ⟨a, b, c⟩ := x
 obtain ⟨d, e, f⟩ := y
 simp [Step.cells, AV.eqs, AV.eq1]
 by_cases h1 : a = d <;> by_cases h2 : b = e <;> by_cases h3 : c = f <;> simp [h1, h2, h3]
theorem zmz (x y : Need) : AV.eqs x.cells y.cells = decide (x = y) := by
 obtain ⟨a, b, c⟩ := x
 obtain ⟨d, e, f⟩ := y
 simp [Need.cells, AV.eqs, AV.eq1]
 by_cases h1 : a = d <;> by_cases h2 : b = e <;> by_cases h3 : c = f <;> simp [h1, h2, h3]
theorem zmO {x y : Step} (h1 : x.s = y.s) (h2 : x.i = y.i) (h3 : x.o = y.o) : x = y := by
 obtain ⟨a, b, c⟩ := x
 obtain ⟨d, e, f⟩ := y
 simp only at h1 h2 h3
 rw [h1, h2, h3]
theorem zbW (a b : List Step) (ha : a.length ≤ 8796093022208) : C f_lockbarref11_Steps [steps a, steps b] (.bool (decide (a = b))) := by
 refine ctr [steps a, steps b] run_lockbarref11_Steps rfl (by simp [AV.pureAll, AV.pure]) rfl ?_ rfl
 unfold rt_lockbarref11_Steps
 simp
 by_cases hl : a.length = b.length
 ·simp [hl]
  refine zae rfl (fun vs => ∃ i : Nat, i ≤ a.length ∧ vs = [I i] ∧ a.take i = b.take i) (fun vs => match vs with | [.int _ j] => a.length - j.toNat | _ => 0) ⟨0, by simp, by simp, by simp⟩ ?_
  rintro vs - ⟨i, hi, rfl, hq⟩
  simp
  refine ⟨fun hlt => ?_, fun hge => ?_⟩
  ·have hlt2 : i < b.length := by omega
   have hw := zaf (i := i) (by omega)
   have he := zmN a[i] b[i]
   simp [hlt, hlt2, Step.cells] at he ⊢
   by_cases hab : a[i] = b[i]
   ·simp [hab] at he ⊢
    rw [hw]
    refine ⟨⟨i + 1, by omega, rfl, ?_⟩, by omega⟩
    rw [List.take_add_one, List.take_add_one, List.getElem?_eq_getElem hlt, List.getElem?_eq_getElem hlt2, hq, hab]
   ·right
    refine ⟨fun h1 h2 h3 => hab (zmO h1 h2 h3), ?_⟩
    rintro rfl
    exact hab rfl
  ·have h1 : a.take i = a := List.take_of_length_le (by omega)
   have h2 : b.take i = b := List.take_of_length_le (by omega)
   rw [h1, h2] at hq
   simp [hq]
 ·have hne : a ≠ b := fun h => hl (by rw [h])
  have hl2 : ¬ (a.length : Int) = b.length := by omega
  simp [hne]
  exact fun h => absurd h hl2
theorem zmA {x y : Need} (h1 : x.p = y.p) (h2 : x.pos = y.pos) (h3 : x.k = y.k) : x = y := by
 obtain ⟨a, b, c⟩ := x
 obtain ⟨d, e, f⟩ := y
 simp only at h1 h2 h3
 rw [h1, h2, h3]
theorem zd1 (a b : List Need) (ha : a.length ≤ 8796093022208) : C f_lockbarref17_All [needs a, needs b] (.bool (decide (a = b))) := by
 refine ctr [needs a, needs b] run_lockbarref17_All rfl (by simp [AV.pureAll, AV.pure]) rfl ?_ rfl
 unfold rt_lockbarref17_All
 simp
 by_cases hl : a.length = b.length
 ·simp [hl]
  refine zae rfl (fun vs => ∃ i : Nat, i ≤ a.length ∧ vs = [I i] ∧ a.take i = b.take i) (fun vs => match vs with | [.int _ j] => a.length - j.toNat | _ => 0) ⟨0, by simp, by simp, by simp⟩ ?_
  rintro vs - ⟨i, hi, rfl, hq⟩
  simp
  refine ⟨fun hlt => ?_, fun hge => ?_⟩
  ·have hlt2 : i < b.length := by omega
   have hw := zaf (i := i) (by omega)
   have he := zmz a[i] b[i]
   simp [hlt, hlt2, Need.cells] at he ⊢
   by_cases hab : a[i] = b[i]
   ·simp [hab] at he ⊢
    rw [hw]
    refine ⟨⟨i + 1, by omega, rfl, ?_⟩, by omega⟩
    rw [List.take_add_one, List.take_add_one, List.getElem?_eq_getElem hlt, List.getElem?_eq_getElem hlt2, hq, hab]
   ·right
    refine ⟨fun h1 h2 h3 => hab (zmA h1 h2 h3), ?_⟩
    rintro rfl
    exact hab rfl
  ·have h1 : a.take i = a := List.take_of_length_le (by omega)
   have h2 : b.take i = b := List.take_of_length_le (by omega)
   rw [h1, h2] at hq
   simp [hq]
 ·have hne : a ≠ b := fun h => hl (by rw [h])
  have hl2 : ¬ (a.length : Int) = b.length := by omega
  simp [hne]
  exact fun h => absurd h hl2
def zed (a b : Path) : Bool := decide (a.sig = b.sig) && (decide (a.exit = b.exit) && decide (a.steps = b.steps))
theorem zkQ (a b : Path) (ha : a.steps.length ≤ 8796093022208) : C f_lockbarref11_Same [a.av, b.av] (.bool (zed a b)) := by
 refine ctr (a.cells ++ b.cells) run_lockbarref11_Same rfl (by simp [zaj]) rfl ?_ rfl
 unfold rt_lockbarref11_Same
 simp [Path.cells]
 refine zap (avs := [steps a.steps, steps b.steps]) (.bool (decide (a.steps = b.steps))) rfl (fun _ => ⟨by simp, zbW _ _ ha⟩) (by simp) ?_
 by_cases h1 : a.sig = b.sig <;> by_cases h2 : a.exit = b.exit <;> simp [zed, h1, h2]
theorem bdec (x y : Bool) : decide (x = y) = (x == y) := by cases x <;> cases y <;> rfl
def zhI (a b : Hd) : Bool := AV.eqs [.bool (a.was 0), .bool (a.was 1), .bool (a.was 2), .bool (a.was 3), .bool (a.was 4), .bool (a.was 5), .bool (a.was 6), .bool (a.was 7), .bool (a.was 8), .bool (a.was 9), .bool (a.was 10), .bool (a.was 11)] [.bool (b.was 0), .bool (b.was 1), .bool (b.was 2), .bool (b.was 3), .bool (b.was 4), .bool (b.was 5), .bool (b.was 6), .bool (b.was 7), .bool (b.was 8), .bool (b.was 9), .bool (b.was 10), .bool (b.was 11)]
theorem ziN (a : Hd) : zhI a a = true := by simp [zhI]
def zdP (a b : Hd) : Bool := decide (a.id = b.id) && (zed a.path b.path && (decide (a.over = b.over) && (decide (a.needs = b.needs) && (decide (a.stage = b.stage) && (decide (a.gone = b.gone) && (zhI a b && ((a.opn == b.opn) && (decide (a.timer = b.timer) && (a.shown == b.shown)))))))))
theorem zgN (a : Hd) : zdP a a = true := by simp [zdP, ziN, zed]
theorem zfq (a b : Hd) (ha : a.len) : C f_lockbarref17_Same [a.av, b.av] (.bool (zdP a b)) := by
 obtain ⟨l1, l2, l3⟩ := ha
 refine ctr (a.cells ++ b.cells) run_lockbarref17_Same rfl (by simp [zaj]) rfl ?_ rfl
 unfold rt_lockbarref17_Same
 simp [Hd.cells]
 refine zap (avs := [a.path.av, b.path.av]) (.bool (zed a.path b.path)) rfl (fun _ => ⟨by simp [Path.cells], zkQ _ _ (by omega)⟩) (by simp) ?_
 simp
 refine zap (avs := [steps a.over, steps b.over]) (.bool (decide (a.over = b.over))) rfl (fun _ => ⟨by simp, zbW _ _ (by omega)⟩) (by simp) ?_
 simp
 refine zap (avs := [needs a.needs, needs b.needs]) (.bool (decide (a.needs = b.needs))) rfl (fun _ => ⟨by simp, zd1 _ _ (by omega)⟩) (by simp) ?_
 simp [zdP, zhI, Bool.and_assoc]
 simp only [bdec]
end Go.Lb.LK
namespace Go.Lb.LK
open Go Go.Lb Go.Proofs Go.RowKit
theorem lih (l : Lay) (im : Img) (h : Hd) : AV.pureAll (l.cells ++ im.cells ++ h.cells) = true := by simp [zaj]
theorem zgF (h : Hd) : (zdt h).length ≤ h.needs.length := List.length_filter_le _ _
def zbv (h : Hd) : List Int := (h.path.steps.drop h.gone.toNat).map (·.s) ++ if h.opn = true then [] else h.over.map (·.s)
theorem zgc {α : Type} (l : List α) {g i : Nat} (hg : g ≤ i) (h : i < l.length) : (l.take (i + 1)).drop g = (l.take i).drop g ++ [l[i]] := by
 rw [List.take_add_one, List.getElem?_eq_getElem h, List.drop_append_of_le_length (by rw [List.length_take]; omega)]; rfl
theorem ziD (h : Hd) : (zbv h).length ≤ h.path.steps.length + h.over.length := by
 unfold zbv
 rw [List.length_append, List.length_map, List.length_drop]
 split <;> simp <;> omega
theorem zd4 (h : Hd) (hl : h.len) : C f_lockbarref17_Sections [h.av] (ints (zbv h)) := by
 obtain ⟨h1, h2, h3⟩ := hl
 refine ctr h.cells run_lockbarref17_Sections rfl (by simp) (by simp) ?_ rfl
 unfold rt_lockbarref17_Sections
 simp [Hd.cells]
 obtain ⟨g, hg⟩ : ∃ g : Nat, g = h.gone.toNat := ⟨_, rfl⟩
 refine zae rfl (fun vs => ∃ i : Nat, g ≤ i ∧ vs = [ints (((h.path.steps.take i).drop g).map (·.s)), I i]) (fun vs => match vs with | [_, .int _ j] => h.path.steps.length - j.toNat | _ => 0) ⟨g, by omega, by simp; omega⟩ ?_
 rintro vs - ⟨i, hgi, rfl⟩
 simp
 refine ⟨fun hlt => ?_, fun hge => ?_⟩
 ·have hw := zaf (i := i) (by omega)
  have := zgc h.path.steps hgi hlt
  simp [hlt, Step.cells, hw]
  refine ⟨by omega, ⟨i + 1, by omega, ?_, by omega⟩, by omega⟩
  have e := congrArg (List.map (I ∘ fun x : Step => x.s)) this
  simp at e
  exact e.symm
 ·have ht : (h.path.steps.map (fun x => x.s)).take i = h.path.steps.map (fun x => x.s) := List.take_of_length_le (by simp; omega)
  rw [ht]
  refine zae rfl (fun vs => ∃ k : Nat, k ≤ h.over.length ∧ (h.opn = true → k = 0) ∧ vs = [ints ((h.path.steps.drop g).map (·.s) ++ (h.over.take k).map (·.s)), I k]) (fun vs => match vs with | [_, .int _ j] => h.over.length - j.toNat | _ => 0) ⟨0, by omega, by simp, by simp⟩ ?_
  rintro vs - ⟨k, hk, hko, rfl⟩
  simp
  cases ho : h.opn
  ·simp
   refine ⟨fun hlt => ?_, fun hge => ?_⟩
   ·have hw := zaf (i := k) (by omega)
    have hmt := map_take (I ∘ fun x : Step => x.s) h.over hlt
    simp [hlt, Step.cells, hw]
    refine ⟨by omega, ⟨k + 1, by omega, ?_, by omega⟩, by omega⟩
    simpa using hmt.symm
   ·have : h.over.take k = h.over := List.take_of_length_le (by omega)
    simp [zbv, ho, this, hg]
    rw [List.take_of_length_le (by simpa using hge)]
  ·simp [zbv, ho, hg, hko ho]
theorem zma (h : Hd) (hl : h.len) (s : Int) : C f_lockbarref17_Has [h.av, I s] (.bool (decide (s ∈ zbv h))) := by
 have hl' := hl
 obtain ⟨h1, h2, h3⟩ := hl
 have hsl := ziD h
 refine ctr (h.cells ++ [I s]) run_lockbarref17_Has rfl (by simp [zaj, AV.pureAll, AV.pure]) rfl ?_ rfl
 unfold rt_lockbarref17_Has
 simp [Hd.cells]
 refine call (zd4 h hl') (by simp [Hd.cells]) (by simp) ?_
 simp
 refine zae rfl (fun vs => ∃ i : Nat, i ≤ (zbv h).length ∧ vs = [I i] ∧ zbj (fun x => decide (x = s)) ((zbv h).take i)) (fun vs => match vs with | [.int _ j] => (zbv h).length - j.toNat | _ => 0) ⟨0, by simp, by simp, rfl⟩ ?_
 rintro vs - ⟨i, hik, rfl, hq⟩
 simp
 refine ⟨fun hlt => ?_, fun hge => ?_⟩
 ·have hw := zaf (i := i) (by omega)
  simp [hlt, hw]
  by_cases he : (zbv h)[i] = s
  ·right
   exact ⟨he, he ▸ List.getElem_mem hlt⟩
  ·left
   exact ⟨he, ⟨i + 1, by omega, by omega, zaS hlt hq (by simpa using he)⟩, by omega⟩
 ·have : (zbv h).take i = zbv h := List.take_of_length_le (by omega)
  rw [this] at hq
  unfold zbj at hq
  simp at hq
  exact fun hm => hq s hm rfl
end Go.Lb.LK
namespace Go.Lb.LK
open Go Go.Lb Go.Proofs Go.RowKit
def zmZ (h : Hd) (p : Int) : Option Int := ((zdt h).find? fun x => decide (x.p = p)).map (·.pos)
end Go.Lb.LK
namespace Go.Lb.LK
open Go Go.Lb
@[simp] theorem zlO : IntKind.u32.min = 0 := by decide +kernel
@[simp] theorem zlN : IntKind.u32.max = 4294967295 := by decide +kernel
theorem zoj {cs : List AV} (h : imgT.fits cs) : ∃ x : Img, AV.agg cs = x.av ∧ x.ok := by
 simp only [imgT, inT, uT, iT, zbm, zaF, zaI, zaG, List.append_nil, List.cons_append, List.nil_append] at h
 obtain ⟨age, q, rfl, _, f0, q, rfl, _, f1, q, rfl, _, f2, q, rfl, _, f3, q, rfl, _, f4, q, rfl, _, f5, q, rfl, _, f6, q, rfl, _, f7, q, rfl, _, f8, q, rfl, _, f9, q, rfl, _, f10, q, rfl, _, f11, q, rfl, _, f12, q, rfl, _, f13, q, rfl, _, f14, q, rfl, _, f15, q, rfl, _, f16, q, rfl, _, f17, q, rfl, _, f18, q, rfl, _, f19, q, rfl, _, f20, q, rfl, _, f21, q, rfl, _, f22, q, rfl, _, f23, q, rfl, _, oc, q, rfl, h1, no, q, rfl, h2, re, q, rfl, h3, la, q, rfl, h4, rfl⟩ := h
 simp only [zlO, zlN] at h1 h2 h3 h4
 exact ⟨⟨age, fun i => [f0, f1, f2, f3, f4, f5, f6, f7, f8, f9, f10, f11, f12, f13, f14, f15, f16, f17, f18, f19, f20, f21, f22, f23].getD i 0, oc, no, re, la⟩, rfl, h1, h2, h3, h4⟩
theorem znj {cs : List AV} (h : zni.fits cs) : ∃ x : Hd, AV.agg cs = x.av ∧ 0 ≤ x.stage ∧ x.stage ≤ 255 := by
 simp only [zni, zov, iT, zbm, zaF, zeT, zaI, zbu, zaG, List.append_nil, List.cons_append, List.nil_append] at h
 obtain ⟨id, q, rfl, _, sig, q, rfl, _, ex, q, rfl, _, es, q, rfl, hs, ov, q, rfl, ho, ne, q, rfl, hn, st, q, rfl, h1, go, q, rfl, _, w0, q, rfl, w1, q, rfl, w2, q, rfl, w3, q, rfl, w4, q, rfl, w5, q, rfl, w6, q, rfl, w7, q, rfl, w8, q, rfl, w9, q, rfl, w10, q, rfl, w11, q, rfl, op, q, rfl, ti, q, rfl, _, sh, q, rfl, rfl⟩ := h
 obtain ⟨es, rfl⟩ := ze0 (g := Step.av) (fun cs h => zjq h) es hs.2
 obtain ⟨ov, rfl⟩ := ze0 (g := Step.av) (fun cs h => zjq h) ov ho.2
 obtain ⟨ne, rfl⟩ := ze0 (g := Need.av) (fun cs h => znr h) ne hn.2
 exact ⟨⟨id, ⟨sig, ex, es⟩, ov, ne, st, go, fun i => [w0, w1, w2, w3, w4, w5, w6, w7, w8, w9, w10, w11].getD i false, op, ti, sh⟩, rfl, by simpa using h1⟩
theorem znl {x : AV} (h : imgT.fits x.cells) (h2 : zdx true x) : ∃ l : Img, x = l.av ∧ l.ok := by
 obtain ⟨cs, rfl⟩ := h2.1 rfl
 exact zoj h
end Go.Lb.LK
namespace Go.Lb.LK
open Go Go.Lb
structure Kern where
 next : Int
 held : List Hd
 want : Nat → Int
 run : Nat → Int
 fail : Nat → Bool
def zdr (w r : Nat → Int) (f : Nat → Bool) : List AV := [I (w 0), I (r 0), .bool (f 0), I (w 1), I (r 1), .bool (f 1), I (w 2), I (r 2), .bool (f 2), I (w 3), I (r 3), .bool (f 3), I (w 4), I (r 4), .bool (f 4), I (w 5), I (r 5), .bool (f 5), I (w 6), I (r 6), .bool (f 6), I (w 7), I (r 7), .bool (f 7), I (w 8), I (r 8), .bool (f 8), I (w 9), I (r 9), .bool (f 9), I (w 10), I (r 10), .bool (f 10), I (w 11), I (r 11), .bool (f 11), I (w 12), I (r 12), .bool (f 12), I (w 13), I (r 13), .bool (f 13), I (w 14), I (r 14), .bool (f 14), I (w 15), I (r 15), .bool (f 15), I (w 16), I (r 16), .bool (f 16), I (w 17), I (r 17), .bool (f 17), I (w 18), I (r 18), .bool (f 18), I (w 19), I (r 19), .bool (f 19), I (w 20), I (r 20), .bool (f 20), I (w 21), I (r 21), .bool (f 21), I (w 22), I (r 22), .bool (f 22), I (w 23), I (r 23), .bool (f 23)]
def Kern.cells (k : Kern) : List AV := [I k.next, .sl (k.held.map Hd.av), I (k.want 0), I (k.run 0), .bool (k.fail 0), I (k.want 1), I (k.run 1), .bool (k.fail 1), I (k.want 2), I (k.run 2), .bool (k.fail 2), I (k.want 3), I (k.run 3), .bool (k.fail 3), I (k.want 4), I (k.run 4), .bool (k.fail 4), I (k.want 5), I (k.run 5), .bool (k.fail 5), I (k.want 6), I (k.run 6), .bool (k.fail 6), I (k.want 7), I (k.run 7), .bool (k.fail 7), I (k.want 8), I (k.run 8), .bool (k.fail 8), I (k.want 9), I (k.run 9), .bool (k.fail 9), I (k.want 10), I (k.run 10), .bool (k.fail 10), I (k.want 11), I (k.run 11), .bool (k.fail 11), I (k.want 12), I (k.run 12), .bool (k.fail 12), I (k.want 13), I (k.run 13), .bool (k.fail 13), I (k.want 14), I (k.run 14), .bool (k.fail 14), I (k.want 15), I (k.run 15), .bool (k.fail 15), I (k.want 16), I (k.run 16), .bool (k.fail 16), I (k.want 17), I (k.run 17), .bool (k.fail 17), I (k.want 18), I (k.run 18), .bool (k.fail 18), I (k.want 19), I (k.run 19), .bool (k.fail 19), I (k.want 20), I (k.run 20), .bool (k.fail 20), I (k.want 21), I (k.run 21), .bool (k.fail 21), I (k.want 22), I (k.run 22), .bool (k.fail 22), I (k.want 23), I (k.run 23), .bool (k.fail 23)]
abbrev Kern.av (k : Kern) : AV := .agg k.cells
abbrev zoh (l : List Hd) : AV := .sl (l.map Hd.av)
@[simp] theorem znQ (l : List Hd) : AV.pureAll (l.map Hd.av) = true := za2 _ (fun x => by simp [AV.pure]) l
@[simp] theorem Kern.pure (k : Kern) : AV.pureAll k.cells = true := by simp [Kern.cells, AV.pureAll, AV.pure]
structure Mach where
 want : Int
 run : Int
 fail : Bool
 deriving DecidableEq
def Mach.cells (m : Mach) : List AV := [I m.want, I m.run, .bool m.fail]
abbrev Mach.av (m : Mach) : AV := .agg m.cells
@[simp] theorem Mach.pure (m : Mach) : AV.pureAll m.cells = true := by simp [Mach.cells, AV.pureAll, AV.pure]
def Kern.mach (k : Kern) (i : Nat) : Mach := ⟨k.want i, k.run i, k.fail i⟩
def Kern.ok (k : Kern) : Prop := ∀ h ∈ k.held, 0 ≤ h.stage ∧ h.stage ≤ 255
def zbP : TS := .agg [iT, iT, .bool]
def zli : TS := .agg [iT, .sl true zni, .agg [zbP, zbP, zbP, zbP, zbP, zbP, zbP, zbP, zbP, zbP, zbP, zbP, zbP, zbP, zbP, zbP, zbP, zbP, zbP, zbP, zbP, zbP, zbP, zbP]]
theorem zjM : ∀ (n : Nat) (vals : List AV), TS.fitsAll (List.replicate n zbP) vals → ∃ ms : List Mach, ms.length = n ∧ vals = ms.flatMap Mach.cells
 | 0, vals, h => ⟨[], rfl, by rw [List.replicate_zero, zaG] at h; rw [h]; rfl⟩
 | n + 1, vals, h => by
  rw [List.replicate_succ, zbP, zaI] at h
  simp only [iT, List.cons_append, List.nil_append, zaF, zeT] at h
  obtain ⟨w, q, rfl, _, r, q, rfl, _, f, q, rfl, h⟩ := h
  obtain ⟨ms, h1, rfl⟩ := zjM n q h
  exact ⟨⟨w, r, f⟩ :: ms, by simp [h1], rfl⟩
theorem zlp {ms : List Mach} (h : ms.length = 24) : ms.flatMap Mach.cells = zdr (fun i => (ms[i]?.map (·.want)).getD 0) (fun i => (ms[i]?.map (·.run)).getD 0) (fun i => (ms[i]?.map (·.fail)).getD false) := by
 match ms, h with
 | [m0, m1, m2, m3, m4, m5, m6, m7, m8, m9, m10, m11, m12, m13, m14, m15, m16, m17, m18, m19, m20, m21, m22, m23], _ => rfl
theorem zno {cs : List AV} (h : zli.fits cs) : ∃ x : Kern, AV.agg cs = x.av ∧ x.ok := by
 rw [zli, zbm, iT, zaF] at h
 obtain ⟨n, q, rfl, _, h⟩ := h
 rw [zbu] at h
 obtain ⟨hs, q, rfl, hh, h⟩ := h
 rw [zaI, List.append_nil] at h
 obtain ⟨ms, h1, rfl⟩ := zjM 24 q h
 obtain ⟨hs, rfl, hq⟩ := zhA (g := Hd.av) (Q := fun h => 0 ≤ h.stage ∧ h.stage ≤ 255) (fun cs h => znj h) hs hh.2
 rw [zlp h1]
 exact ⟨⟨n, hs, fun i => (ms[i]?.map (·.want)).getD 0, fun i => (ms[i]?.map (·.run)).getD 0, fun i => (ms[i]?.map (·.fail)).getD false⟩, rfl, hq⟩
theorem zjI {x : AV} (h : zli.fits x.cells) (h2 : zdx true x) : ∃ l : Kern, x = l.av ∧ l.ok := by
 obtain ⟨cs, rfl⟩ := h2.1 rfl
 exact zno h
end Go.Lb.LK
namespace Go.Lb.LK
open Go Go.Lb Go.Proofs Go.RowKit
def zbs (a b : Hd) : Bool := !((zbv a).any fun s => decide (s ∈ zbv b)) && !zdm (zdt a) (zdt b)
theorem hh (a b : Hd) : AV.pureAll (a.cells ++ b.cells) = true := by simp [zaj]
theorem zkJ {a b : Hd} {s : Int} (h1 : s ∈ zbv a) (h2 : s ∈ zbv b) : zbs a b = false := by
 have : ((zbv a).any fun s => decide (s ∈ zbv b)) = true := List.any_eq_true.2 ⟨s, h1, by simpa using h2⟩
 simp [zbs, this]
theorem zgl (a b : Hd) (ha : a.len) (hb : b.len) : C f_lockbarref17_Apart [a.av, b.av] (.bool (zbs a b)) := by
 have hna := zgF a
 have hnb := zgF b
 have hsl := ziD a
 have ha' := ha
 have hb' := hb
 obtain ⟨h1, h2, h3⟩ := ha
 obtain ⟨k1, k2, k3⟩ := hb
 refine ctr (a.cells ++ b.cells) run_lockbarref17_Apart rfl (hh a b) rfl ?_ rfl
 unfold rt_lockbarref17_Apart
 simp [Hd.cells]
 refine call (zd4 a ha') (by simp [Hd.cells]) (by simp) ?_
 simp
 refine zae rfl (fun vs => ∃ i : Nat, i ≤ (zbv a).length ∧ vs = [I i] ∧ zbj (fun s => decide (s ∈ zbv b)) ((zbv a).take i)) (fun vs => match vs with | [.int _ j] => (zbv a).length - j.toNat | _ => 0) ⟨0, by omega, by simp, rfl⟩ ?_
 rintro vs - ⟨i, hi, rfl, hq⟩
 simp
 refine ⟨fun hlt => ?_, fun hge => ?_⟩
 ·have hw := zaf (i := i) (by omega)
  simp [hlt]
  refine call (zma b hb' (zbv a)[i]) (by simp [Hd.cells, hlt]) (by simp) ?_
  by_cases hm : (zbv a)[i] ∈ zbv b
  ·simp [hm, zkJ (List.getElem_mem hlt) hm]
  ·simp [hm, hw]
   exact ⟨⟨i + 1, by omega, by omega, zaS hlt hq (by simpa using hm)⟩, by omega⟩
 ·have ht : (zbv a).take i = zbv a := List.take_of_length_le (by omega)
  rw [ht] at hq
  unfold zbj at hq
  refine call (zgm a ha') (by simp [Hd.cells]) (by simp) ?_
  simp
  refine call (zgm b hb') (by simp [Hd.cells]) (by simp) ?_
  simp
  refine call (zgn (zdt a) (zdt b) (by omega) (by omega)) (by simp) (by simp) ?_
  simp only [zbs, hq]
  simp
def zgD (m : Mach) : Bool := (decide (m.want = 0 ∨ m.want = 1) && decide (0 ≤ m.run ∧ m.run ≤ 1000)) || decide (m = ⟨-1, 0, false⟩)
theorem zmx {a b : Mach} : a = b ↔ a.want = b.want ∧ a.run = b.run ∧ a.fail = b.fail := by
 cases a; cases b; simp
theorem zkS : C f_lockbarref16_Rest [] (Mach.av ⟨-1, 0, false⟩) := by
 refine ctr [] run_lockbarref16_Rest rfl rfl rfl ?_ rfl
 unfold rt_lockbarref16_Rest
 simp [Mach.cells]
theorem zmw (a b c d : Int) (e f : Bool) : AV.eqs [I a, I b, .bool e] [I c, I d, .bool f] = decide ((⟨a, b, e⟩ : Mach) = ⟨c, d, f⟩) := by
 by_cases h1 : a = c <;> by_cases h2 : b = d <;> cases e <;> cases f <;> simp [AV.eqs, AV.eq1, h1, h2]
theorem zj4 (m : Mach) : C f_lockbarref16_Right [m.av] (.bool (zgD m)) := by
 refine ctr m.cells run_lockbarref16_Right rfl (by simp) rfl ?_ rfl
 unfold rt_lockbarref16_Right
 obtain ⟨w, r, f⟩ := m
 simp [Mach.cells]
 refine ⟨fun hb => ?_, fun h1 h2 h3 h4 => ?_⟩
 ·have e1 : ¬ (w = 0 ∨ w = 1) ∨ ¬ (0 ≤ r ∧ r ≤ 1000) := by omega
  have e2 : (⟨w, r, f⟩ : Mach) ≠ ⟨-1, 0, false⟩ := by
   intro h; rw [zmx] at h; simp at h; omega
  simp only [zgD, e2, decide_false, Bool.or_false]
  rcases e1 with e1 | e1 <;> simp [e1]
 ·refine zap (avs := []) (Mach.av ⟨-1, 0, false⟩) rfl (fun _ => ⟨rfl, zkS⟩) (fun _ => rfl) ?_
  have hw : w = -1 ∨ w = 0 ∨ w = 1 := by omega
  rcases hw with rfl | rfl | rfl <;> simp [Mach.cells, zmw, zgD, h3, h4] <;> rfl
end Go.Lb.LK
namespace Go.Lb.LK
open Go Go.Lb Go.Proofs Go.RowKit
def Kern.wide (k : Kern) : Prop := k.held.length ≤ 2000000000000 ∧ ∀ h ∈ k.held, h.wide
def Kern.len (k : Kern) : Prop := k.held.length ≤ 1048576 ∧ ∀ h ∈ k.held, h.len
theorem ks (k : Kern) (s : Int) : AV.pureAll (k.cells ++ [I s]) = true := by simp [zaj, AV.pureAll, AV.pure]
theorem Kern.len.wide {k : Kern} (hl : k.len) : k.wide := by
 have h1 := hl.1
 exact ⟨by omega, fun h hh => (hl.2 h hh).wide⟩
theorem Kern.atW (k : Kern) (hl : k.wide) {i : Nat} (h : i < k.held.length) : k.held[i].wide := hl.2 _ (List.getElem_mem h)
theorem Kern.at (k : Kern) (hl : k.len) {i : Nat} (h : i < k.held.length) : k.held[i].len := hl.2 _ (List.getElem_mem h)
def zjc (k : Kern) (s : Int) : Option Int := (k.held.find? fun h => decide (s ∈ zbv h)).map (·.id)
def zlQ (k : Kern) (p : Int) : Option Int := k.held.findSome? fun h => zmZ h p
def zje (k : Kern) (p : Int) : Bool := k.held.any fun h => (zmZ h p).isSome && !decide (h.stage = 1)
end Go.Lb.LK
namespace Go.Lb.LK
open Go Go.Lb Go.Proofs Go.RowKit
theorem Hd.one (h : Hd) : h.cells.length = 23 ∧ AV.ones h.cells = true := by simp [Hd.cells]
theorem zmK (l : List Hd) {i : Nat} (h : i < l.length) : (l.map Hd.av).set i l[i].av = l.map Hd.av := by
 have : (l.map Hd.av)[i]'(by simpa using h) = l[i].av := by simp
 rw [← this, List.set_getElem_self]
def zic (l : Lay) : Bool := (l.exits.take 31).any (fun e => decide (20 < e.over.length)) || (decide (40 < l.secs.length) || (decide (30 < l.sigs.length) || (decide (30 < l.exits.length) || decide (40 < l.flanks.length))))
theorem zfo (l : Lay) : C f_lockbarref06_Great [l.av] (.bool (zic l)) := by
 refine ctr l.cells run_lockbarref06_Great rfl (by simp) rfl ?_ rfl
 unfold rt_lockbarref06_Great
 simp [Lay.cells]
 refine zae rfl (fun vs => ∃ j : Nat, j ≤ l.exits.length ∧ j ≤ 31 ∧ vs = [I j] ∧ zbj (fun e => decide (20 < e.over.length)) (l.exits.take j)) (fun vs => match vs with | [.int _ j] => 32 - j.toNat | _ => 0) ⟨0, by omega, by omega, by simp, rfl⟩ ?_
 rintro vs - ⟨i, hi, hi2, rfl, hq⟩
 simp
 refine ⟨fun hlt hle => ?_, fun hstop => ?_⟩
 ·have hw := zaf (i := i) (by omega)
  simp [hlt, Exi.cells, hw]
  by_cases hb : 20 < l.exits[i].over.length
  ·right
   refine ⟨by omega, ?_⟩
   have : (l.exits.take 31).any (fun e => decide (20 < e.over.length)) = true := List.any_eq_true.2 ⟨l.exits[i], List.mem_take_iff_getElem.2 ⟨i, by omega, rfl⟩, by simpa using hb⟩
   simp [zic, this]
  ·left
   exact ⟨by omega, ⟨i + 1, by omega, by omega, by omega, zaS hlt hq (by simpa using hb)⟩, by omega⟩
 ·have : (l.exits.take 31).any (fun e => decide (20 < e.over.length)) = false := by
   by_cases hl : i < l.exits.length
   ·have := hstop hl
    have : i = 31 := by omega
    subst this; exact hq
   ·rw [List.take_of_length_le (show l.exits.length ≤ i by omega)] at hq
    refine List.any_eq_false.2 fun x hx => ?_
    exact List.any_eq_false.1 hq x (List.mem_of_mem_take hx)
  have e1 : decide (40 < (l.secs.length : Int)) = decide (40 < l.secs.length) := decide_eq_decide.2 (by omega)
  have e2 : decide (30 < (l.sigs.length : Int)) = decide (30 < l.sigs.length) := decide_eq_decide.2 (by omega)
  have e3 : decide (30 < (l.exits.length : Int)) = decide (30 < l.exits.length) := decide_eq_decide.2 (by omega)
  have e4 : decide (40 < (l.flanks.length : Int)) = decide (40 < l.flanks.length) := decide_eq_decide.2 (by omega)
  simp [zic, this, e1, e2, e3, e4, Bool.or_assoc]
end Go.Lb.LK
namespace Go.Lb.LK
open Go Go.Lb Go.Proofs Go.RowKit
theorem zcd {h : Hd} (hr : zav h = true) : h.g1 ∧ h.g2 ∧ zdm h.needs h.needs = false ∧ h.wasOk = true ∧ h.secs.Nodup ∧ h.needs.all (zcH h.path.steps.length) = true := by
 simp only [zav, Bool.and_eq_true, decide_eq_true_eq, Bool.not_eq_true'] at hr
 exact ⟨hr.1, hr.2.1, hr.2.2.1, hr.2.2.2.1, hr.2.2.2.2.1, hr.2.2.2.2.2⟩
theorem zmR (h : Hd) (k : Nat) (hk : k < 12) : (h.cells[k * 1 + 8]?).getD .undef = .bool (h.was k) := by
 rw [Nat.mul_one, ← List.getD_eq_getElem?_getD]; exact znJ h hk _
theorem zin {l : List Int} {i j : Nat} (hij : i < j) (hj : j < l.length) (he : l[i] = l[j]) : ¬ l.Nodup := by
 intro hn
 have := List.pairwise_iff_getElem.1 hn i j (by omega) hj hij
 exact this he
theorem zkl {l : List Int} {k : Nat} (hk : k < l.length) (hn : (l.take k).Nodup) (hi : ∀ i, (h : i < k) → l[i] ≠ l[k]) : (l.take (k + 1)).Nodup := by
 rw [List.take_add_one, List.getElem?_eq_getElem hk]
 simp only [Option.toList_some]
 rw [List.nodup_append]
 refine ⟨hn, by simp, ?_⟩
 intro a ha b hb
 simp at hb; subst hb
 obtain ⟨i, hi2, rfl⟩ := List.mem_iff_getElem.1 ha
 rw [List.length_take] at hi2
 rw [List.getElem_take]
 exact hi i (by omega)
theorem zfp (h : Hd) (hl : h.wide) (hs : 0 ≤ h.stage ∧ h.stage ≤ 255) : C f_lockbarref17_Right [h.av] (.bool (zav h)) := by
 obtain ⟨l1, l2, l3⟩ := hl
 refine ctr h.cells run_lockbarref17_Right rfl (by simp) rfl ?_ rfl
 unfold rt_lockbarref17_Right
 simp [Hd.cells]
 refine zap (avs := [needs h.needs, needs h.needs]) (.bool (zdm h.needs h.needs)) rfl (fun _ => ⟨by simp, zgn _ _ (by omega) (by omega)⟩) (by simp) ?_
 by_cases g1 : h.g1 ∧ h.g2
 ·have g1' := g1.1
  have g2' := g1.2
  obtain ⟨⟨a1, a2, a3, a4, a5, a6, a7⟩, d1, d2, d3, d4⟩ := g1
  have b1 : ¬ h.id < 1 := by omega
  have b2 : ¬ 1073741824 < h.id := by omega
  have b2' : ¬ 1073741824 < h.timer := by omega
  have b3 : ¬ h.timer < 0 := by omega
  have b4 : ¬ ((h.path.steps.length : Int) < 1) := by omega
  have b5 : ¬ (12 < (h.path.steps.length : Int)) := by omega
  have b6 : ¬ (2 < (h.over.length : Int)) := by omega
  have e1 : ¬ h.stage < 1 := by omega
  have e2 : ¬ 5 ≤ h.stage := by omega
  have e3 : ¬ h.gone < 0 := by omega
  have e4 : ¬ (h.path.steps.length : Int) < h.gone := by omega
  simp [b1, b2, b2', b3, b4, b5, b6, e1, e2, e3, e4]
  refine ⟨fun hc => by simp [zav, hc], fun hc => ⟨fun a _ => by simp [Step.cells], by omega, fun a _ => by simp [Step.cells], by omega, ?_⟩⟩
  have hsecs : h.secs = (h.path.steps ++ h.over).map (·.s) := rfl
  have hlen : (h.path.steps ++ h.over).length = h.path.steps.length + h.over.length := by simp
  generalize hall : h.path.steps ++ h.over = all at hsecs hlen
  have hmap : List.map Step.av h.path.steps ++ List.map Step.av h.over = all.map Step.av := by rw [← hall, List.map_append]
  refine zae rfl (fun vs => ∃ k : Nat, k ≤ all.length ∧ vs = [I k] ∧ ((all.map (·.s)).take k).Nodup) (fun vs => match vs with | [.int _ j] => all.length - j.toNat | _ => 0) ⟨0, by simp, by simp, by simp⟩ ?_
  rintro vs - ⟨k, hk, rfl, hnd⟩
  simp [hmap, ← hlen]
  refine ⟨fun hlt => ?_, fun hge => ?_⟩
  ·have hltm : k < (all.map (·.s)).length := by simpa using hlt
   refine zae rfl (fun vs => ∃ j : Nat, j ≤ k ∧ vs = [I j] ∧ ∀ i, i < j → ∀ x, all[i]? = some x → ¬ x.s = all[k].s) (fun vs => match vs with | [.int _ j] => k - j.toNat | _ => 0) ⟨0, by simp, by simp, by simp⟩ ?_
   rintro vs - ⟨j, hj, rfl, hne⟩
   simp [hmap]
   refine ⟨fun hjk => ?_, fun hjk => ?_⟩
   ·have hja : j < all.length := by omega
    have hwr := zaf (i := j) (by omega)
    simp [hlt, hja, Step.cells, hwr]
    refine ⟨by omega, by omega, ?_⟩
    by_cases he : all[j].s = all[k].s
    ·right
     refine ⟨he, ?_⟩
     have : ¬ h.secs.Nodup := by
      rw [hsecs]
      exact zin (i := j) (j := k) (by omega) (by simpa using hlt) (by simpa using he)
     simp [zav, this]
    ·left
     refine ⟨he, ⟨j + 1, by omega, by omega, fun i hi x hx => ?_⟩, by omega⟩
     by_cases hij : i = j
     ·subst hij
      rw [List.getElem?_eq_getElem hja] at hx
      cases hx; exact he
     ·exact hne i (by omega) x hx
   ·have hwr := zaf (i := k) (by omega)
    have hjk2 : j = k := by omega
    subst hjk2
    simp [hwr]
    refine ⟨⟨j + 1, by omega, by omega, ?_⟩, by omega⟩
    have := zkl hltm hnd (fun i hi he => hne i hi all[i] (List.getElem?_eq_getElem (by omega)) (by simpa using he))
    simpa using this
  ·have hta : (all.map (·.s)).take k = all.map (·.s) := List.take_of_length_le (by simp; omega)
   rw [hta] at hnd
   have hno : h.secs.Nodup := by rw [hsecs]; exact hnd
   refine zae rfl (fun vs => ∃ k : Nat, h.path.steps.length ≤ k ∧ k ≤ 12 ∧ vs = [I k] ∧ ∀ m, h.path.steps.length ≤ m → m < k → h.was m = false) (fun vs => match vs with | [.int _ j] => 12 - j.toNat | _ => 0) ⟨h.path.steps.length, by simp, by omega, by simp, fun m h1 h2 => by omega⟩ ?_
   rintro vs - ⟨m, hm1, hm2, rfl, hwm⟩
   simp
   refine ⟨fun hlt => ?_, fun hge => ?_⟩
   ·have hlt2 : m < 12 := by omega
    have hwr := zaf (i := m) (by omega)
    have hc2 := zmR h m hlt2
    simp only [Hd.cells] at hc2
    simp at hc2
    simp [hc2, hwr]
    refine ⟨by omega, by omega, ?_⟩
    cases hw : h.was m
    ·left
     refine ⟨rfl, ⟨m + 1, by omega, by omega, by omega, fun i h1 h2 => ?_⟩, by omega⟩
     by_cases him : i = m
     ·subst him; exact hw
     ·exact hwm i h1 (by omega)
    ·right
     refine ⟨rfl, ?_⟩
     have : h.wasOk = false := by
      unfold Hd.wasOk
      rw [List.all_eq_false]
      refine ⟨m, by simpa using hlt2, ?_⟩
      simp [hw]; omega
     simp [zav, this]
   ·have hwo : h.wasOk = true := by
     unfold Hd.wasOk
     rw [List.all_eq_true]
     intro i hi
     simp only [List.mem_range] at hi
     by_cases hin : i < h.path.steps.length
     ·simp [hin]
     ·rw [hwm i (by omega) (by omega)]; simp
    have hr : zav h = h.needs.all (zcH h.path.steps.length) := by simp [zav, g1', g2', hc, hwo, hno]
    rw [hr]
    refine zae rfl (fun vs => ∃ i : Nat, i ≤ h.needs.length ∧ vs = [I i] ∧ zbj (fun x => !zcH h.path.steps.length x) (h.needs.take i)) (fun vs => match vs with | [.int _ j] => h.needs.length - j.toNat | _ => 0) ⟨0, by simp, by simp, rfl⟩ ?_
    rintro vs - ⟨i, hi, rfl, hq⟩
    simp
    refine ⟨fun hlt => ?_, fun hge => ?_⟩
    ·have hwr := zaf (i := i) (by omega)
     simp [hlt, Need.cells, hwr]
     cases hok : zcH h.path.steps.length h.needs[i]
     ·right
      refine ⟨?_, h.needs[i], List.getElem_mem hlt, hok⟩
      simp only [zcH, decide_eq_false_iff_not] at hok
      omega
     ·left
      have hok2 := hok
      simp only [zcH, decide_eq_true_eq] at hok2
      exact ⟨by omega, ⟨i + 1, by omega, by omega, zaS hlt hq (by simp [hok])⟩, by omega⟩
    ·have : h.needs.take i = h.needs := List.take_of_length_le (by omega)
     rw [this] at hq
     unfold zbj at hq
     simp at hq
     exact fun x hx => hq x hx
 ·have hr : zav h = false := by
   simp only [zav]
   by_cases hg : h.g1
   ·have : ¬ h.g2 := fun h2 => g1 ⟨hg, h2⟩
    simp [this]
   ·simp [hg]
  rw [hr]
  simp
  intro q1 q2 q3 q4 q5 q6 q7 q8 q9 q10 q11 q12
  exfalso
  apply g1
  unfold Hd.g1 Hd.g2
  omega
theorem zj5 (h : Hd) (hl : h.len) (hs : 0 ≤ h.stage ∧ h.stage ≤ 255) : C f_lockbarref17_Right [h.av] (.bool (zav h)) := zfp h hl.wide hs
theorem zbO {h : Hd} (hl : h.wide) (hr : zav h = true) : h.len := by
 obtain ⟨⟨a1, a2, a3, a4, a5, a6, a7⟩, _⟩ := zcd hr
 exact ⟨by omega, by omega, hl.2.2⟩
end Go.Lb.LK
