/- slices.Delete at routes that are held. -/
/- Contracts over this program. -/
/- Counting, bits, an image. -/
/- Counting, an image. -/
/- An image: what is occupied, where points stand; counting on. -/
/- Counting on; an image behind a tick. -/
/- Rows that are sorted and compacted: the plain law. -/
/- Rows cloned, joined; needs that clash; those that hold. -/
/- Whether a held route may be. -/
/- The document's answers of held routes. -/
/- Whose points stand; the document's held routes. -/
/- What a held route still holds, and wants, as the program has it. -/
/- An image, a held route: what fits their form. -/
/- A kernel, as pure values. -/
/- What is apart, what is the same; machines. -/
/- A kernel: holders, wants, what is locked, what is free. -/
/- A kernel in memory of its own; kernels that are too great. -/
/- The document's Right of a held route. -/
/- Whether a kernel may be. -/
/- Whether a kernel may be, as the program has it. -/
/- A kernel: what is free, which needs can be met. -/
/- Ways through sections; overlaps. -/
/- What steps want, what paths need. -/
/- The document's ways and overlaps. -/
/- Ports, as the document has them; what lies beyond. -/
/- Counting on; a layout of two sections. -/
/- A train through a route: the plain law. -/
/- Whose points stand. -/
/- A train's tick, as the document has it. -/
import Derived.Test.YtkcpgfjlmicnnaaDoorCh1
import Derived.Test.YtkcpgfjlmicnnaaDoorProg
import Derived.WalkKit
import Derived.Deep.LoopGhost
import Derived.Deep.RegionLaw
import Derived.Lib.Walk
import Derived.Lib.SliceRun
import Derived.KernelRfl
import Derived.Deep.MidRow
import Derived.Shelf.RegionOpenPlain
import Derived.Test.YtkcpgfjlmicnnaaDoorCh3
import Derived.Test.YtkcpgfjlmicnnaaDoorFw10
set_option linter.unusedSimpArgs false
set_option linter.unusedVariables false
namespace Go.Proofs
open Go.RowKit Go.Lib

theorem zero_ones {z : Value} (h1 : ∀ u ∈ z.cells.toList, u.oneCell' = true) (n : Nat) : ∀ u ∈ (Builtin.zeroCells z.cells n).toList, u.oneCell' = true := by
  intro u hu
  unfold Builtin.zeroCells at hu
  rw [Array.toList_map, List.mem_map] at hu
  obtain ⟨i, hi, rfl⟩ := hu
  have hi : i < n * z.cells.size := by simpa using hi
  have hz : 0 < z.cells.size := by
    rcases Nat.eq_zero_or_pos z.cells.size with h | h
    · rw [h] at hi; omega
    · exact h
  have hm : i % z.cells.size < z.cells.size := Nat.mod_lt _ hz
  rw [getElem!_pos z.cells _ hm]
  exact h1 _ (by simp)
theorem run_clear_cells {P : Program} (w : World) (t e ty : TypeId) (z : Value) (ht : P.underlying t = some (.slice e)) (hv : ∀ w, (zeroValue e).run P w = .ok z w) (h1 : ∀ u ∈ z.cells.toList, u.oneCell' = true) (b o n c : Nat) (hn : 0 < n)
    (hc : ∀ j, j < n * z.cells.size → (w.cell? ⟨b, o + j, none⟩).isSome = true) (hf : ∀ j, j < n * z.cells.size → w.frozen? ⟨b, o + j, none⟩ = false) :
    (Builtin.clear_ #[t] ty #[.slice (some ⟨b, o, none⟩) n c]).run P w = .ok (.tuple #[]) (w.setCells b o (Builtin.zeroCells z.cells n).toList) := by
  have hl : (Builtin.zeroCells z.cells n).toList.length = n * z.cells.size := by simp [Builtin.zeroCells]
  have hone := zero_ones h1 n
  have hst := run_storeCells_cells (P := P) b o (Builtin.zeroCells z.cells n).toList 0 w (by rw [hl]; simpa using hc) (by rw [hl]; simpa using hf) hone
  simp only [Nat.add_zero] at hst
  obtain ⟨m, rfl⟩ : ∃ m, n = m + 1 := ⟨n - 1, by omega⟩
  simp [Builtin.clear_, run_underlying ht, hv, hst]

theorem info42 : ∃ i, Tryd.prog.info? 42 = some i ∧ i.size = 23 := by
  have h : ((Tryd.prog.info? 42).map (·.size)) = some 23 := by kernel_rfl
  cases hi : Tryd.prog.info? 42 with
  | none => rw [hi] at h; cases h
  | some i => rw [hi] at h; exact ⟨i, rfl, by simpa using h⟩
def zHeld : Value := .agg #[.int .i64 0, .int .i64 0, .int .i64 0, .slice none 0 0, .slice none 0 0, .slice none 0 0, .int .u8 0, .int .i64 0, .bool false, .bool false, .bool false, .bool false, .bool false, .bool false, .bool false, .bool false, .bool false, .bool false, .bool false, .bool false, .bool false, .int .i64 0, .bool false]
theorem zero42 : (∀ w, (zeroValue 42).run Tryd.prog w = .ok zHeld w) ∧ zHeld.cells.size = 23 ∧ ∀ u ∈ zHeld.cells.toList, u.oneCell' = true := by
  have h : (Tryd.prog.info? 42).bind (·.zero) = some zHeld := by kernel_rfl
  refine ⟨fun w => ?_, rfl, by decide⟩
  obtain ⟨i, hi, hz⟩ := Option.bind_eq_some_iff.1 h
  have hti : (typeInfo 42).run Tryd.prog w = .ok i w := by simp [typeInfo, hi]
  simp [zeroValue, hti, hz]

set_option maxHeartbeats 4000000 in
set_option maxRecDepth 1000000 in
theorem del_Held (blk off cap n i j : Nat) (vs : List Value) (T : TypeId) (w : World) (hH : w.heap[blk]? = some (.cells ⟨vs⟩ T (0, 0))) (hn : n ≤ cap) (hv : off + cap * 23 ≤ vs.length) (hij : i < j) (hj : j ≤ n) 
    (hone : ∀ k u, k < n * 23 → vs[off + k]? = some u → u.oneCell' = true) :
    Calls Tryd.prog 18 #[.slice (some ⟨blk, off, none⟩) n cap, .int .i64 i, .int .i64 j] w fun e w' => e = .returned (.slice (some ⟨blk, off, none⟩) (n - (j - i)) cap) ∧
      ∃ zs, zs.length = (j - i) * 23 ∧ (∀ u ∈ zs, u.oneCell' = true) ∧ w' = ((w.drew.setCells blk (off + i * 23) ((vs.drop (off + j * 23)).take ((n - j) * 23))).setCells blk (off + (i + (n - j)) * 23) zs) := by
  have mixed : Tryd.prog.follows Departure.mixedOrders = true := by kernel_rfl
  obtain ⟨i0, hi0, hz1⟩ := info42
  obtain ⟨hzv, hzs, hz1c⟩ := zero42
  obtain ⟨news, hnews⟩ : ∃ news, news = (vs.drop (off + j * 23)).take ((n - j) * 23) := ⟨_, rfl⟩
  have hlen : news.length = (n - j) * 23 := by rw [hnews, List.length_take, List.length_drop]; omega
  have hget : ∀ t, t < (n - j) * 23 → news[t]? = vs[off + (j * 23 + t)]? := by
    intro t ht
    rw [hnews, List.getElem?_take_of_lt ht, List.getElem?_drop]; congr 1; omega
  have hcell : ∀ k, w.cell? ⟨blk, k, none⟩ = vs[k]? := by
    intro k
    simp only [World.cell?, hH, Option.isSome_none, Bool.false_eq_true, if_false]
    simp
  have hfroz : ∀ k, w.frozen? ⟨blk, k, none⟩ = false := by intro k; simp [World.frozen?, hH]
  obtain ⟨A, hA, hsrc⟩ : ∃ A : Addr, (if cap = j then some (⟨blk, off, none⟩ : Addr) else some ⟨blk, off + j * 23, none⟩) = some A ∧ Hid (∀ t u, news[t]? = some u → w.drew.cell? (A.add t) = some u) := by
    by_cases h : cap = j
    · refine ⟨⟨blk, off, none⟩, by simp [h], fun t u hu => ?_⟩
      have h0 : news.length = 0 := by rw [hlen]; omega
      rw [List.length_eq_zero_iff.1 h0] at hu
      simp at hu
    · refine ⟨⟨blk, off + j * 23, none⟩, by simp [h], fun t u hu => ?_⟩
      have ht : t < (n - j) * 23 := by
        have := (List.getElem?_eq_some_iff.1 hu).1
        rwa [hlen] at this
      rw [hget t ht] at hu
      rw [Addr.add_lit, show off + j * 23 + t = off + (j * 23 + t) by omega]
      exact (hcell _).trans hu
  have s1 : Hid (news.length = (n - j) * 23) := hlen
  have s2 : Hid (∀ u ∈ news, u.oneCell' = true) := by
    intro u hu
    obtain ⟨t, ht⟩ := List.mem_iff_getElem?.1 hu
    have hlt : t < (n - j) * 23 := by
      have := (List.getElem?_eq_some_iff.1 ht).1
      rwa [hlen] at this
    rw [hget t hlt] at ht
    exact hone _ u (by omega) ht
  have s3 : Hid (∀ t, t < news.length → (w.drew.cell? ⟨blk, off + i * 23 + t, none⟩).isSome = true ∧ w.drew.frozen? ⟨blk, off + i * 23 + t, none⟩ = false) := by
    intro t ht
    rw [hlen] at ht
    refine ⟨?_, hfroz _⟩
    show (w.cell? _).isSome = true
    rw [hcell, List.getElem?_eq_getElem (by omega)]; rfl
  obtain ⟨W1, hW1⟩ : ∃ W1, W1 = w.drew.setCells blk (off + i * 23) news := ⟨_, rfl⟩
  have hW1c : ∀ k, k < vs.length → (W1.cell? ⟨blk, k, none⟩).isSome = true := by
    intro k hk
    rw [hW1]
    refine World.isSome_setCells blk _ _ _ _ ?_
    show (w.cell? _).isSome = true
    rw [hcell, List.getElem?_eq_getElem hk]; rfl
  have hW1f : ∀ k, W1.frozen? ⟨blk, k, none⟩ = false := by
    intro k
    rw [hW1, World.frozen?_setCells]; exact hfroz k
  obtain ⟨zs, hzs2⟩ : ∃ zs, zs = (Builtin.zeroCells zHeld.cells (n - (i + (n - j)))).toList := ⟨_, rfl⟩
  have hzl : zs.length = (j - i) * 23 := by rw [hzs2]; simp [Builtin.zeroCells, hzs]; omega
  have hzo : ∀ u ∈ zs, u.oneCell' = true := by rw [hzs2]; exact zero_ones hz1c _
  have hcl : ∀ ty, (Builtin.clear_ #[43] ty #[.slice (some ⟨blk, off + (i + (n - j)) * 23, none⟩) (n - (i + (n - j))) (cap - (i + (n - j)))]).run Tryd.prog W1 = .ok (.tuple #[]) (W1.setCells blk (off + (i + (n - j)) * 23) zs) := by
    intro ty
    rw [hzs2]
    refine run_clear_cells W1 43 42 ty zHeld Tryd.underlying43 hzv hz1c blk (off + (i + (n - j)) * 23) _ _ (by omega) (fun k hk => ?_) (fun k _ => hW1f _)
    rw [hzs] at hk
    exact hW1c _ (by omega)
  have hW : Hid (W1 = w.drew.setCells blk (off + i * 23) news) := hW1
  have hic : i ≤ cap := by omega
  have hjc : j ≤ cap := by omega
  rw [← hnews, ← hW1]
  clear hW1 hW1c hW1f hcell hfroz hget hnews hlen hzs2
  go_enter Tryd.func18, Tryd.ntmps18
  go_wp2_with fail
  go_region_law_o (refine step_append_room rfl (.tmp 22) (.tmp 25) 43 rfl 42 i0 23 Tryd.underlying43 hi0 hz1 blk off i cap (by simp [Act.eval, Act.put]) A (n - j) (cap - j) news (by simp [Act.eval, Act.put]) s1.out hsrc.out s2.out (by omega) s3.out ?_; rw [← hW.out])
  go_wp2
  go_ret
  exact ⟨by rw [show n - (j - i) = i + (n - j) by omega]; rfl, zs, hzl, hzo, rfl⟩
end Go.Proofs
namespace Go.Lb
open Go.RowKit
theorem setCells_facts {w : World} {b o : Nat} {us vs : List Value} {T : TypeId} (h : w.heap[b]? = some (.cells ⟨vs⟩ T (0, 0))) (hl : o + us.length ≤ vs.length) (h1 : ∀ u ∈ us, u.oneCell' = true) :
    (w.setCells b o us).heap[b]? = some (.cells ⟨putL vs o us⟩ T (0, 0)) ∧ (∀ k, k ≠ b → (w.setCells b o us).heap[k]? = w.heap[k]?) ∧ (w.setCells b o us).heap.size = w.heap.size ∧ (w.setCells b o us).os = w.os ∧ (w.setCells b o us).tape = w.tape ∧ (w.setCells b o us).output = w.output := by
  obtain ⟨w', h2, h3, h4, h5, h6, h7, h8⟩ := run_storeCells (P := Go.Proofs.Tryd.prog) us w b o 0 vs T h (by simpa using hl) h1
  have hc : ∀ k, w.cell? ⟨b, k, none⟩ = vs[k]? := by
    intro k
    simp only [World.cell?, h, Option.isSome_none, Bool.false_eq_true, if_false]
    simp
  have h9 := run_storeCells_cells (P := Go.Proofs.Tryd.prog) b o us 0 w (fun j hj => by rw [hc, List.getElem?_eq_getElem (by omega)]; rfl) (fun j _ => by simp [World.frozen?, h]) h1
  rw [h9] at h2
  simp only [Nat.add_zero, Result.ok.injEq, true_and] at h2 h3
  subst h2
  exact ⟨h3, h4, h5, h6, h7, h8⟩
theorem delOk_Held : DelOk Go.Proofs.Tryd.prog 18 23 := by
  intro blk off cap n i j vs T w hH hn hv hij hj hm hone
  refine (Go.Proofs.del_Held blk off cap n i j vs T w hH hn hv hij hj hone).mono ?_
  rintro e w' ⟨rfl, zs, z1, z2, rfl⟩
  refine ⟨rfl, ?_⟩
  obtain ⟨news, hnews⟩ : ∃ news, news = (vs.drop (off + j * 23)).take ((n - j) * 23) := ⟨_, rfl⟩
  rw [← hnews]
  have hlen : news.length = (n - j) * 23 := by rw [hnews, List.length_take, List.length_drop]; omega
  have hno : ∀ u ∈ news, u.oneCell' = true := by
    intro u hu
    obtain ⟨t, ht⟩ := List.mem_iff_getElem?.1 hu
    have hlt : t < (n - j) * 23 := by
      have := (List.getElem?_eq_some_iff.1 ht).1
      rwa [hlen] at this
    rw [hnews, List.getElem?_take_of_lt hlt, List.getElem?_drop] at ht
    refine hone (j * 23 + t) u (by omega) ?_
    rw [← ht]; congr 1; omega
  obtain ⟨a1, a2, a3, a4, a5, a6⟩ := setCells_facts (w := w.drew) (o := off + i * 23) (us := news) hH (by omega) hno
  have hl1 : (putL vs (off + i * 23) news).length = vs.length := putL_length _ _ _ (by omega)
  obtain ⟨b1, b2, b3, b4, b5, b6⟩ := setCells_facts (o := off + (i + (n - j)) * 23) (us := zs) a1 (by rw [hl1]; omega) z2
  have hl2 : (putL (putL vs (off + i * 23) news) (off + (i + (n - j)) * 23) zs).length = vs.length := by rw [putL_length _ _ _ (by rw [hl1]; omega), hl1]
  refine ⟨_, hl2, b1, fun k hk => (b2 k hk).trans (a2 k hk), b3.trans a3, b4.trans a4, b5.trans a5, b6.trans a6, ?_⟩
  apply List.ext_getElem?
  intro t
  by_cases ht : t < (n - (j - i)) * 23
  · rw [List.getElem?_take_of_lt ht, List.getElem?_drop, getElem?_putL _ _ _ (by rw [hl1]; omega), if_pos (by omega), getElem?_putL _ _ _ (by omega)]
    by_cases h1 : t < i * 23
    · rw [if_pos (by omega), List.getElem?_append_left (by rw [List.length_take, List.length_drop]; omega), List.getElem?_take_of_lt h1, List.getElem?_drop]
    · rw [if_neg (by omega), if_pos (by omega), List.getElem?_append_right (by rw [List.length_take, List.length_drop]; omega)]
      congr 1
      rw [List.length_take, List.length_drop]; omega
  · rw [List.getElem?_take_eq_none (by omega), List.getElem?_eq_none]
    rw [List.length_append, List.length_take, List.length_drop]; omega
end Go.Lb
namespace Go.Lb.LK
open Go Go.Lb
theorem delOk : ∀ f, 0 < E.del f → DelOk E.P f (E.del f) := by
  intro f h
  have hf : f = 18 := by
    by_cases hf : f = 18
    · exact hf
    · simp [E, hf] at h
  subst hf
  exact delOk_Held
end Go.Lb.LK

namespace Go.Lb.LK
open Go Go.Lb Go.Proofs Go.RowKit

/-- A function of numbers that leaves the world alone. -/
theorem contract_of_calls {P : Program} {f : FuncId} {avs : List AV} {vs : List Value} {r : AV} {v : Value} (hr : r.pure = true) (ha : ∀ c us, Rvs c avs us → us = vs) (hv : ∀ c, Rv c r v) (h : ∀ w, Calls P f ⟨vs⟩ w fun e w' => e = .returned v ∧ w' = w) : Contract P [] f avs r := by
  refine ⟨hr, fun w c us _ him _ hvs => ?_⟩
  rw [ha c us hvs]
  refine (h w).mono ?_
  rintro e w' ⟨rfl, rfl⟩
  exact ⟨v, c, rfl, Cx.Le.refl c, by assumption, him, fun _ _ => ⟨fun _ _ h => h, fun _ h => h⟩, hv c, Below.refl _ _⟩

theorem EOkS : EnvOk ES := ⟨fun f h => by simp [ES] at h, fun f h => by simp [ES] at h, fun f h => by simp [ES] at h, fun g es h => by simp [ES] at h⟩
theorem bits0 : Contract PR [] f_mathbits_Len [.int .u64 0] (.int .i64 0) := by
  refine contract_of_calls (vs := [.int .u64 0]) (v := .int .i64 0) rfl (fun c us h => ?_) (fun c => .int _ _) (fun w => Tryd.bits_Len 0 w (by omega) (by omega))
  cases h with
  | cons _ v _ vs h1 h2 => cases h1; cases h2; rfl
theorem sort0 : Contract PR [] f_slices_Sort_int [.sl []] (.tup []) := by
  refine contract_of EOkS EmixS [] run_slices_Sort_int rfl rfl rfl ?_ rfl
  unfold rt_slices_Sort_int
  refine RTwp_chk.2 ⟨fun _ => by simp, ?_⟩
  refine RTwp_nil.2 (RTwp_chk.2 ⟨fun _ => by simp, RTwp_nil.2 ?_⟩)
  refine RTwp_call0 (r := .int .i64 0) bits0 (by simp) ?_
  simp
  refine RTwp_loop rfl (fun vs => vs = []) (fun _ => 0) rfl ?_
  rintro vs - rfl
  simp
  refine RTwp_loop rfl (fun vs => vs = []) (fun _ => 0) rfl ?_
  rintro vs - rfl
  simp
theorem srtOk : SrtOk PR f_slices_Sort_int := ⟨fun blk off cap zs w h1 h2 h3 => Tryd.slices_Sort_int blk off cap zs w h1 h2 h3, sort0⟩
theorem cptOk : CptOk PR f_slices_Compact_int := ⟨fun blk off cap zs w h1 h2 h3 => Tryd.slices_Compact_int blk off cap zs w h1 h2 h3, fun a cap w => Tryd.slices_Compact_int_empty a cap w⟩
theorem EOk : EnvOk E := by
  refine ⟨fun f h => ?_, fun f h => ?_, delOk, fun g es h => ?_⟩
  · have : f = f_slices_Compact_int := by simpa [E, cptF] using h
    rw [this]; exact cptOk
  · have : f = f_slices_Sort_int := by simpa [E, srtF] using h
    rw [this]; exact srtOk
  · have hall : (GL.all fun es => SE.wfs 0 (fun _ => false) es) = true := by kernel_rfl
    have hm : es ∈ GL := by
      have h : GL[g]? = some es := h
      exact List.mem_of_getElem? h
    exact List.all_eq_true.1 hall es hm
abbrev C (f : Nat) (avs : List AV) (r : AV) : Prop := Contract PR GL f avs r
theorem ctr {f n : Nat} {args : List SE} (vs : List AV) {rt : RT} (hrun : runF E f args n = rt) (hw : SE.wfs n (fun _ => false) args = true)
    (hp : AV.pureAll vs = true) {r : AV} (hr : r.pure = true) (h : RTwp PR GL (fun x => x = r) rt (fun _ _ => False) (envOf vs)) {avs : List AV} (ha : dens (envOf vs) args = avs) : C f avs r :=
  contract_of EOk Emix vs hrun hw hp hr h ha

theorem map_take {α β : Type} (f : α → β) (l : List α) {i : Nat} (h : i < l.length) : (l.take (i + 1)).map f = (l.take i).map f ++ [f l[i]] := by
  rw [List.take_add_one, List.getElem?_eq_getElem h, List.map_append]
  simp
@[simp] theorem ite_avbool (c : Prop) [Decidable c] (a b : Bool) : (if c then AV.bool a else AV.bool b) = AV.bool (if c then a else b) := by split <;> rfl
@[simp] theorem ite_avint (c : Prop) [Decidable c] (k : IntKind) (a b : Int) : (if c then AV.int k a else AV.int k b) = AV.int k (if c then a else b) := by split <;> rfl

/-- A call that is sure, its arguments reckoned. -/
theorem call {ρ : Nat → AV} {R : AV → Prop} {L : Nat → List AV → Prop} {n f : Nat} {args : List SE} {bo : Bool} {ns : List Nd} {k : RT} {r : AV} {avs : List AV} (hc : C f avs r) (ha : dens ρ args = avs) (hb : bo = true → r.scalar = true)
    (h : RTwp PR GL R (.seg ns k) L (setEnv ρ n r)) : RTwp PR GL R (.seg (.call n [] f args bo :: ns) k) L ρ := RTwp_call0 (by rw [ha]; exact hc) hb h
/-- A call that is wanted under conditions. -/
theorem callIf {ρ : Nat → AV} {R : AV → Prop} {L : Nat → List AV → Prop} {pcs : List (SE × Bool)} {n f : Nat} {args : List SE} {bo : Bool} {ns : List Nd} {k : RT} {avs : List AV} (r : AV) (hr : r.pure = true) (hc : Holds ρ pcs → dens ρ args = avs ∧ C f avs r) (hb : bo = true → r.scalar = true)
    (h : RTwp PR GL R (.seg ns k) L (setEnv ρ n r)) : RTwp PR GL R (.seg (.call n pcs f args bo :: ns) k) L ρ := RTwp_call r hr (fun hp => ⟨by rw [(hc hp).1]; exact (hc hp).2, hb⟩) h
end Go.Lb.LK

namespace Go.Lb.LK
open Go Go.Lb Go.Proofs Go.RowKit

def stale (l : Lay) (im : Img) : Bool := decide (l.stale < im.age)
def bitAt (x n : Int) : Bool := decide (0 ≤ n) && (decide (n < 32) && x.toNat.testBit n.toNat)

theorem u32wrap {n : Int} (h0 : 0 ≤ n) (h1 : n ≤ 4294967295) : IntKind.u32.wrap n = n := by
  simp only [IntKind.wrap, IntKind.signed, IntKind.bits]
  simp
  omega
theorem u64wrap {n : Int} (h0 : 0 ≤ n) (h1 : n ≤ 4294967295) : IntKind.u64.wrap n = n := by
  simp only [IntKind.wrap, IntKind.signed, IntKind.bits]
  simp
  omega
theorem pow_i (n : Nat) : (2 : Int) ^ n = ((2 ^ n : Nat) : Int) := by simp
theorem and_pow (x n : Nat) : (((x &&& 2 ^ n : Nat) : Int) != 0) = x.testBit n := by
  cases h : x.testBit n
  · have : x &&& 2 ^ n = 0 := by
      apply Nat.eq_of_testBit_eq
      intro i
      rw [Nat.testBit_and, Nat.testBit_two_pow, Nat.zero_testBit]
      by_cases hi : n = i
      · subst hi; simp [h]
      · simp [hi]
    rw [this]; rfl
  · have : x &&& 2 ^ n ≠ 0 := by
      intro h0
      have := congrArg (Nat.testBit · n) h0
      simp [Nat.testBit_and, h] at this
    simpa using this
theorem g1 (x n : Nat) (hx : x ≤ 4294967295) (hn : n < 32) : (IntKind.u32.wrap ((x % 2 ^ IntKind.u32.bits &&& (IntKind.u32.wrap (2 ^ min n IntKind.u32.bits) % 2 ^ IntKind.u32.bits).toNat : Nat) : Int) != 0) = x.testBit n := by
  have hb : IntKind.u32.bits = 32 := rfl
  have h2 : 2 ^ n ≤ 2 ^ 31 := Nat.pow_le_pow_right (by omega) (by omega)
  have h1 : min n 32 = n := by omega
  have h4 : 2 ^ n ≤ 4294967295 := by omega
  generalize hp : 2 ^ n = p at h4
  rw [hb, h1, pow_i, hp, u32wrap (n := (p : Int)) (by omega) (by omega)]
  have e1 : ((p : Int) % 2 ^ 32).toNat = p := by omega
  have e2 : x % 2 ^ 32 = x := by omega
  have e3 : x &&& p ≤ x := Nat.and_le_left
  rw [e1, e2, u32wrap (by omega) (by omega), ← hp]
  exact and_pow x n
theorem g2 (x n : Nat) (hx : x ≤ 4294967295) (hn : n < 32) : (IntKind.u32.wrap ((((x : Int).fdiv (2 ^ min n IntKind.u32.bits) % 2 ^ IntKind.u32.bits).toNat &&& 1 % 2 ^ IntKind.u32.bits : Nat) : Int) == 1) = x.testBit n := by
  have hb : IntKind.u32.bits = 32 := rfl
  have h1 : min n 32 = n := by omega
  have e4 : Int.fdiv (x : Int) (2 ^ n) = ((x / 2 ^ n : Nat) : Int) := by
    rw [pow_i]
    exact (Int.ofNat_fdiv x (2 ^ n)).symm
  have h6 : x / 2 ^ n ≤ x := Nat.div_le_self _ _
  rw [hb, h1, e4]
  have e1 : (((x / 2 ^ n : Nat) : Int) % 2 ^ 32).toNat = x / 2 ^ n := by generalize x / 2 ^ n = q at h6; omega
  have e2 : 1 % 2 ^ 32 = 1 := rfl
  rw [e1, e2, Nat.and_one_is_mod, Nat.testBit_eq_decide_div_mod_eq]
  have := Nat.mod_two_eq_zero_or_one (x / 2 ^ n)
  rcases this with h | h <;> simp [h] <;> decide

theorem c_bit (x : Int) : C f_image_bit [W x] (.clo f_image_bit_1 [] [.ref [W x] 0]) := by
  refine ctr [W x] run_image_bit rfl rfl rfl ?_ rfl
  unfold rt_image_bit
  simp
theorem c_bit1 (x n : Int) (h0 : 0 ≤ x) (h1 : x ≤ 4294967295) : C f_image_bit_1 [I n, .ref [W x] 0] (.bool (bitAt x n)) := by
  refine ctr [I n, W x] run_image_bit_1 rfl rfl rfl ?_ rfl
  unfold rt_image_bit_1
  obtain ⟨x, rfl⟩ : ∃ k : Nat, x = k := ⟨x.toNat, by omega⟩
  by_cases hn : 0 ≤ n
  · obtain ⟨n, rfl⟩ : ∃ k : Nat, n = k := ⟨n.toNat, by omega⟩
    by_cases hn2 : n < 32
    · have h3 : ((n : Nat) : Int) < 32 := by omega
      simp [bitAt, h3]
      exact g1 x n (by omega) hn2
    · have h3 : ¬ ((n : Nat) : Int) < 32 := by omega
      simp [bitAt, h3]
  · have h3 : ¬ (n ≥ 0) := by omega
    simp [bitAt, hn, h3]
theorem c_r15bit (x n : Int) (h0 : 0 ≤ x) (h1 : x ≤ 4294967295) : C f_lockbarref15_bit [W x, I n] (.bool (bitAt x n)) := by
  refine ctr [W x, I n] run_lockbarref15_bit rfl rfl rfl ?_ rfl
  unfold rt_lockbarref15_bit
  obtain ⟨x, rfl⟩ : ∃ k : Nat, x = k := ⟨x.toNat, by omega⟩
  by_cases hn : 0 ≤ n
  · obtain ⟨n, rfl⟩ : ∃ k : Nat, n = k := ⟨n.toNat, by omega⟩
    by_cases hn2 : n < 32
    · have h3 : ((n : Nat) : Int) < 32 := by omega
      have e1 : IntKind.u64.wrap (n : Int) = n := u64wrap (by omega) (by omega)
      simp [bitAt, h3, e1]
      exact g2 x n (by omega) hn2
    · have h3 : ¬ ((n : Nat) : Int) < 32 := by omega
      simp [bitAt, h3]
  · have h3 : ¬ (n ≥ 0) := by omega
    simp [bitAt, hn, h3]
end Go.Lb.LK

namespace Go.Lb.LK
open Go Go.Lb Go.Proofs Go.RowKit

theorem c_tick_Late (a t : Int) : C f_tick_Late [I a, I t] (.bool (decide (t < a))) := by
  refine ctr [I a, I t] run_tick_Late rfl rfl rfl ?_ rfl
  unfold rt_tick_Late
  simp
theorem c_r03Late (a t : Int) : C f_lockbarref03_Late [I a, I t] (.bool (decide (t < a))) := by
  refine ctr [I a, I t] run_lockbarref03_Late rfl rfl rfl ?_ rfl
  unfold rt_lockbarref03_Late
  simp
theorem li (l : Lay) (im : Img) : AV.pureAll (l.cells ++ im.cells) = true := by simp [pureAll_append]
theorem lii (l : Lay) (im : Img) (s : Int) : AV.pureAll (l.cells ++ im.cells ++ [I s]) = true := by simp [pureAll_append, AV.pureAll, AV.pure]
theorem c_image_Stale (l : Lay) (im : Img) : C f_image_Stale [l.av, im.av] (.bool (stale l im)) := by
  refine ctr (l.cells ++ im.cells) run_image_Stale rfl (li l im) rfl ?_ rfl
  unfold rt_image_Stale
  simp [Lay.cells, Img.cells]
  refine call (c_tick_Late im.age l.stale) (by simp) (by simp) ?_
  simp [stale]
theorem c_r15Stale (l : Lay) (im : Img) : C f_lockbarref15_Stale [l.av, im.av] (.bool (stale l im)) := by
  refine ctr (l.cells ++ im.cells) run_lockbarref15_Stale rfl (li l im) rfl ?_ rfl
  unfold rt_lockbarref15_Stale
  simp [Lay.cells, Img.cells]
  refine call (c_r03Late im.age l.stale) (by simp) (by simp) ?_
  simp [stale]

abbrev cloB (x : Int) : AV := .clo f_image_bit_1 [] [.ref [W x] 0]
theorem c_image_clear (l : Lay) (im : Img) : C f_image_clear [l.av, im.av] (.clo f_image_clear_1 [] [.ref [.bool (stale l im)] 0, .ref [cloB im.occ] 0]) := by
  refine ctr (l.cells ++ im.cells) run_image_clear rfl (li l im) rfl ?_ rfl
  unfold rt_image_clear
  simp [Lay.cells, Img.cells]
  refine call (c_image_Stale l im) (by simp [Lay.cells, Img.cells]) (by simp) ?_
  simp
  refine call (c_bit im.occ) (by simp) (by simp) ?_
  simp
theorem c_image_clear1 (s occ : Int) (st : Bool) (h0 : 0 ≤ occ) (h1 : occ ≤ 4294967295) : C f_image_clear_1 [I s, .ref [.bool st] 0, .ref [cloB occ] 0] (.bool (!st && !bitAt occ s)) := by
  refine ctr [I s, .bool st, W occ] run_image_clear_1 rfl rfl rfl ?_ rfl
  unfold rt_image_clear_1
  simp
  refine callIf (avs := [I s, .ref [W occ] 0]) (.bool (bitAt occ s)) rfl (fun _ => ⟨by simp, c_bit1 occ s h0 h1⟩) (by simp) ?_
  cases st <;> simp

def told (l : Lay) (im : Img) (s : Int) : Bool := decide (0 ≤ s ∧ s < l.secs.length ∧ s < 24) && (!stale l im && bitAt im.occ s)
def occupied (l : Lay) (im : Img) (s : Int) : Bool := !decide (0 ≤ s ∧ s < l.secs.length ∧ s < 24) || (stale l im || (bitAt im.occ s || decide (im.free s.toNat < l.clear)))
theorem bitAt_neg {x s : Int} (h : ¬ 0 ≤ s) : bitAt x s = false := by simp [bitAt, h]

theorem c_image_Told (l : Lay) (im : Img) (hi : im.ok) (s : Int) : C f_image_Told [l.av, im.av, I s] (.bool (told l im s)) := by
  refine ctr (l.cells ++ im.cells ++ [I s]) run_image_Told rfl (lii l im s) rfl ?_ rfl
  unfold rt_image_Told
  simp [Lay.cells, Img.cells]
  refine callIf (avs := [W im.occ]) (cloB im.occ) rfl (fun _ => ⟨by simp, c_bit im.occ⟩) (by simp) ?_
  simp
  refine callIf (avs := [I s, .ref [W im.occ] 0]) (.bool (bitAt im.occ s)) rfl (fun _ => ⟨by simp, c_bit1 im.occ s hi.1.1 hi.1.2⟩) (by simp) ?_
  simp
  refine callIf (avs := [l.av, im.av]) (.bool (stale l im)) rfl (fun _ => ⟨by simp [Lay.cells, Img.cells], c_image_Stale l im⟩) (by simp) ?_
  by_cases h1 : s < l.secs.length <;> by_cases h2 : s < 24 <;> by_cases h0 : 0 ≤ s
  all_goals first | simp [told, h1, h2, h0, bitAt_neg h0, Int.lt_min] | simp [told, h1, h2, h0, Int.lt_min]
  · cases stale l im <;> cases bitAt im.occ s <;> simp
end Go.Lb.LK

namespace Go.Lb.LK
open Go Go.Lb Go.Proofs Go.RowKit

theorem free_cell (im : Img) (s : Int) (h0 : 0 ≤ s) (h1 : s < 24) : im.cells.getD (s.toNat * 1 + 1) .undef = I (im.free s.toNat) := by
  rw [Nat.mul_one]; exact free_get im (by omega) _
theorem free_cell' (im : Img) (s : Int) (h0 : 0 ≤ s) (h1 : s < 24) : (im.cells[s.toNat * 1 + 1]?).getD .undef = I (im.free s.toNat) := by
  rw [← List.getD_eq_getElem?_getD]; exact free_cell im s h0 h1

theorem c_image_Occupied (l : Lay) (im : Img) (hi : im.ok) (s : Int) : C f_image_Occupied [l.av, im.av, I s] (.bool (occupied l im s)) := by
  refine ctr (l.cells ++ im.cells ++ [I s]) run_image_Occupied rfl (lii l im s) rfl ?_ rfl
  unfold rt_image_Occupied
  simp [Lay.cells, Img.cells]
  by_cases hr : 0 ≤ s ∧ s < l.secs.length ∧ s < 24
  · have h1 : ¬ s < 0 := by omega
    have h2 : ¬ min (l.secs.length : Int) 24 ≤ s := by omega
    simp [h1, h2]
    intro _ _
    refine call (c_image_clear l im) (by simp [Lay.cells, Img.cells]) (by simp) ?_
    simp [stale]
    refine call (c_image_clear1 s im.occ (stale l im) hi.1.1 hi.1.2) (by simp [stale]) (by simp) ?_
    have hc := free_cell' im s hr.1 hr.2.2
    simp only [Img.cells] at hc
    simp at hc
    simp [hc, occupied, hr]
    refine ⟨fun _ => by omega, ?_⟩
    cases stale l im <;> cases bitAt im.occ s <;> simp
  · have h1 : s < 0 ∨ min (l.secs.length : Int) 24 ≤ s := by omega
    rcases h1 with h1 | h1
    · have h2 : ¬ 0 ≤ s := by omega
      simp [occupied, h1, h2]
    · have h2 : 0 ≤ s := by omega
      have h3 : ¬ s < 0 := by omega
      have h5 : ¬ s < min (l.secs.length : Int) 24 := by omega
      simp [occupied, h1, h2, h3, h5]
      exact .inl (by omega)
end Go.Lb.LK

namespace Go.Lb.LK
open Go Go.Lb Go.Proofs Go.RowKit

theorem ite_iff {α : Type} {c d : Prop} [Decidable c] [Decidable d] (h : c ↔ d) (x y : α) : (if c then x else y) = if d then x else y := by
  by_cases hc : c
  · rw [if_pos hc, if_pos (h.1 hc)]
  · rw [if_neg hc, if_neg (fun hd => hc (h.2 hd))]
def countT (n : Int) : Int := min (max n 0) 65535
def moreT (n k : Int) : Int := min (countT n + countT k) 65535
def rowT (b : Bool) (n : Int) : Int := if b = true then moreT n 1 else 0

theorem c_r03within (n t : Int) : C f_lockbarref03_within [I n, I t] (I (min (max n 0) t)) := by
  refine ctr [I n, I t] run_lockbarref03_within rfl rfl rfl ?_ rfl
  unfold rt_lockbarref03_within
  simp
theorem c_r03Count (n : Int) : C f_lockbarref03_Count [I n] (I (countT n)) := by
  refine ctr [I n] run_lockbarref03_Count rfl rfl rfl ?_ rfl
  unfold rt_lockbarref03_Count
  refine call (c_r03within n 65535) (by simp) (by simp) ?_
  simp [countT]
theorem c_r03More (n k : Int) : C f_lockbarref03_More [I n, I k] (I (moreT n k)) := by
  refine ctr [I n, I k] run_lockbarref03_More rfl rfl rfl ?_ rfl
  unfold rt_lockbarref03_More
  refine call (c_r03Count n) (by simp) (by simp) ?_
  simp
  refine call (c_r03Count k) (by simp) (by simp) ?_
  simp
  rw [wrap_i (by simp only [countT]; omega) (by simp only [countT]; omega)]; rfl
theorem c_r03Row (b : Bool) (n : Int) : C f_lockbarref03_Row [.bool b, I n] (I (rowT b n)) := by
  refine ctr [.bool b, I n] run_lockbarref03_Row rfl rfl rfl ?_ rfl
  unfold rt_lockbarref03_Row
  simp
  cases b
  · simp [rowT]
  · simp
    refine call (c_r03More n 1) (by simp) (by simp) ?_
    simp [rowT]

def imNew : Img := ⟨65535, fun _ => 0, 0, 0, 0, 0⟩
theorem imNew_ok : imNew.ok := by simp [Img.ok, imNew]
theorem c_r15New : C f_lockbarref15_New [] imNew.av := by
  refine ctr [] run_lockbarref15_New rfl rfl (by simp [AV.pure]) ?_ rfl
  unfold rt_lockbarref15_New
  simp [Img.cells, imNew]

/-- An image's rows, the first m of them gone on. -/
def rowsM (l : Lay) (im : Img) (m : Nat) : Img := { im with free := fun i => if i < m then rowT (!stale l im && !bitAt im.occ i) (im.free i) else im.free i }
theorem rowsM_zero (l : Lay) (im : Img) : rowsM l im 0 = im := by simp [rowsM]
theorem rowsM_succ (l : Lay) (im : Img) (m j : Nat) : (rowsM l im (m + 1)).free j = if j = m then rowT (!stale l im && !bitAt im.occ m) (im.free m) else (rowsM l im m).free j := by
  simp only [rowsM]
  by_cases h : j = m
  · subst h; simp
  · by_cases h2 : j < m
    · simp [h, h2, show j < m + 1 by omega]
    · simp [h, h2, show ¬ j < m + 1 by omega]
theorem stale_rows (l : Lay) (im : Img) (m : Nat) : stale l (rowsM l im m) = stale l im := rfl
def takeI (l : Lay) (im : Img) (o n r p : Int) : Img := rowsM l { im with age := 0, occ := o, nor := n, rev := r, lamp := p } 24
def imRow (f : Img) : List AV := [I (f.free 0), I (f.free 1), I (f.free 2), I (f.free 3), I (f.free 4), I (f.free 5), I (f.free 6), I (f.free 7), I (f.free 8), I (f.free 9), I (f.free 10), I (f.free 11), I (f.free 12), I (f.free 13), I (f.free 14), I (f.free 15), I (f.free 16), I (f.free 17), I (f.free 18), I (f.free 19), I (f.free 20), I (f.free 21), I (f.free 22), I (f.free 23)]

@[simp] theorem ite_I (c : Prop) [Decidable c] (a b : Int) : (if c then I a else I b) = I (if c then a else b) := by split <;> rfl
theorem c_r15rows (l : Lay) (im : Img) (hi : im.ok) : C f_lockbarref15_rows [l.av, im.av] (rowsM l im 24).av := by
  refine ctr (l.cells ++ im.cells) run_lockbarref15_rows rfl (li l im) (by simp [AV.pure]) ?_ rfl
  unfold rt_lockbarref15_rows
  simp [Lay.cells, Img.cells]
  refine RTwp_loop rfl (fun vs => ∃ m : Nat, m ≤ 24 ∧ vs = I m :: imRow (rowsM l im m)) (fun vs => match vs with | .int _ m :: _ => 24 - m.toNat | _ => 0) ⟨0, by omega, by simp [imRow, rowsM_zero]⟩ ?_
  rintro vs - ⟨m, hm, rfl⟩
  simp [imRow]
  refine ⟨fun hlt => ?_, fun hge => ?_⟩
  · have hlt' : m < 24 := by omega
    refine call (c_r15Stale l (rowsM l im m)) (by simp [Lay.cells, Img.cells]; exact ⟨rfl, rfl, rfl, rfl, rfl⟩) (by simp) ?_
    simp [stale_rows]
    refine callIf (avs := [W im.occ, I m]) (.bool (bitAt im.occ m)) rfl (fun _ => ⟨by simp, c_r15bit im.occ m hi.1.1 hi.1.2⟩) (by simp) ?_
    simp
    have hc := free_cell' (rowsM l im m) m (by omega) (by omega)
    simp only [Img.cells] at hc
    simp at hc
    simp only [show (rowsM l im m).occ = im.occ from rfl, show (rowsM l im m).nor = im.nor from rfl, show (rowsM l im m).rev = im.rev from rfl, show (rowsM l im m).lamp = im.lamp from rfl] at hc
    refine ⟨hlt, ⟨hlt, by omega⟩, ?_⟩
    refine call (avs := [.bool (!stale l im && !bitAt im.occ m), I (im.free m)]) (c_r03Row _ _) (by
      have h1 : (rowsM l im m).free m = im.free m := by simp [rowsM]
      simp [hc, h1]) (by simp) ?_
    simp [hlt]
    refine ⟨⟨m + 1, by omega, ?_⟩, ?_⟩
    · rw [wrap_succ (by omega)]
      simp [rowsM_succ]
      and_intros <;> exact ite_iff (by omega) _ _
    · rw [wrap_succ (by omega)]
      simp; omega
  · have : m = 24 := by omega
    subst this
    simp [Img.cells, rowsM]

theorem c_r15Take (l : Lay) (im : Img) (o n r p : Int) (h0 : 0 ≤ o) (h1 : o ≤ 4294967295) (n0 : 0 ≤ n) (n1 : n ≤ 4294967295) (r0 : 0 ≤ r) (r1 : r ≤ 4294967295) (p0 : 0 ≤ p) (p1 : p ≤ 4294967295) :
    C f_lockbarref15_Take [l.av, im.av, .agg [W o, W n, W r, W p]] (takeI l im o n r p).av := by
  refine ctr (l.cells ++ im.cells ++ [W o, W n, W r, W p]) run_lockbarref15_Take rfl (by simp [pureAll_append, AV.pureAll, AV.pure]) (by simp [AV.pure]) ?_ rfl
  unfold rt_lockbarref15_Take
  simp [Lay.cells, Img.cells]
  refine call (c_r15rows l { im with age := 0, occ := o, nor := n, rev := r, lamp := p } ⟨⟨h0, h1⟩, ⟨n0, n1⟩, ⟨r0, r1⟩, ⟨p0, p1⟩⟩) (by simp [Lay.cells, Img.cells]) (by simp [Img.cells, AV.scalar, AV.scalars]) ?_
  simp [Img.cells, takeI]
end Go.Lb.LK

namespace Go.Lb.LK
open Go Go.Lb Go.Proofs Go.RowKit

/-! ### Points -/
theorem sortI_sorted (l : List Int) : (sortI l).Pairwise (fun x y => x ≤ y) := by
  have := List.pairwise_mergeSort (le := fun x y : Int => decide (x ≤ y)) (fun a b c h1 h2 => by simp at *; omega) (fun a b => by simp; omega) l
  exact this.imp (fun h => by simpa using h)
theorem compact_upTo {l : List Int} (hs : l.Pairwise (fun x y => x ≤ y)) : ∀ m, m ≤ l.length → (∀ n, n ∈ Go.Lib.compactUpTo l.toArray m ↔ n ∈ l.take m) ∧ (Go.Lib.compactUpTo l.toArray m).Pairwise (fun x y => x < y)
  | 0, _ => by simp [Go.Lib.compactUpTo]
  | m + 1, h => by
    obtain ⟨h1, h2⟩ := compact_upTo hs m (by omega)
    have hm : l.toArray[m]! = l[m] := by simp [show m < l.length by omega]
    rw [Go.Lib.compactUpTo_succ, hm]
    have ht : l.take (m + 1) = l.take m ++ [l[m]] := by rw [List.take_add_one, List.getElem?_eq_getElem (by omega)]; rfl
    have hle : ∀ x ∈ l.take m, x ≤ l[m] := by
      intro x hx
      obtain ⟨j, hj, rfl⟩ := List.mem_iff_getElem.1 hx
      rw [List.getElem_take]
      rw [List.length_take] at hj
      exact List.pairwise_iff_getElem.1 hs j m (by omega) (by omega) (by omega)
    cases hk : Go.Lib.keeps l.toArray m with
    | true =>
      refine ⟨fun n => ?_, ?_⟩
      · rw [ht]; simp only [h1, if_true, List.mem_append, List.mem_singleton]
      · simp only [if_true]
        rw [List.pairwise_append]
        refine ⟨h2, by simp, fun x hx y hy => ?_⟩
        simp only [List.mem_singleton] at hy; subst hy
        have hx' := (h1 x).1 hx
        have := hle x hx'
        simp only [Go.Lib.keeps, decide_eq_true_eq] at hk
        rcases hk with h0 | hk
        · subst h0; simp at hx'
        · have hm1 : l.toArray[m - 1]! = l[m - 1] := by simp [show m - 1 < l.length by omega]
          rw [hm, hm1] at hk
          obtain ⟨j, hj, rfl⟩ := List.mem_iff_getElem.1 hx'
          rw [List.getElem_take]
          rw [List.length_take] at hj
          have a1 : l[j] ≤ l[m - 1] := by
            rcases Nat.lt_or_ge j (m - 1) with hlt | hge
            · exact List.pairwise_iff_getElem.1 hs j (m - 1) (by omega) (by omega) hlt
            · have : j = m - 1 := by omega
              subst this; exact Int.le_refl _
          have a2 : l[m - 1] ≤ l[m] := by
            rcases Nat.eq_zero_or_pos m with h0 | h0
            · subst h0; exact Int.le_refl _
            · exact List.pairwise_iff_getElem.1 hs (m - 1) m (by omega) (by omega) (by omega)
          omega
    | false =>
      refine ⟨fun n => ?_, by simpa using h2⟩
      rw [ht]
      simp only [Bool.false_eq_true, if_false, List.append_nil, List.mem_append, List.mem_singleton, h1]
      refine ⟨.inl, fun h => h.elim id ?_⟩
      rintro rfl
      have hk' : ¬ (m = 0 ∨ l.toArray[m]! ≠ l.toArray[m - 1]!) := by simpa [Go.Lib.keeps] using hk
      have hm0 : m ≠ 0 := fun h => hk' (.inl h)
      have hm1 : l.toArray[m - 1]! = l[m - 1] := by simp [show m - 1 < l.length by omega]
      rw [hm, hm1] at hk'
      have : l[m] = l[m - 1] := Classical.byContradiction fun h => hk' (.inr h)
      rw [this]
      exact List.mem_iff_getElem.2 ⟨m - 1, by rw [List.length_take]; omega, by rw [List.getElem_take]⟩
theorem compactI_spec {l : List Int} (hs : l.Pairwise (fun x y => x ≤ y)) : (∀ n, n ∈ compactI l ↔ n ∈ l) ∧ (compactI l).Pairwise (fun x y => x < y) := by
  have := compact_upTo hs l.length (Nat.le_refl _)
  rwa [List.take_length] at this

theorem compact_sub (l : List Int) : ∀ m, m ≤ l.length → (Go.Lib.compactUpTo l.toArray m).Sublist (l.take m)
  | 0, _ => by simp [Go.Lib.compactUpTo]
  | m + 1, h => by
    have ih := compact_sub l m (by omega)
    have hm : l.toArray[m]! = l[m] := by simp [show m < l.length by omega]
    rw [Go.Lib.compactUpTo_succ, hm]
    have ht : l.take (m + 1) = l.take m ++ [l[m]] := by rw [List.take_add_one, List.getElem?_eq_getElem (by omega)]; rfl
    rw [ht]
    split
    · exact ih.append (List.Sublist.refl _)
    · exact ih.append (List.nil_sublist [l[m]])
theorem compact_full {l : List Int} (hs : l.Pairwise (fun x y => x < y)) : ∀ m, m ≤ l.length → (Go.Lib.compactUpTo l.toArray m).length = m
  | 0, _ => by simp [Go.Lib.compactUpTo]
  | m + 1, h => by
    have ih := compact_full hs m (by omega)
    have hm : l.toArray[m]! = l[m] := by simp [show m < l.length by omega]
    rw [Go.Lib.compactUpTo_succ]
    have hk : Go.Lib.keeps l.toArray m = true := by
      simp only [Go.Lib.keeps, decide_eq_true_eq]
      rcases Nat.eq_zero_or_pos m with h0 | h0
      · exact .inl h0
      · right
        have hm1 : l.toArray[m - 1]! = l[m - 1] := by simp [show m - 1 < l.length by omega]
        rw [hm, hm1]
        have := List.pairwise_iff_getElem.1 hs (m - 1) m (by omega) (by omega) (by omega)
        omega
    simp [hk, ih]
theorem compact_nodup (l : List Int) : (compactI (sortI l)).length < l.length ↔ ¬ l.Nodup := by
  have hp : (sortI l).Perm l := List.mergeSort_perm _ _
  have hlen : (sortI l).length = l.length := hp.length_eq
  have hs := sortI_sorted l
  constructor
  · intro h hn
    have hn2 : (sortI l).Nodup := hp.nodup_iff.2 hn
    have hlt : (sortI l).Pairwise (fun x y => x < y) := by
      refine List.Pairwise.imp₂ (R := fun x y => x ≤ y) (S := fun x y => x ≠ y) (fun a b h1 h2 => by omega) hs hn2
    have := compact_full hlt (sortI l).length (Nat.le_refl _)
    have e : compactI (sortI l) = Go.Lib.compactUpTo (sortI l).toArray (sortI l).length := by simp [compactI, Go.Lib.compact]
    rw [e] at h
    omega
  · intro hn
    refine Classical.byContradiction fun h => hn ?_
    have hsub := compact_sub (sortI l) (sortI l).length (Nat.le_refl _)
    have e : compactI (sortI l) = Go.Lib.compactUpTo (sortI l).toArray (sortI l).length := by simp [compactI, Go.Lib.compact]
    rw [← e, List.take_length] at hsub
    have heq := hsub.eq_of_length_le (by omega)
    have h2 := (compactI_spec hs).2
    rw [heq] at h2
    exact hp.nodup_iff.1 (h2.imp (fun h => by omega))
end Go.Lb.LK

namespace Go.Lb.LK
open Go Go.Lb Go.Proofs Go.RowKit

theorem c_slices_Clone_Step (l : List Step) (h : l.length ≤ 4294967296) : C f_slices_Clone_Step [steps l] (steps l) := by
  refine ctr [steps l] run_slices_Clone_Step rfl (by simp [AV.pureAll, AV.pure]) (by simp [AV.pure]) ?_ rfl
  unfold rt_slices_Clone_Step
  simp
  exact ⟨fun x _ => by simp [Step.cells], h⟩
theorem c_slices_Clone_Need (l : List Need) (h : l.length ≤ 4294967296) : C f_slices_Clone_Need [needs l] (needs l) := by
  refine ctr [needs l] run_slices_Clone_Need rfl (by simp [AV.pureAll, AV.pure]) (by simp [AV.pure]) ?_ rfl
  unfold rt_slices_Clone_Need
  simp
  exact ⟨fun x _ => by simp [Need.cells], h⟩

def total (xs : List (List Step)) : Nat := (xs.map List.length).sum
theorem total_flat (xs : List (List Step)) : xs.flatten.length = total xs := by simp [total, List.length_flatten]
theorem flatten_take (xs : List (List Step)) {i : Nat} (h : i < xs.length) : (xs.take (i + 1)).flatten = (xs.take i).flatten ++ xs[i] := by
  rw [List.take_add_one, List.getElem?_eq_getElem h, List.flatten_append]; simp
theorem total_take (xs : List (List Step)) {i : Nat} (h : i < xs.length) : total (xs.take (i + 1)) = total (xs.take i) + xs[i].length := by
  rw [← total_flat, ← total_flat, flatten_take xs h, List.length_append]
theorem total_le (xs : List (List Step)) (i : Nat) : total (xs.take i) ≤ total xs := by
  unfold total
  conv => rhs; rw [← List.take_append_drop i xs, List.map_append, List.sum_append]
  omega

theorem c_slices_Concat_Step (xs : List (List Step)) (hx : xs.length ≤ 1000000) (ht : total xs ≤ 1000000000) : C f_slices_Concat_Step [.sl (xs.map steps)] (steps xs.flatten) := by
  refine ctr [.sl (xs.map steps)] run_slices_Concat_Step rfl (by simp [AV.pureAll, AV.pure, pureAll_map steps (fun x => by simp [AV.pure])]) (by simp only [AV.pure]; exact steps_pure _) ?_ rfl
  unfold rt_slices_Concat_Step
  simp
  refine RTwp_loop rfl (fun vs => ∃ i : Nat, i ≤ xs.length ∧ vs = [I (total (xs.take i)), I i]) (fun vs => match vs with | [_, .int _ j] => xs.length - j.toNat | _ => 0) ⟨0, by simp, by simp [total]⟩ ?_
  rintro vs - ⟨i, hi, rfl⟩
  have hti := total_le xs i
  simp
  refine ⟨fun hlt => ?_, fun hge => ?_⟩
  · have hw := wrap_succ (i := i) (by omega)
    have ht1 := total_take xs hlt
    have ht2 := total_le xs (i + 1)
    have hw2 : IntKind.i64.wrap ((total (xs.take i) : Int) + xs[i].length) = (total (xs.take (i + 1)) : Int) := by rw [wrap_i] <;> omega
    simp [hlt, hw2]
    exact ⟨⟨i + 1, by omega, rfl, hw⟩, by rw [hw]; omega⟩
  · have hti : xs.take i = xs := List.take_of_length_le hge
    have w0 : IntKind.i64.wrap 0 = 0 := by decide
    have wt : IntKind.i64.wrap (total xs : Int) = total xs := by rw [wrap_i] <;> omega
    simp [hti, w0, wt]
    refine ⟨fun hpos => ⟨by omega, ?_⟩, fun hz => ?_⟩
    all_goals
      refine RTwp_loop rfl (fun vs => ∃ i : Nat, i ≤ xs.length ∧ vs = [steps (xs.take i).flatten, I i]) (fun vs => match vs with | [_, .int _ j] => xs.length - j.toNat | _ => 0) ⟨0, by simp, by simp⟩ ?_
      rintro vs - ⟨j, hj, rfl⟩
      have htj := total_le xs j
      rw [← total_flat] at htj
      simp only [envOf, List.cons_append, List.nil_append]
      have hfl := fun h => flatten_take xs (i := j) h
      generalize hcur : (xs.take j).flatten = cur at htj hfl ⊢
      simp
      refine ⟨fun hlt => ?_, fun hge => ?_⟩
      · have hw := wrap_succ (i := j) (by omega)
        have ht1 := total_take xs hlt
        have ht2 := total_le xs (j + 1)
        rw [← total_flat (xs.take j), hcur] at ht1
        simp [hlt]
        refine ⟨fun x _ => by simp [Step.cells], by omega, ⟨j + 1, by omega, ?_, hw⟩, by rw [hw]; omega⟩
        have := congrArg (List.map Step.av) (hfl hlt)
        simpa using this.symm
      · have : xs.take j = xs := List.take_of_length_le hge
        simp [← hcur, this]


/-- None of them. -/
def NoneIn {α : Type} (q : α → Bool) (l : List α) : Prop := l.any q = false
theorem NoneIn.nil {α : Type} (q : α → Bool) : NoneIn q [] := rfl
theorem any_hit {α : Type} {q : α → Bool} {l : List α} {i : Nat} (hi : i < l.length) (hq : q l[i] = true) : l.any q = true := List.any_eq_true.2 ⟨l[i], List.getElem_mem hi, hq⟩
theorem any_step {α : Type} {q : α → Bool} {l : List α} {i : Nat} (hi : i < l.length) (h : NoneIn q (l.take i)) (hq : q l[i] = false) : NoneIn q (l.take (i + 1)) := by
  unfold NoneIn at *
  rw [List.take_add_one, List.getElem?_eq_getElem hi, List.any_append, h]; simp [hq]
def both (x y : Need) : Bool := decide (x.p = y.p) && !decide (x.pos = y.pos)
def clashN (a b : List Need) : Bool := a.any fun x => b.any fun y => both x y

theorem c_held_clash (a b : List Need) (ha : a.length ≤ 4294967296) (hb : b.length ≤ 4294967296) : C f_held_clash [needs a, needs b] (.bool (clashN a b)) := by
  refine ctr [needs a, needs b] run_held_clash rfl (by simp [AV.pureAll, AV.pure]) rfl ?_ rfl
  unfold rt_held_clash
  simp
  refine RTwp_loop rfl (fun vs => ∃ i : Nat, i ≤ a.length ∧ vs = [I i] ∧ NoneIn (fun x => b.any fun y => both x y) (a.take i)) (fun vs => match vs with | [.int _ j] => a.length - j.toNat | _ => 0) ⟨0, by simp, by simp, rfl⟩ ?_
  rintro vs - ⟨i, hi, rfl, hn⟩
  simp
  refine ⟨fun hlt => ?_, fun hge => ?_⟩
  · simp [hlt, Need.cells]
    refine RTwp_loop rfl (fun vs => ∃ j : Nat, j ≤ b.length ∧ vs = [I j] ∧ NoneIn (fun y => both a[i] y) (b.take j)) (fun vs => match vs with | [.int _ k] => b.length - k.toNat | _ => 0) ⟨0, by simp, by simp, rfl⟩ ?_
    rintro vs - ⟨j, hj, rfl, hm⟩
    simp
    refine ⟨fun hlt2 => ?_, fun hge2 => ?_⟩
    · have hw := wrap_succ (i := j) (by omega)
      simp [hlt, hlt2, Need.cells]
      by_cases h1 : a[i].p = b[j].p <;> by_cases h2 : a[i].pos = b[j].pos
      · simp [h1, h2, hw]
        exact ⟨⟨j + 1, by omega, rfl, any_step hlt2 hm (by simp [both, h1, h2])⟩, by omega⟩
      · simp [h1, h2]
        exact any_hit hlt (any_hit hlt2 (by simp [both, h1, h2]))
      · simp [h1, hw]
        exact ⟨⟨j + 1, by omega, rfl, any_step hlt2 hm (by simp [both, h1])⟩, by omega⟩
      · simp [h1, hw]
        exact ⟨⟨j + 1, by omega, rfl, any_step hlt2 hm (by simp [both, h1])⟩, by omega⟩
    · have hb2 : b.take j = b := List.take_of_length_le (by omega)
      rw [hb2] at hm
      have hw := wrap_succ (i := i) (by omega)
      simp [hw]
      exact ⟨⟨i + 1, by omega, rfl, any_step hlt hn hm⟩, by omega⟩
  · have ha2 : a.take i = a := List.take_of_length_le (by omega)
    rw [ha2] at hn
    have hn2 : clashN a b = false := hn
    simp [hn2]

theorem c_route_Own (p : Path) (h : p.steps.length ≤ 4294967296) : C f_route_Own [p.av] p.av := by
  refine ctr p.cells run_route_Own rfl (by simp) (by simp [AV.pure]) ?_ rfl
  unfold rt_route_Own
  simp [Path.cells]
  refine call (c_slices_Clone_Step p.steps h) (by simp) (by simp) ?_
  simp [Path.cells]
def Hd.len (h : Hd) : Prop := h.path.steps.length ≤ 1048576 ∧ h.over.length ≤ 1048576 ∧ h.needs.length ≤ 1048576
theorem c_held_Own (h : Hd) (hl : h.len) : C f_held_Own [h.av] h.av := by
  obtain ⟨h1, h2, h3⟩ := hl
  refine ctr h.cells run_held_Own rfl (by simp) (by simp [AV.pure]) ?_ rfl
  unfold rt_held_Own
  simp [Hd.cells]
  refine call (c_route_Own h.path (by omega)) (by simp [Path.cells]) (by simp) ?_
  simp
  refine call (c_slices_Clone_Step h.over (by omega)) (by simp) (by simp) ?_
  simp
  refine call (c_slices_Clone_Need h.needs (by omega)) (by simp) (by simp) ?_
  simp [Path.cells, Hd.cells]

end Go.Lb.LK

namespace Go.Lb.LK
open Go Go.Lb Go.Proofs Go.RowKit

def Hd.g1 (h : Hd) : Prop := 1 ≤ h.id ∧ h.id ≤ 1073741824 ∧ 0 ≤ h.timer ∧ h.timer ≤ 1073741824 ∧ 1 ≤ h.path.steps.length ∧ h.path.steps.length ≤ 12 ∧ h.over.length ≤ 2
def Hd.g2 (h : Hd) : Prop := 1 ≤ h.stage ∧ h.stage < 5 ∧ 0 ≤ h.gone ∧ h.gone ≤ h.path.steps.length
def Hd.wasOk (h : Hd) : Bool := (List.range 12).all fun k => decide (k < h.path.steps.length) || !h.was k
def needOk (n : Nat) (x : Need) : Bool := decide (0 ≤ x.k ∧ x.k ≤ n ∧ 0 ≤ x.p ∧ x.p < 24 ∧ 0 ≤ x.pos ∧ x.pos ≤ 1)
def Hd.secs (h : Hd) : List Int := (h.path.steps ++ h.over).map (·.s)
instance (h : Hd) : Decidable h.g1 := by unfold Hd.g1; infer_instance
instance (h : Hd) : Decidable h.g2 := by unfold Hd.g2; infer_instance
def rightS (h : Hd) : Bool := decide h.g1 && (decide h.g2 && (!clashN h.needs h.needs && (h.wasOk && (decide h.secs.Nodup && h.needs.all (needOk h.path.steps.length)))))

theorem wc (w : Nat → Bool) (n j : Nat) (hn : n ≤ 12) (hj : j < 12) : (if j < min n 12 then ((List.take n (wcells w))[j]?.getD .undef).cells[0]?.getD .undef else B false) = B (decide (j < n) && w j) := by
  by_cases h : j < n
  · have h2 : j < min n 12 := by omega
    rw [if_pos h2, List.getElem?_take, if_pos h]
    have := wget w hj .undef
    rw [List.getD_eq_getElem?_getD] at this
    rw [this]; simp [h]
  · have h2 : ¬ j < min n 12 := by omega
    rw [if_neg h2]; simp [h]
theorem wci (w : Nat → Bool) (n j : Nat) (i : Int) (hi : i = j) (hn : n ≤ 12) (hj : j < 12) : (if i < ((min n 12 : Nat) : Int) then ((List.take n (wcells w))[j]?.getD .undef).cells[0]?.getD .undef else B false) = B (decide (j < n) && w j) := by
  rw [← wc w n j hn hj]
  exact ite_iff (by omega) _ _
theorem take_ok (w : Nat → Bool) (n : Nat) : ∀ e ∈ List.take n (wcells w), e.cells.length = 1 ∧ AV.ones e.cells = true := by
  intro e he
  have := List.mem_of_mem_take he
  simp only [wcells, List.mem_cons, List.not_mem_nil, or_false] at this
  rcases this with rfl | rfl | rfl | rfl | rfl | rfl | rfl | rfl | rfl | rfl | rfl | rfl <;> simp

theorem c_held_Right (h : Hd) (hl : h.len) (hs : 0 ≤ h.stage ∧ h.stage ≤ 255) : C f_held_Right [h.av] (.bool (rightS h)) := by
  obtain ⟨l1, l2, l3⟩ := hl
  refine ctr h.cells run_held_Right rfl (by simp) rfl ?_ rfl
  unfold rt_held_Right
  simp [Hd.cells]
  by_cases g1 : h.g1
  · have g1' := g1
    obtain ⟨a1, a2, a3, a4, a5, a6, a7⟩ := g1
    have b1 : ¬ h.id < 1 := by omega
    have b2 : ¬ 1073741824 < max h.id h.timer := by omega
    have b3 : ¬ h.timer < 0 := by omega
    have b4 : ¬ ((h.path.steps.length : Int) < 1) := by omega
    have b5 : ¬ (12 < (h.path.steps.length : Int)) := by omega
    have b6 : ¬ (2 < (h.over.length : Int)) := by omega
    have b7 : (0 : Int) < h.path.steps.length := by omega
    refine ⟨fun hh => by simp [b1, b2, b3, b5, b6] at hh; omega, ?_⟩
    intro _ _ _ _ _ _
    refine callIf (avs := [needs h.needs, needs h.needs]) (.bool (clashN h.needs h.needs)) rfl (fun _ => ⟨by simp, c_held_clash _ _ (by omega) (by omega)⟩) (by simp) ?_
    by_cases g2 : h.g2
    · have g2' := g2
      obtain ⟨d1, d2, d3, d4⟩ := g2
      have e1 : ¬ h.stage = 0 := by omega
      have e2 : ¬ 5 ≤ h.stage := by omega
      have e3 : ¬ h.gone < 0 := by omega
      have e4 : ¬ (h.path.steps.length : Int) < h.gone := by omega
      cases hc : clashN h.needs h.needs
      · have tk := take_ok h.was h.path.steps.length
        have c0 := wc h.was h.path.steps.length 0 a6 (by omega)
        have c1 := wci h.was h.path.steps.length 1 1 rfl a6 (by omega)
        have c2 := wci h.was h.path.steps.length 2 2 rfl a6 (by omega)
        have c3 := wci h.was h.path.steps.length 3 3 rfl a6 (by omega)
        have c4 := wci h.was h.path.steps.length 4 4 rfl a6 (by omega)
        have c5 := wci h.was h.path.steps.length 5 5 rfl a6 (by omega)
        have c6 := wci h.was h.path.steps.length 6 6 rfl a6 (by omega)
        have c7 := wci h.was h.path.steps.length 7 7 rfl a6 (by omega)
        have c8 := wci h.was h.path.steps.length 8 8 rfl a6 (by omega)
        have c9 := wci h.was h.path.steps.length 9 9 rfl a6 (by omega)
        have c10 := wci h.was h.path.steps.length 10 10 rfl a6 (by omega)
        have c11 := wci h.was h.path.steps.length 11 11 rfl a6 (by omega)
        simp only [AV.cells, wcells] at tk c0 c1 c2 c3 c4 c5 c6 c7 c8 c9 c10 c11
        simp [e1, e2, e3, e4, c0, c1, c2, c3, c4, c5, c6, c7, c8, c9, c10, c11]
        refine ⟨by omega, tk, fun hh => ?_, ?_⟩
        · have hw : h.wasOk = false := by
            cases hq : h.wasOk
            · rfl
            · exfalso
              simp only [Hd.wasOk, List.all_eq_true, List.mem_range, Bool.or_eq_true, decide_eq_true_eq, Bool.not_eq_true'] at hq
              have hstep : ∀ k, k < 12 → h.was k = true → h.path.steps.length ≤ k → False := fun k hk h1 h2 => by
                rcases hq k hk with h3 | h3
                · omega
                · rw [h1] at h3; cases h3
              rcases hh with ⟨h1, h2⟩ | ⟨h1, h2⟩ | ⟨h1, h2⟩ | ⟨h1, h2⟩ | ⟨h1, h2⟩ | ⟨h1, h2⟩ | ⟨h1, h2⟩ | ⟨h1, h2⟩ | ⟨h1, h2⟩ | ⟨h1, h2⟩ | ⟨h1, h2⟩ | ⟨h1, h2⟩
              · rw [h2] at a5; simp at a5
              all_goals exact hstep _ (by omega) h1 h2
          simp [rightS, hw]
        · intro w0 w1 w2 w3 w4 w5 w6 w7 w8 w9 w10 w11
          have hw : h.wasOk = true := by
            simp only [Hd.wasOk, List.all_eq_true, List.mem_range, Bool.or_eq_true, decide_eq_true_eq, Bool.not_eq_true']
            intro k hk
            cases hq : h.was k
            · exact .inr rfl
            · left
              match k, hk, hq with
              | 0, _, hq => exact w0 hq
              | 1, _, hq => exact w1 hq
              | 2, _, hq => exact w2 hq
              | 3, _, hq => exact w3 hq
              | 4, _, hq => exact w4 hq
              | 5, _, hq => exact w5 hq
              | 6, _, hq => exact w6 hq
              | 7, _, hq => exact w7 hq
              | 8, _, hq => exact w8 hq
              | 9, _, hq => exact w9 hq
              | 10, _, hq => exact w10 hq
              | 11, _, hq => exact w11 hq
          refine call (c_slices_Concat_Step [h.path.steps, h.over] (by simp) (by simp [total]; omega)) (by simp) (by simp) ?_
          generalize hall : [h.path.steps, h.over].flatten = all
          have hal : all = h.path.steps ++ h.over := by rw [← hall]; simp
          have hlen : all.length = h.path.steps.length + h.over.length := by rw [hal]; simp
          simp
          refine RTwp_loop rfl (fun vs => ∃ i : Nat, i ≤ all.length ∧ vs = [ints ((all.take i).map (·.s)), I i]) (fun vs => match vs with | [_, .int _ j] => all.length - j.toNat | _ => 0) ⟨0, by simp, by simp⟩ ?_
          rintro vs - ⟨i, hi, rfl⟩
          simp
          refine ⟨fun hlt => ?_, fun hge => ?_⟩
          · have hwr := wrap_succ (i := i) (by omega)
            have hmt := map_take (fun x : Step => x.s) all hlt
            simp [hlt, Step.cells, hwr]
            refine ⟨by omega, ⟨i + 1, by omega, ?_, by omega⟩, by omega⟩
            rw [List.take_add_one, List.getElem?_map, List.getElem?_eq_getElem hlt]; rfl
          · have hta : List.take i (List.map (I ∘ fun x : Step => x.s) all) = (all.map (·.s)).map I := by
              rw [List.take_of_length_le (by simp; omega), List.map_map]
            rw [hta]
            refine ⟨all.map (·.s), by simp; omega, by simp, ?_⟩
            refine ⟨sortI (all.map (·.s)), by simp [sortI]; omega, rfl, ?_⟩
            have hsec : h.secs = all.map (·.s) := by rw [hal]; rfl
            have hcl := compactI_le (sortI (all.map (·.s)))
            have hsl : (sortI (all.map (·.s))).length = all.length := by simp [sortI]
            have hwa : IntKind.i64.wrap ((h.path.steps.length : Int) + h.over.length) = h.path.steps.length + h.over.length := by rw [wrap_i] <;> omega
            simp [hwa]
            have hnd := compact_nodup (all.map (·.s))
            rw [List.length_map, hlen] at hnd
            refine ⟨fun hh => ?_, fun hh => ?_⟩
            · have : ¬ h.secs.Nodup := by rw [hsec]; exact hnd.1 (by omega)
              simp [rightS, this]
            · have hno : h.secs.Nodup := by
                rw [hsec]
                refine Classical.byContradiction fun hn => ?_
                have := hnd.2 hn
                omega
              have hr : rightS h = h.needs.all (needOk h.path.steps.length) := by simp [rightS, g1', g2', hc, hw, hno]
              rw [hr]
              refine RTwp_loop rfl (fun vs => ∃ i : Nat, i ≤ h.needs.length ∧ vs = [I i] ∧ NoneIn (fun x => !needOk h.path.steps.length x) (h.needs.take i)) (fun vs => match vs with | [.int _ j] => h.needs.length - j.toNat | _ => 0) ⟨0, by simp, by simp, rfl⟩ ?_
              rintro vs - ⟨k, hk, rfl, hq⟩
              simp
              refine ⟨fun hlt => ?_, fun hge => ?_⟩
              · have hwr := wrap_succ (i := k) (by omega)
                simp [hlt, Need.cells, hwr]
                have hf : h.needs[k].pos.fdiv (2 ^ min 1 IntKind.i64.bits) = 0 ↔ 0 ≤ h.needs[k].pos ∧ h.needs[k].pos ≤ 1 := by
                  have e : (2 : Int) ^ min 1 IntKind.i64.bits = 2 := by decide
                  rw [e, Int.fdiv_eq_ediv_of_nonneg _ (by omega)]; omega
                rw [hf]
                cases hok : needOk h.path.steps.length h.needs[k]
                · right
                  refine ⟨?_, h.needs[k], List.getElem_mem hlt, hok⟩
                  simp only [needOk, decide_eq_false_iff_not] at hok
                  omega
                · left
                  have hok2 := hok
                  simp only [needOk, decide_eq_true_eq] at hok2
                  exact ⟨by omega, ⟨k + 1, by omega, by omega, any_step hlt hq (by simp [hok])⟩, by omega⟩
              · have : h.needs.take k = h.needs := List.take_of_length_le (by omega)
                rw [this] at hq
                unfold NoneIn at hq
                simp at hq
                exact fun x hx => hq x hx
      · have hr : rightS h = false := by simp [rightS, g1', g2', hc]
        simp [e1, e2, e3, e4, hr]
    · have hr : rightS h = false := by simp [rightS, g2]
      rw [hr]
      have hg : h.stage = 0 ∨ 5 ≤ h.stage ∨ h.gone < 0 ∨ (h.path.steps.length : Int) < h.gone := by
        unfold Hd.g2 at g2; omega
      by_cases e1 : h.stage = 0
      · simp [e1]
      · by_cases e2 : 5 ≤ h.stage
        · simp [e1, e2]
        · by_cases e3 : h.gone < 0
          · simp [e1, e2, e3]
          · have e4 : (h.path.steps.length : Int) < h.gone := by omega
            simp [e1, e2, e3, e4]
  · have hr : rightS h = false := by simp [rightS, g1]
    rw [hr]
    refine ⟨fun _ => rfl, ?_⟩
    intro h1 h2 h3 h4 h5 h6
    exfalso
    unfold Hd.g1 at g1
    omega
end Go.Lb.LK

namespace Go.Lb.LK
open Go Go.Lb Go.Proofs Go.RowKit

theorem step_eqs (x y : Step) : AV.eqs x.cells y.cells = decide (x = y) := by
  obtain ⟨a, b, c⟩ := x
  obtain ⟨d, e, f⟩ := y
  simp [Step.cells, AV.eqs, AV.eq1]
  by_cases h1 : a = d <;> by_cases h2 : b = e <;> by_cases h3 : c = f <;> simp [h1, h2, h3]
theorem need_eqs (x y : Need) : AV.eqs x.cells y.cells = decide (x = y) := by
  obtain ⟨a, b, c⟩ := x
  obtain ⟨d, e, f⟩ := y
  simp [Need.cells, AV.eqs, AV.eq1]
  by_cases h1 : a = d <;> by_cases h2 : b = e <;> by_cases h3 : c = f <;> simp [h1, h2, h3]

theorem step_ext {x y : Step} (h1 : x.s = y.s) (h2 : x.i = y.i) (h3 : x.o = y.o) : x = y := by
  obtain ⟨a, b, c⟩ := x
  obtain ⟨d, e, f⟩ := y
  simp only at h1 h2 h3
  rw [h1, h2, h3]
theorem c_lockbarref11_Steps (a b : List Step) (ha : a.length ≤ 4294967296) : C f_lockbarref11_Steps [steps a, steps b] (.bool (decide (a = b))) := by
  refine ctr [steps a, steps b] run_lockbarref11_Steps rfl (by simp [AV.pureAll, AV.pure]) rfl ?_ rfl
  unfold rt_lockbarref11_Steps
  simp
  by_cases hl : a.length = b.length
  · simp [hl]
    refine RTwp_loop rfl (fun vs => ∃ i : Nat, i ≤ a.length ∧ vs = [I i] ∧ a.take i = b.take i) (fun vs => match vs with | [.int _ j] => a.length - j.toNat | _ => 0) ⟨0, by simp, by simp, by simp⟩ ?_
    rintro vs - ⟨i, hi, rfl, hq⟩
    simp
    refine ⟨fun hlt => ?_, fun hge => ?_⟩
    · have hlt2 : i < b.length := by omega
      have hw := wrap_succ (i := i) (by omega)
      have he := step_eqs a[i] b[i]
      simp [hlt, hlt2, Step.cells] at he ⊢
      by_cases hab : a[i] = b[i]
      · simp [hab] at he ⊢
        rw [hw]
        refine ⟨⟨i + 1, by omega, rfl, ?_⟩, by omega⟩
        rw [List.take_add_one, List.take_add_one, List.getElem?_eq_getElem hlt, List.getElem?_eq_getElem hlt2, hq, hab]
      · right
        refine ⟨fun h1 h2 h3 => hab (step_ext h1 h2 h3), ?_⟩
        rintro rfl
        exact hab rfl
    · have h1 : a.take i = a := List.take_of_length_le (by omega)
      have h2 : b.take i = b := List.take_of_length_le (by omega)
      rw [h1, h2] at hq
      simp [hq]
  · have hne : a ≠ b := fun h => hl (by rw [h])
    have hl2 : ¬ (a.length : Int) = b.length := by omega
    simp [hne]
    exact fun h => absurd h hl2

theorem need_ext {x y : Need} (h1 : x.p = y.p) (h2 : x.pos = y.pos) (h3 : x.k = y.k) : x = y := by
  obtain ⟨a, b, c⟩ := x
  obtain ⟨d, e, f⟩ := y
  simp only at h1 h2 h3
  rw [h1, h2, h3]
theorem c_lockbarref17_All (a b : List Need) (ha : a.length ≤ 4294967296) : C f_lockbarref17_All [needs a, needs b] (.bool (decide (a = b))) := by
  refine ctr [needs a, needs b] run_lockbarref17_All rfl (by simp [AV.pureAll, AV.pure]) rfl ?_ rfl
  unfold rt_lockbarref17_All
  simp
  by_cases hl : a.length = b.length
  · simp [hl]
    refine RTwp_loop rfl (fun vs => ∃ i : Nat, i ≤ a.length ∧ vs = [I i] ∧ a.take i = b.take i) (fun vs => match vs with | [.int _ j] => a.length - j.toNat | _ => 0) ⟨0, by simp, by simp, by simp⟩ ?_
    rintro vs - ⟨i, hi, rfl, hq⟩
    simp
    refine ⟨fun hlt => ?_, fun hge => ?_⟩
    · have hlt2 : i < b.length := by omega
      have hw := wrap_succ (i := i) (by omega)
      have he := need_eqs a[i] b[i]
      simp [hlt, hlt2, Need.cells] at he ⊢
      by_cases hab : a[i] = b[i]
      · simp [hab] at he ⊢
        rw [hw]
        refine ⟨⟨i + 1, by omega, rfl, ?_⟩, by omega⟩
        rw [List.take_add_one, List.take_add_one, List.getElem?_eq_getElem hlt, List.getElem?_eq_getElem hlt2, hq, hab]
      · right
        refine ⟨fun h1 h2 h3 => hab (need_ext h1 h2 h3), ?_⟩
        rintro rfl
        exact hab rfl
    · have h1 : a.take i = a := List.take_of_length_le (by omega)
      have h2 : b.take i = b := List.take_of_length_le (by omega)
      rw [h1, h2] at hq
      simp [hq]
  · have hne : a ≠ b := fun h => hl (by rw [h])
    have hl2 : ¬ (a.length : Int) = b.length := by omega
    simp [hne]
    exact fun h => absurd h hl2

def pathSame (a b : Path) : Bool := decide (a.sig = b.sig) && (decide (a.exit = b.exit) && decide (a.steps = b.steps))
theorem c_r11Same (a b : Path) (ha : a.steps.length ≤ 4294967296) : C f_lockbarref11_Same [a.av, b.av] (.bool (pathSame a b)) := by
  refine ctr (a.cells ++ b.cells) run_lockbarref11_Same rfl (by simp [pureAll_append]) rfl ?_ rfl
  unfold rt_lockbarref11_Same
  simp [Path.cells]
  refine callIf (avs := [steps a.steps, steps b.steps]) (.bool (decide (a.steps = b.steps))) rfl (fun _ => ⟨by simp, c_lockbarref11_Steps _ _ ha⟩) (by simp) ?_
  by_cases h1 : a.sig = b.sig <;> by_cases h2 : a.exit = b.exit <;> simp [pathSame, h1, h2]
theorem bdec (x y : Bool) : decide (x = y) = (x == y) := by cases x <;> cases y <;> rfl
def wasSame (a b : Hd) : Bool := AV.eqs [.bool (a.was 0), .bool (a.was 1), .bool (a.was 2), .bool (a.was 3), .bool (a.was 4), .bool (a.was 5), .bool (a.was 6), .bool (a.was 7), .bool (a.was 8), .bool (a.was 9), .bool (a.was 10), .bool (a.was 11)] [.bool (b.was 0), .bool (b.was 1), .bool (b.was 2), .bool (b.was 3), .bool (b.was 4), .bool (b.was 5), .bool (b.was 6), .bool (b.was 7), .bool (b.was 8), .bool (b.was 9), .bool (b.was 10), .bool (b.was 11)]
theorem wasSame_refl (a : Hd) : wasSame a a = true := by simp [wasSame]
def sameS (a b : Hd) : Bool := decide (a.id = b.id) && (pathSame a.path b.path && (decide (a.over = b.over) && (decide (a.needs = b.needs) && (decide (a.stage = b.stage) && (decide (a.gone = b.gone) && (wasSame a b && ((a.opn == b.opn) && (decide (a.timer = b.timer) && (a.shown == b.shown)))))))))
theorem sameS_refl (a : Hd) : sameS a a = true := by simp [sameS, wasSame_refl, pathSame]
theorem c_r17Same (a b : Hd) (ha : a.len) : C f_lockbarref17_Same [a.av, b.av] (.bool (sameS a b)) := by
  obtain ⟨l1, l2, l3⟩ := ha
  refine ctr (a.cells ++ b.cells) run_lockbarref17_Same rfl (by simp [pureAll_append]) rfl ?_ rfl
  unfold rt_lockbarref17_Same
  simp [Hd.cells]
  refine callIf (avs := [a.path.av, b.path.av]) (.bool (pathSame a.path b.path)) rfl (fun _ => ⟨by simp [Path.cells], c_r11Same _ _ (by omega)⟩) (by simp) ?_
  simp
  refine callIf (avs := [steps a.over, steps b.over]) (.bool (decide (a.over = b.over))) rfl (fun _ => ⟨by simp, c_lockbarref11_Steps _ _ (by omega)⟩) (by simp) ?_
  simp
  refine callIf (avs := [needs a.needs, needs b.needs]) (.bool (decide (a.needs = b.needs))) rfl (fun _ => ⟨by simp, c_lockbarref17_All _ _ (by omega)⟩) (by simp) ?_
  simp [sameS, wasSame, Bool.and_assoc]
  simp only [bdec]
end Go.Lb.LK

namespace Go.Lb.LK
open Go Go.Lb Go.Proofs Go.RowKit

theorem lih (l : Lay) (im : Img) (h : Hd) : AV.pureAll (l.cells ++ im.cells ++ h.cells) = true := by simp [pureAll_append]
end Go.Lb.LK

namespace Go.Lb.LK
open Go Go.Lb Go.Proofs Go.RowKit

end Go.Lb.LK

namespace Go.Lb.LK
open Go Go.Lb

@[simp] theorem u32_min : IntKind.u32.min = 0 := by decide +kernel
@[simp] theorem u32_max : IntKind.u32.max = 4294967295 := by decide +kernel
theorem img_of {cs : List AV} (h : imgT.fits cs) : ∃ x : Img, AV.agg cs = x.av ∧ x.ok := by
  simp only [imgT, inT, uT, iT, fits_agg, fitsAll_int, fitsAll_agg, fitsAll_nil, List.append_nil, List.cons_append, List.nil_append] at h
  obtain ⟨age, q, rfl, _, f0, q, rfl, _, f1, q, rfl, _, f2, q, rfl, _, f3, q, rfl, _, f4, q, rfl, _, f5, q, rfl, _, f6, q, rfl, _, f7, q, rfl, _, f8, q, rfl, _, f9, q, rfl, _, f10, q, rfl, _, f11, q, rfl, _, f12, q, rfl, _, f13, q, rfl, _, f14, q, rfl, _, f15, q, rfl, _, f16, q, rfl, _, f17, q, rfl, _, f18, q, rfl, _, f19, q, rfl, _, f20, q, rfl, _, f21, q, rfl, _, f22, q, rfl, _, f23, q, rfl, _, oc, q, rfl, h1, no, q, rfl, h2, re, q, rfl, h3, la, q, rfl, h4, rfl⟩ := h
  simp only [u32_min, u32_max] at h1 h2 h3 h4
  exact ⟨⟨age, fun i => [f0, f1, f2, f3, f4, f5, f6, f7, f8, f9, f10, f11, f12, f13, f14, f15, f16, f17, f18, f19, f20, f21, f22, f23].getD i 0, oc, no, re, la⟩, rfl, h1, h2, h3, h4⟩
theorem held_of {cs : List AV} (h : heldT.fits cs) : ∃ x : Hd, AV.agg cs = x.av ∧ 0 ≤ x.stage ∧ x.stage ≤ 255 := by
  simp only [heldT, pathT, iT, fits_agg, fitsAll_int, fitsAll_bool, fitsAll_agg, fitsAll_sl, fitsAll_nil, List.append_nil, List.cons_append, List.nil_append] at h
  obtain ⟨id, q, rfl, _, sig, q, rfl, _, ex, q, rfl, _, es, q, rfl, hs, ov, q, rfl, ho, ne, q, rfl, hn, st, q, rfl, h1, go, q, rfl, _, w0, q, rfl, w1, q, rfl, w2, q, rfl, w3, q, rfl, w4, q, rfl, w5, q, rfl, w6, q, rfl, w7, q, rfl, w8, q, rfl, w9, q, rfl, w10, q, rfl, w11, q, rfl, op, q, rfl, ti, q, rfl, _, sh, q, rfl, rfl⟩ := h
  obtain ⟨es, rfl⟩ := sl_map (g := Step.av) (fun cs h => step_of h) es hs.2
  obtain ⟨ov, rfl⟩ := sl_map (g := Step.av) (fun cs h => step_of h) ov ho.2
  obtain ⟨ne, rfl⟩ := sl_map (g := Need.av) (fun cs h => need_of h) ne hn.2
  exact ⟨⟨id, ⟨sig, ex, es⟩, ov, ne, st, go, fun i => [w0, w1, w2, w3, w4, w5, w6, w7, w8, w9, w10, w11].getD i false, op, ti, sh⟩, rfl, by simpa using h1⟩
theorem img_arg {x : AV} (h : imgT.fits x.cells) (h2 : aggIf true x) : ∃ l : Img, x = l.av ∧ l.ok := by
  obtain ⟨cs, rfl⟩ := h2.1 rfl
  exact img_of h
theorem held_arg {x : AV} (h : heldT.fits x.cells) (h2 : aggIf true x) : ∃ l : Hd, x = l.av ∧ 0 ≤ l.stage ∧ l.stage ≤ 255 := by
  obtain ⟨cs, rfl⟩ := h2.1 rfl
  exact held_of h
end Go.Lb.LK

namespace Go.Lb.LK
open Go Go.Lb

structure Kern where
  next : Int
  held : List Hd
  want : Nat → Int
  run : Nat → Int
  fail : Nat → Bool
def mcells (w r : Nat → Int) (f : Nat → Bool) : List AV := [I (w 0), I (r 0), .bool (f 0), I (w 1), I (r 1), .bool (f 1), I (w 2), I (r 2), .bool (f 2), I (w 3), I (r 3), .bool (f 3), I (w 4), I (r 4), .bool (f 4), I (w 5), I (r 5), .bool (f 5), I (w 6), I (r 6), .bool (f 6), I (w 7), I (r 7), .bool (f 7), I (w 8), I (r 8), .bool (f 8), I (w 9), I (r 9), .bool (f 9), I (w 10), I (r 10), .bool (f 10), I (w 11), I (r 11), .bool (f 11), I (w 12), I (r 12), .bool (f 12), I (w 13), I (r 13), .bool (f 13), I (w 14), I (r 14), .bool (f 14), I (w 15), I (r 15), .bool (f 15), I (w 16), I (r 16), .bool (f 16), I (w 17), I (r 17), .bool (f 17), I (w 18), I (r 18), .bool (f 18), I (w 19), I (r 19), .bool (f 19), I (w 20), I (r 20), .bool (f 20), I (w 21), I (r 21), .bool (f 21), I (w 22), I (r 22), .bool (f 22), I (w 23), I (r 23), .bool (f 23)]
def Kern.cells (k : Kern) : List AV := [I k.next, .sl (k.held.map Hd.av), I (k.want 0), I (k.run 0), .bool (k.fail 0), I (k.want 1), I (k.run 1), .bool (k.fail 1), I (k.want 2), I (k.run 2), .bool (k.fail 2), I (k.want 3), I (k.run 3), .bool (k.fail 3), I (k.want 4), I (k.run 4), .bool (k.fail 4), I (k.want 5), I (k.run 5), .bool (k.fail 5), I (k.want 6), I (k.run 6), .bool (k.fail 6), I (k.want 7), I (k.run 7), .bool (k.fail 7), I (k.want 8), I (k.run 8), .bool (k.fail 8), I (k.want 9), I (k.run 9), .bool (k.fail 9), I (k.want 10), I (k.run 10), .bool (k.fail 10), I (k.want 11), I (k.run 11), .bool (k.fail 11), I (k.want 12), I (k.run 12), .bool (k.fail 12), I (k.want 13), I (k.run 13), .bool (k.fail 13), I (k.want 14), I (k.run 14), .bool (k.fail 14), I (k.want 15), I (k.run 15), .bool (k.fail 15), I (k.want 16), I (k.run 16), .bool (k.fail 16), I (k.want 17), I (k.run 17), .bool (k.fail 17), I (k.want 18), I (k.run 18), .bool (k.fail 18), I (k.want 19), I (k.run 19), .bool (k.fail 19), I (k.want 20), I (k.run 20), .bool (k.fail 20), I (k.want 21), I (k.run 21), .bool (k.fail 21), I (k.want 22), I (k.run 22), .bool (k.fail 22), I (k.want 23), I (k.run 23), .bool (k.fail 23)]
abbrev Kern.av (k : Kern) : AV := .agg k.cells
abbrev helds (l : List Hd) : AV := .sl (l.map Hd.av)
@[simp] theorem helds_pure (l : List Hd) : AV.pureAll (l.map Hd.av) = true := pureAll_map _ (fun x => by simp [AV.pure]) l
@[simp] theorem Kern.pure (k : Kern) : AV.pureAll k.cells = true := by simp [Kern.cells, AV.pureAll, AV.pure]
structure Mach where
  want : Int
  run : Int
  fail : Bool
  deriving DecidableEq
def Mach.cells (m : Mach) : List AV := [I m.want, I m.run, .bool m.fail]
abbrev Mach.av (m : Mach) : AV := .agg m.cells
@[simp] theorem Mach.pure (m : Mach) : AV.pureAll m.cells = true := by simp [Mach.cells, AV.pureAll, AV.pure]
/-- Stages are bytes. -/
def Kern.ok (k : Kern) : Prop := ∀ h ∈ k.held, 0 ≤ h.stage ∧ h.stage ≤ 255
end Go.Lb.LK

namespace Go.Lb.LK
open Go Go.Lb Go.Proofs Go.RowKit

theorem hh (a b : Hd) : AV.pureAll (a.cells ++ b.cells) = true := by simp [pureAll_append]
end Go.Lb.LK

namespace Go.Lb.LK
open Go Go.Lb Go.Proofs Go.RowKit

def Kern.len (k : Kern) : Prop := k.held.length ≤ 1048576 ∧ ∀ h ∈ k.held, h.len
theorem ks (k : Kern) (s : Int) : AV.pureAll (k.cells ++ [I s]) = true := by simp [pureAll_append, AV.pureAll, AV.pure]
theorem Kern.at (k : Kern) (hl : k.len) {i : Nat} (h : i < k.held.length) : k.held[i].len := hl.2 _ (List.getElem_mem h)
end Go.Lb.LK

namespace Go.Lb.LK
open Go Go.Lb Go.Proofs Go.RowKit

theorem Hd.one (h : Hd) : h.cells.length = 23 ∧ AV.ones h.cells = true := by simp [Hd.cells]
theorem set_self (l : List Hd) {i : Nat} (h : i < l.length) : (l.map Hd.av).set i l[i].av = l.map Hd.av := by
  have : (l.map Hd.av)[i]'(by simpa using h) = l[i].av := by simp
  rw [← this, List.set_getElem_self]
def bigH (h : Hd) : Bool := decide (30 < h.path.steps.length) || (decide (10 < h.over.length) || decide (100 < h.needs.length))
def great18 (k : Kern) : Bool := (k.held.take 11).any bigH || decide (10 < k.held.length)
theorem small18 {k : Kern} (h : great18 k = false) : k.len ∧ k.held.length ≤ 10 := by
  simp only [great18, Bool.or_eq_false_iff, decide_eq_false_iff_not] at h
  obtain ⟨h1, h2⟩ := h
  rw [List.take_of_length_le (by omega)] at h1
  refine ⟨⟨by omega, fun x hx => ?_⟩, by omega⟩
  have := List.any_eq_false.1 h1 x hx
  simp [bigH] at this
  exact ⟨by omega, by omega, by omega⟩
theorem c_r18Great (k : Kern) : C f_lockbarref18_Great [k.av] (.bool (great18 k)) := by
  refine ctr k.cells run_lockbarref18_Great rfl (by simp) rfl ?_ rfl
  unfold rt_lockbarref18_Great
  simp [Kern.cells]
  refine RTwp_loop rfl (fun vs => ∃ i : Nat, i ≤ k.held.length ∧ i ≤ 11 ∧ vs = [I i] ∧ NoneIn bigH (k.held.take i)) (fun vs => match vs with | [.int _ j] => 12 - j.toNat | _ => 0) ⟨0, by omega, by omega, by simp, rfl⟩ ?_
  rintro vs - ⟨i, hi, hi2, rfl, hq⟩
  simp
  refine ⟨fun hlt hle => ?_, fun hstop => ?_⟩
  · have hw := wrap_succ (i := i) (by omega)
    simp [hlt, Hd.cells, hw]
    cases hb : bigH k.held[i]
    · left
      have hb2 := hb
      simp [bigH] at hb2
      exact ⟨by omega, ⟨i + 1, by omega, by omega, by omega, any_step hlt hq hb⟩, by omega⟩
    · right
      have hb2 := hb
      simp [bigH] at hb2
      refine ⟨by omega, ?_⟩
      have : (k.held.take 11).any bigH = true := List.any_eq_true.2 ⟨k.held[i], List.mem_take_iff_getElem.2 ⟨i, by omega, rfl⟩, hb⟩
      simp [great18, this]
  · have : (k.held.take 11).any bigH = false := by
      by_cases hl : i < k.held.length
      · have := hstop hl
        have : i = 11 := by omega
        subst this; exact hq
      · rw [List.take_of_length_le (show k.held.length ≤ i by omega)] at hq
        refine List.any_eq_false.2 fun x hx => ?_
        exact List.any_eq_false.1 hq x (List.mem_of_mem_take hx)
    have e : decide (10 < (k.held.length : Int)) = decide (10 < k.held.length) := decide_eq_decide.2 (by omega)
    simp [great18, this, e]
def great6 (l : Lay) : Bool := (l.exits.take 31).any (fun e => decide (20 < e.over.length)) || (decide (40 < l.secs.length) || (decide (30 < l.sigs.length) || (decide (30 < l.exits.length) || decide (40 < l.flanks.length))))
theorem c_r06_Great (l : Lay) : C f_lockbarref06_Great [l.av] (.bool (great6 l)) := by
  refine ctr l.cells run_lockbarref06_Great rfl (by simp) rfl ?_ rfl
  unfold rt_lockbarref06_Great
  simp [Lay.cells]
  refine RTwp_loop rfl (fun vs => ∃ j : Nat, j ≤ l.exits.length ∧ j ≤ 31 ∧ vs = [I j] ∧ NoneIn (fun e => decide (20 < e.over.length)) (l.exits.take j)) (fun vs => match vs with | [.int _ j] => 32 - j.toNat | _ => 0) ⟨0, by omega, by omega, by simp, rfl⟩ ?_
  rintro vs - ⟨i, hi, hi2, rfl, hq⟩
  simp
  refine ⟨fun hlt hle => ?_, fun hstop => ?_⟩
  · have hw := wrap_succ (i := i) (by omega)
    simp [hlt, Exi.cells, hw]
    by_cases hb : 20 < l.exits[i].over.length
    · right
      refine ⟨by omega, ?_⟩
      have : (l.exits.take 31).any (fun e => decide (20 < e.over.length)) = true := List.any_eq_true.2 ⟨l.exits[i], List.mem_take_iff_getElem.2 ⟨i, by omega, rfl⟩, by simpa using hb⟩
      simp [great6, this]
    · left
      exact ⟨by omega, ⟨i + 1, by omega, by omega, by omega, any_step hlt hq (by simpa using hb)⟩, by omega⟩
  · have : (l.exits.take 31).any (fun e => decide (20 < e.over.length)) = false := by
      by_cases hl : i < l.exits.length
      · have := hstop hl
        have : i = 31 := by omega
        subst this; exact hq
      · rw [List.take_of_length_le (show l.exits.length ≤ i by omega)] at hq
        refine List.any_eq_false.2 fun x hx => ?_
        exact List.any_eq_false.1 hq x (List.mem_of_mem_take hx)
    have e1 : decide (40 < (l.secs.length : Int)) = decide (40 < l.secs.length) := decide_eq_decide.2 (by omega)
    have e2 : decide (30 < (l.sigs.length : Int)) = decide (30 < l.sigs.length) := decide_eq_decide.2 (by omega)
    have e3 : decide (30 < (l.exits.length : Int)) = decide (30 < l.exits.length) := decide_eq_decide.2 (by omega)
    have e4 : decide (40 < (l.flanks.length : Int)) = decide (40 < l.flanks.length) := decide_eq_decide.2 (by omega)
    simp [great6, this, e1, e2, e3, e4, Bool.or_assoc]
end Go.Lb.LK

namespace Go.Lb.LK
open Go Go.Lb Go.Proofs Go.RowKit

theorem right_facts {h : Hd} (hr : rightS h = true) : h.g1 ∧ h.g2 ∧ clashN h.needs h.needs = false ∧ h.wasOk = true ∧ h.secs.Nodup ∧ h.needs.all (needOk h.path.steps.length) = true := by
  simp only [rightS, Bool.and_eq_true, decide_eq_true_eq, Bool.not_eq_true'] at hr
  exact ⟨hr.1, hr.2.1, hr.2.2.1, hr.2.2.2.1, hr.2.2.2.2.1, hr.2.2.2.2.2⟩
end Go.Lb.LK

namespace Go.Lb.LK
open Go Go.Lb Go.Proofs Go.RowKit

end Go.Lb.LK

namespace Go.Lb.LK
open Go Go.Lb Go.Proofs Go.RowKit

end Go.Lb.LK

namespace Go.Lb.LK
open Go Go.Lb Go.Proofs Go.RowKit

end Go.Lb.LK

namespace Go.Lb.LK
open Go Go.Lb Go.Proofs Go.RowKit

def kindCells (k : Int) : List AV :=
  if k = 1 then [I 2, I 0, I 1, I 0, I 0, I 1, .bool false] else if k = 2 then [I 3, I 0, I 1, I 0, I 2, I 2, .bool true]
  else if k = 3 then [I 4, I 0, I 1, I 2, I 3, I 2, .bool false] else [I 0, I 0, I 0, I 0, I 0, I 0, .bool false]
theorem kind_cases {k : Int} (h0 : 0 ≤ k) (h1 : k ≤ 255) : k = 0 ∨ k = 1 ∨ k = 2 ∨ k = 3 ∨ 4 ≤ k := by omega

theorem c_port_of (k : Int) (h0 : 0 ≤ k) (h1 : k ≤ 255) : C f_port_of [U k] (.agg (kindCells k)) := by
  refine ctr [U k] run_port_of rfl rfl ?_ ?_ rfl
  · unfold kindCells; repeat' split
    all_goals rfl
  · unfold rt_port_of
    have hw : IntKind.i64.wrap k = k := by rw [wrap_i] <;> omega
    rcases kind_cases h0 h1 with rfl | rfl | rfl | rfl | h
    · simp [kindCells, hw]
    · simp [kindCells, hw]
    · simp [kindCells, hw]
    · simp [kindCells, hw]
    · have : ¬ k < 4 := by omega
      simp [hw, this, kindCells, show k ≠ 1 by omega, show k ≠ 2 by omega, show k ≠ 3 by omega]

/-- The way from one port to another one. -/
def way (k i o : Int) : Int × Bool :=
  if (k = 1 ∨ k = 2 ∨ k = 3) ∧ (i = 0 ∧ o = 1 ∨ i = 1 ∧ o = 0) then (0, true)
  else if k = 2 ∧ (i = 0 ∧ o = 2 ∨ i = 2 ∧ o = 0) then (1, true)
  else if k = 3 ∧ (i = 2 ∧ o = 3 ∨ i = 3 ∧ o = 2) then (1, true) else (0, false)
theorem w1 : IntKind.i64.wrap 1 = 1 := by decide
theorem w2 : IntKind.i64.wrap 2 = 2 := by decide
def secAt (l : Lay) (s : Int) : Option Sec := if 0 ≤ s then l.secs[s.toNat]? else none
theorem secAt_in {l : Lay} {s : Int} (h0 : 0 ≤ s) (h1 : s < l.secs.length) : ∃ n : Nat, s = n ∧ ∃ h : n < l.secs.length, secAt l s = some (l.secs[n]) := by
  refine ⟨s.toNat, by omega, by omega, ?_⟩
  unfold secAt
  rw [if_pos h0, List.getElem?_eq_getElem]
theorem secAt_out {l : Lay} {s : Int} (h : ¬ (0 ≤ s ∧ s < l.secs.length)) : secAt l s = none := by
  unfold secAt
  split
  · exact List.getElem?_eq_none (by omega)
  · rfl
def exitAt (l : Lay) (x : Int) : Option Exi := if 0 ≤ x then l.exits[x.toNat]? else none
/-- An exit's overlap. -/
def over (l : Lay) (x : Int) : List Step := match exitAt l x with
  | some e => e.over
  | none => []
end Go.Lb.LK

namespace Go.Lb.LK
open Go Go.Lb Go.Proofs Go.RowKit

/-- A step's point. -/
def point (l : Lay) (s : Step) : Int × Int × Bool := match secAt l s.s with
  | some x => if (way x.kind s.i s.o).2 = true ∧ x.kind = 2 then (s.s, (way 2 s.i s.o).1, true) else (0, 0, false)
  | none => (0, 0, false)
end Go.Lb.LK

namespace Go.Lb.LK
open Go Go.Lb Go.Proofs Go.RowKit

end Go.Lb.LK

namespace Go.Lb.LK
open Go Go.Lb Go.Proofs Go.RowKit

def portsK (k : Int) : Int := if k = 1 then 2 else if k = 2 then 3 else if k = 3 then 4 else 0
theorem portsK_le (k : Int) : 0 ≤ portsK k ∧ portsK k ≤ 4 := by unfold portsK; split <;> (try split) <;> (try split) <;> omega
def noP : Port := ⟨-1, 0⟩
def Sec.join (s : Sec) (i : Nat) : Port := if i = 0 then s.j0 else if i = 1 then s.j1 else if i = 2 then s.j2 else s.j3
def hasP (l : Lay) (p : Port) : Bool := match secAt l p.s with
  | some s => decide (0 ≤ p.p) && decide (p.p < portsK s.kind)
  | none => false
def beyondP (l : Lay) (p : Port) : Port := match secAt l p.s with
  | some s => if 0 ≤ p.p ∧ p.p < portsK s.kind then s.join p.p.toNat else noP
  | none => noP
theorem hasP_iff {l : Lay} {p : Port} : hasP l p = true ↔ ∃ n : Nat, ∃ m : Nat, p.s = n ∧ p.p = m ∧ m < 4 ∧ ∃ h : n < l.secs.length, (m : Int) < portsK l.secs[n].kind := by
  unfold hasP
  constructor
  · intro h
    by_cases hc : 0 ≤ p.s ∧ p.s < l.secs.length
    · obtain ⟨n, hn, hlt, he⟩ := secAt_in hc.1 hc.2
      rw [he] at h
      simp only [Bool.and_eq_true, decide_eq_true_eq] at h
      have := portsK_le l.secs[n].kind
      exact ⟨n, p.p.toNat, hn, by omega, by omega, hlt, by omega⟩
    · rw [secAt_out hc] at h; cases h
  · rintro ⟨n, m, h1, h2, h3, hlt, h4⟩
    obtain ⟨n', hn', hlt', he⟩ := secAt_in (l := l) (s := p.s) (by omega) (by omega)
    have : n' = n := by omega
    subst this
    rw [he]
    simp only [Bool.and_eq_true, decide_eq_true_eq]
    exact ⟨by omega, by omega⟩
theorem beyondP_has {l : Lay} {p : Port} (h : hasP l p = true) : ∃ n : Nat, ∃ m : Nat, p.s = n ∧ p.p = m ∧ m < 4 ∧ ∃ h : n < l.secs.length, beyondP l p = l.secs[n].join m := by
  obtain ⟨n, m, h1, h2, h3, hlt, h4⟩ := hasP_iff.1 h
  obtain ⟨n', hn', hlt', he⟩ := secAt_in (l := l) (s := p.s) (by omega) (by omega)
  have : n' = n := by omega
  subst this
  refine ⟨n', m, h1, h2, h3, hlt, ?_⟩
  unfold beyondP
  rw [he]
  simp only
  rw [if_pos ⟨by omega, by omega⟩, h2]; rfl
theorem beyondP_not {l : Lay} {p : Port} (h : hasP l p = false) : beyondP l p = noP := by
  unfold hasP at h
  unfold beyondP
  split
  · rename_i s hs
    rw [hs] at h
    simp only [Bool.and_eq_false_iff, decide_eq_false_iff_not] at h
    rw [if_neg (by omega)]
  · rfl
end Go.Lb.LK

namespace Go.Lb.LK
open Go Go.Lb Go.Proofs Go.RowKit

def nextT (n : Int) : Int := min (min (max n 0) 1073741824 + 1) 1073741824
theorem c_tick_on1 (n : Int) : C f_tick_on [I 0, I n, I 1] (I (nextT n)) := by
  refine ctr [I 0, I n, I 1] run_tick_on rfl rfl rfl ?_ rfl
  unfold rt_tick_on
  simp
  have e1 : max 0 (min n 1073741824) = min (max n 0) 1073741824 := by omega
  rw [e1]
  have e2 : IntKind.i64.wrap (1073741824 - min (max n 0) 1073741824) = 1073741824 - min (max n 0) 1073741824 := by rw [wrap_i] <;> omega
  rw [e2, show max (1 : Int) 0 = 1 from rfl]
  by_cases h : min (max n 0) 1073741824 = 1073741824
  · rw [h]; simp [nextT, h, show min (1 : Int) 0 = 0 from rfl, show min (1073741825 : Int) 1073741824 = 1073741824 from rfl]
  · have e3 : min 1 (1073741824 - min (max n 0) 1073741824) = 1 := by omega
    rw [e3]
    have e4 : IntKind.i64.wrap (min (max n 0) 1073741824 + 1) = min (max n 0) 1073741824 + 1 := by rw [wrap_i] <;> omega
    simp [e4, nextT]
    omega
theorem c_tick_Next (n : Int) : C f_tick_Next [I n] (I (nextT n)) := by
  refine ctr [I n] run_tick_Next rfl rfl rfl ?_ rfl
  unfold rt_tick_Next
  refine call (c_tick_on1 n) (by simp) (by simp) ?_
  simp

def none2 : Port := ⟨0, 0⟩
def plain : Sec := ⟨1, none2, none2, none2, none2, 0, 0⟩
end Go.Lb.LK

namespace Go.Lb.LK
open Go Go.Lb Go.Proofs Go.RowKit

def Hd.n (h : Hd) : Nat := h.path.steps.length
def asleepS (l : Lay) (im : Img) (h : Hd) : Bool := !rightS h || stale l im
def secOf (h : Hd) (k : Nat) : Int := (h.path.steps[k]?.map (·.s)).getD 0
def wr (l : Lay) (im : Img) (h : Hd) : Nat → Bool
  | 0 => h.was 0 || (decide (h.gone ≤ 0 ∧ 0 < h.n) && told l im (secOf h 0))
  | k + 1 => h.was (k + 1) || (decide (h.gone ≤ (k + 1 : Nat) ∧ k + 1 < h.n) && (told l im (secOf h (k + 1)) && wr l im h k))
def wrM (l : Lay) (im : Img) (h : Hd) (m : Nat) : Nat → Bool := fun j => if j < m then wr l im h j else h.was j
def canGo (l : Lay) (im : Img) (h : Hd) (g : Nat) : Bool := decide (g < h.n) && (wr l im h g && ((decide (g + 1 = h.n) || wr l im h (g + 1)) && !occupied l im (secOf h g)))
def goF (l : Lay) (im : Img) (h : Hd) : Nat → Nat → Nat
  | 0, g => g
  | f + 1, g => if canGo l im h g = true then goF l im h f (g + 1) else g
def goX (l : Lay) (im : Img) (h : Hd) (g : Nat) : Nat := goF l im h (h.n - g) g
theorem canGo_lt {l : Lay} {im : Img} {h : Hd} {g : Nat} (hc : canGo l im h g = true) : g < h.n := by
  simp only [canGo, Bool.and_eq_true, decide_eq_true_eq] at hc; exact hc.1
theorem goX_go {l : Lay} {im : Img} {h : Hd} {g : Nat} (hc : canGo l im h g = true) : goX l im h g = goX l im h (g + 1) := by
  have := canGo_lt hc
  unfold goX
  obtain ⟨f, hf⟩ : ∃ f, h.n - g = f + 1 := ⟨h.n - g - 1, by omega⟩
  rw [hf, show h.n - (g + 1) = f by omega]
  simp [goF, hc]
theorem goX_stop {l : Lay} {im : Img} {h : Hd} {g : Nat} (hc : canGo l im h g = false) : goX l im h g = g := by
  unfold goX
  cases h.n - g with
  | zero => rfl
  | succ f => simp [goF, hc]
def lastW (l : Lay) (im : Img) (h : Hd) : Bool := wr l im h (h.n - 1)
def timerS (l : Lay) (im : Img) (h : Hd) : Int := if lastW l im h = true then nextT h.timer else h.timer
def opnS (l : Lay) (im : Img) (h : Hd) : Bool := h.opn || (decide (goX l im h h.gone.toNat = h.n) || (lastW l im h && decide (l.over ≤ timerS l im h)))
def runS (l : Lay) (im : Img) (h : Hd) : Hd :=
  if asleepS l im h = true then h else { h with was := wr l im h, gone := goX l im h h.gone.toNat, timer := timerS l im h, opn := opnS l im h }
theorem wr_low {l : Lay} {im : Img} {h : Hd} {k : Nat} (hk : (k : Int) < h.gone) : wr l im h k = h.was k := by
  cases k with
  | zero => simp only [wr]; rw [decide_eq_false (by omega)]; simp
  | succ k => simp only [wr]; rw [decide_eq_false (by omega)]; simp
theorem wr_high {l : Lay} {im : Img} {h : Hd} {k : Nat} (hk : h.n ≤ k) : wr l im h k = h.was k := by
  cases k with
  | zero => simp only [wr]; rw [decide_eq_false (by omega)]; simp
  | succ k => simp only [wr]; rw [decide_eq_false (by omega)]; simp
theorem wrM_zero {l : Lay} {im : Img} {h : Hd} {m : Nat} (hm : (m : Int) ≤ h.gone) : wrM l im h m = h.was := by
  funext j
  unfold wrM
  split
  · exact wr_low (by omega)
  · rfl
theorem wrM_all {l : Lay} {im : Img} {h : Hd} {m : Nat} (hm : h.n ≤ m) : wrM l im h m = wr l im h := by
  funext j
  unfold wrM
  split
  · rfl
  · exact (wr_high (by omega)).symm
theorem wrM_succ {l : Lay} {im : Img} {h : Hd} {m : Nat} (j : Nat) : wrM l im h (m + 1) j = if j = m then wr l im h m else wrM l im h m j := by
  unfold wrM
  by_cases h1 : j = m
  · subst h1; simp
  · by_cases h2 : j < m
    · simp [h1, h2, show j < m + 1 by omega]
    · simp [h1, h2, show ¬ j < m + 1 by omega]
theorem wr_at {l : Lay} {im : Img} {h : Hd} {k : Nat} (h1 : h.gone ≤ k) (h2 : k < h.n) : wr l im h k = (h.was k || (told l im (secOf h k) && (decide (k = 0) || wr l im h (k - 1)))) := by
  cases k with
  | zero => simp only [wr]; rw [decide_eq_true (by omega : h.gone ≤ 0 ∧ 0 < h.n)]; simp
  | succ k => simp only [wr]; rw [decide_eq_true (by omega : h.gone ≤ (k + 1 : Nat) ∧ k + 1 < h.n)]; simp
theorem wrM_on {l : Lay} {im : Img} {h : Hd} {k : Nat} (hk : wr l im h k = true) (j : Nat) : wrM l im h (k + 1) j = (decide (j = k) || wrM l im h k j) := by
  rw [wrM_succ]
  by_cases h1 : j = k
  · subst h1; simp [hk]
  · simp [h1]
theorem aidx0 (w : Nat → Bool) {i : Nat} {z : Int} (hz : z = i) (h : i < 12) : pv (.aidx 12 1 0 1 false) [.agg [AV.bool (w 0), AV.bool (w 1), AV.bool (w 2), AV.bool (w 3), AV.bool (w 4), AV.bool (w 5), AV.bool (w 6), AV.bool (w 7), AV.bool (w 8), AV.bool (w 9), AV.bool (w 10), AV.bool (w 11)], I z] = .bool (w i) := by
  subst hz
  match i, h with
  | 0, _ => rfl
  | 1, _ => rfl
  | 2, _ => rfl
  | 3, _ => rfl
  | 4, _ => rfl
  | 5, _ => rfl
  | 6, _ => rfl
  | 7, _ => rfl
  | 8, _ => rfl
  | 9, _ => rfl
  | 10, _ => rfl
  | 11, _ => rfl
  | n + 12, h => exact absurd h (by omega)
end Go.Lb.LK

namespace Go.Lb.LK
open Go Go.Lb Go.Proofs Go.RowKit

theorem c_pass_asleep (l : Lay) (im : Img) (h : Hd) (hl : h.len) (hs : 0 ≤ h.stage ∧ h.stage ≤ 255) : C f_pass_asleep [l.av, im.av, h.av] (.bool (asleepS l im h)) := by
  refine ctr (l.cells ++ im.cells ++ h.cells) run_pass_asleep rfl (lih l im h) rfl ?_ rfl
  unfold rt_pass_asleep
  simp [Lay.cells, Img.cells, Hd.cells]
  refine call (c_held_Right h hl hs) (by simp [Hd.cells]) (by simp) ?_
  simp
  refine callIf (avs := [l.av, im.av]) (.bool (stale l im)) rfl (fun _ => ⟨by simp [Lay.cells, Img.cells], c_image_Stale l im⟩) (by simp) ?_
  cases hq : rightS h <;> simp [asleepS, hq]
end Go.Lb.LK

namespace Go.Lb.LK
open Go Go.Lb Go.Proofs Go.RowKit

theorem secOf_lt {h : Hd} {k : Nat} (hk : k < h.path.steps.length) : secOf h k = h.path.steps[k].s := by
  simp [secOf, hk]
theorem runS_asleep {l : Lay} {im : Img} {h : Hd} (ha : asleepS l im h = true) : runS l im h = h := by simp [runS, ha]
theorem runS_awake {l : Lay} {im : Img} {h : Hd} (ha : asleepS l im h = false) : runS l im h = { h with was := wr l im h, gone := goX l im h h.gone.toNat, timer := timerS l im h, opn := opnS l im h } := by simp [runS, ha]

end Go.Lb.LK
