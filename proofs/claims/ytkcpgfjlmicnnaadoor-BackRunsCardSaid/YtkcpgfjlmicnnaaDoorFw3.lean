/- Operations that make memory, or write into the call's own. -/
/- append. -/
/- Slices' literals, make, calls by contract. -/
/- Calls by contract. -/
/- One operation, whole. -/
import Derived.Test.YtkcpgfjlmicnnaaDoorFw2
set_option linter.unusedSimpArgs false
set_option linter.unusedVariables false
namespace Go.Lb
open Go.RowKit

theorem getElem?_putL {α : Type} (cs : List α) (off : Nat) (v : List α) (h : off + v.length ≤ cs.length) (q : Nat) :
    (putL cs off v)[q]? = if q < off then cs[q]? else if q < off + v.length then v[q - off]? else cs[q]? := by
  unfold putL
  have hl : (List.take off cs).length = off := by simp; omega
  by_cases h1 : q < off
  · rw [if_pos h1, List.append_assoc, List.getElem?_append_left (by omega), List.getElem?_take, if_pos h1]
  · rw [if_neg h1]
    by_cases h2 : q < off + v.length
    · rw [if_pos h2, List.append_assoc, List.getElem?_append_right (by omega), hl, List.getElem?_append_left (by omega)]
    · rw [if_neg h2, List.getElem?_append_right (by simp; omega), List.getElem?_drop]
      congr 1; simp; omega

theorem take_drop_putL {α : Type} (vs : List α) (o p L : Nat) (us : List α) (h1 : o + L ≤ vs.length) (h2 : p + us.length ≤ L) :
    ((putL vs (o + p) us).drop o).take L = putL ((vs.drop o).take L) p us := by
  apply List.ext_getElem?
  intro q
  rw [getElem?_putL _ _ _ (by simp; omega), List.getElem?_take, List.getElem?_drop, getElem?_putL _ _ _ (by omega), List.getElem?_take, List.getElem?_drop]
  by_cases hq : q < L
  · simp only [hq, if_true]
    by_cases a : q < p
    · rw [if_pos a, if_pos (by omega)]
    · rw [if_neg a, if_neg (by omega)]
      by_cases b : q < p + us.length
      · rw [if_pos b, if_pos (by omega)]; congr 1; omega
      · rw [if_neg b, if_neg (by omega)]
  · simp only [hq, if_false]
    rw [if_neg (by omega), if_neg (by omega)]

theorem flat_set {es : List AV} {sz : Nat} (h : ∀ e ∈ es, e.cells.length = sz) {j : Nat} (hj : j < es.length) (e : AV) (he : e.cells.length = sz) :
    AV.flat (es.set j e) = putL (AV.flat es) (j * sz) e.cells := by
  rw [List.set_eq_take_append_cons_drop, if_pos hj, flat_append, flat_cons]
  have hx : es = es.take j ++ es[j] :: es.drop (j + 1) := by simp
  have hl : (AV.flat (es.take j)).length = j * sz := by
    rw [flat_length (fun x hx => h x (List.mem_of_mem_take hx))]; congr 1; simp; omega
  have hle : (es[j]).cells.length = sz := h _ (by simp)
  have hf : AV.flat es = AV.flat (es.take j) ++ ((es[j]).cells ++ AV.flat (es.drop (j + 1))) := by
    rw [← flat_cons, ← flat_append, ← hx]
  unfold putL
  have e1 : (AV.flat (es.take j) ++ ((es[j]).cells ++ AV.flat (es.drop (j + 1)))).take (j * sz) = AV.flat (es.take j) := by
    rw [List.take_append_of_le_length (by omega), List.take_of_length_le (by omega)]
  have e2 : (AV.flat (es.take j) ++ ((es[j]).cells ++ AV.flat (es.drop (j + 1)))).drop (j * sz + e.cells.length) = AV.flat (es.drop (j + 1)) := by
    rw [← List.append_assoc]
    have : (AV.flat (es.take j) ++ (es[j]).cells).length = j * sz + e.cells.length := by rw [List.length_append, hl, hle, he]
    rw [← this, List.drop_left]
  rw [hf, e1, e2]
  simp

theorem putL_putL {α : Type} (cs old : List α) (p off : Nat) (us : List α) (h1 : p + old.length ≤ cs.length) (h2 : off + us.length ≤ old.length) (hold : (cs.drop p).take old.length = old) :
    putL cs p (putL old off us) = putL cs (p + off) us := by
  apply List.ext_getElem?
  intro q
  have hl := putL_length old off us h2
  rw [getElem?_putL cs p _ (by omega), getElem?_putL cs (p + off) us (by omega), hl, getElem?_putL old off us h2]
  have ho : ∀ k, k < old.length → old[k]? = cs[p + k]? := by
    intro k hk
    rw [← hold, List.getElem?_take, if_pos hk, List.getElem?_drop]
  by_cases a : q < p
  · rw [if_pos a, if_pos (by omega)]
  · rw [if_neg a]
    by_cases b : q < p + old.length
    · rw [if_pos b]
      by_cases d : q < p + off
      · rw [if_pos d, if_pos (by omega), ho _ (by omega)]; congr 1; omega
      · rw [if_neg d, if_neg (by omega)]
        by_cases f : q < p + off + us.length
        · rw [if_pos f, if_pos (by omega)]; congr 1; omega
        · rw [if_neg f, if_neg (by omega), ho _ (by omega)]; congr 1; omega
    · rw [if_neg b, if_neg (by omega), if_neg (by omega)]

/-- The operation goes through, to this value, own things, inputs. -/
def OpGo (P : Program) (ro : Option Nat) (n0 : Nat) (w0 : Base) (c : Cx) (ρ : Nat → AV) (O : Lk) (e : SE) (O' : Lk) (nenv' : Nat) (o : Oper) (a : Act) (w : World) : Prop :=
  ∀ (n : Nat) (next : Act → World → Prop) (Q : Exit → Act → World → Prop),
    (∀ v w' c', c.Keeps O.dom c' → Rv c' (den ρ e) v → Mem n0 w0 c' ρ O' nenv' w' → next (a.put o.dst v) w') → o.wpIn (FW ro) n P a w next Q

variable {P : Program} {ro : Option Nat} {n0 : Nat} {w0 : Base} {c : Cx} {ρ : Nat → AV} {O : Lk} {nenv : Nat} {o : Oper} {a : Act} {w : World}

theorem OpGo.pure (hm : Mem n0 w0 c ρ O nenv w) {e : SE} {s : Sem Value} (hd : ∀ c, o.op ≠ .defer c) (he : execOp a.eval o = (do Pure.pure (.value (← s)))) (hr : Runs P w c (den ρ e) s) :
    OpGo P ro n0 w0 c ρ O e O nenv o a w := by
  intro n next Q hn
  obtain ⟨v, r1, r2⟩ := hr
  exact wpIn_value hd (v := v) (w' := w) (by rw [he, Sem.run_bind, r1]; rfl) (hn v w c (Cx.Keeps.refl _ _) r2 hm)

def Chks.nodes (pcs : List (SE × Bool)) (ck : List Chk) : List Node := ck.map fun x => .chk pcs x.1 x.2

/-- A variable with a value. -/
theorem op_box (hm : Mem n0 w0 c ρ O nenv w) {nid : Nat} (hid : O nid = none) (hn0 : n0 ≤ w.heap.size) {T : TypeId} {x : Operand} {e : SE} {k : Nat} {g : Bool} (ho : o.op = .box T x) (hx : Rv c (den ρ e) (a.eval x)) (hg : g = false → k = 1)
    (hck : Chks ρ (cellsN k g e).2) (hwf : SE.wfs nenv O.dom (cellsN k g e).1 = true) :
    OpGo P ro n0 w0 c ρ O (.ptr nid 0) (O.upd nid (.box (cellsN k g e).1)) nenv o a w := by
  intro n next Q hn
  obtain ⟨h1, _, _, _, _⟩ := cellsN_sound hx hg hck
  have hb := hm.newBox hn0 hid _ (a.eval x).cells.toList T h1 hwf
  refine wpIn_value (by rw [ho]; intro c h; cases h) (v := .pointer (some ⟨w.heap.size, 0, none⟩)) (w' := w.alloc (.cells (a.eval x).cells T)) ?_ (hn _ _ _ (c.setBox_keeps hid) ?_ hb)
  · simp only [execOp, ho]; rfl
  · have := Rv.ptr (c := c.setBox nid w.heap.size (a.eval x).cells.toList.length) nid 0
    simpa [Cx.setBox, den] using this

theorem op_alloc (hm : Mem n0 w0 c ρ O nenv w) {nid : Nat} (hid : O nid = none) (hn0 : n0 ≤ w.heap.size) {T : TypeId} {cs : List SE} (ho : o.op = .alloc T) (hz : zeroSE P T = some cs) (hwf : SE.wfs nenv O.dom cs = true) :
    OpGo P ro n0 w0 c ρ O (.ptr nid 0) (O.upd nid (.box cs)) nenv o a w := by
  intro n next Q hn
  obtain ⟨zv, z1, z2⟩ := zeroSE_sound (w := w) (c := c) (ρ := ρ) hz
  have hb := hm.newBox hn0 hid _ zv.cells.toList T z2 hwf
  refine wpIn_value (by rw [ho]; intro c h; cases h) (v := .pointer (some ⟨w.heap.size, 0, none⟩)) (w' := w.alloc (.cells zv.cells T)) ?_ (hn _ _ _ (c.setBox_keeps hid) ?_ hb)
  · simp only [execOp, ho, Instr.alloc, Sem.run_bind, z1, Result.andThen_ok]; rfl
  · have := Rv.ptr (c := c.setBox nid w.heap.size zv.cells.toList.length) nid 0
    simpa [Cx.setBox, den] using this

theorem op_store_box (hm : Mem n0 w0 c ρ O nenv w) {T : TypeId} {x y : Operand} {e : SE} {i off k : Nat} {g : Bool} {cs : List SE} (ho : o.op = .store T x y) (hx : Rv c (.ptr i off) (a.eval x)) (hy : Rv c (den ρ e) (a.eval y))
    (ht : tsz P T = some (k, g)) (hg : g = false → k = 1) (hck : Chks ρ (cellsN k g e).2) (hl : O i = some (.box cs)) (hle : off + k ≤ cs.length) (hwf : SE.wfs nenv O.dom (cellsN k g e).1 = true) :
    OpGo P ro n0 w0 c ρ O .undef (O.upd i (.box (putL cs off (cellsN k g e).1))) nenv o a w := by
  intro n next Q hn
  obtain ⟨h1, h2, h3, _, _⟩ := cellsN_sound hy hg hck
  obtain ⟨w', r1, r2⟩ := hm.storeBox (P := P) hl ht h2 hle h3 h1 hwf
  refine wpIn_run (by rw [ho]; intro c h; cases h) ?_
  have : (execOp a.eval o).run P w = .ok .skip w' := by
    have hv : a.eval x = .pointer (some ⟨c.β i, off, none⟩) := by
      generalize a.eval x = vx at hx
      cases hx; rfl
    simp only [execOp, ho, Sem.run_bind, hv, r1]; rfl
  rw [this]
  exact hn _ _ _ (Cx.Keeps.refl _ _) (.undef _ (fun _ h => by cases h)) r2


/-- A store at a number's place in an array of the call's own. -/
theorem op_store_ptrx (hm : Mem n0 w0 c ρ O nenv w) {T : TypeId} {x y : Operand} {e idx : SE} {i base len sz off k : Nat} {g : Bool} {cs : List SE} (ho : o.op = .store T x y) (hx : Rv c (den ρ (.ptrx i base idx len sz off)) (a.eval x)) (hy : Rv c (den ρ e) (a.eval y))
    (ht : tsz P T = some (k, g)) (hg : g = false → k = 1) (hck : Chks ρ (cellsN k g e).2) (hl : O i = some (.box cs)) (hle : base + len * sz ≤ cs.length) (hin : pok (.inr len) [den ρ idx]) (hoff : off + k ≤ sz)
    (hwf : SE.wfs nenv O.dom (cs.zipIdx.map fun (u, j) => if base ≤ j ∧ j < base + len * sz then .app (.cellset base len sz off k j) [idx, u, .agg (cellsN k g e).1] else u) = true) :
    OpGo P ro n0 w0 c ρ O .undef (O.upd i (.box (cs.zipIdx.map fun (u, j) => if base ≤ j ∧ j < base + len * sz then .app (.cellset base len sz off k j) [idx, u, .agg (cellsN k g e).1] else u))) nenv o a w := by
  intro n next Q hn
  obtain ⟨h1, h2, h3, _, _⟩ := cellsN_sound hy hg hck
  have hcn := cellsN_length k g e hg
  cases hi : den ρ idx with
  | int kk m =>
    rw [hi] at hin
    simp only [pok] at hin
    obtain ⟨j, rfl⟩ : ∃ j : Nat, m = j := ⟨m.toNat, by omega⟩
    have hj : j < len := by omega
    have hjs : j * sz + sz ≤ len * sz := by
      have := Nat.mul_le_mul_right sz (show j + 1 ≤ len from hj)
      rw [Nat.add_mul] at this; omega
    simp only [den, hi, denIdx, Int.toNat_natCast] at hx
    obtain ⟨vs, T', hb, hvs, hh⟩ := hm.ok i _ hl
    have hlv := hvs.length; rw [dens_length] at hlv
    obtain ⟨w', r1, r2, r3, r4, r5, r6, r7⟩ := run_storeVar (P := P) ht hb h2 (o := base + j * sz + off) (by omega) h3
    have hmem : Mem n0 w0 c ρ (O.upd i (.box (cs.zipIdx.map fun (u, j) => if base ≤ j ∧ j < base + len * sz then .app (.cellset base len sz off k j) [idx, u, .agg (cellsN k g e).1] else u))) nenv w' := by
      refine hm.turn hl rfl rfl hwf ?_ r3 r4 r5 r6 r7
      refine ⟨putL vs (base + j * sz + off) (a.eval y).cells.toList, T', r2, ?_⟩
      have hput := hvs.put h1 (base + j * sz + off)
      have heq : dens ρ (cs.zipIdx.map fun (u, jj) => if base ≤ jj ∧ jj < base + len * sz then .app (.cellset base len sz off k jj) [idx, u, .agg (cellsN k g e).1] else u) =
          putL (dens ρ cs) (base + j * sz + off) (dens ρ (cellsN k g e).1) := by
        apply List.ext_getElem?
        intro q
        rw [dens_getElem?, List.getElem?_map, List.getElem?_zipIdx]
        simp only [putL, dens_length, hcn]
        by_cases hq : q < cs.length
        · have hq2 : cs[q]? = some cs[q] := by simp [hq]
          rw [hq2]
          simp only [Option.map_some, Nat.zero_add]
          by_cases hr : base ≤ q ∧ q < base + len * sz
          · rw [if_pos hr]
            simp only [den, dens, hi, pv, Int.toNat_natCast, AV.cells]
            by_cases hs : base + j * sz + off ≤ q ∧ q < base + j * sz + off + k
            · rw [if_pos hs]
              rw [List.append_assoc, List.getElem?_append_right (by simp [dens_length]; omega)]
              have e1 : q - (List.take (base + j * sz + off) (dens ρ cs)).length = q - (base + j * sz + off) := by simp [dens_length]; omega
              rw [e1, List.getElem?_append_left (by rw [dens_length, hcn]; omega)]
              rw [List.getD_eq_getElem?_getD]
              have : q - (base + j * sz + off) < (dens ρ (cellsN k g e).1).length := by rw [dens_length, hcn]; omega
              simp [this]
            · rw [if_neg hs]
              by_cases hb2 : q < base + j * sz + off
              · rw [List.append_assoc, List.getElem?_append_left (by simp [dens_length]; omega), List.getElem?_take, if_pos hb2, dens_getElem?, hq2]; rfl
              · rw [List.getElem?_append_right (by simp [dens_length, hcn]; omega), List.getElem?_drop, dens_getElem?]
                have e1 : base + j * sz + off + k + (q - (List.take (base + j * sz + off) (dens ρ cs) ++ dens ρ (cellsN k g e).fst).length) = q := by
                  simp [dens_length, hcn]; omega
                rw [e1, hq2]; rfl
          · rw [if_neg hr]
            by_cases hb2 : q < base + j * sz + off
            · rw [List.append_assoc, List.getElem?_append_left (by simp [dens_length]; omega), List.getElem?_take, if_pos hb2, dens_getElem?, hq2]; rfl
            · rw [List.getElem?_append_right (by simp [dens_length, hcn]; omega), List.getElem?_drop, dens_getElem?]
              have e1 : base + j * sz + off + k + (q - (List.take (base + j * sz + off) (dens ρ cs) ++ dens ρ (cellsN k g e).fst).length) = q := by
                simp [dens_length, hcn]; omega
              rw [e1, hq2]; rfl
        · have hq2 : cs[q]? = none := by simp; omega
          rw [hq2, List.getElem?_append_right (by simp [dens_length, hcn]; omega), List.getElem?_drop, dens_getElem?]
          have : cs.length ≤ base + j * sz + off + k + (q - (List.take (base + j * sz + off) (dens ρ cs) ++ dens ρ (cellsN k g e).fst).length) := by
            simp [dens_length, hcn]; omega
          rw [List.getElem?_eq_none this]; rfl
      have hsz : (a.eval y).cells.toList.length = k := by simpa using h2
      have hl2 : (putL vs (base + j * sz + off) (a.eval y).cells.toList).length = vs.length := by simp [putL, hsz]; omega
      rw [heq, hl2]; exact ⟨hput, hh⟩
    refine wpIn_run (by rw [ho]; intro c h; cases h) ?_
    have : (execOp a.eval o).run P w = .ok .skip w' := by
      have hv : a.eval x = .pointer (some ⟨c.β i, base + j * sz + off, none⟩) := by
        generalize a.eval x = vx at hx
        cases hx; rfl
      simp only [execOp, ho, Sem.run_bind, hv, Instr.storeAt, Instr.sureAddr, Sem.run_pure, Result.andThen_ok, r1]
    rw [this]
    exact hn _ _ _ (Cx.Keeps.refl _ _) (.undef _ (fun _ h => by cases h)) hmem
  | _ => rw [hi] at hin; simp [pok] at hin


/-- What a row comes to when a part of an element of it is stored. -/
theorem op_store_rptr (hm : Mem n0 w0 c ρ O nenv w) {T : TypeId} {x y : Operand} {e idx ec : SE} {i sz off k : Nat} {g : Bool} (ho : o.op = .store T x y) (hx : Rv c (den ρ (.rptr i idx sz off)) (a.eval x)) (hy : Rv c (den ρ e) (a.eval y))
    (ht : tsz P T = some (k, g)) (hg : g = false → k = 1) (hck : Chks ρ (cellsN k g e).2) (hl : O i = some (.row sz ec)) (hin : pok (.rowset sz off k) [den ρ ec, den ρ idx, den ρ (.agg (cellsN k g e).1)])
    (hwf : (SE.app (.rowset sz off k) [ec, idx, .agg (cellsN k g e).1]).wf nenv O.dom = true) :
    OpGo P ro n0 w0 c ρ O .undef (O.upd i (.row sz (.app (.rowset sz off k) [ec, idx, .agg (cellsN k g e).1]))) nenv o a w := by
  intro n next Q hn
  obtain ⟨h1, h2, h3, _, _⟩ := cellsN_sound hy hg hck
  have hcn := cellsN_length k g e hg
  obtain ⟨xs, he, hrow⟩ := hm.ok i _ hl
  cases hi : den ρ idx with
  | int kk m =>
    rw [hi, he] at hin
    simp only [pok, den] at hin
    obtain ⟨i0, i1, i2, i3, i4, i5⟩ := hin
    obtain ⟨j, rfl⟩ : ∃ j : Nat, m = j := ⟨m.toNat, by omega⟩
    simp only [Int.toNat_natCast] at i2
    have hj : j < xs.length := by omega
    simp only [den, hi, denIdx, Int.toNat_natCast] at hx
    have hex : ∃ b oo m' cap, c.h i = .slice (some ⟨b, oo, none⟩) m' cap ∧ a.eval x = .pointer (some ⟨b, oo + j * sz + off, none⟩) := by
      generalize a.eval x = vx at hx
      cases hx with
      | rptr _ _ _ _ b oo m' cap hh => exact ⟨b, oo, m', cap, hh, rfl⟩
    obtain ⟨b, oo, m', cap, hh, hv⟩ := hex
    rw [hh] at hrow
    cases hrow with
    | zero => simp at hj
    | row _ _ _ vs T' _ r0 r1 r2 r3 r4 r5 =>
      have hjs : j * sz + sz ≤ xs.length * sz := by
        have := Nat.mul_le_mul_right sz (show j + 1 ≤ xs.length from hj)
        rw [Nat.add_mul] at this; omega
      have hcap : xs.length * sz ≤ cap * sz := Nat.mul_le_mul_right _ r2
      obtain ⟨w', q1, q2, q3, q4, q5, q6, q7⟩ := run_storeVar (P := P) ht r1 h2 (o := oo + j * sz + off) (by omega) h3
      have hbl : bl c i (.row sz ec) = some b := by simp [bl, hh, hdrBlock]; omega
      have hbl' : bl c i (.row sz (.app (.rowset sz off k) [ec, idx, .agg (cellsN k g e).1])) = some b := by simp [bl, hh, hdrBlock]; omega
      have hmem : Mem n0 w0 c ρ (O.upd i (.row sz (.app (.rowset sz off k) [ec, idx, .agg (cellsN k g e).1]))) nenv w' := by
        refine hm.turn hl hbl hbl' hwf ?_ q3 q4 q5 q6 q7
        have hxj : xs.getD j .undef = xs[j] := by simp [List.getD_eq_getElem?_getD, hj]
        have hlj : (xs[j]).cells.length = sz := r4 _ (by simp)
        have hold : ((AV.flat xs).drop (j * sz)).take (xs[j]).cells.length = (xs[j]).cells := by
          rw [flat_drop r4, List.drop_eq_getElem_cons hj, flat_cons, List.take_left]
        have hul : (dens ρ (cellsN k g e).1).length = k := by rw [dens_length, hcn]
        have hput : AV.put xs[j].cells off (dens ρ (cellsN k g e).1) = putL xs[j].cells off (dens ρ (cellsN k g e).1) := rfl
        have hpl : (putL xs[j].cells off (dens ρ (cellsN k g e).1)).length = sz := by rw [putL_length _ _ _ (by omega)]; exact hlj
        have hnew : (AV.ofCells xs[j] (putL xs[j].cells off (dens ρ (cellsN k g e).1))).cells = putL xs[j].cells off (dens ρ (cellsN k g e).1) := by
          unfold AV.ofCells
          split
          · rfl
          · rename_i hna
            have h1 : (xs[j]).cells = [xs[j]] := by
              cases hx2 : xs[j] <;> first | rfl | exact absurd hx2 (hna _)
            rw [h1] at hlj hpl ⊢
            simp only [List.length_singleton] at hlj
            rcases Nat.eq_zero_or_pos k with hk0 | hk1
            · have hu0 : dens ρ (cellsN k g e).1 = [] := List.eq_nil_of_length_eq_zero (by omega)
              rw [hu0]
              have : putL [xs[j]] off ([] : List AV) = [xs[j]] := by simp [putL]
              rw [this]; exact h1
            · have ho0 : off = 0 := by omega
              subst ho0
              obtain ⟨u, hu⟩ : ∃ u, dens ρ (cellsN k g e).1 = [u] := by
                match hd : dens ρ (cellsN k g e).1, hul with
                | [u], _ => exact ⟨u, rfl⟩
                | [], h => simp at h; omega
                | _ :: _ :: _, h => simp at h; omega
              rw [hu] at i4 ⊢
              have hone : u.one = true := by simpa using i4
              have : putL [xs[j]] 0 [u] = [u] := by simp [putL]
              rw [this]
              show (([u] : List AV).getD 0 .undef).cells = [u]
              simp only [List.getD_cons_zero]
              cases u <;> simp_all
        refine ⟨xs.set j (AV.ofCells xs[j] (putL xs[j].cells off (dens ρ (cellsN k g e).1))), by simp only [den, dens, he, hi, pv, Int.toNat_natCast, hxj]; rfl, ?_⟩
        rw [hh]
        have hset : (xs.set j (AV.ofCells xs[j] (putL xs[j].cells off (dens ρ (cellsN k g e).1)))).length = xs.length := by simp
        have key := RowOk.row (c := c) (w := w') (sz := sz) b oo cap (putL vs (oo + j * sz + off) (a.eval y).cells.toList) T' (xs.set j (AV.ofCells xs[j] (putL xs[j].cells off (dens ρ (cellsN k g e).1)))) r0 q2 (by omega)
          (by rw [putL_length _ _ _ (by simp; omega)]; exact r3)
          (by
            intro x hx
            rcases List.mem_or_eq_of_mem_set hx with hx | rfl
            · exact r4 x hx
            · rw [hnew]; exact hpl)
          (by
            rw [flat_set r4 hj _ (by rw [hnew]; exact hpl), hnew, hset, Nat.add_assoc, take_drop_putL _ _ _ _ _ (by omega) (by simp; omega),
              putL_putL _ _ _ _ _ (by rw [flat_length r4]; omega) (by omega) hold]
            exact r5.put h1 _)
        rw [hset] at key
        exact key
      refine wpIn_run (by rw [ho]; intro c h; cases h) ?_
      have : (execOp a.eval o).run P w = .ok .skip w' := by
        simp only [execOp, ho, Sem.run_bind, hv, Instr.storeAt, Instr.sureAddr, Sem.run_pure, Result.andThen_ok, q1]
      rw [this]
      exact hn _ _ _ (Cx.Keeps.refl _ _) (.undef _ (fun _ h => by cases h)) hmem
  | _ => rw [hi, he] at hin; simp [pok] at hin

end Go.Lb

namespace Go.Lb
open Go.RowKit

variable {P : Program} {ro : Option Nat} {n0 : Nat} {w0 : Base} {c : Cx} {ρ : Nat → AV} {O : Lk} {nenv : Nat} {o : Oper} {a : Act} {w : World}

/-- A slice's value whose elements' cells can be read in every world with this heap. -/
structure Readable (P : Program) (c : Cx) (w : World) (sz : Nat) (v : Value) (ys : List AV) (us : List Value) : Prop where
  len : ∀ w', (Builtin.lenOf v).run P w' = .ok ys.length w'
  cells : ∀ d, (Builtin.firstCells sz ys.length v).run P { w with drawn := d } = .ok ⟨us⟩ { w with drawn := d }
  rel : Rvs c (AV.flat ys) us

theorem readable_imm (hi : Imm c w) {ys : List AV} {v : Value} {sz : Nat} (h : Rv c (.sl ys) v) (hs : ∀ y ∈ ys, y.cells.length = sz) : ∃ us, Readable P c w sz v ys us := by
  cases h with
  | slnil => exact ⟨[], ⟨fun _ => rfl, fun _ => rfl, .nil⟩⟩
  | sl0 ad => exact ⟨[], ⟨fun _ => rfl, fun d => by simp [Builtin.firstCells, loadCells, loadCellsFrom], .nil⟩⟩
  | sl _ sz' b o cap h1 h2 h3 =>
    obtain ⟨us, hu, hc⟩ := h3.values hi
    refine ⟨us, ⟨fun _ => rfl, fun d => ?_, hu⟩⟩
    have hl : us.length = ys.length * sz := by rw [hu.length, flat_length hs]
    have := run_loadCells_list (P := P) (w := { w with drawn := d }) ⟨b, o, none⟩ us (fun j v hv => hc j v hv)
    simp only [Builtin.firstCells, ← hl]
    exact this

theorem readable_row {xs : List AV} {v : Value} {sz : Nat} (h : RowOk c w sz v xs) (hs : ∀ y ∈ xs, y.cells.length = sz) : ∃ us, Readable P c w sz v xs us := by
  cases h with
  | nil => exact ⟨[], ⟨fun _ => rfl, fun _ => rfl, .nil⟩⟩
  | zero ad => exact ⟨[], ⟨fun _ => rfl, fun d => by simp [Builtin.firstCells, loadCells, loadCellsFrom], .nil⟩⟩
  | row b o cap vs T _ h0 h1 h2 h3 h4 h5 =>
    by_cases hx : xs = []
    · subst hx
      exact ⟨[], ⟨fun _ => rfl, fun d => by simp [Builtin.firstCells, loadCells, loadCellsFrom], .nil⟩⟩
    · obtain ⟨x, xs', rfl⟩ := List.exists_cons_of_ne_nil hx
      refine ⟨_, ⟨fun _ => rfl, fun d => ?_, h5⟩⟩
      have hcap : (x :: xs').length * sz ≤ cap * sz := Nat.mul_le_mul_right _ h2
      have hl : ((vs.drop o).take ((x :: xs').length * sz)).length = (x :: xs').length * sz := by rw [List.length_take, List.length_drop]; omega
      have := run_loadCells_list (P := P) (w := { w with drawn := d }) ⟨b, o, none⟩ ((vs.drop o).take ((x :: xs').length * sz)) (fun j u hj => by
        rw [Addr.add_eq]
        have hc := cell_of_row { w with drawn := d } b (o + j) _ T _ h1
        rw [hc]
        rw [List.getElem?_take] at hj
        split at hj
        · rw [List.getElem?_drop] at hj; simpa using hj
        · cases hj)
      rw [hl] at this
      exact this

theorem growBy_le (newLen : Nat) : ∀ (r c : Nat), Builtin.growBy newLen r c ≤ max c (2 * newLen + 192) := by
  intro r
  induction r with
  | zero => intro c; simp [Builtin.growBy]; omega
  | succ r ih =>
    intro c
    simp only [Builtin.growBy]
    split
    · omega
    · have := ih (c + (c + 768) / 4)
      omega

theorem nextslicecap_le {need cap : Nat} (h : cap < need) : Builtin.nextslicecap need cap ≤ 2 * need + 192 := by
  unfold Builtin.nextslicecap
  split
  · omega
  · split
    · omega
    · have := growBy_le need 4 cap; omega

theorem zeroCells_length (z : Array Value) (n : Nat) : (Builtin.zeroCells z n).toList.length = n * z.size := by simp [Builtin.zeroCells]

structure ElemOk (P : Program) (sT elem sz : Nat) : Prop where
  slice : P.underlying sT = some (.slice elem)
  size : ∃ g, tsz P elem = some (sz, g)
  info : ∃ i z, P.info? elem = some i ∧ i.bytes ≤ 16384 ∧ i.zero = some z ∧ z.cells.size = sz

/-- append(s, x...), s a row of the call's own. -/
theorem run_append {sT xT ty elem sz : Nat} (he : ElemOk P sT elem sz) {e2 : TypeId} (hx2 : P.underlying xT = some (.slice e2)) {s x : Value} {xs ys : List AV} {us : List Value} (hrow : RowOk c w sz s xs) (hr : Readable P c w sz x ys us)
    (hsx : ∀ y ∈ xs, y.cells.length = sz) (hsy : ∀ y ∈ ys, y.cells.length = sz) (hone : ∀ u ∈ us, u.oneCell' = true) (hlen : xs.length + ys.length ≤ 4294967296) :
    (∃ w', (Builtin.append_ #[sT, xT] ty #[s, x]).run P w = .ok s w' ∧ w' = w ∧ (s = .slice none 0 0 ∨ ∃ ad, s = .slice (some ad) 0 0) ∧ xs = [] ∧ ys = []) ∨
    (∃ b oo cap vs T w', 0 < cap ∧ s = .slice (some ⟨b, oo, none⟩) xs.length cap ∧ xs.length + ys.length ≤ cap ∧ w.heap[b]? = some (.cells ⟨vs⟩ T (0, 0)) ∧ (Builtin.append_ #[sT, xT] ty #[s, x]).run P w = .ok (.slice (some ⟨b, oo, none⟩) (xs.length + ys.length) cap) w' ∧
      w'.heap[b]? = some (.cells ⟨putL vs (oo + xs.length * sz) us⟩ T (0, 0)) ∧ oo + cap * sz ≤ vs.length ∧ Rvs c (AV.flat xs) ((vs.drop oo).take (xs.length * sz)) ∧
      (∀ k, k ≠ b → w'.heap[k]? = w.heap[k]?) ∧ w'.heap.size = w.heap.size ∧ w'.os = w.os ∧ w'.tape = w.tape ∧ w'.output = w.output) ∨
    (∃ cap vs d, (Builtin.append_ #[sT, xT] ty #[s, x]).run P w = .ok (.slice (some ⟨w.heap.size, 0, none⟩) (xs.length + ys.length) cap) (({ w with drawn := d } : World).alloc (.cells ⟨vs⟩ elem)) ∧
      xs.length + ys.length ≤ cap ∧ cap * sz ≤ vs.length ∧ Rvs c (AV.flat (xs ++ ys)) (vs.take ((xs.length + ys.length) * sz))) := by
  obtain ⟨g, hsz⟩ := he.size
  obtain ⟨i, z, hi, hb, hz, hzs⟩ := he.info
  have hlx : (Builtin.lenOf s).run P w = .ok xs.length w := by cases hrow <;> rfl
  have hul : us.length = ys.length * sz := by rw [hr.rel.length, flat_length hsy]
  obtain ⟨ss, hss⟩ := readable_row (P := P) hrow hsx
  have hsl : ss.length = xs.length * sz := by rw [hss.rel.length, flat_length hsx]
  have hxm : (do pure ((← underlying xT) matches .int _) : Sem Bool).run P w = .ok false w := by
    simp [run_underlying hx2]
  have hzv : ∀ w' : World, (zeroValue elem).run P w' = .ok z w' := fun w' => by simp [zeroValue, run_typeInfo hi, hz]
  -- in place
  have inPlace : ∀ (base : Option Addr) (sCap : Nat), s = .slice base xs.length sCap → xs.length + ys.length ≤ sCap →
      (Builtin.append_ #[sT, xT] ty #[s, x]).run P w = (match base with
        | some a => (storeCells (a.add (xs.length * sz)) us).run P w
        | none => .ok () w).andThen fun _ w' => .ok (.slice base (xs.length + ys.length) sCap) w' := by
    intro base sCap hs hn
    subst hs
    have hc := hr.cells w.drawn
    simp only [Builtin.append_, List.getElem?_toArray, List.getElem?_cons_zero, List.getElem?_cons_succ, Sem.run_bind, run_underlying he.slice, Result.andThen_ok, (tsz_spec hsz w).1, run_underlying hx2, Sem.run_pure, Bool.false_eq_true, if_false, hr.len w, hn, if_true, Bool.not_false]
    have hc' : (Builtin.firstCells sz ys.length x).run P w = .ok ⟨us⟩ w := hc
    rw [hc']
    cases base with
    | none => rfl
    | some a => simp only [Result.andThen_ok, Sem.run_bind, Sem.run_pure]
  -- grown
  have grown : ∀ (base : Option Addr) (sCap : Nat), s = .slice base xs.length sCap → ¬ xs.length + ys.length ≤ sCap →
      ∃ newCap d, xs.length + ys.length ≤ newCap ∧ (Builtin.append_ #[sT, xT] ty #[s, x]).run P w = .ok (.slice (some ⟨w.heap.size, 0, none⟩) (xs.length + ys.length) newCap)
        (({ w with drawn := d } : World).alloc (.cells ⟨ss ++ us ++ (Builtin.zeroCells z.cells (newCap - (xs.length + ys.length))).toList⟩ elem)) := by
    intro base sCap hs hn
    have hs' := hs
    subst hs
    have h1 : ¬ (((xs.length + ys.length : Nat) : Int) > IntKind.i64.max ∧ (False ∨ i.bytes = 0)) := by
      rintro ⟨h, _⟩
      have : IntKind.i64.max = 9223372036854775807 := by decide
      rw [this] at h; omega
    have h2 : ¬ Builtin.nextslicecap (xs.length + ys.length) sCap * i.bytes > 2 ^ 48 := by
      have := nextslicecap_le (need := xs.length + ys.length) (cap := sCap) (by omega)
      have h3 : Builtin.nextslicecap (xs.length + ys.length) sCap * i.bytes ≤ (2 * 4294967296 + 192) * 16384 := Nat.mul_le_mul (by omega) hb
      omega
    refine ⟨(xs.length + ys.length) + w.tape w.drawn (.appendCap (xs.length + ys.length) sCap elem) % (2 ^ 63 - (xs.length + ys.length)), w.drawn + 1, by omega, ?_⟩
    simp only [Builtin.append_, List.getElem?_toArray, List.getElem?_cons_zero, List.getElem?_cons_succ, Sem.run_bind, run_underlying he.slice, Result.andThen_ok, (tsz_spec hsz w).1, run_underlying hx2, Sem.run_pure, Bool.false_eq_true, if_false, hr.len w, hn]
    simp only [run_typeInfo hi, Result.andThen_ok]
    rw [if_neg h1]
    simp only [Sem.run_bind, run_typeInfo hi, Result.andThen_ok]
    rw [if_neg h2]
    have hcs := hss.cells (w.drawn + 1)
    have hcx := hr.cells (w.drawn + 1)
    simp only [Sem.run_bind, run_choose, Question.forced, Bool.false_eq_true, if_false, Question.cut, Result.andThen_ok, run_typeInfo hi, run_askRoom, hcs, hcx, Bool.not_false, if_true, hzv]
    have harr : ∀ Z : Array Value, ((⟨ss⟩ : Array Value) ++ ⟨us⟩ ++ Z) = ⟨ss ++ us ++ Z.toList⟩ := fun Z => Array.ext' (by simp)
    rw [harr]
    rfl
  cases hrow with
  | nil =>
    by_cases hy : ys = []
    · subst hy
      left
      refine ⟨w, ?_, rfl, .inl rfl, rfl, rfl⟩
      rw [inPlace none 0 rfl (by simp)]; rfl
    · right; right
      have : 0 < ys.length := List.length_pos_iff.2 hy
      obtain ⟨nc, d, g1, g2⟩ := grown none 0 rfl (by simp; omega)
      simp only [List.length_nil, Nat.zero_add] at g1 g2 ⊢
      refine ⟨nc, _, d, g2, g1, ?_, ?_⟩
      · have h0 : (Builtin.zeroCells z.cells (nc - ys.length)).toList.length = (nc - ys.length) * sz := by rw [zeroCells_length, hzs]
        rw [List.length_append, List.length_append, h0, hsl, hul]
        simp only [List.length_nil, Nat.zero_mul, Nat.zero_add]
        rw [← Nat.add_mul]; apply Nat.mul_le_mul_right; omega
      · have hsn : ss = [] := by apply List.eq_nil_of_length_eq_zero; simpa using hsl
        subst hsn
        simp only [List.nil_append, List.length_nil, Nat.zero_add]
        rw [← hul, List.take_left]; exact hr.rel
  | zero ad =>
    by_cases hy : ys = []
    · subst hy
      left
      have hu0 : us = [] := List.eq_nil_of_length_eq_zero (by simpa using hul)
      subst hu0
      refine ⟨w, ?_, rfl, .inr ⟨ad, rfl⟩, rfl, rfl⟩
      rw [inPlace (some ad) 0 rfl (by simp)]; rfl
    · right; right
      have : 0 < ys.length := List.length_pos_iff.2 hy
      obtain ⟨nc, d, g1, g2⟩ := grown (some ad) 0 rfl (by simp; omega)
      simp only [List.length_nil, Nat.zero_add] at g1 g2 ⊢
      refine ⟨nc, _, d, g2, g1, ?_, ?_⟩
      · have h0 : (Builtin.zeroCells z.cells (nc - ys.length)).toList.length = (nc - ys.length) * sz := by rw [zeroCells_length, hzs]
        rw [List.length_append, List.length_append, h0, hsl, hul]
        simp only [List.length_nil, Nat.zero_mul, Nat.zero_add]
        rw [← Nat.add_mul]; apply Nat.mul_le_mul_right; omega
      · have hsn : ss = [] := by apply List.eq_nil_of_length_eq_zero; simpa using hsl
        subst hsn
        simp only [List.nil_append, List.length_nil, Nat.zero_add]
        rw [← hul, List.take_left]; exact hr.rel
  | row b oo cap vs T _ r0 r1 r2 r3 r4 r5 =>
    by_cases hn : xs.length + ys.length ≤ cap
    · right; left
      have hcap : (xs.length + ys.length) * sz ≤ cap * sz := Nat.mul_le_mul_right _ hn
      rw [Nat.add_mul] at hcap
      obtain ⟨w', q1, q2⟩ := run_storeCells (P := P) us w b (oo + xs.length * sz) 0 vs T r1 (by omega) hone
      refine ⟨b, oo, cap, vs, T, w', r0, rfl, hn, r1, ?_, q2.1, r3, r5, q2.2⟩
      rw [inPlace _ _ rfl hn]
      simp only [Addr.add_eq, q1]; rfl
    · right; right
      obtain ⟨nc, d, g1, g2⟩ := grown (some ⟨b, oo, none⟩) cap rfl hn
      refine ⟨nc, _, d, g2, g1, ?_, ?_⟩
      · have : (Builtin.zeroCells z.cells (nc - (xs.length + ys.length))).toList.length = (nc - (xs.length + ys.length)) * sz := by rw [zeroCells_length, hzs]
        simp only [List.length_append, this, hsl, hul]
        rw [← Nat.add_mul, ← Nat.add_mul]; apply Nat.mul_le_mul_right; omega
      · rw [flat_append, List.append_assoc]
        have e1 : (ss ++ (us ++ (Builtin.zeroCells z.cells (nc - (xs.length + ys.length))).toList)).take ((xs.length + ys.length) * sz) = ss ++ us := by
          rw [← List.append_assoc, List.take_append_of_le_length (by rw [List.length_append, hsl, hul, Nat.add_mul]; exact Nat.le_refl _), List.take_of_length_le (by rw [List.length_append, hsl, hul, Nat.add_mul]; exact Nat.le_refl _)]
        rw [e1]; exact hss.rel.append hr.rel


theorem ones_flat {ys : List AV} (h : ∀ y ∈ ys, AV.ones y.cells = true) : AV.ones (AV.flat ys) = true := by
  induction ys with
  | nil => rfl
  | cons y ys ih =>
    have happ : ∀ (a b : List AV), AV.ones (a ++ b) = (AV.ones a && AV.ones b) := by
      intro a b
      induction a with
      | nil => simp
      | cons x a ih => simp [ih, Bool.and_assoc]
    rw [flat_cons, happ, h y (by simp), ih (fun z hz => h z (by simp [hz]))]; rfl

/-- A row of the call's own is dropped. -/
theorem Mem.drop (hm : Mem n0 w0 c ρ O nenv w) (i : Nat) : Mem n0 w0 c ρ (O.upd i .gone) nenv w :=
  hm.step i .gone (Nat.le_refl _) (Cx.Keeps.refl _ _) (Agree.refl _ _) hm.pure hm.imm hm.immlt (Nat.le_refl _) hm.below hm.old rfl trivial (fun _ _ _ _ _ _ => rfl)
    (fun b hb => by simp [bl] at hb) (fun j o b _ => hm.disj j o b)

/-- A row in a block that nobody has. -/
theorem Mem.reRow (hm : Mem n0 w0 c ρ O nenv w) {w' : World} {b oo cap sz : Nat} {vs : List Value} {T : TypeId} {e : SE} {xs : List AV} {nid : Nat} (hid : O nid = none) (he : den ρ e = .sl xs) (hwf : e.wf nenv O.dom = true)
    (hcap0 : 0 < cap) (hb : w'.heap[b]? = some (.cells ⟨vs⟩ T (0, 0))) (hcap : xs.length ≤ cap) (hlen : oo + cap * sz ≤ vs.length) (hs : ∀ x ∈ xs, x.cells.length = sz) (hr : Rvs c (AV.flat xs) ((vs.drop oo).take (xs.length * sz)))
    (hother : ∀ k, k ≠ b → w'.heap[k]? = w.heap[k]?) (hsize : w'.heap.size = w.heap.size) (hos : w'.os = w.os) (htape : w'.tape = w.tape) (hout : w'.output = w.output)
    (hn0 : n0 ≤ b) (hfree : ∀ j o, O j = some o → bl c j o ≠ some b) (hdisj : (∀ off v, c.I b off ≠ some v) ∧ (∀ ob, c.M b ≠ some ob)) :
    Mem n0 w0 (c.seth nid (.slice (some ⟨b, oo, none⟩) xs.length cap)) ρ (O.upd nid (.row sz e)) nenv w' := by
  have hk : c.Keeps O.dom (c.seth nid (.slice (some ⟨b, oo, none⟩) xs.length cap)) := c.seth_keeps hid
  have hblt : b < w'.heap.size := (Array.getElem?_eq_some_iff.1 hb).1
  have hu : AV.underAll O.dom xs = true := by have := den_under hm.pure e hwf; rwa [he] at this
  refine hm.step nid (.row sz e) (Nat.le_refl _) hk (Agree.refl _ _) hm.pure ?_ ?_ (by omega) ?_ hm.old (SE.wf_mono (Nat.le_refl _) (Lk.dom_upd O nid _) hwf) ?_ ?_ ?_ (fun j o b _ => hm.disj j o b)
  · refine hm.imm.keeps rfl rfl (fun k hk2 => hother k ?_)
    rintro rfl
    rcases hk2 with ⟨off, v, h⟩ | ⟨ob, h⟩
    · exact hdisj.1 off v h
    · exact hdisj.2 ob h
  · intro k hk; exact hm.immlt k (by omega)
  · exact hm.below.trans ⟨hos, htape, hout, by omega, fun k hk => hother k (by omega)⟩
  · refine ⟨xs, he, ?_⟩
    simp only [Cx.seth, if_true]
    exact .row b oo cap vs T xs hcap0 hb hcap hlen hs (Rvs_keeps hk hr (by rw [AV.under_flat]; exact hu))
  · intro j oj bj hj hlj hbj
    refine hother bj ?_
    rintro rfl
    exact hfree j oj hlj hbj
  · intro b2 hb2
    simp only [bl, Cx.seth, if_true, hdrBlock, show cap ≠ 0 from by omega, if_false, Option.some.injEq] at hb2
    subst hb2
    exact ⟨hn0, hblt, fun j oj _ hlj => hfree j oj hlj, hdisj⟩

theorem op_append (hm : Mem n0 w0 c ρ O nenv w) (hn0 : n0 ≤ w.heap.size) {x1 x2 : Operand} {sT xT elem sz i : Nat} {ec ey : SE} {ys : List AV} {us : List Value} (ho : o.op = .call { callee := .builtin .append, args := #[x1, x2], argTypes := #[sT, xT] })
    (he : ElemOk P sT elem sz) {e2 : TypeId} (hx2 : P.underlying xT = some (.slice e2)) (hl : O i = some (.row sz ec)) (h1 : a.eval x1 = c.h i) (hy : den ρ ey = .sl ys) (hr : Readable P c w sz (a.eval x2) ys us)
    (hsz : pok (.szs sz) [den ρ ey]) (hok : pok .app [den ρ ec, den ρ ey]) (hwf : (SE.app .app [ec, ey]).wf nenv O.dom = true) {nid : Nat} (hid : O nid = none) :
    OpGo P ro n0 w0 c ρ O (.row nid) ((O.upd i .gone).upd nid (.row sz (.app .app [ec, ey]))) nenv o a w := by
  intro n next Q hn
  obtain ⟨xs, hxs, hrow⟩ := hm.ok i _ hl
  rw [hxs, hy] at hok
  rw [hy] at hsz
  simp only [pok] at hok hsz
  have hid1 : (O.upd i .gone) nid = none := by
    rw [Lk.upd_other]
    · exact hid
    · rintro rfl; rw [hid] at hl; cases hl
  have hwf1 : (SE.app .app [ec, ey]).wf nenv (O.upd i .gone).dom = true := SE.wf_mono (Nat.le_refl _) (Lk.dom_upd O i _) hwf
  have hden : den ρ (.app .app [ec, ey]) = .sl (xs ++ ys) := by simp only [den, dens, hxs, hy, pv]
  have hsx : ∀ x ∈ xs, x.cells.length = sz := by
    generalize c.h i = hv at hrow
    cases hrow with
    | nil => simp
    | zero => simp
    | row _ _ _ _ _ _ _ _ _ _ h4 _ => exact h4
  have hsy : ∀ y ∈ ys, y.cells.length = sz := fun y hy => (hsz y hy).1
  have hone : ∀ u ∈ us, u.oneCell' = true := hr.rel.ones (ones_flat (fun y hy => (hsz y hy).2))
  have hsall : ∀ x ∈ xs ++ ys, x.cells.length = sz := fun x hx => (List.mem_append.1 hx).elim (hsx x) (hsy x)
  have hd : ∀ cc, o.op ≠ .defer cc := by rw [ho]; intro c h; cases h
  have hex : ∀ v w', (Builtin.append_ #[sT, xT] o.type #[a.eval x1, a.eval x2]).run P w = .ok v w' → (execOp a.eval o).run P w = .ok (.value v) w' := by
    intro v w' hrun
    simp only [execOp, ho, Sem.run_bind, resolve, Sem.run_pure, Result.andThen_ok, invoke, builtin]
    have : (#[x1, x2] : Array Operand).map a.eval = #[a.eval x1, a.eval x2] := by simp
    rw [this, hrun]; rfl
  have hm1 := hm.drop i
  rw [← h1] at hrow
  rcases run_append (ty := o.type) he hx2 hrow hr hsx hsy hone hok with ⟨w', r1, rfl, hs, hxn, rfl⟩ | ⟨b, oo, cap, vs, T, w', hcap0, hs, hcap, hb, r1, r2, r3, r4, r5, r6, r7, r8, r9⟩ | ⟨cap, vs, d, r1, r2, r3, r4⟩
  · subst hxn
    have hk : c.Keeps O.dom (c.seth nid (a.eval x1)) := c.seth_keeps hid
    refine wpIn_value hd (hex _ _ r1) (hn _ _ (c.seth nid (a.eval x1)) hk ?_ ?_)
    · simp only [den]
      rcases hs with hs | ⟨ad, hs⟩
      · rw [hs]; exact .row nid none 0 0 (by simp [Cx.seth])
      · rw [hs]; exact .row nid (some ad) 0 0 (by simp [Cx.seth])
    · refine hm1.step nid _ (Nat.le_refl _) (c.seth_keeps hid1) (Agree.refl _ _) hm.pure ⟨hm.imm.I, hm.imm.M⟩ hm.immlt (Nat.le_refl _) hm.below hm.old (SE.wf_mono (Nat.le_refl _) (Lk.dom_upd _ nid _) hwf1) ?_ (fun _ _ _ _ _ _ => rfl) ?_ (fun j o b _ => hm1.disj j o b)
      · refine ⟨_, hden, ?_⟩
        simp only [Cx.seth, if_true]
        rcases hs with hs | ⟨ad, hs⟩
        · rw [hs]; exact .nil
        · rw [hs]; exact .zero ad
      · intro b hb
        simp only [bl, Cx.seth, if_true] at hb
        rcases hs with hs | ⟨ad, hs⟩ <;> simp [hs, hdrBlock] at hb
  · rw [h1] at hs
    have hbi : bl c i (.row sz ec) = some b := by simp [bl, hs, hdrBlock]; omega
    have hfr := hm.fresh i _ b hl hbi
    have hmul : (xs.length + ys.length) * sz ≤ cap * sz := Nat.mul_le_mul_right _ hcap
    rw [Nat.add_mul] at hmul
    have hul : us.length = ys.length * sz := by rw [hr.rel.length, flat_length hsy]
    have hre := hm1.reRow (w' := w') (b := b) (oo := oo) (cap := cap) (sz := sz) (vs := putL vs (oo + xs.length * sz) us) (T := T) hid1 hden hwf1 hcap0 r2 (by simpa using hcap) (by rw [putL_length _ _ _ (by omega)]; exact r3) hsall
      (by
        rw [flat_append, List.length_append, Nat.add_mul]
        have hsub : ((putL vs (oo + xs.length * sz) us).drop oo).take (xs.length * sz + ys.length * sz) = (vs.drop oo).take (xs.length * sz) ++ us := by
          apply List.ext_getElem?
          intro q
          rw [List.getElem?_take, List.getElem?_drop, getElem?_putL _ _ _ (by omega)]
          have hl2 : ((vs.drop oo).take (xs.length * sz)).length = xs.length * sz := by rw [List.length_take, List.length_drop]; omega
          by_cases hq1 : q < xs.length * sz
          · rw [if_pos (by omega), if_pos (by omega), List.getElem?_append_left (by omega), List.getElem?_take, if_pos hq1, List.getElem?_drop]
          · rw [List.getElem?_append_right (by omega), hl2]
            by_cases hq2 : q < xs.length * sz + ys.length * sz
            · rw [if_pos hq2, if_neg (by omega), if_pos (by omega)]; congr 1; omega
            · rw [if_neg hq2]; symm; apply List.getElem?_eq_none; omega
        rw [hsub]; exact r4.append hr.rel)
      r5 r6 r7 r8 r9 hfr.1
      (by
        intro j oj hlj hbj
        by_cases hji : j = i
        · subst hji; rw [Lk.upd_same] at hlj; simp only [Option.some.injEq] at hlj; subst hlj; simp [bl] at hbj
        · rw [Lk.upd_other _ _ hji] at hlj; exact hji (hm.dist j i oj _ b hlj hl hbj hbi))
      (hm.disj i _ b hl hbi)
    rw [List.length_append] at hre
    refine wpIn_value hd (hex _ _ r1) (hn _ _ _ (c.seth_keeps hid) ?_ hre)
    simp only [den]
    exact .row nid _ _ _ (by simp [Cx.seth])
  · have hm2 := hm1.draw d
    have hnew := hm2.newRow (sz := sz) (by simpa using hn0) hid1 (.app .app [ec, ey]) (xs ++ ys) cap vs elem hden hwf1 (by simpa using r2) r3 hsall (by simpa using r4)
    rw [List.length_append] at hnew
    refine wpIn_value hd (hex _ _ r1) (hn _ _ _ (c.seth_keeps hid) ?_ hnew)
    simp only [den]
    exact .row nid _ _ _ (by simp [Cx.seth])

end Go.Lb

namespace Go.Lb
open Go.RowKit

variable {P : Program} {ro : Option Nat} {n0 : Nat} {w0 : Base} {c : Cx} {ρ : Nat → AV} {O : Lk} {nenv : Nat} {o : Oper} {a : Act} {w : World}

/-- A list of cells as elements. -/
def groupSE (sz : Nat) (g : Bool) : Nat → List SE → List SE
  | 0, _ => []
  | n + 1, cs => (if g then .agg (cs.take sz) else cs.getD 0 .undef) :: groupSE sz g n (cs.drop sz)

theorem groupSE_sound (ρ : Nat → AV) (sz : Nat) (g : Bool) (hg : g = false → sz = 1) : ∀ (n : Nat) (cs : List SE), cs.length = n * sz → (g = false → AV.ones (dens ρ cs) = true) →
    (dens ρ (groupSE sz g n cs)).length = n ∧ (∀ x ∈ dens ρ (groupSE sz g n cs), x.cells.length = sz) ∧ AV.flat (dens ρ (groupSE sz g n cs)) = dens ρ cs := by
  intro n
  induction n with
  | zero =>
    intro cs hl _
    have : cs = [] := by apply List.eq_nil_of_length_eq_zero; simpa using hl
    subst this; simp [groupSE, AV.flat]
  | succ n ih =>
    intro cs hl h1
    rw [Nat.add_mul, Nat.one_mul] at hl
    have hones : ∀ (k : Nat), g = false → AV.ones (dens ρ (cs.drop k)) = true := by
      intro k hgf
      have hh := h1 hgf
      rw [dens_map, List.map_drop, ← dens_map]
      generalize dens ρ cs = l at hh
      induction k generalizing l with
      | zero => simpa using hh
      | succ k ihk => cases l with
        | nil => rfl
        | cons x l => simp only [AV.ones, Bool.and_eq_true] at hh; simpa using ihk l hh.2
    obtain ⟨i1, i2, i3⟩ := ih (cs.drop sz) (by simp; omega) (hones sz)
    refine ⟨by simp [groupSE, i1], ?_, ?_⟩
    · intro x hx
      simp only [groupSE, dens, List.mem_cons] at hx
      rcases hx with rfl | hx
      · cases g with
        | true => simp [dens_length]; omega
        | false =>
          have hs := hg rfl; subst hs
          obtain ⟨y, ys, rfl⟩ := List.exists_cons_of_ne_nil (l := cs) (by rintro rfl; simp at hl)
          have := h1 rfl
          simp only [dens, AV.ones, Bool.and_eq_true] at this
          simp only [Bool.false_eq_true, if_false, List.getD_cons_zero]
          cases hd : den ρ y <;> simp_all
      · exact i2 x hx
    · simp only [groupSE, dens, flat_cons, i3]
      cases g with
      | true =>
        simp only [if_true, den]
        show dens ρ (cs.take sz) ++ dens ρ (cs.drop sz) = _
        rw [← dens_append, List.take_append_drop]
      | false =>
        have hs := hg rfl; subst hs
        obtain ⟨y, ys, rfl⟩ := List.exists_cons_of_ne_nil (l := cs) (by rintro rfl; simp at hl)
        have := h1 rfl
        simp only [dens, AV.ones, Bool.and_eq_true] at this
        simp only [Bool.false_eq_true, if_false, List.getD_cons_zero, List.drop_succ_cons, List.drop_zero, dens]
        cases hd : den ρ y <;> simp_all

theorem range_mod_toList (z : Array Value) (n : Nat) : ((Array.range (n * z.size)).map (fun x => z[x % z.size]!)).toList = (List.replicate n z.toList).flatten := by
  apply List.ext_getElem?
  intro q
  simp only [Array.toList_map, Array.toList_range, List.getElem?_map]
  have hfl : ((List.replicate n z.toList).flatten).length = n * z.size := by simp
  by_cases hq : q < n * z.size
  · rw [List.getElem?_range hq]
    have hz : 0 < z.size := by rcases Nat.eq_zero_or_pos z.size with h | h; · rw [h] at hq; simp at hq
                               · exact h
    induction n generalizing q with
    | zero => simp at hq
    | succ n ih =>
      rw [List.replicate_succ, List.flatten_cons]
      by_cases h : q < z.size
      · rw [List.getElem?_append_left (by simpa using h)]
        simp [Nat.mod_eq_of_lt h, h, getElem!_pos]
      · rw [List.getElem?_append_right (by simpa using h)]
        have := ih (q - z.size) (by simp) (by rw [Nat.add_mul] at hq; omega)
        simp only [Array.length_toList]
        rw [← this]
        simp only [Option.map_some]
        congr 2
        exact Nat.mod_eq_sub_mod (by omega)
  · rw [List.getElem?_eq_none (by simpa using hq), List.getElem?_eq_none (by rw [hfl]; omega)]; rfl

theorem dens_replicate (ρ : Nat → AV) (n : Nat) (z : List SE) : dens ρ ((List.replicate n z).flatten) = (List.replicate n (dens ρ z)).flatten := by
  induction n with
  | zero => rfl
  | succ n ih => rw [List.replicate_succ, List.flatten_cons, dens_append, ih, List.replicate_succ, List.flatten_cons]

theorem Rvs_replicate {as : List AV} {vs : List Value} (h : Rvs c as vs) (n : Nat) : Rvs c (List.replicate n as).flatten (List.replicate n vs).flatten := by
  induction n with
  | zero => exact .nil
  | succ n ih => rw [List.replicate_succ, List.flatten_cons, List.replicate_succ, List.flatten_cons]; exact h.append ih

/-- A slice's literal: its elements. -/
def buildSliceSE (P : Program) (t : TypeId) (len : Nat) (parts : List (Nat × SE)) : Option (Nat × SE × List Chk) :=
  match P.underlying t with
  | some (.slice e) => match tsz P e, zeroSE P e with
    | some (sz, g), some z =>
      if len * sz ≤ 16777216 ∧ z.length = sz ∧ (g = false → sz = 1) ∧ sz ≠ 0 then
        match fillSE (fun i => some (i * sz, sz, g)) ((List.replicate len (SE.weaks z)).flatten) parts with
        | some (cs, ck) => if cs.length = len * sz then some (sz, .app .lst (groupSE sz g len cs), ck ++ (if g then [] else cs.map fun x => (.isOne, [x]))) else none
        | none => none
      else none
    | _, _ => none
  | _ => none

theorem op_buildSlice (hm : Mem n0 w0 c ρ O nenv w) (hn0 : n0 ≤ w.heap.size) {t len sz : Nat} {parts : List (Nat × Operand)} {ps : List (Nat × SE)} {e : SE} {ck : List Chk} (ho : o.op = .buildSlice t len ⟨parts⟩)
    (hb : buildSliceSE P t len ps = some (sz, e, ck)) (hl : ps.length = parts.length) (hrel : ∀ (j i : Nat) (e : SE) (i' : Nat) (x : Operand), ps[j]? = some (i, e) → parts[j]? = some (i', x) → i' = i ∧ Rv c (den ρ e) (a.eval x))
    (hck : Chks ρ ck) (hwf : e.wf nenv O.dom = true) {nid : Nat} (hid : O nid = none) :
    OpGo P ro n0 w0 c ρ O (.row nid) (O.upd nid (.row sz e)) nenv o a w := by
  intro n next Q hn
  unfold buildSliceSE at hb
  split at hb
  · rename_i el hu
    split at hb
    · rename_i sz' g z ht hz
      split at hb
      · rename_i hc
        split at hb
        · rename_i cs ck' hf
          split at hb
          · rename_i hcl
            simp only [Option.some.injEq, Prod.mk.injEq] at hb
            obtain ⟨rfl, rfl, rfl⟩ := hb
            rw [Chks.append] at hck
            obtain ⟨c1, c2, c3, c4⟩ := hc
            obtain ⟨zv, z1, z2⟩ := zeroSE_sound (w := w) (c := c) (ρ := ρ) hz
            have hzl : zv.cells.size = sz' := by have := z2.length; rw [dens_length, c2] at this; simpa using this
            have h0 : Rvs c (dens ρ ((List.replicate len (SE.weaks z)).flatten)) ((Array.range (len * sz')).map (fun x => zv.cells[x % zv.cells.size]!)).toList := by
              rw [← hzl, range_mod_toList, dens_replicate]; exact Rvs_replicate (weaks_sound z z2) len
            obtain ⟨vs', f1, f2⟩ := fill_sound (c := c) (ρ := ρ) (fun i => some (i * sz', sz', g)) (fun i => some (i * sz', sz')) (fun i off n g' hp => by simp at hp ⊢; exact ⟨hp.1, hp.2.1⟩)
              ps (parts.map fun (i, x) => (i, a.eval x)) _ _ cs ck' (by simpa using hl)
              (fun j i e i' v hp hv => by
                simp only [List.getElem?_map, Option.map_eq_some_iff, Prod.mk.injEq] at hv
                obtain ⟨⟨i2, x2⟩, hx, rfl, rfl⟩ := hv
                exact hrel j i e i2 x2 hp hx) h0 hf hck.1
            have hgr := groupSE_sound ρ sz' g c3 len cs hcl (by
              intro hgf
              subst hgf
              have h2 := hck.2
              simp only [Bool.false_eq_true, if_false] at h2
              have key : ∀ (l : List SE), Chks ρ (l.map fun x => (PF.isOne, [x])) → AV.ones (dens ρ l) = true := by
                intro l
                induction l with
                | nil => intro _; rfl
                | cons x l ih =>
                  intro h
                  rw [List.map_cons, Chks.cons] at h
                  simp only [dens, AV.ones, Bool.and_eq_true]
                  exact ⟨by simpa [pok] using h.1, ih h.2⟩
              exact key cs h2)
            have hden : den ρ (.app .lst (groupSE sz' g len cs)) = .sl (dens ρ (groupSE sz' g len cs)) := by
              simp only [den, pv_lst]
            have hvl : vs'.toList.length = len * sz' := by rw [f2.length, dens_length, hcl]
            have hnew := hm.newRow hn0 hid (.app .lst (groupSE sz' g len cs)) _ len sz' vs'.toList el hden hwf (by rw [hgr.1]; exact Nat.le_refl _) (by rw [hvl]; exact Nat.le_refl _) hgr.2.1
              (by rw [hgr.1, List.take_of_length_le (by omega), hgr.2.2]; exact f2)
            rw [hgr.1] at hnew
            refine wpIn_value (by rw [ho]; intro c h; cases h) (v := .slice (some ⟨w.heap.size, 0, none⟩) len len) (w' := w.alloc (.cells vs' el)) ?_ (hn _ _ _ (c.seth_keeps hid) ?_ hnew)
            · have hsz2 : ¬ len * sz' > 2 ^ 24 := by omega
              have hparts : (Array.map (fun x => (x.fst, a.eval x.snd)) (⟨parts⟩ : Array (Nat × Operand))).toList = parts.map fun (i, x) => (i, a.eval x) := by simp
              have hrange : ∀ Z : Array Value, (len * sz' = 0 ∨ Z = zv.cells) → (Array.range (len * sz')).map (fun x => Z[x % Z.size]!) = (Array.range (len * sz')).map (fun x => zv.cells[x % zv.cells.size]!) := by
                intro Z hZ
                rcases hZ with h0 | h0
                · rw [h0]
                  have : Array.range 0 = #[] := by simp [Array.range]
                  rw [this, Array.map_empty, Array.map_empty]
                · rw [h0]
              simp only [execOp, ho, Instr.buildSlice, Sem.run_bind, run_underlying hu, Result.andThen_ok, (tsz_spec ht w).1, hsz2, if_false, Sem.run_pure]
              by_cases h0 : len * sz' = 0
              · rw [if_pos h0]
                simp only [Sem.run_bind, Sem.run_pure, Result.andThen_ok]
                rw [hrange #[] (.inl h0), hparts, f1]
                rfl
              · rw [if_neg h0]
                simp only [Sem.run_bind, z1, Sem.run_pure, Result.andThen_ok]
                rw [hrange zv.cells (.inr rfl), hparts, f1]
                rfl
            · simp only [den]; exact .row nid _ _ _ (by simp [Cx.seth])
          · cases hb
        · cases hb
      · cases hb
    · cases hb
  · cases hb

end Go.Lb

namespace Go.Lb
open Go.RowKit

variable {P : Program} {G : Glob} {ro : Option Nat} {n0 : Nat} {w0 : Base} {c : Cx} {ρ : Nat → AV} {O : Lk} {nenv : Nat} {o : Oper} {a : Act} {w : World}

mutual
/-- It names no thing of the call's own. -/
def SE.noOwn : SE → Bool
  | .agg cs | .tup cs | .mp _ _ cs | .ref cs _ | .app _ cs => SE.noOwns cs
  | .clo _ fs cs => SE.noOwns fs && SE.noOwns cs
  | .ptr _ _ | .ptrx _ _ _ _ _ _ | .row _ | .rptr _ _ _ _ | .yield _ | .mref _ => false
  | _ => true
def SE.noOwns : List SE → Bool
  | [] => true
  | e :: es => SE.noOwn e && SE.noOwns es
end

mutual
theorem SE.noOwn_pure (hρ : ∀ i, (ρ i).pure = true) : ∀ (e : SE), e.noOwn = true → (den ρ e).pure = true
  | .inp i, _ => hρ i
  | .undef, _ | .bool _, _ | .int _ _, _ | .nilp, _ | .nilf, _ | .nils, _ | .enil, _ => rfl
  | .ptr _ _, h | .ptrx _ _ _ _ _ _, h | .row _, h | .rptr _ _ _ _, h | .yield _, h | .mref _, h => by simp [SE.noOwn] at h
  | .agg cs, h | .tup cs, h | .mp _ _ cs, h | .ref cs _, h => by simp only [den, AV.pure]; exact SE.noOwns_pure hρ cs h
  | .clo _ fs cs, h => by
    simp only [SE.noOwn, Bool.and_eq_true] at h
    simp only [den, AV.pure, SE.noOwns_pure hρ fs h.1, SE.noOwns_pure hρ cs h.2, Bool.and_self]
  | .app o cs, h => by
    simp only [den]
    rw [AV.under_zero_of_pure]
    exact pv_under o _ (by rw [← AV.under_zero_of_pureAll]; exact SE.noOwns_pure hρ cs h)
theorem SE.noOwns_pure (hρ : ∀ i, (ρ i).pure = true) : ∀ (es : List SE), SE.noOwns es = true → AV.pureAll (dens ρ es) = true
  | [], _ => rfl
  | e :: es, h => by
    simp only [SE.noOwns, Bool.and_eq_true] at h
    simp only [dens, AV.pureAll, SE.noOwn_pure hρ e h.1, SE.noOwns_pure hρ es h.2, Bool.and_self]
end

mutual
/-- What it reads as now, all things of the call's own taken as they lie. -/
def viewSE (O : Lk) : Nat → SE → Option SE
  | 0, _ => none
  | n + 1, e =>
    if e.noOwn then some e else
    match e with
    | .agg cs => (viewSEs O n cs).map .agg
    | .tup cs => (viewSEs O n cs).map .tup
    | .clo f fs cs => match viewSEs O n fs, viewSEs O n cs with
      | some x, some y => some (.clo f x y)
      | _, _ => none
    | .ptr i off => match O i with
      | some (.box cs) => (viewSEs O n (SE.weaks cs)).map fun x => .ref x off
      | _ => none
    | .row i => match O i with
      | some (.row _ e) => if e.noOwn then some e else none
      | _ => none
    | .mref i => match O i with
      | some (.mapo k ks vs) => (viewSEs O n vs).map fun x => .mp k ks x
      | _ => none
    | _ => none
def viewSEs (O : Lk) : Nat → List SE → Option (List SE)
  | 0, _ => none
  | _ + 1, [] => some []
  | n + 1, e :: es => match viewSE O n e, viewSEs O n es with
    | some x, some xs => some (x :: xs)
    | _, _ => none
end

/-- All memory, as it lies, taken as immutable. -/
def Cx.snap (c : Cx) (w : World) : Cx := { c with I := fun b o => w.cell? ⟨b, o, none⟩, M := fun b => w.heap[b]? }

theorem snap_imm (c : Cx) (w : World) : Imm (c.snap w) w := ⟨fun _ _ _ h => h, fun _ _ h => h⟩
theorem snap_lt (c : Cx) (w : World) (b : Nat) (hb : b ≥ w.heap.size) : (∀ off v, (c.snap w).I b off ≠ some v) ∧ (∀ ob, (c.snap w).M b ≠ some ob) := by
  constructor
  · intro off v h
    have := cell_lt (w := w) h; omega
  · intro ob h
    have := (Array.getElem?_eq_some_iff.1 (show w.heap[b]? = some ob from h)).1; omega
theorem le_snap (hm : Mem n0 w0 c ρ O nenv w) : c.Le (c.snap w) := ⟨hm.imm.I, hm.imm.M⟩

theorem Rcells_of_row {w : World} {b : Nat} {vs : List Value} {T : TypeId} {fr : Nat × Nat} (hb : w.heap[b]? = some (.cells ⟨vs⟩ T fr)) {as : List AV} {us : List Value} {c2 : Cx} (h2c : ∀ off v, w.cell? ⟨b, off, none⟩ = some v → c2.I b off = some v) (hr : Rvs c2 as us) (o : Nat) (hsub : ∀ j, j < us.length → vs[o + j]? = us[j]?) :
    Rcells c2 b o as := by
  induction as generalizing us o with
  | nil => exact .nil _ _
  | cons a as ih =>
    cases hr with
    | cons _ v _ us h1 h2 =>
      have h0 := hsub 0 (by simp)
      simp at h0
      refine .cons b o a v as ?_ h1 (ih h2 (o + 1) (fun j hj => ?_))
      · refine h2c o v ?_
        rw [cell_of_row w b o _ T fr hb]; simpa using h0
      · have := hsub (j + 1) (by simpa using hj)
        rw [show o + 1 + j = o + (j + 1) from by omega, this]; rfl

/-- A context in which what is immutable is, and all own things are as they lie. -/
structure Views (c c2 : Cx) (O : Lk) (w : World) : Prop where
  le : c.Le c2
  own : ∀ i o b, O i = some o → bl c i o = some b → (∀ off v, w.cell? ⟨b, off, none⟩ = some v → c2.I b off = some v) ∧ (∀ ob, w.heap[b]? = some ob → c2.M b = some ob)

theorem Views.snap (hm : Mem n0 w0 c ρ O nenv w) : Views c (c.snap w) O w := ⟨le_snap hm, fun _ _ _ _ _ => ⟨fun _ _ h => h, fun _ h => h⟩⟩

theorem view_sound (hm : Mem n0 w0 c ρ O nenv w) {c2 : Cx} (hv : Views c c2 O w) : ∀ (n : Nat), (∀ (e e' : SE) (v : Value), viewSE O n e = some e' → Rv c (den ρ e) v → Rv c2 (den ρ e') v ∧ (den ρ e').pure = true) ∧
    (∀ (es es' : List SE) (vs : List Value), viewSEs O n es = some es' → Rvs c (dens ρ es) vs → Rvs c2 (dens ρ es') vs ∧ AV.pureAll (dens ρ es') = true) := by
  intro n
  induction n with
  | zero => exact ⟨fun _ _ _ h => by simp [viewSE] at h, fun _ _ _ h => by simp [viewSEs] at h⟩
  | succ n ih =>
    constructor
    · intro e e' v h hr
      unfold viewSE at h
      split at h
      · rename_i hno
        simp only [Option.some.injEq] at h; subst h
        have hp := SE.noOwn_pure hm.pure e hno
        exact ⟨Rv_pure hv.le hr hp, hp⟩
      · split at h
        · rename_i cs _
          obtain ⟨x, h1, rfl⟩ := Option.map_eq_some_iff.1 h
          simp only [den] at hr ⊢
          cases hr with
          | agg _ vs h2 =>
            obtain ⟨r1, r2⟩ := ih.2 cs x vs h1 h2
            exact ⟨.agg _ _ r1, by simpa [AV.pure] using r2⟩
        · rename_i cs _
          obtain ⟨x, h1, rfl⟩ := Option.map_eq_some_iff.1 h
          simp only [den] at hr ⊢
          cases hr with
          | tup _ vs h2 =>
            obtain ⟨r1, r2⟩ := ih.2 cs x vs h1 h2
            exact ⟨.tup _ _ r1, by simpa [AV.pure] using r2⟩
        · rename_i f fs cs _
          split at h
          · rename_i x y h1 h2
            simp only [Option.some.injEq] at h; subst h
            simp only [den] at hr ⊢
            cases hr with
            | clo _ _ _ vf vc h3 h4 =>
              obtain ⟨r1, r2⟩ := ih.2 fs x vf h1 h3
              obtain ⟨r3, r4⟩ := ih.2 cs y vc h2 h4
              exact ⟨.clo _ _ _ _ _ r1 r3, by simp [AV.pure, r2, r4]⟩
          · cases h
        · rename_i i off _
          split at h
          · rename_i cs hl
            obtain ⟨x, h1, rfl⟩ := Option.map_eq_some_iff.1 h
            obtain ⟨vs, T, hb, hvs, _⟩ := hm.ok i _ hl
            obtain ⟨r1, r2⟩ := ih.2 (SE.weaks cs) x vs h1 (weaks_sound cs hvs)
            simp only [den] at hr ⊢
            cases hr
            refine ⟨?_, by simpa [AV.pure] using r2⟩
            have := Rv.ref (c := c2) (dens ρ x) (c.β i) 0 off (Rcells_of_row hb (hv.own i _ _ hl rfl).1 r1 0 (fun j _ => by simp))
            rwa [Nat.zero_add] at this
          · cases h
        · rename_i i _
          split at h
          · rename_i sz e2 hl
            split at h
            · rename_i hno
              simp only [Option.some.injEq] at h; subst h
              have hp := SE.noOwn_pure hm.pure e2 hno
              obtain ⟨xs, hx, hrow⟩ := hm.ok i _ hl
              rw [hx] at hp ⊢
              refine ⟨?_, hp⟩
              have hpa : AV.pureAll xs = true := by simpa [AV.pure] using hp
              simp only [den] at hr
              cases hr with
              | row _ aa nn cap hh =>
                rw [hh] at hrow
                cases hrow with
                | nil => exact .slnil
                | zero ad => exact .sl0 ad
                | row b oo _ vs T _ q0 q1 q2 q3 q4 q5 =>
                  have hcap : xs.length * sz ≤ cap * sz := Nat.mul_le_mul_right _ q2
                  refine .sl xs sz b oo cap q2 q4 ?_
                  have hk : c.Keeps (fun _ => false) c2 := ⟨hv.le, fun _ h => Bool.noConfusion h, fun _ h => Bool.noConfusion h, fun _ h => Bool.noConfusion h⟩
                  have q6 := Rvs_keeps hk q5 (by rw [AV.under_flat, ← AV.under_zero_of_pureAll]; exact hpa)
                  refine Rcells_of_row q1 (hv.own i _ b hl (by simp [bl, hh, hdrBlock]; omega)).1 q6 oo (fun j hj => ?_)
                  simp only [List.length_take, List.length_drop] at hj
                  rw [List.getElem?_take, if_pos (by omega), List.getElem?_drop]
            · cases h
          · cases h
        · rename_i i _
          split at h
          · rename_i k ks vs hl
            obtain ⟨x, h1, rfl⟩ := Option.map_eq_some_iff.1 h
            obtain ⟨es, clk, hb, hks, hvs⟩ := hm.ok i _ hl
            obtain ⟨r1, r2⟩ := ih.2 vs x _ h1 hvs
            simp only [den] at hr ⊢
            cases hr
            exact ⟨.mp k ks _ (c.β i) clk es ((hv.own i _ _ hl rfl).2 _ hb) hks r1, by simpa [AV.pure] using r2⟩
          · cases h
        · cases h
    · intro es es' vs h hr
      cases es with
      | nil => simp only [viewSEs, Option.some.injEq] at h; subst h; cases hr; exact ⟨.nil, rfl⟩
      | cons e es =>
        simp only [viewSEs] at h
        split at h
        · rename_i x xs h1 h2
          simp only [Option.some.injEq] at h; subst h
          simp only [dens] at hr
          cases hr with
          | cons _ v _ vs r1 r2 =>
            obtain ⟨q1, q2⟩ := ih.1 e x v h1 r1
            obtain ⟨q3, q4⟩ := ih.2 es xs vs h2 r2
            exact ⟨.cons _ _ _ _ q1 q3, by simp [AV.pureAll, q2, q4]⟩
        · cases h

mutual
theorem Rv_scalar {c c' : Cx} : ∀ {a : AV} {v : Value}, a.scalar = true → Rv c a v → Rv c' a v
  | .bool _, _, _, h => by cases h; exact .bool _
  | .int _ _, _, _, h => by cases h; exact .int _ _
  | .nilp, _, _, h => by cases h; exact .nilp
  | .nilf, _, _, h => by cases h; exact .nilf
  | .agg cs, _, hs, h => by
    cases h with
    | agg _ vs h => exact .agg _ _ (Rvs_scalar (by simpa [AV.scalar] using hs) h)
  | .tup cs, _, hs, h => by
    cases h with
    | tup _ vs h => exact .tup _ _ (Rvs_scalar (by simpa [AV.scalar] using hs) h)
  | .undef, _, hs, _ | .nsl, _, hs, _ | .sl _, _, hs, _ | .eptr _ _ _, _, hs, _ | .ref _ _, _, hs, _ | .clo _ _ _, _, hs, _ | .mp _ _ _, _, hs, _ | .ptr _ _, _, hs, _ | .row _, _, hs, _ | .rptr _ _ _ _, _, hs, _ | .yield _, _, hs, _ | .mref _, _, hs, _ => by
    simp [AV.scalar] at hs
theorem Rvs_scalar {c c' : Cx} : ∀ {as : List AV} {vs : List Value}, AV.scalars as = true → Rvs c as vs → Rvs c' as vs
  | [], _, _, h => by cases h; exact .nil
  | a :: as, _, hs, h => by
    simp only [AV.scalars, Bool.and_eq_true] at hs
    cases h with
    | cons _ v _ vs h1 h2 => exact .cons _ _ _ _ (Rv_scalar hs.1 h1) (Rvs_scalar hs.2 h2)
end

/-- A function that has a body. -/
def callOk (P : Program) (f : Nat) : Bool :=
  match P.funcs[f]? with
  | some fn => fn.body.isSome && !(fn.name == "runtime.NumGoroutine")
  | none => false

theorem run_callFunc {f : Nat} (h : callOk P f = true) (args : Array Value) (w : World) : (callFunc f args).run P w = .ok (.enter f args) w := by
  unfold callOk at h
  cases hf : P.funcs[f]? with
  | none => simp [hf] at h
  | some fn =>
    simp only [hf, Bool.and_eq_true, Bool.not_eq_true'] at h
    have h1 : fn.body.isNone = false := by cases hb : fn.body <;> simp_all
    simp only [callFunc, Sem.run_bind, run_program, Result.andThen_ok, hf, h.2, Bool.false_eq_true, if_false, h1, Sem.run_pure]

/-- A call of a function's value. -/
theorem run_callValue {f : Operand} {xs : Array Operand} {tt : Array TypeId} {fid : Nat} {vf vc : List Value} (hok : callOk P fid = true) (ho : o.op = .call { callee := .value f, args := xs, argTypes := tt }) (hf : a.eval f = .func (.func fid) ⟨vf⟩ ⟨vc⟩) :
    (execOp a.eval o).run P w = .ok (.enter fid ⟨vf ++ (xs.toList.map a.eval) ++ vc⟩) w := by
  simp only [execOp, ho, Sem.run_bind, resolve, hf, Deferred.ofValue, Sem.run_pure, Result.andThen_ok, invoke]
  rw [run_callFunc hok]
  congr 2
  apply Array.ext'
  simp

theorem op_call (hm : Mem n0 w0 c ρ O nenv w) (hn0 : n0 ≤ w.heap.size) (hG : GlobOk G c) (hGw : ∀ (g : Nat) es, G[g]? = some es → SE.wfs 0 (fun _ => false) es = true)
    {f : Operand} {xs : Array Operand} {tt : Array TypeId} {fid : Nat} {fs es cs vs : List SE} (ho : o.op = .call { callee := .value f, args := xs, argTypes := tt }) (hok : callOk P fid = true)
    (hf : Rv c (den ρ (.clo fid fs cs)) (a.eval f)) (hes : Rvs c (dens ρ es) (xs.toList.map a.eval)) (hv : viewSEs O 200 (fs ++ es ++ cs) = some vs) (borrow : Bool) (hb : borrow = false → SE.noOwns (fs ++ es ++ cs) = true)
    (hnode : Contract P G fid (dens ρ vs) (ρ nenv) ∧ (borrow = true → (ρ nenv).scalar = true)) :
    OpGo P ro n0 w0 c ρ O (.inp nenv) O (nenv + 1) o a w := by
  intro n next Q hn
  simp only [den] at hf
  obtain ⟨⟨hrp, hcon⟩, hsc⟩ := hnode
  have hfv : ∃ vf vc, a.eval f = .func (.func fid) ⟨vf⟩ ⟨vc⟩ ∧ Rvs c (dens ρ fs) vf ∧ Rvs c (dens ρ cs) vc := by
    generalize a.eval f = v at hf
    cases hf with
    | clo _ _ _ vf vc h1 h2 => exact ⟨vf, vc, rfl, h1, h2⟩
  obtain ⟨vf, vc, hfe, h1, h2⟩ := hfv
  have hall : Rvs c (dens ρ (fs ++ es ++ cs)) (vf ++ xs.toList.map a.eval ++ vc) := by
    rw [dens_append, dens_append]; exact (h1.append hes).append h2
  refine wpIn_run (by rw [ho]; intro c h; cases h) ?_
  rw [run_callValue hok ho hfe]
  show ((FW ro).depth.isSome = true → 1 ≤ n) ∧ CallsIn (FW ro) (n - 1) P fid _ w _
  refine ⟨by simp, FW_calls ?_⟩
  have hvw := (view_sound hm (Views.snap hm) 200).2 _ _ _ hv hall
  cases borrow with
  | true =>
    have hc := hcon w (c.snap w) _ (snap_imm c w) (snap_lt c w) (hG.keeps (le_snap hm) hGw) hvw.1
    refine hc.mono ?_
    rintro e w' ⟨v, c', rfl, _, _, _, _, hrv, hbel⟩
    refine hn v w' c (Cx.Keeps.refl _ _) (Rv_scalar (hsc rfl) hrv) ?_
    exact hm.later (Nat.le_succ _) hbel hn0 (Cx.Keeps.refl _ _) (hm.imm.keeps rfl rfl (fun b hb => by
        have hlt := Imm.lt hm
        refine hbel.block b ?_
        rcases hb with ⟨off, v, h⟩ | ⟨ob, h⟩
        · exact hlt.1 b off v h
        · exact hlt.2 b ob h)) (fun b _ => ⟨fun _ _ h => h, fun _ h => h⟩) (fun b hb => hm.immlt b (by have := hbel.size; omega)) (Agree.refl _ _) hm.pure
  | false =>
    have hno := hb rfl
    have hvs : vs = fs ++ es ++ cs := by
      have key : ∀ (n : Nat) (l l' : List SE), SE.noOwns l = true → viewSEs O n l = some l' → l' = l := by
        intro n
        induction n with
        | zero => intro l l' _ h; simp [viewSEs] at h
        | succ n ih =>
          intro l l' hl h
          cases l with
          | nil => simp only [viewSEs, Option.some.injEq] at h; exact h.symm
          | cons e l =>
            simp only [SE.noOwns, Bool.and_eq_true] at hl
            simp only [viewSEs] at h
            split at h
            · rename_i x xs' q1 q2
              simp only [Option.some.injEq] at h; subst h
              cases n with
              | zero => simp [viewSE] at q1
              | succ n =>
                simp only [viewSE, hl.1, if_true, Option.some.injEq] at q1
                rw [← q1, ih l xs' hl.2 q2]
            · cases h
      exact key 200 _ _ hno hv
    subst hvs
    have hc := hcon w c _ hm.imm hm.immlt hG hall
    refine hc.mono ?_
    rintro e w' ⟨v, c', rfl, hle, himm, hlt, hnew, hrv, hbel⟩
    have hk : c.Keeps O.dom { c with I := c'.I, M := c'.M } := ⟨⟨hle.I, hle.M⟩, fun _ _ => rfl, fun _ _ => rfl, fun _ _ => rfl⟩
    refine hn v w' { c with I := c'.I, M := c'.M } hk (Rv_pure (c := c') (c' := { c with I := c'.I, M := c'.M }) ⟨fun _ _ _ h => h, fun _ _ h => h⟩ hrv hrp) ?_
    exact hm.later (Nat.le_succ _) hbel hn0 hk ⟨himm.I, himm.M⟩ hnew hlt (Agree.refl _ _) hm.pure

end Go.Lb

namespace Go.Lb
open Go.RowKit

def evOpt (ev : Ev) : Option Operand → Option (Option SE)
  | none => some none
  | some x => (ev x).map some

/-- Nil taken as a slice of no elements. -/
def wk (xv : Ev) : Ev := fun x => (xv x).map SE.weak
/-- Nothing of nothing. -/
def enilCut (xv : Ev) (x : Operand) (lo hi : Option Operand) : Bool :=
  match xv x, lo, hi with
  | some .enil, none, some h => (match wk xv h with
    | some (.int _ 0) => true
    | _ => false)
  | _, _, _ => false

/-- Operations that leave the world alone. -/
def sPure (P : Program) (O : Lk) (xv : Ev) (op : Op) : Option (SE × List Chk) :=
  match op with
  | .move x | .assign x => (xv x).map fun e => (e, [])
  | .load T x => match xv x with
    | some e => sLoad P O T e
    | none => none
  | .binOp op t x y _ => match wk xv x, wk xv y with
    | some e, some f => sBin P op t e f
    | _, _ => none
  | .unOp op _ x => match wk xv x with
    | some e => ask (.un op) [e]
    | none => none
  | .convert s d x => match wk xv x, P.underlying s, P.underlying d with
    | some e, some (.int _), some (.int k) => ask (.conv k) [e]
    | _, _, _ => none
  | .makeFunc (.func f) fs cs => match evAll xv fs.toList, evAll xv cs.toList with
    | some x, some y => some (.clo f x y, [])
    | _, _ => none
  | .fieldAddr T x i => match xv x with
    | some e => sFieldAddr P T e i
    | none => none
  | .field T x i => match wk xv x, P.underlying T with
    | some e, some (.struct fs) => match fs[i]? with
      | some f => match tsz P f.type with
        | some (n, g) => ask (.part f.offset n g) [e]
        | none => none
      | none => none
    | _, _ => none
  | .indexAddr T x i => match wk xv x, wk xv i with
    | some e, some f => sIndexAddr P O T e f
    | _, _ => none
  | .index T x i => match wk xv x, wk xv i, P.underlying T with
    | some e, some f, some (.array len el) => match tsz P el with
      | some (sz, g) => ask (.aidx len sz 0 sz g) [e, f]
      | none => none
    | _, _, _ => none
  | .extract x i => match xv x with
    | some (.tup cs) => (cs[i]?).map fun e => (e, [])
    | some e => ask (.tproj i) [e]
    | none => none
  | .slice T x lo hi none => if enilCut xv x lo hi = true then (match P.underlying T with
      | some (.slice e) => (match tsz P e with
        | some _ => some (.enil, [])
        | none => none)
      | _ => none) else match wk xv x, evOpt (wk xv) lo, evOpt (wk xv) hi, P.underlying T with
    | some e, some l, some h, some (.slice _) => sSlice P T e l h
    | some e, some l, some h, some (.array _ _) => sSliceA P T e l h
    | _, _, _, _ => none
  | .build t parts => match evAll xv (parts.toList.map (·.2)) with
    | some es => buildSE P t ((parts.toList.map (·.1)).zip es)
    | none => none
  | .call { callee := .builtin .len, args := ⟨[x]⟩, argTypes := ⟨[t]⟩ } => sLen P O t (wk xv x)
  | .call { callee := .builtin .min, args := xs, argTypes := _ } => match evAll (wk xv) xs.toList with
    | some es => ask (.mm false) es
    | none => none
  | .call { callee := .builtin .max, args := xs, argTypes := _ } => match evAll (wk xv) xs.toList with
    | some es => ask (.mm true) es
    | none => none
  | .call { callee := .builtin .cap, args := ⟨[x]⟩, argTypes := ⟨[t]⟩ } => match xv x, P.underlying t with
    | some .enil, some (.slice _) => some (.int .i64 0, [])
    | _, _ => none
  | _ => none

variable {P : Program} {G : Glob} {ro : Option Nat} {n0 : Nat} {w0 : Base} {c : Cx} {ρ : Nat → AV} {O : Lk} {nenv : Nat} {o : Oper} {a : Act} {w : World}

theorem evAll_sound {ev : Ev} (hev : ∀ x e, ev x = some e → Rv c (den ρ e) (a.eval x)) : ∀ (xs : List Operand) (es : List SE), evAll ev xs = some es → Rvs c (dens ρ es) (xs.map a.eval) ∧ es.length = xs.length := by
  intro xs
  induction xs with
  | nil => intro es h; simp only [evAll, Option.some.injEq] at h; subst h; exact ⟨.nil, rfl⟩
  | cons x xs ih =>
    intro es h
    simp only [evAll] at h
    split at h
    · rename_i e es' h1 h2
      simp only [Option.some.injEq] at h; subst h
      obtain ⟨r1, r2⟩ := ih es' h2
      exact ⟨.cons _ _ _ _ (hev x e h1) r1, by simp [r2]⟩
    · cases h

theorem OpGo.runs (hm : Mem n0 w0 c ρ O nenv w) {e : SE} (hd : ∀ c, o.op ≠ .defer c) (hr : ∃ v, (execOp a.eval o).run P w = .ok (.value v) w ∧ Rv c (den ρ e) v) : OpGo P ro n0 w0 c ρ O e O nenv o a w := by
  intro n next Q hn
  obtain ⟨v, r1, r2⟩ := hr
  exact wpIn_value hd r1 (hn v w c (Cx.Keeps.refl _ _) r2 hm)

theorem runs_exec {s : Sem Value} {e : AV} (h : Runs P w c e s) (he : execOp a.eval o = (do Pure.pure (.value (← s)))) : ∃ v, (execOp a.eval o).run P w = .ok (.value v) w ∧ Rv c e v := by
  obtain ⟨v, r1, r2⟩ := h
  exact ⟨v, by rw [he, Sem.run_bind, r1]; rfl, r2⟩

theorem sPure_sound (hm : Mem n0 w0 c ρ O nenv w) {xv : Ev} (hxv : ∀ x e, xv x = some e → Rv c (den ρ e) (a.eval x)) {e : SE} {ck : List Chk} (h : sPure P O xv o.op = some (e, ck)) (hck : Chks ρ ck) :
    (∃ v, (execOp a.eval o).run P w = .ok (.value v) w ∧ Rv c (den ρ e) v) ∧ ∀ c, o.op ≠ .defer c := by
  have hev : ∀ x e, wk xv x = some e → Rv c (den ρ e) (a.eval x) := by
    intro x e he
    obtain ⟨e', h1, rfl⟩ := Option.map_eq_some_iff.1 he
    exact weak_sound e' (hxv x e' h1)
  unfold sPure at h
  split at h
  case h_1 x ho =>
    obtain ⟨e', h1, h2⟩ := Option.map_eq_some_iff.1 h
    simp only [Prod.mk.injEq] at h2; obtain ⟨rfl, rfl⟩ := h2
    exact ⟨⟨_, by simp only [execOp, ho]; rfl, hxv _ _ h1⟩, by rw [ho]; intro c h; cases h⟩
  case h_2 x ho =>
    obtain ⟨e', h1, h2⟩ := Option.map_eq_some_iff.1 h
    simp only [Prod.mk.injEq] at h2; obtain ⟨rfl, rfl⟩ := h2
    exact ⟨⟨_, by simp only [execOp, ho]; rfl, hxv _ _ h1⟩, by rw [ho]; intro c h; cases h⟩
  case h_3 T x ho =>
    split at h
    · rename_i e' h1
      exact ⟨runs_exec (sLoad_sound hm (hxv _ _ h1) h hck) (by simp only [execOp, ho]), by rw [ho]; intro c h; cases h⟩
    · cases h
  case h_4 op t x y yt ho =>
    split at h
    · rename_i e1 e2 h1 h2
      exact ⟨runs_exec (sBin_sound (ox := x) (oy := y) (hev _ _ h1) (hev _ _ h2) h hck) (by simp only [execOp, ho]), by rw [ho]; intro c h; cases h⟩
    · cases h
  case h_5 op t x ho =>
    split at h
    · rename_i e1 h1
      simp only [ask, Option.some.injEq, Prod.mk.injEq] at h; obtain ⟨rfl, rfl⟩ := h
      have hk := hck.one
      simp only [dens] at hk
      exact ⟨runs_exec (c := c) (by simp only [den, dens]; exact run_un (hev _ _ h1) hk) (by simp only [execOp, ho]), by rw [ho]; intro c h; cases h⟩
    · cases h
  case h_6 s d x ho =>
    split at h
    · rename_i e1 k1 k2 h1 h2 h3
      simp only [ask, Option.some.injEq, Prod.mk.injEq] at h; obtain ⟨rfl, rfl⟩ := h
      have hk := hck.one
      simp only [dens] at hk
      exact ⟨runs_exec (c := c) (by simp only [den, dens]; exact run_conv (hev _ _ h1) h2 h3 hk) (by simp only [execOp, ho]), by rw [ho]; intro c h; cases h⟩
    · cases h
  case h_7 f fs cs ho =>
    split at h
    · rename_i x y h1 h2
      simp only [Option.some.injEq, Prod.mk.injEq] at h; obtain ⟨rfl, rfl⟩ := h
      obtain ⟨r1, _⟩ := evAll_sound hxv _ _ h1
      obtain ⟨r2, _⟩ := evAll_sound hxv _ _ h2
      refine ⟨⟨.func (.func f) (fs.map a.eval) (cs.map a.eval), by simp only [execOp, ho, Instr.makeFunc]; rfl, ?_⟩, by rw [ho]; intro c h; cases h⟩
      have := Rv.clo f _ _ _ _ r1 r2
      simp only [den]
      have e1 : (⟨fs.toList.map a.eval⟩ : Array Value) = fs.map a.eval := Array.ext' (by simp)
      have e2 : (⟨cs.toList.map a.eval⟩ : Array Value) = cs.map a.eval := Array.ext' (by simp)
      rwa [e1, e2] at this
    · cases h
  case h_8 T x i ho =>
    split at h
    · rename_i e1 h1
      exact ⟨runs_exec (sFieldAddr_sound (hxv _ _ h1) h hck) (by simp only [execOp, ho]), by rw [ho]; intro c h; cases h⟩
    · cases h
  case h_9 T x i ho =>
    split at h
    · rename_i e1 fs h1 h2
      split at h
      · rename_i f hf
        split at h
        · rename_i n g ht
          simp only [ask, Option.some.injEq, Prod.mk.injEq] at h; obtain ⟨rfl, rfl⟩ := h
          have hk := hck.one
          simp only [dens] at hk
          exact ⟨runs_exec (c := c) (by simp only [den, dens]; exact run_field_pv h2 hf ht (hev _ _ h1) hk) (by simp only [execOp, ho]), by rw [ho]; intro c h; cases h⟩
        · cases h
      · cases h
    · cases h
  case h_10 T x i ho =>
    split at h
    · rename_i e1 e2 h1 h2
      exact ⟨runs_exec (sIndexAddr_sound hm (hev _ _ h1) (hev _ _ h2) h hck) (by simp only [execOp, ho]), by rw [ho]; intro c h; cases h⟩
    · cases h
  case h_11 T x i ho =>
    split at h
    · rename_i e1 e2 len el h1 h2 h3
      split at h
      · rename_i sz g ht
        simp only [ask, Option.some.injEq, Prod.mk.injEq] at h; obtain ⟨rfl, rfl⟩ := h
        have hk := hck.one
        simp only [dens] at hk
        exact ⟨runs_exec (c := c) (by simp only [den, dens]; exact run_index_pv h3 ht (hev _ _ h1) (hev _ _ h2) hk) (by simp only [execOp, ho]), by rw [ho]; intro c h; cases h⟩
      · cases h
    · cases h
  case h_12 x i ho =>
    split at h
    · rename_i cs h1
      obtain ⟨e', h2, h3⟩ := Option.map_eq_some_iff.1 h
      simp only [Prod.mk.injEq] at h3; obtain ⟨rfl, rfl⟩ := h3
      have hx := hxv _ _ h1
      simp only [den] at hx
      generalize hv : a.eval x = v at hx
      cases hx with
      | tup _ vs hx =>
        obtain ⟨u, hu, hr⟩ := hx.get (i := i) (a := den ρ e') (by rw [dens_getElem?, h2]; rfl)
        exact ⟨⟨u, by simp only [execOp, ho, hv, Instr.extract, List.getElem?_toArray, hu]; rfl, hr⟩, by rw [ho]; intro c h; cases h⟩
    · rename_i e1 _ h1
      simp only [ask, Option.some.injEq, Prod.mk.injEq] at h; obtain ⟨rfl, rfl⟩ := h
      have hk := hck.one
      simp only [dens] at hk
      exact ⟨runs_exec (c := c) (by simp only [den, dens]; exact run_extract_pv (hxv _ _ h1) hk) (by simp only [execOp, ho]), by rw [ho]; intro c h; cases h⟩
    · cases h
  case h_13 T x lo hi ho =>
    split at h
    · rename_i hcut
      split at h
      · rename_i el h4
        split at h
        · rename_i p h5
          obtain ⟨sz, g⟩ := p
          simp only [Option.some.injEq, Prod.mk.injEq] at h
          obtain ⟨rfl, rfl⟩ := h
          refine ⟨runs_exec (s := Instr.sliceAt T (a.eval x) (lo.map a.eval) (hi.map a.eval) none) ?_ (by simp only [execOp, ho]; rfl), by rw [ho]; intro c h; cases h⟩
          unfold enilCut at hcut
          split at hcut
          case h_2 => cases hcut
          rename_i q h1
          split at hcut
          case h_2 => cases hcut
          rename_i k h2
          have hx := hxv _ _ h1
          have hz := hev _ _ h2
          simp only [den] at hx hz
          generalize a.eval x = v at hx
          cases hx
          refine ⟨.slice none 0 0, ?_, by simp only [den]; exact .nsl⟩
          have hq : a.eval q = .int k 0 := by
            generalize a.eval q = v at hz
            cases hz; rfl
          have hb : (Instr.sliceBounds true 0 0 none (some (.int k 0)) none).run P w = .ok (0, 0, 0) w := by
            simp [Instr.sliceBounds, run_sliceBound]
          simp only [Option.map_none, Option.map_some, hq]
          simp [Instr.sliceAt, Instr.slice, run_underlying h4, hb, (tsz_spec h5 w).1]
        · cases h
      · cases h
    split at h
    · rename_i e1 l hh el h1 h2 h3 h4
      refine ⟨runs_exec (s := Instr.sliceAt T (a.eval x) (lo.map a.eval) (hi.map a.eval) none) ?_ (by simp only [execOp, ho]; rfl), by rw [ho]; intro c h; cases h⟩
      have hopt : ∀ (q : Option Operand) (r : Option SE), evOpt (wk xv) q = some r → (∀ y, r = some y → ∃ u, q.map a.eval = some u ∧ Rv c (den ρ y) u) ∧ (r = none → q.map a.eval = none) := by
        intro q r hq
        cases q with
        | none => simp only [evOpt, Option.some.injEq] at hq; subst hq; exact ⟨by simp, by simp⟩
        | some q =>
          obtain ⟨e', q1, q2⟩ := Option.map_eq_some_iff.1 hq
          subst q2
          exact ⟨fun y hy => by simp only [Option.some.injEq] at hy; subst hy; exact ⟨_, rfl, hev _ _ q1⟩, by simp⟩
      obtain ⟨v, r1, r2⟩ := sSlice_sound (w := w) (hev _ _ h1) (hopt lo l h2).1 (hopt lo l h2).2 (hopt hi hh h3).1 (hopt hi hh h3).2 h hck
      refine ⟨v, ?_, r2⟩
      simp only [Instr.sliceAt, Sem.run_bind, run_underlying h4, Result.andThen_ok]
      exact r1
    · rename_i e1 l hh _ _ h1 h2 h3 h4
      refine ⟨runs_exec (s := Instr.sliceAt T (a.eval x) (lo.map a.eval) (hi.map a.eval) none) ?_ (by simp only [execOp, ho]; rfl), by rw [ho]; intro c h; cases h⟩
      have hopt : ∀ (q : Option Operand) (r : Option SE), evOpt (wk xv) q = some r → (∀ y, r = some y → ∃ u, q.map a.eval = some u ∧ Rv c (den ρ y) u) ∧ (r = none → q.map a.eval = none) := by
        intro q r hq
        cases q with
        | none => simp only [evOpt, Option.some.injEq] at hq; subst hq; exact ⟨by simp, by simp⟩
        | some q =>
          obtain ⟨e', q1, q2⟩ := Option.map_eq_some_iff.1 hq
          subst q2
          exact ⟨fun y hy => by simp only [Option.some.injEq] at hy; subst hy; exact ⟨_, rfl, hev _ _ q1⟩, by simp⟩
      exact sSliceA_sound (w := w) (hev _ _ h1) (hopt lo l h2).1 (hopt lo l h2).2 (hopt hi hh h3).1 (hopt hi hh h3).2 h hck
    · cases h
  case h_14 t parts ho =>
    split at h
    · rename_i es h1
      obtain ⟨r1, r2⟩ := evAll_sound hxv _ _ h1
      simp only [List.length_map] at r2
      refine ⟨runs_exec (s := Instr.build t (parts.map fun (i, x) => (i, a.eval x))) ?_ (by simp only [execOp, ho]), by rw [ho]; intro c h; cases h⟩
      have e1 : (parts.map fun (i, x) => (i, a.eval x)) = ⟨parts.toList.map fun (i, x) => (i, a.eval x)⟩ := Array.ext' (by simp)
      rw [e1]
      refine build_sound h (by simp [r2]) (fun j i e i' v hp hv => ?_) hck
      simp only [List.getElem?_map, Option.map_eq_some_iff, Prod.mk.injEq] at hv
      obtain ⟨⟨i2, x2⟩, hx, rfl, rfl⟩ := hv
      rw [List.getElem?_zip_eq_some] at hp
      simp only [List.getElem?_map, hx, Option.map_some, Option.some.injEq] at hp
      refine ⟨hp.1, ?_⟩
      obtain ⟨u, hu, hr⟩ := r1.get (i := j) (a := den ρ e) (by rw [dens_getElem?, hp.2]; rfl)
      simp only [List.map_map, List.getElem?_map, hx, Option.map_some, Option.some.injEq, Function.comp_apply] at hu
      rw [hu]; exact hr
    · cases h
  case h_15 x t ho =>
    have hr := sLen_sound (w := w) (ty := o.type) hm (x := wk xv x) (v := a.eval x) (fun y hy => hev _ _ hy) h hck
    obtain ⟨v, r1, r2⟩ := hr
    have e1 : (⟨[x]⟩ : Array Operand).map a.eval = #[a.eval x] := Array.ext' (by simp)
    have e2 : (⟨[t]⟩ : Array TypeId) = #[t] := rfl
    refine ⟨⟨v, ?_, r2⟩, by rw [ho]; intro c h; cases h⟩
    simp only [execOp, ho, resolve, Sem.run_bind, Sem.run_pure, Result.andThen_ok, invoke, builtin, e1, r1]
  case h_16 xs tt ho =>
    split at h
    · rename_i es h1
      simp only [ask, Option.some.injEq, Prod.mk.injEq] at h; obtain ⟨rfl, rfl⟩ := h
      have hk := hck.one
      obtain ⟨r1, _⟩ := evAll_sound hev _ _ h1
      have hr := run_mm (P := P) (w := w) (ts := tt) (ty := o.type) false r1 hk
      simp only [Bool.false_eq_true, if_false] at hr
      have e1 : (⟨xs.toList.map a.eval⟩ : Array Value) = xs.map a.eval := Array.ext' (by simp)
      rw [e1] at hr
      obtain ⟨v, q1, q2⟩ := hr
      refine ⟨⟨v, ?_, by simp only [den]; exact q2⟩, by rw [ho]; intro c h; cases h⟩
      simp only [execOp, ho, resolve, Sem.run_bind, Sem.run_pure, Result.andThen_ok, invoke, builtin, q1]
    · cases h
  case h_17 xs tt ho =>
    split at h
    · rename_i es h1
      simp only [ask, Option.some.injEq, Prod.mk.injEq] at h; obtain ⟨rfl, rfl⟩ := h
      have hk := hck.one
      obtain ⟨r1, _⟩ := evAll_sound hev _ _ h1
      have hr := run_mm (P := P) (w := w) (ts := tt) (ty := o.type) true r1 hk
      simp only [if_true] at hr
      have e1 : (⟨xs.toList.map a.eval⟩ : Array Value) = xs.map a.eval := Array.ext' (by simp)
      rw [e1] at hr
      obtain ⟨v, q1, q2⟩ := hr
      refine ⟨⟨v, ?_, by simp only [den]; exact q2⟩, by rw [ho]; intro c h; cases h⟩
      simp only [execOp, ho, resolve, Sem.run_bind, Sem.run_pure, Result.andThen_ok, invoke, builtin, q1]
    · cases h
  case h_18 x t ho =>
    split at h
    · rename_i el h1 h2
      simp only [Option.some.injEq, Prod.mk.injEq] at h; obtain ⟨rfl, rfl⟩ := h
      have hx := hxv _ _ h1
      simp only [den] at hx
      have hv : a.eval x = .slice none 0 0 := by generalize a.eval x = v at hx; cases hx; rfl
      have e1 : (⟨[x]⟩ : Array Operand).map a.eval = #[.slice none 0 0] := by rw [← hv]; exact Array.ext' (by simp)
      have hr : (Builtin.cap_ #[t] o.type #[.slice none 0 0]).run P w = .ok (.int .i64 0) w := by
        simp [Builtin.cap_, run_underlying h2, goInt]
      have e2 : (⟨[t]⟩ : Array TypeId) = #[t] := rfl
      refine ⟨⟨.int .i64 0, ?_, by simp only [den]; exact .int _ _⟩, by rw [ho]; intro c h; cases h⟩
      simp only [execOp, ho, resolve, Sem.run_bind, Sem.run_pure, Result.andThen_ok, invoke, builtin, e1, e2, hr]
    · cases h
  case h_19 => cases h

end Go.Lb
