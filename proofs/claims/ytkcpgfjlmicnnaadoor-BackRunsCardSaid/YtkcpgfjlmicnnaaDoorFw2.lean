/- A struct's, an array's, a slice's literal. -/
/- The call's own memory, symbolically, and how it lies. -/
/- The call's own memory, symbolically, and how it lies. -/
/- What new blocks, stores and calls do to the call's own memory. -/
/- One operation, symbolically. -/
/- One operation that leaves the world alone, symbolically. -/
import Derived.Test.YtkcpgfjlmicnnaaDoorFw1
import Derived.RangeFuncCalls
set_option linter.unusedSimpArgs false
set_option linter.unusedVariables false
namespace Go.Lb
open Go.RowKit

variable {P : Program} {c : Cx} {ρ : Nat → AV} {w : World}

def putL {α : Type} (cs : List α) (off : Nat) (v : List α) : List α := cs.take off ++ v ++ cs.drop (off + v.length)

theorem putL_length {α : Type} (cs : List α) (off : Nat) (v : List α) (h : off + v.length ≤ cs.length) : (putL cs off v).length = cs.length := by
  simp [putL]; omega

theorem fold_set (off : Nat) : ∀ (vs : List Value) (j : Nat) (cells : Array Value), off + j + vs.length ≤ cells.size →
    ((vs.zipIdx j).foldl (fun cs (c, k) => cs.setIfInBounds (off + k) c) cells).toList = putL cells.toList (off + j) vs := by
  intro vs
  induction vs with
  | nil => intro j cells h; simp [putL]
  | cons v vs ih =>
    intro j cells h
    simp only [List.zipIdx_cons, List.foldl_cons]
    simp only [List.length_cons] at h
    rw [ih (j + 1) _ (by simp; omega)]
    have hlt : off + j < cells.toList.length := by simp; omega
    simp only [putL, Array.toList_setIfInBounds, List.length_cons]
    rw [List.set_eq_take_append_cons_drop, if_pos hlt]
    have e1 : (List.take (off + j) cells.toList ++ v :: List.drop (off + j + 1) cells.toList).take (off + (j + 1)) = List.take (off + j) cells.toList ++ [v] := by
      rw [List.take_append]
      have : (List.take (off + j) cells.toList).length = off + j := by simp; omega
      rw [this, List.take_of_length_le (by omega), show off + (j + 1) - (off + j) = 1 from by omega]
      simp
    have e2 : (List.take (off + j) cells.toList ++ v :: List.drop (off + j + 1) cells.toList).drop (off + (j + 1) + vs.length) = cells.toList.drop (off + j + (vs.length + 1)) := by
      rw [List.drop_append]
      have : (List.take (off + j) cells.toList).length = off + j := by simp; omega
      rw [this, List.drop_eq_nil_of_le (by omega), show off + (j + 1) + vs.length - (off + j) = vs.length + 1 from by omega]
      simp [List.drop_drop]; congr 1; omega
    rw [e1, e2]; simp

/-- Where a part goes: its place, its cells, whether it is an aggregate. -/
abbrev Place := Nat → Option (Nat × Nat × Bool)

def fillSE (place : Place) (cells : List SE) : List (Nat × SE) → Option (List SE × List Chk)
  | [] => some (cells, [])
  | (i, e) :: rest =>
    match place i with
    | none => none
    | some (off, n, g) =>
      if off + n ≤ cells.length ∧ (g = false → n = 1) then
        (fillSE place (putL cells off (cellsN n g e).1) rest).map fun x => (x.1, (cellsN n g e).2 ++ x.2)
      else none

theorem cellsN_length (n : Nat) (g : Bool) (e : SE) (hn : g = false → n = 1) : (cellsN n g e).1.length = n := by
  unfold cellsN
  cases g
  · simp [hn rfl]
  · simp only [if_true]
    split
    · split
      · rename_i h; exact h
      · simp
    · simp

theorem Rvs.put {as bs : List AV} {vs us : List Value} (h : Rvs c as vs) (k : Rvs c bs us) (off : Nat) : Rvs c (putL as off bs) (putL vs off us) := by
  unfold putL
  rw [← k.length]
  exact ((h.take off).append k).append (h.drop _)

theorem dens_put (ρ : Nat → AV) (cs v : List SE) (off : Nat) : dens ρ (putL cs off v) = putL (dens ρ cs) off (dens ρ v) := by
  simp [putL, dens_map, List.map_append]

theorem fill_sound (place : Place) (pl : Nat → Option (Nat × Nat)) (hpl : ∀ i off n g, place i = some (off, n, g) → pl i = some (off, n)) :
    ∀ (parts : List (Nat × SE)) (vals : List (Nat × Value)) (cells : List SE) (vs : Array Value) (out : List SE) (ck : List Chk),
      parts.length = vals.length → (∀ (j i : Nat) (e : SE) (i' : Nat) (v : Value), parts[j]? = some (i, e) → vals[j]? = some (i', v) → i' = i ∧ Rv c (den ρ e) v) →
      Rvs c (dens ρ cells) vs.toList → fillSE place cells parts = some (out, ck) → Chks ρ ck →
      ∃ vs', Instr.fill pl vs vals = some vs' ∧ Rvs c (dens ρ out) vs'.toList := by
  intro parts
  induction parts with
  | nil =>
    intro vals cells vs out ck hl _ hr h _
    cases vals with
    | nil => simp only [fillSE, Option.some.injEq, Prod.mk.injEq] at h; obtain ⟨rfl, rfl⟩ := h; exact ⟨vs, rfl, hr⟩
    | cons _ _ => simp at hl
  | cons p parts ih =>
    intro vals cells vs out ck hl hrel hr h hck
    obtain ⟨i, e⟩ := p
    cases vals with
    | nil => simp at hl
    | cons q vals =>
      obtain ⟨i', v⟩ := q
      obtain ⟨rfl, hv⟩ := hrel 0 i e i' v rfl rfl
      simp only [fillSE] at h
      split at h
      · cases h
      · rename_i off n g hp
        split at h
        · rename_i hcond
          obtain ⟨⟨out', ck'⟩, h1, h2⟩ := Option.map_eq_some_iff.1 h
          simp only [Prod.mk.injEq] at h2
          obtain ⟨rfl, rfl⟩ := h2
          rw [Chks.append] at hck
          obtain ⟨c1, c2, _, _, _⟩ := cellsN_sound hv hcond.2 hck.1
          have hlen := hr.length
          rw [dens_length] at hlen
          have hcn := cellsN_length n g e hcond.2
          simp only [Instr.fill, hpl _ _ _ _ hp]
          have hsz : ¬ (v.cells.size ≠ n || decide (off + v.cells.size > vs.size)) = true := by
            simp [c2]; simp at hlen; omega
          simp only [hsz]
          have hf := fold_set off v.cells.toList 0 vs (by simp [c2]; simp at hlen; omega)
          have hcells : ∀ A : Array Value, A.toList = putL vs.toList off v.cells.toList → Rvs c (dens ρ (putL cells off (cellsN n g e).1)) A.toList := by
            intro A hA; rw [hA, dens_put]; exact hr.put c1 off
          have hfold : (v.cells.zipIdx.foldl (fun cs (c, j) => cs.setIfInBounds (off + j) c) vs).toList = putL vs.toList off v.cells.toList := by
            rw [Nat.add_zero] at hf; rw [← hf, ← Array.foldl_toList]; simp
          exact ih vals _ _ out' ck' (by simpa using hl) (fun j => hrel (j + 1)) (hcells _ hfold) h1 hck.2
        · cases h

/-- A type's zero value's cells. -/
def zeroSE (P : Program) (t : TypeId) : Option (List SE) :=
  match P.info? t with
  | some i => match i.zero with
    | some v => if v.cells.size = i.size then seOfs v.cells.toList else none
    | none => none
  | none => none

theorem zeroSE_sound {t : TypeId} {es : List SE} (h : zeroSE P t = some es) : ∃ v, (zeroValue t).run P w = .ok v w ∧ Rvs c (dens ρ es) v.cells.toList := by
  unfold zeroSE at h
  split at h
  · rename_i i hi
    split at h
    · rename_i v hv
      split at h
      · exact ⟨v, by simp [zeroValue, run_typeInfo hi, hv], seOfs_sound c ρ _ _ h⟩
      · cases h
    · cases h
  · cases h

def fieldPlaces (P : Program) : List Field → Option (List (Nat × Nat × Bool))
  | [] => some []
  | f :: fs => match tsz P f.type, fieldPlaces P fs with
    | some (n, g), some r => some ((f.offset, n, g) :: r)
    | _, _ => none

theorem fieldPlaces_sound : ∀ (fs : List Field) (r : List (Nat × Nat × Bool)), fieldPlaces P fs = some r →
    (fs.mapM fun f => (do pure (f.offset, ← sizeOf f.type) : Sem (Nat × Nat))).run P w = .ok (r.map fun x => (x.1, x.2.1)) w := by
  intro fs
  induction fs with
  | nil => intro r h; simp only [fieldPlaces, Option.some.injEq] at h; subst h; rfl
  | cons f fs ih =>
    intro r h
    simp only [fieldPlaces] at h
    split at h
    · rename_i n g r' h1 h2
      simp only [Option.some.injEq] at h; subst h
      simp only [List.mapM_cons, Sem.run_bind, (tsz_spec h1 w).1, Result.andThen_ok, Sem.run_pure, ih r' h2, List.map_cons]
    · cases h

def placesOf (P : Program) (t : TypeId) : Option Place :=
  match P.underlying t with
  | some (.struct fs) => (fieldPlaces P fs.toList).map fun l => fun i => l[i]?
  | some (.array _ e) => match tsz P e with
    | some (n, g) => some fun i => some (i * n, n, g)
    | none => none
  | _ => none

def buildSE (P : Program) (t : TypeId) (parts : List (Nat × SE)) : Option (SE × List Chk) :=
  match placesOf P t, zeroSE P t with
  | some pl, some z => (fillSE pl z parts).map fun x => (.agg x.1, x.2)
  | _, _ => none

theorem build_sound {t : TypeId} {parts : List (Nat × SE)} {vals : List (Nat × Value)} {e : SE} {ck : List Chk} (h : buildSE P t parts = some (e, ck)) (hl : parts.length = vals.length)
    (hrel : ∀ (j i : Nat) (e : SE) (i' : Nat) (v : Value), parts[j]? = some (i, e) → vals[j]? = some (i', v) → i' = i ∧ Rv c (den ρ e) v) (hck : Chks ρ ck) :
    Runs P w c (den ρ e) (Instr.build t ⟨vals⟩) := by
  unfold buildSE at h
  split at h
  · rename_i pl z h1 h2
    obtain ⟨⟨out, ck'⟩, h3, h4⟩ := Option.map_eq_some_iff.1 h
    simp only [Prod.mk.injEq] at h4; obtain ⟨rfl, rfl⟩ := h4
    obtain ⟨zv, hz, hzr⟩ := zeroSE_sound (w := w) (c := c) (ρ := ρ) h2
    unfold placesOf at h1
    split at h1
    · rename_i fs hu
      obtain ⟨l, hl1, rfl⟩ := Option.map_eq_some_iff.1 h1
      have hm := fieldPlaces_sound (w := w) fs.toList l hl1
      have hm' : (fs.mapM fun f => (do pure (f.offset, ← sizeOf f.type) : Sem (Nat × Nat))).run P w = .ok (⟨l.map fun x => (x.1, x.2.1)⟩ : Array (Nat × Nat)) w := by
        rw [Array.mapM_eq_mapM_toList, Sem.run_map, hm]; rfl
      obtain ⟨vs', hf, hr⟩ := fill_sound (c := c) (ρ := ρ) (fun i => l[i]?) (fun i => (⟨l.map fun x => (x.1, x.2.1)⟩ : Array (Nat × Nat))[i]?)
        (fun i off n g hp => by simp at hp ⊢; simp [hp]) parts vals z zv.cells out ck' hl hrel hzr h3 hck
      refine ⟨.agg vs', ?_, by simp only [den]; exact .agg _ _ hr⟩
      simp only [Instr.build, Sem.run_bind, hz, Result.andThen_ok, run_underlying hu, hm', hf, Sem.run_pure]
    · rename_i n e hu
      split at h1
      · rename_i n' g ht
        simp only [Option.some.injEq] at h1; subst h1
        obtain ⟨vs', hf, hr⟩ := fill_sound (c := c) (ρ := ρ) (fun i => some (i * n', n', g)) (fun i => some (i * n', n'))
          (fun i off n g hp => by simp at hp ⊢; exact ⟨hp.1, hp.2.1⟩) parts vals z zv.cells out ck' hl hrel hzr h3 hck
        refine ⟨.agg vs', ?_, by simp only [den]; exact .agg _ _ hr⟩
        simp only [Instr.build, Sem.run_bind, hz, Result.andThen_ok, run_underlying hu, (tsz_spec ht w).1, hf, Sem.run_pure]
      · cases h1
    · cases h1
  · cases h

end Go.Lb

namespace Go.Lb
open Go.RowKit

mutual
theorem AV.under_mono {n m : Nat → Bool} (h : ∀ i, n i = true → m i = true) : ∀ {a : AV}, AV.under n a = true → AV.under m a = true
  | .agg cs, ha | .tup cs, ha | .sl cs, ha | .eptr cs _ _, ha | .ref cs _, ha | .mp _ _ cs, ha => by
    simp only [AV.under] at ha ⊢; exact AV.underAll_mono h ha
  | .clo _ fs cs, ha => by
    simp only [AV.under, Bool.and_eq_true] at ha ⊢; exact ⟨AV.underAll_mono h ha.1, AV.underAll_mono h ha.2⟩
  | .ptr i _, ha | .row i, ha | .rptr i _ _ _, ha | .yield i, ha | .mref i, ha => by simp only [AV.under] at ha ⊢; exact h _ ha
  | .undef, _ | .bool _, _ | .int _ _, _ | .nilp, _ | .nilf, _ | .nsl, _ => rfl
theorem AV.underAll_mono {n m : Nat → Bool} (h : ∀ i, n i = true → m i = true) : ∀ {as : List AV}, AV.underAll n as = true → AV.underAll m as = true
  | [], _ => rfl
  | a :: as, ha => by
    simp only [AV.underAll, Bool.and_eq_true] at ha ⊢; exact ⟨AV.under_mono h ha.1, AV.underAll_mono h ha.2⟩
end

/-! ### Purity of what an operation comes to -/
theorem AV.under_undef (m : Nat → Bool) : AV.under m .undef = true := rfl
theorem AV.underAll_mem {m : Nat → Bool} : ∀ {as : List AV}, AV.underAll m as = true ↔ ∀ a ∈ as, AV.under m a = true
  | [] => by simp [AV.underAll]
  | a :: as => by simp [AV.underAll, AV.underAll_mem (as := as)]
theorem AV.under_getD {m : Nat → Bool} {as : List AV} (h : AV.underAll m as = true) (i : Nat) : AV.under m (as.getD i .undef) = true := by
  rw [List.getD_eq_getElem?_getD]
  cases hi : as[i]? with
  | none => rfl
  | some a => exact AV.underAll_mem.1 h a (List.mem_of_getElem? hi)
theorem AV.under_take {m : Nat → Bool} {as : List AV} (h : AV.underAll m as = true) (n : Nat) : AV.underAll m (as.take n) = true :=
  AV.underAll_mem.2 fun a ha => AV.underAll_mem.1 h a (List.mem_of_mem_take ha)
theorem AV.under_drop {m : Nat → Bool} {as : List AV} (h : AV.underAll m as = true) (n : Nat) : AV.underAll m (as.drop n) = true :=
  AV.underAll_mem.2 fun a ha => AV.underAll_mem.1 h a (List.mem_of_mem_drop ha)
theorem AV.under_cut {m : Nat → Bool} {as : List AV} (h : AV.underAll m as = true) (off n : Nat) (g : Bool) : AV.under m (AV.cut as off n g) = true := by
  cases g
  · exact AV.under_getD h off
  · simp only [AV.cut, AV.under]; exact AV.under_take (AV.under_drop h _) _
theorem AV.under_set {m : Nat → Bool} {as : List AV} (h : AV.underAll m as = true) (i : Nat) {a : AV} (ha : AV.under m a = true) : AV.underAll m (as.set i a) = true :=
  AV.underAll_mem.2 fun b hb => (List.mem_or_eq_of_mem_set hb).elim (AV.underAll_mem.1 h b) (fun e => e ▸ ha)
theorem AV.under_put {m : Nat → Bool} {as bs : List AV} (h : AV.underAll m as = true) (k : AV.underAll m bs = true) (off : Nat) : AV.underAll m (AV.put as off bs) = true := by
  unfold AV.put; rw [AV.under_append, AV.under_append, AV.under_take h, AV.under_drop h, k]; rfl
theorem AV.under_ofCells {m : Nat → Bool} {a : AV} {cs : List AV} (h : AV.underAll m cs = true) : AV.under m (AV.ofCells a cs) = true := by
  unfold AV.ofCells; split
  · exact h
  · exact AV.under_getD h 0
theorem binI_under (m : Nat → Bool) (op : BinOp) (k : IntKind) (a b : Int) : AV.under m (binI op k a b) = true := by
  cases op <;> rfl

theorem pv_under {m : Nat → Bool} (o : PF) (args : List AV) (h : AV.underAll m args = true) : AV.under m (pv o args) = true := by
  unfold pv
  split <;> (try simp only [AV.underAll, AV.under, Bool.and_true, Bool.and_eq_true] at h) <;> (try simp only [AV.under])
  case _ => exact binI_under _ _ _ _ _
  case _ => split <;> simp_all
  all_goals first
    | rfl
    | exact h
    | exact h.1
    | exact AV.under_cut h _ _ _
    | exact AV.under_cut h.1 _ _ _
    | exact AV.under_getD h _
    | exact AV.under_drop h _
    | exact AV.under_drop h.1 _
    | exact AV.under_take h.1 _
    | exact AV.under_drop (AV.under_take h.1 _) _
    | exact AV.under_take h _
    | exact AV.underAll_mem.2 (fun a ha => (List.eq_of_mem_replicate ha) ▸ h.2)
    | exact AV.under_drop (AV.under_take h _) _
    | exact AV.under_cut (by rw [AV.under_cells]; exact AV.under_getD h _) _ _ _
    | exact AV.under_cut (by rw [AV.under_cells]; exact AV.under_getD h.1 _) _ _ _
    | exact AV.under_set h.1 _ (AV.under_ofCells (AV.under_put (by rw [AV.under_cells]; exact AV.under_getD h.1 _) (by rw [AV.under_cells]; exact h.2.2) _))
    | (rw [AV.under_append]; simp [h.1, h.2, AV.underAll])
    | (split <;> first | exact AV.under_getD (by rw [AV.under_cells]; exact h.2.2) _ | exact h.2.1)

mutual
/-- Nil is taken as a slice of no elements. -/
def SE.weak : SE → SE
  | .enil => .nils
  | .agg cs => .agg (SE.weaks cs)
  | .tup cs => .tup (SE.weaks cs)
  | .clo f fs cs => .clo f (SE.weaks fs) (SE.weaks cs)
  | .mp k ks vs => .mp k ks (SE.weaks vs)
  | e => e
def SE.weaks : List SE → List SE
  | [] => []
  | e :: es => SE.weak e :: SE.weaks es
end

mutual
theorem weak_sound {c : Cx} {ρ : Nat → AV} : ∀ (e : SE) {v : Value}, Rv c (den ρ e) v → Rv c (den ρ e.weak) v
  | .enil, v, h => by simp only [den] at h; cases h; exact .slnil
  | .agg cs, v, h => by simp only [den] at h; cases h with | agg _ vs h => exact .agg _ _ (weaks_sound cs h)
  | .tup cs, v, h => by simp only [den] at h; cases h with | tup _ vs h => exact .tup _ _ (weaks_sound cs h)
  | .clo f fs cs, v, h => by simp only [den] at h; cases h with | clo _ _ _ vf vc h1 h2 => exact .clo _ _ _ _ _ (weaks_sound fs h1) (weaks_sound cs h2)
  | .mp k ks vs, v, h => by simp only [den] at h; cases h with | mp _ _ _ b clk es h1 h2 h3 => exact .mp _ _ _ b clk es h1 h2 (weaks_sound vs h3)
  | .inp _, _, h | .undef, _, h | .bool _, _, h | .int _ _, _, h | .nilp, _, h | .nilf, _, h | .nils, _, h | .ref _ _, _, h | .ptr _ _, _, h | .ptrx _ _ _ _ _ _, _, h | .row _, _, h | .rptr _ _ _ _, _, h | .yield _, _, h | .mref _, _, h | .app _ _, _, h => by
    simpa only [SE.weak] using h
theorem weaks_sound {c : Cx} {ρ : Nat → AV} : ∀ (es : List SE) {vs : List Value}, Rvs c (dens ρ es) vs → Rvs c (dens ρ (SE.weaks es)) vs
  | [], vs, h => h
  | e :: es, vs, h => by
    simp only [dens] at h
    cases h with
    | cons _ v _ vs h1 h2 => exact .cons _ _ _ _ (weak_sound e h1) (weaks_sound es h2)
end

mutual
theorem weak_wf {n : Nat} {m : Nat → Bool} : ∀ (e : SE), e.wf n m = true → e.weak.wf n m = true
  | .agg cs, h | .tup cs, h | .mp _ _ cs, h => by simp only [SE.weak, SE.wf] at h ⊢; exact weaks_wf cs h
  | .clo _ fs cs, h => by simp only [SE.weak, SE.wf, Bool.and_eq_true] at h ⊢; exact ⟨weaks_wf fs h.1, weaks_wf cs h.2⟩
  | .inp _, h | .undef, h | .bool _, h | .int _ _, h | .nilp, h | .nilf, h | .nils, h | .enil, h | .ref _ _, h | .ptr _ _, h | .ptrx _ _ _ _ _ _, h | .row _, h | .rptr _ _ _ _, h | .yield _, h | .mref _, h | .app _ _, h => by
    simp only [SE.weak, SE.wf] at h ⊢ <;> exact h
theorem weaks_wf {n : Nat} {m : Nat → Bool} : ∀ (es : List SE), SE.wfs n m es = true → SE.wfs n m (SE.weaks es) = true
  | [], _ => rfl
  | e :: es, h => by
    simp only [SE.wfs, SE.weaks, Bool.and_eq_true] at h ⊢
    exact ⟨weak_wf e h.1, weaks_wf es h.2⟩
end
theorem weaks_length (es : List SE) : (SE.weaks es).length = es.length := by
  induction es with
  | nil => rfl
  | cons e es ih => simp [SE.weaks, ih]

mutual
theorem den_under {n : Nat} {m : Nat → Bool} {ρ : Nat → AV} (hρ : ∀ i, (ρ i).pure = true) : ∀ (e : SE), e.wf n m = true → (den ρ e).under m = true
  | .inp i, _ => by
    have := hρ i
    rw [AV.under_zero_of_pure] at this
    exact AV.under_mono (fun _ h => Bool.noConfusion h) this
  | .undef, _ | .bool _, _ | .int _ _, _ | .nilp, _ | .nilf, _ | .nils, _ | .enil, _ => rfl
  | .ptr i _, hw | .row i, hw | .yield i, hw | .mref i, hw => by simpa [SE.wf, AV.under] using hw
  | .agg cs, hw | .tup cs, hw | .mp _ _ cs, hw | .ref cs _, hw => by simp only [den, AV.under]; exact dens_under hρ cs hw
  | .ptrx i _ e _ _ _, hw | .rptr i e _ _, hw => by
    simp only [SE.wf, Bool.and_eq_true, Nat.blt_eq] at hw
    simp only [den]; unfold denIdx; split
    · simpa [AV.under] using hw.1
    · rfl
  | .clo _ fs cs, hw => by
    simp only [SE.wf, Bool.and_eq_true] at hw
    simp only [den, AV.under, dens_under hρ fs hw.1, dens_under hρ cs hw.2, Bool.and_self]
  | .app o cs, hw => by simp only [den]; exact pv_under o _ (dens_under hρ cs hw)
theorem dens_under {n : Nat} {m : Nat → Bool} {ρ : Nat → AV} (hρ : ∀ i, (ρ i).pure = true) : ∀ (es : List SE), SE.wfs n m es = true → AV.underAll m (dens ρ es) = true
  | [], _ => rfl
  | e :: es, hw => by
    simp only [SE.wfs, Bool.and_eq_true] at hw
    simp only [dens, AV.underAll, den_under hρ e hw.1, dens_under hρ es hw.2, Bool.and_self]
end

end Go.Lb

namespace Go.Lb
open Go.RowKit

/-- How far a walk over a function is: it may go round, a round runs, a round has left it. -/
inductive LSt where
  | ready
  | busy
  | doneRet
  | doneExit (id : Nat)
  | doneGoto (l : Nat)
  deriving DecidableEq, Repr, Inhabited

/-- Own things. -/
inductive OS where
  | box (cs : List SE)
  | row (sz : Nat) (e : SE)
  | mapo (k : IntKind) (ks : List Int) (vs : List SE)
  | dfr
  | loop (s : LSt)
  | gone
  deriving Inhabited, Repr

def OS.wf (n : Nat) (m : Nat → Bool) : OS → Bool
  | .box cs => SE.wfs n m cs
  | .row _ e => SE.wf n m e
  | .mapo _ _ vs => SE.wfs n m vs
  | _ => true

def OS.beq : OS → OS → Bool
  | .box a, .box b => SE.beqs a b
  | .row n a, .row m b => Nat.beq n m && SE.beq a b
  | .mapo k ks a, .mapo k' ks' b => decide (k = k') && decide (ks = ks') && SE.beqs a b
  | .dfr, .dfr => true
  | .loop a, .loop b => decide (a = b)
  | .gone, .gone => true
  | _, _ => false
theorem OS.beq_eq : ∀ (a b : OS), OS.beq a b = true → a = b
  | .box a, .box b, h => by rw [SE.beqs_eq a b h]
  | .row n a, .row m b, h => by
    simp only [OS.beq, Bool.and_eq_true] at h
    rw [Nat.eq_of_beq_eq_true h.1, SE.beq_eq a b h.2]
  | .mapo k ks a, .mapo k' ks' b, h => by
    simp only [OS.beq, Bool.and_eq_true, decide_eq_true_eq] at h
    rw [h.1.1, h.1.2, SE.beqs_eq a b h.2]
  | .dfr, .dfr, _ => rfl
  | .loop a, .loop b, h => by simp only [OS.beq, decide_eq_true_eq] at h; rw [h]
  | .gone, .gone, _ => rfl

abbrev Own := List (Nat × OS)

/-- Own things, as a function. -/
abbrev Lk := Nat → Option OS
def look : Own → Lk
  | [], _ => none
  | (j, o) :: rest, i => if Nat.beq i j then some o else look rest i

def Lk.dom (L : Lk) : Nat → Bool := fun i => (L i).isSome
def Lk.upd (L : Lk) (i : Nat) (o : OS) : Lk := fun j => if j = i then some o else L j

theorem Lk.upd_same (L : Lk) (i : Nat) (o : OS) : L.upd i o i = some o := by simp [Lk.upd]
theorem Lk.upd_other (L : Lk) {i j : Nat} (o : OS) (h : i ≠ j) : L.upd j o i = L i := by simp [Lk.upd, h]
theorem Lk.dom_of {L : Lk} {i : Nat} {o : OS} (h : L i = some o) : L.dom i = true := by simp [Lk.dom, h]
theorem Lk.dom_upd (L : Lk) (i : Nat) (o : OS) (j : Nat) (h : L.dom j = true) : (L.upd i o).dom j = true := by
  unfold Lk.dom Lk.upd; split
  · rfl
  · exact h
theorem Lk.dom_upd_same (L : Lk) (i : Nat) (o : OS) : (L.upd i o).dom i = true := by simp [Lk.dom, Lk.upd]
theorem look_cons (own : Own) (i : Nat) (o : OS) : look ((i, o) :: own) = (look own).upd i o := by
  funext j
  simp only [look, Lk.upd]
  by_cases h : j = i
  · simp [h]
  · simp [h]

def Own.wf (n : Nat) (own : Own) : Bool := own.all fun x => x.2.wf n (look own).dom
theorem Own.wf_look {n : Nat} {own : Own} (h : own.wf n = true) {i : Nat} {o : OS} (hl : look own i = some o) : o.wf n (look own).dom = true := by
  unfold Own.wf at h
  generalize (look own).dom = D at h ⊢
  induction own with
  | nil => simp [look] at hl
  | cons x own ih =>
    obtain ⟨j, o'⟩ := x
    simp only [List.all_cons, Bool.and_eq_true] at h
    simp only [look] at hl
    split at hl
    · simp only [Option.some.injEq] at hl; subst hl
      exact h.1
    · exact ih hl h.2

/-- A loop's record at a state of it. -/
def stamp (r : Loop) : LSt → Loop
  | .ready => { r with state := .ready, pending := none }
  | .busy => { r with state := .busy, pending := none }
  | .doneRet => { r with state := .done, pending := some .ret }
  | .doneExit id => { r with state := .done, pending := some (.exit id) }
  | .doneGoto l => { r with state := .done, pending := some (.goto l) }

/-- How a row of the call's own lies. -/
inductive RowOk (c : Cx) (w : World) (sz : Nat) : Value → List AV → Prop
  | nil : RowOk c w sz (.slice none 0 0) []
  | zero (ad : Addr) : RowOk c w sz (.slice (some ad) 0 0) []
  | row (b o cap : Nat) (vs : List Value) (T : TypeId) (xs : List AV) : 0 < cap → w.heap[b]? = some (.cells ⟨vs⟩ T (0, 0)) → xs.length ≤ cap → o + cap * sz ≤ vs.length →
      (∀ x ∈ xs, x.cells.length = sz) → Rvs c (AV.flat xs) ((vs.drop o).take (xs.length * sz)) → RowOk c w sz (.slice (some ⟨b, o, none⟩) xs.length cap) xs

def OwnOk (c : Cx) (ρ : Nat → AV) (w : World) (i : Nat) : OS → Prop
  | .box cs => ∃ vs T, w.heap[c.β i]? = some (.cells ⟨vs⟩ T (0, 0)) ∧ Rvs c (dens ρ cs) vs ∧ c.h i = .slice (some ⟨c.β i, 0, none⟩) vs.length vs.length
  | .row sz e => ∃ xs, den ρ e = .sl xs ∧ RowOk c w sz (c.h i) xs
  | .mapo k ks vs => ∃ es clk, w.heap[c.β i]? = some (.map ⟨es⟩ clk) ∧ es.map (·.key) = ks.map (Value.int k) ∧ Rvs c (dens ρ vs) (es.map (·.val))
  | .dfr => w.heap[c.β i]? = some (.deferred (some []))
  | .loop s => w.heap[c.β i]? = some (.loop (stamp (c.L i) s))
  | .gone => True

def hdrBlock : Value → Option Nat
  | .slice (some a) _ cap => if cap = 0 then none else some a.block
  | _ => none
/-- The block of an own thing. -/
def bl (c : Cx) (i : Nat) : OS → Option Nat
  | .row _ _ => hdrBlock (c.h i)
  | .gone => none
  | _ => some (c.β i)

/-- What there was. -/
structure Base where
  w : World
  I : Nat → Nat → Option Value
  M : Nat → Option Obj

structure Mem (n0 : Nat) (w0 : Base) (c : Cx) (ρ : Nat → AV) (L : Lk) (nenv : Nat) (w : World) : Prop where
  imm : Imm c w
  pure : ∀ i, (ρ i).pure = true
  wf : ∀ i o, L i = some o → o.wf nenv L.dom = true
  ok : ∀ i o, L i = some o → OwnOk c ρ w i o
  dist : ∀ i j oi oj b, L i = some oi → L j = some oj → bl c i oi = some b → bl c j oj = some b → i = j
  fresh : ∀ i o b, L i = some o → bl c i o = some b → n0 ≤ b ∧ b < w.heap.size
  disj : ∀ i o b, L i = some o → bl c i o = some b → (∀ off v, c.I b off ≠ some v) ∧ (∀ ob, c.M b ≠ some ob)
  immlt : ∀ b, b ≥ w.heap.size → (∀ off v, c.I b off ≠ some v) ∧ (∀ ob, c.M b ≠ some ob)
  below : Below n0 w0.w w
  old : ∀ b, b < n0 → (∀ off v, c.I b off = some v → w0.I b off = some v) ∧ (∀ o, c.M b = some o → w0.M b = some o)

theorem Rvs_keeps {n : Nat → Bool} {c c' : Cx} (hc : c.Keeps n c') {as : List AV} {vs : List Value} (h : Rvs c as vs) (hu : AV.underAll n as = true) : Rvs c' as vs := by
  induction as generalizing vs with
  | nil => cases h; exact .nil
  | cons a as ih =>
    cases h with
    | cons _ v _ vs h1 h2 =>
      simp only [AV.underAll, Bool.and_eq_true] at hu
      exact .cons a v as vs (Rv_keeps hc h1 hu.1) (ih h2 hu.2)

theorem RowOk.keeps {n : Nat → Bool} {sz : Nat} {c c' : Cx} {w w' : World} (hc : c.Keeps n c') {v : Value} {xs : List AV} (h : RowOk c w sz v xs) (hu : AV.underAll n xs = true)
    (hb : ∀ b, hdrBlock v = some b → w'.heap[b]? = w.heap[b]?) : RowOk c' w' sz v xs := by
  cases h with
  | nil => exact .nil
  | zero ad => exact .zero ad
  | row b o cap vs T _ h0 h1 h2 h3 h4 h5 =>
    exact .row b o cap vs T xs h0 ((hb b (by simp [hdrBlock]; omega)).trans h1) h2 h3 h4 (Rvs_keeps hc h5 (by rw [AV.under_flat]; exact hu))

/-- An own thing whose block has not turned is as it was, in a later context. -/
theorem OwnOk.keeps {nenv : Nat} {n : Nat → Bool} {c c' : Cx} {ρ ρ' : Nat → AV} {w w' : World} {i : Nat} {o : OS} (hc : c.Keeps n c') (hi : n i = true) (hρ : ∀ i, (ρ i).pure = true) (ha : Agree nenv ρ ρ')
    (hw : o.wf nenv n = true) (h : OwnOk c ρ w i o) (hb : ∀ b, bl c i o = some b → w'.heap[b]? = w.heap[b]?) : OwnOk c' ρ' w' i o := by
  cases o with
  | box cs =>
    obtain ⟨vs, T, h1, h2, h3⟩ := h
    refine ⟨vs, T, ?_, ?_, ?_⟩
    · rw [hc.β i hi]; exact (hb _ rfl).trans h1
    · rw [dens_agree ha cs hw]; exact Rvs_keeps hc h2 (dens_under hρ cs hw)
    · rw [hc.β i hi, hc.h i hi]; exact h3
  | row sz e =>
    obtain ⟨xs, h1, h2⟩ := h
    refine ⟨xs, by rw [den_agree ha e hw]; exact h1, ?_⟩
    rw [hc.h i hi]
    refine h2.keeps hc ?_ (fun b hbb => hb b hbb)
    have := den_under hρ e hw
    rwa [h1] at this
  | mapo k ks vs =>
    obtain ⟨es, clk, h1, h2, h3⟩ := h
    refine ⟨es, clk, ?_, h2, ?_⟩
    · rw [hc.β i hi]; exact (hb _ rfl).trans h1
    · rw [dens_agree ha vs hw]; exact Rvs_keeps hc h3 (dens_under hρ vs hw)
  | dfr => show w'.heap[c'.β i]? = _; rw [hc.β i hi]; exact (hb _ rfl).trans h
  | loop s => show w'.heap[c'.β i]? = _; rw [hc.β i hi, hc.L i hi]; exact (hb _ rfl).trans h
  | gone => trivial

theorem bl_keeps {n : Nat → Bool} {c c' : Cx} (hc : c.Keeps n c') {i : Nat} (hi : n i = true) (o : OS) : bl c' i o = bl c i o := by
  cases o <;> simp [bl, hc.β i hi, hc.h i hi]

mutual
theorem SE.wf_mono {n n' : Nat} {m m' : Nat → Bool} (h : n ≤ n') (k : ∀ i, m i = true → m' i = true) : ∀ {e : SE}, e.wf n m = true → e.wf n' m' = true
  | .inp i, hw => by simp only [SE.wf, Nat.blt_eq] at hw ⊢; omega
  | .ptr i _, hw | .row i, hw | .yield i, hw | .mref i, hw => by simp only [SE.wf] at hw ⊢; exact k _ hw
  | .undef, _ | .bool _, _ | .int _ _, _ | .nilp, _ | .nilf, _ | .nils, _ | .enil, _ => rfl
  | .ptrx _ _ _ _ _ _, hw | .rptr _ _ _ _, hw => by
    simp only [SE.wf, Bool.and_eq_true] at hw ⊢; exact ⟨k _ hw.1, SE.wf_mono h k hw.2⟩
  | .agg cs, hw | .tup cs, hw | .mp _ _ cs, hw | .ref cs _, hw | .app _ cs, hw => by simp only [SE.wf] at hw ⊢; exact SE.wfs_mono h k hw
  | .clo _ fs cs, hw => by
    simp only [SE.wf, Bool.and_eq_true] at hw ⊢; exact ⟨SE.wfs_mono h k hw.1, SE.wfs_mono h k hw.2⟩
theorem SE.wfs_mono {n n' : Nat} {m m' : Nat → Bool} (h : n ≤ n') (k : ∀ i, m i = true → m' i = true) : ∀ {es : List SE}, SE.wfs n m es = true → SE.wfs n' m' es = true
  | [], _ => rfl
  | e :: es, hw => by
    simp only [SE.wfs, Bool.and_eq_true] at hw ⊢; exact ⟨SE.wf_mono h k hw.1, SE.wfs_mono h k hw.2⟩
end
theorem OS.wf_mono {n n' : Nat} {m m' : Nat → Bool} (h : n ≤ n') (k : ∀ i, m i = true → m' i = true) {o : OS} (hw : o.wf n m = true) : o.wf n' m' = true := by
  cases o <;> simp only [OS.wf] at hw ⊢
  · exact SE.wfs_mono h k hw
  · exact SE.wf_mono h k hw
  · exact SE.wfs_mono h k hw
/-- THE ONE LAW OF STEPS: the own thing i is now o' (old or new); every other one's block has not turned. -/
theorem Mem.step {n0 : Nat} {w0 : Base} {c c' : Cx} {ρ ρ' : Nat → AV} {L : Lk} {nenv nenv' : Nat} {w w' : World} (hm : Mem n0 w0 c ρ L nenv w)
    (i : Nat) (o' : OS) (hnenv : nenv ≤ nenv') (hc : c.Keeps L.dom c') (ha : Agree nenv ρ ρ') (hρ : ∀ i, (ρ' i).pure = true)
    (himm : Imm c' w') (hlt : ∀ b, b ≥ w'.heap.size → (∀ off v, c'.I b off ≠ some v) ∧ (∀ ob, c'.M b ≠ some ob))
    (hsize : w.heap.size ≤ w'.heap.size) (hbelow : Below n0 w0.w w')
    (hold : ∀ b, b < n0 → (∀ off v, c'.I b off = some v → w0.I b off = some v) ∧ (∀ o, c'.M b = some o → w0.M b = some o))
    (hwf : o'.wf nenv' (L.upd i o').dom = true) (hok : OwnOk c' ρ' w' i o')
    (hother : ∀ j o b, j ≠ i → L j = some o → bl c j o = some b → w'.heap[b]? = w.heap[b]?)
    (hblk : ∀ b, bl c' i o' = some b → n0 ≤ b ∧ b < w'.heap.size ∧ (∀ j o, j ≠ i → L j = some o → bl c j o ≠ some b) ∧ (∀ off v, c'.I b off ≠ some v) ∧ (∀ ob, c'.M b ≠ some ob))
    (hI : ∀ j o b, j ≠ i → L j = some o → bl c j o = some b → (∀ off v, c'.I b off ≠ some v) ∧ (∀ ob, c'.M b ≠ some ob)) :
    Mem n0 w0 c' ρ' (L.upd i o') nenv' w' := by
  have hcase : ∀ j o, L.upd i o' j = some o → (j = i ∧ o = o') ∨ (j ≠ i ∧ L j = some o) := by
    intro j o hl
    by_cases hj : j = i
    · subst hj; rw [Lk.upd_same] at hl; exact .inl ⟨rfl, by simpa using hl.symm⟩
    · rw [Lk.upd_other _ _ hj] at hl; exact .inr ⟨hj, hl⟩
  refine ⟨himm, hρ, ?_, ?_, ?_, ?_, ?_, hlt, hbelow, hold⟩
  · intro j o hl
    rcases hcase j o hl with ⟨rfl, rfl⟩ | ⟨hj, hl⟩
    · exact hwf
    · exact OS.wf_mono hnenv (Lk.dom_upd L i o') (hm.wf j o hl)
  · intro j o hl
    rcases hcase j o hl with ⟨rfl, rfl⟩ | ⟨hj, hl⟩
    · exact hok
    · exact (hm.ok j o hl).keeps hc (Lk.dom_of hl) hm.pure ha (hm.wf j o hl) (fun b hb => hother j o b hj hl hb)
  · intro j k oj ok b hj hk bj bk
    rcases hcase j oj hj with ⟨e1, e2⟩ | ⟨nj, lj⟩
    · rcases hcase k ok hk with ⟨e3, e4⟩ | ⟨nk, lk⟩
      · rw [e1, e3]
      · rw [bl_keeps hc (Lk.dom_of lk)] at bk
        rw [e1, e2] at bj
        exact absurd bk ((hblk b bj).2.2.1 k ok nk lk)
    · rw [bl_keeps hc (Lk.dom_of lj)] at bj
      rcases hcase k ok hk with ⟨e3, e4⟩ | ⟨nk, lk⟩
      · rw [e3, e4] at bk
        exact absurd bj ((hblk b bk).2.2.1 j oj nj lj)
      · rw [bl_keeps hc (Lk.dom_of lk)] at bk
        exact hm.dist j k oj ok b lj lk bj bk
  · intro j o b hl hb
    rcases hcase j o hl with ⟨rfl, rfl⟩ | ⟨hj, hl⟩
    · exact ⟨(hblk b hb).1, (hblk b hb).2.1⟩
    · rw [bl_keeps hc (Lk.dom_of hl)] at hb
      have := hm.fresh j o b hl hb
      exact ⟨this.1, by omega⟩
  · intro j o b hl hb
    rcases hcase j o hl with ⟨rfl, rfl⟩ | ⟨hj, hl⟩
    · exact (hblk b hb).2.2.2
    · rw [bl_keeps hc (Lk.dom_of hl)] at hb
      exact hI j o b hj hl hb

/-- Fewer own things known. -/
theorem Mem.weaken {n0 : Nat} {w0 : Base} {c : Cx} {ρ : Nat → AV} {L L' : Lk} {nenv : Nat} {w : World} (hm : Mem n0 w0 c ρ L nenv w) (h : ∀ i o, L' i = some o → L i = some o)
    (hwf : ∀ i o, L' i = some o → o.wf nenv L'.dom = true) : Mem n0 w0 c ρ L' nenv w :=
  ⟨hm.imm, hm.pure, hwf, fun i o hl => hm.ok i o (h i o hl), fun i j oi oj b hi hj => hm.dist i j oi oj b (h i oi hi) (h j oj hj),
   fun i o b hl => hm.fresh i o b (h i o hl), fun i o b hl => hm.disj i o b (h i o hl), hm.immlt, hm.below, hm.old⟩

end Go.Lb

namespace Go.Lb
open Go.RowKit

def Cx.setβ (c : Cx) (i b : Nat) : Cx := { c with β := fun j => if j = i then b else c.β j }
def Cx.seth (c : Cx) (i : Nat) (v : Value) : Cx := { c with h := fun j => if j = i then v else c.h j }
def Cx.setL (c : Cx) (i : Nat) (r : Loop) : Cx := { c with L := fun j => if j = i then r else c.L j }
theorem ne_of_new {L : Lk} {i j : Nat} (h : L i = none) (hj : L.dom j = true) : j ≠ i := by
  rintro rfl; simp [Lk.dom, h] at hj
/-- A variable's block, and what a slice of all its cells is. -/
def Cx.setBox (c : Cx) (i b n : Nat) : Cx := { c with β := fun j => if j = i then b else c.β j, h := fun j => if j = i then .slice (some ⟨b, 0, none⟩) n n else c.h j }
theorem Cx.setBox_keeps (c : Cx) {i b n : Nat} {L : Lk} (h : L i = none) : c.Keeps L.dom (c.setBox i b n) :=
  ⟨⟨fun _ _ _ h => h, fun _ _ h => h⟩, fun j hj => by simp [Cx.setBox, ne_of_new h hj], fun j hj => by simp [Cx.setBox, ne_of_new h hj], fun _ _ => rfl⟩
theorem Cx.setβ_keeps (c : Cx) {i b : Nat} {L : Lk} (h : L i = none) : c.Keeps L.dom (c.setβ i b) :=
  ⟨⟨fun _ _ _ h => h, fun _ _ h => h⟩, fun j hj => by simp [Cx.setβ, ne_of_new h hj], fun _ _ => rfl, fun _ _ => rfl⟩
theorem Cx.seth_keeps (c : Cx) {i : Nat} {L : Lk} {v : Value} (h : L i = none) : c.Keeps L.dom (c.seth i v) :=
  ⟨⟨fun _ _ _ h => h, fun _ _ h => h⟩, fun _ _ => rfl, fun j hj => by simp [Cx.seth, ne_of_new h hj], fun _ _ => rfl⟩
theorem Cx.setL_keeps (c : Cx) {i : Nat} {L : Lk} {r : Loop} (h : L i = none) : c.Keeps L.dom (c.setL i r) :=
  ⟨⟨fun _ _ _ h => h, fun _ _ h => h⟩, fun _ _ => rfl, fun _ _ => rfl, fun j hj => by simp [Cx.setL, ne_of_new h hj]⟩

theorem World.cell_push (w : World) (o : Obj) {b off : Nat} (h : b < w.heap.size) : (w.alloc o).cell? ⟨b, off, none⟩ = w.cell? ⟨b, off, none⟩ :=
  World.cell?_of_block (w := w) (Below.heap_alloc w o b h)

theorem cell_lt {w : World} {b off : Nat} {v : Value} (h : w.cell? ⟨b, off, none⟩ = some v) : b < w.heap.size := by
  unfold World.cell? at h
  rcases Nat.lt_or_ge b w.heap.size with hl | hl
  · exact hl
  · simp [Array.getElem?_eq_none hl] at h

theorem Imm.lt {n0 : Nat} {w0 : Base} {c : Cx} {ρ : Nat → AV} {L : Lk} {nenv : Nat} {w : World} (hm : Mem n0 w0 c ρ L nenv w) :
    (∀ b off v, c.I b off = some v → b < w.heap.size) ∧ (∀ b o, c.M b = some o → b < w.heap.size) := by
  constructor
  · intro b off v h
    rcases Nat.lt_or_ge b w.heap.size with hl | hl
    · exact hl
    · exact absurd h ((hm.immlt b hl).1 off v)
  · intro b o h
    rcases Nat.lt_or_ge b w.heap.size with hl | hl
    · exact hl
    · exact absurd h ((hm.immlt b hl).2 o)

theorem Imm.keeps {c c' : Cx} {w w' : World} (hi : Imm c w) (hI : c'.I = c.I) (hM : c'.M = c.M) (hb : ∀ b, ((∃ off v, c.I b off = some v) ∨ ∃ o, c.M b = some o) → w'.heap[b]? = w.heap[b]?) : Imm c' w' := by
  refine ⟨fun b o v h => ?_, fun b o h => ?_⟩
  · rw [hI] at h; rw [World.cell?_of_block (w := w) (hb b (.inl ⟨o, v, h⟩))]; exact hi.I b o v h
  · rw [hM] at h; rw [hb b (.inr ⟨o, h⟩)]; exact hi.M b o h

/-- A new own thing in a new block. -/
theorem Mem.new {n0 : Nat} {w0 : Base} {c c' : Cx} {ρ : Nat → AV} {L : Lk} {nenv : Nat} {w : World} (hm : Mem n0 w0 c ρ L nenv w) (ob : Obj) (i : Nat) (hid : L i = none) (o' : OS)
    (hc : c.Keeps L.dom c') (hI : c'.I = c.I) (hM : c'.M = c.M) (hwf : o'.wf nenv (L.upd i o').dom = true) (hok : OwnOk c' ρ (w.alloc ob) i o') (hbl : ∀ b, bl c' i o' = some b → b = w.heap.size) (hn0 : n0 ≤ w.heap.size) :
    Mem n0 w0 c' ρ (L.upd i o') nenv (w.alloc ob) := by
  have hlt := Imm.lt hm
  refine hm.step i o' (Nat.le_refl _) hc (Agree.refl _ _) hm.pure ?_ ?_ (by simp) (hm.below.alloc hn0 ob) (by rw [hI, hM]; exact hm.old) hwf hok ?_ ?_ ?_
  · refine hm.imm.keeps hI hM (fun b hb => Below.heap_alloc w ob b ?_)
    rcases hb with ⟨off, v, h⟩ | ⟨o, h⟩
    · exact hlt.1 b off v h
    · exact hlt.2 b o h
  · intro b hb
    rw [hI, hM]
    exact hm.immlt b (by simp at hb; omega)
  · intro j o b _ hl hb
    exact Below.heap_alloc w ob b (hm.fresh j o b hl hb).2
  · intro b hb
    have := hbl b hb; subst this
    refine ⟨hn0, by simp, fun j o _ hl hbb => ?_, ?_⟩
    · have := (hm.fresh j o _ hl hbb).2; omega
    · rw [hI, hM]; exact hm.immlt _ (Nat.le_refl _)
  · intro j o b _ hl hb
    rw [hI, hM]; exact hm.disj j o b hl hb

theorem Mem.n0_le {n0 : Nat} {w0 : Base} {c : Cx} {ρ : Nat → AV} {L : Lk} {nenv : Nat} {w : World} (hm : Mem n0 w0 c ρ L nenv w) (h : n0 ≤ w0.w.heap.size) : n0 ≤ w.heap.size :=
  Nat.le_trans h hm.below.size

/-- A new variable. -/
theorem Mem.newBox {n0 : Nat} {w0 : Base} {c : Cx} {ρ : Nat → AV} {L : Lk} {nenv : Nat} {w : World} (hm : Mem n0 w0 c ρ L nenv w) (hn0 : n0 ≤ w.heap.size)
    {i : Nat} (hid : L i = none) (cs : List SE) (vs : List Value) (T : TypeId) (hr : Rvs c (dens ρ cs) vs) (hwf : SE.wfs nenv L.dom cs = true) :
    Mem n0 w0 (c.setBox i w.heap.size vs.length) ρ (L.upd i (.box cs)) nenv (w.alloc (.cells ⟨vs⟩ T)) := by
  have hk : c.Keeps L.dom (c.setBox i w.heap.size vs.length) := c.setBox_keeps hid
  refine hm.new _ i hid (.box cs) hk rfl rfl (SE.wfs_mono (Nat.le_refl _) (Lk.dom_upd L i _) hwf) ?_ ?_ hn0
  · refine ⟨vs, T, ?_, Rvs_keeps hk hr (dens_under hm.pure cs hwf), ?_⟩
    · simp only [Cx.setBox, if_true]; exact World.alloc_heap_new w _
    · simp [Cx.setBox]
  · intro b hb; simp [bl, Cx.setBox] at hb; exact hb.symm

/-- A new row. -/
theorem Mem.newRow {n0 : Nat} {w0 : Base} {c : Cx} {ρ : Nat → AV} {L : Lk} {nenv : Nat} {w : World} (hm : Mem n0 w0 c ρ L nenv w) (hn0 : n0 ≤ w.heap.size)
    {i : Nat} (hid : L i = none) (e : SE) (xs : List AV) (cap sz : Nat) (vs : List Value) (T : TypeId) (he : den ρ e = .sl xs) (hwf : e.wf nenv L.dom = true) (hcap : xs.length ≤ cap) (hlen : cap * sz ≤ vs.length)
    (hsz : ∀ x ∈ xs, x.cells.length = sz) (hr : Rvs c (AV.flat xs) (vs.take (xs.length * sz))) :
    Mem n0 w0 (c.seth i (.slice (some ⟨w.heap.size, 0, none⟩) xs.length cap)) ρ (L.upd i (.row sz e)) nenv (w.alloc (.cells ⟨vs⟩ T)) := by
  have hk : c.Keeps L.dom (c.seth i (.slice (some ⟨w.heap.size, 0, none⟩) xs.length cap)) := c.seth_keeps hid
  refine hm.new _ i hid (.row sz e) hk rfl rfl (SE.wf_mono (Nat.le_refl _) (Lk.dom_upd L i _) hwf) ?_ ?_ hn0
  · refine ⟨xs, he, ?_⟩
    simp only [Cx.seth, if_true]
    have hu : AV.underAll L.dom xs = true := by have := den_under hm.pure e hwf; rwa [he] at this
    rcases Nat.eq_zero_or_pos cap with h0 | h0
    · subst h0
      have hx : xs = [] := List.eq_nil_of_length_eq_zero (by omega)
      subst hx
      exact .zero _
    · refine .row w.heap.size 0 cap vs T xs h0 (World.alloc_heap_new w _) hcap (by omega) hsz ?_
      rw [List.drop_zero]
      exact Rvs_keeps hk hr (by rw [AV.under_flat]; exact hu)
  · intro b hb
    simp only [bl, Cx.seth, hdrBlock, if_true] at hb
    split at hb
    · cases hb
    · simpa using hb.symm

/-- A row without room. -/
theorem Mem.noRow {n0 : Nat} (sz : Nat) {w0 : Base} {c : Cx} {ρ : Nat → AV} {L : Lk} {nenv : Nat} {w : World} (hm : Mem n0 w0 c ρ L nenv w) {i : Nat} (hid : L i = none) {v : Value} (hv : v = .slice none 0 0 ∨ ∃ ad, v = .slice (some ad) 0 0) :
    Mem n0 w0 (c.seth i v) ρ (L.upd i (.row sz .nils)) nenv w := by
  have hk : c.Keeps L.dom (c.seth i v) := c.seth_keeps hid
  refine hm.step i (.row sz .nils) (Nat.le_refl _) hk (Agree.refl _ _) hm.pure ⟨hm.imm.I, hm.imm.M⟩ hm.immlt (Nat.le_refl _) hm.below hm.old rfl ?_ (fun _ _ _ _ _ _ => rfl) ?_ (fun j o b _ => hm.disj j o b)
  · refine ⟨[], rfl, ?_⟩
    simp only [Cx.seth, if_true]
    rcases hv with rfl | ⟨ad, rfl⟩
    · exact .nil
    · exact .zero ad
  · intro b hb
    simp only [bl, Cx.seth, if_true] at hb
    rcases hv with rfl | ⟨ad, rfl⟩ <;> simp [hdrBlock] at hb

/-- A draw. -/
theorem Mem.draw {n0 : Nat} {w0 : Base} {c : Cx} {ρ : Nat → AV} {L : Lk} {nenv : Nat} {w : World} (hm : Mem n0 w0 c ρ L nenv w) (d : Nat) : Mem n0 w0 c ρ L nenv { w with drawn := d } := by
  refine ⟨⟨hm.imm.I, hm.imm.M⟩, hm.pure, hm.wf, ?_, hm.dist, hm.fresh, hm.disj, hm.immlt, ⟨hm.below.os, hm.below.tape, hm.below.output, hm.below.size, hm.below.block⟩, hm.old⟩
  intro i o hl
  exact (hm.ok i o hl).keeps (Cx.Keeps.refl L.dom c) (Lk.dom_of hl) hm.pure (Agree.refl nenv ρ) (hm.wf i o hl) (fun _ _ => rfl)

/-- What holds of all own things in one world holds in another in which no own block and no immutable one has turned, where more may be immutable. -/
theorem Mem.later {n0 : Nat} {w0 : Base} {c c' : Cx} {ρ ρ' : Nat → AV} {L : Lk} {nenv nenv' : Nat} {w w' : World} (hm : Mem n0 w0 c ρ L nenv w) (hnenv : nenv ≤ nenv')
    (hb : Below w.heap.size w w') (hn0 : n0 ≤ w.heap.size) (hc : c.Keeps L.dom c') (himm : Imm c' w')
    (hnew : ∀ b, b < w.heap.size → (∀ off v, c'.I b off = some v → c.I b off = some v) ∧ (∀ o, c'.M b = some o → c.M b = some o))
    (hlt : ∀ b, b ≥ w'.heap.size → (∀ off v, c'.I b off ≠ some v) ∧ (∀ ob, c'.M b ≠ some ob)) (ha : Agree nenv ρ ρ') (hρ : ∀ i, (ρ' i).pure = true) :
    Mem n0 w0 c' ρ' L nenv' w' := by
  refine ⟨himm, hρ, fun i o hl => OS.wf_mono hnenv (fun _ h => h) (hm.wf i o hl), ?_, ?_, ?_, ?_, hlt, hm.below.trans (hb.mono hn0),
    fun b hb => ⟨fun off v h => (hm.old b hb).1 off v ((hnew b (by omega)).1 off v h), fun ob h => (hm.old b hb).2 ob ((hnew b (by omega)).2 ob h)⟩⟩
  · intro i o hl
    exact (hm.ok i o hl).keeps hc (Lk.dom_of hl) hm.pure ha (hm.wf i o hl) (fun b hbb => hb.block b (hm.fresh i o b hl hbb).2)
  · intro i j oi oj b hi hj bi bj
    rw [bl_keeps hc (Lk.dom_of hi)] at bi
    rw [bl_keeps hc (Lk.dom_of hj)] at bj
    exact hm.dist i j oi oj b hi hj bi bj
  · intro i o b hl hbb
    rw [bl_keeps hc (Lk.dom_of hl)] at hbb
    have := hm.fresh i o b hl hbb
    exact ⟨this.1, Nat.lt_of_lt_of_le this.2 hb.size⟩
  · intro i o b hl hbb
    rw [bl_keeps hc (Lk.dom_of hl)] at hbb
    have hlt2 := (hm.fresh i o b hl hbb).2
    have hd := hm.disj i o b hl hbb
    exact ⟨fun off v h => hd.1 off v ((hnew b hlt2).1 off v h), fun ob h => hd.2 ob ((hnew b hlt2).2 ob h)⟩

/-! ### Stores -/
theorem heap_setCell_self {w : World} {b off : Nat} {vs : List Value} {T : TypeId} {fr : Nat × Nat} (h : w.heap[b]? = some (.cells ⟨vs⟩ T fr)) (u : Value) :
    (w.setCell ⟨b, off, none⟩ u).heap[b]? = some (.cells ⟨vs.set off u⟩ T fr) := by
  have hlt : b < w.heap.size := (Array.getElem?_eq_some_iff.1 h).1
  have he : w.heap[b] = .cells ⟨vs⟩ T fr := by simpa [Array.getElem?_eq_getElem hlt] using h
  simp [World.setCell, Array.getElem_modify, hlt, he]

/-- Cells stored side by side into a block that is known. -/
theorem run_storeCells {P : Program} : ∀ (us : List Value) (w : World) (b o i : Nat) (vs : List Value) (T : TypeId), w.heap[b]? = some (.cells ⟨vs⟩ T (0, 0)) → o + i + us.length ≤ vs.length → (∀ u ∈ us, u.oneCell' = true) →
    ∃ w', (storeCells ⟨b, o, none⟩ us i).run P w = .ok () w' ∧ w'.heap[b]? = some (.cells ⟨putL vs (o + i) us⟩ T (0, 0)) ∧ (∀ k, k ≠ b → w'.heap[k]? = w.heap[k]?) ∧ w'.heap.size = w.heap.size ∧
      w'.os = w.os ∧ w'.tape = w.tape ∧ w'.output = w.output := by
  intro us
  induction us with
  | nil =>
    intro w b o i vs T h _ _
    exact ⟨w, rfl, by simpa [putL] using h, fun _ _ => rfl, rfl, rfl, rfl, rfl⟩
  | cons u us ih =>
    intro w b o i vs T h hlen h1
    simp only [List.length_cons] at hlen
    have hc : w.cell? ⟨b, o + i, none⟩ = some (vs.getD (o + i) undef) := by
      rw [cell_of_row w b (o + i) _ T _ h]; simp [show o + i < vs.length from by omega]
    have hf : w.frozen? ⟨b, o + i, none⟩ = false := frozen_of_row w b (o + i) _ T h
    have hs : (store ((⟨b, o, none⟩ : Addr).add i) u).run P w = .ok () (w.setCell ⟨b, o + i, none⟩ u) := by
      rw [Addr.add_eq, run_store P w _ u _ (h1 u (by simp)), hc]
      simp [hf]
    have h2 := heap_setCell_self (off := o + i) h u
    obtain ⟨w', r1, r2, r3, r4, r5, r6, r7⟩ := ih (w.setCell ⟨b, o + i, none⟩ u) b o (i + 1) (vs.set (o + i) u) T h2 (by simp; omega) (fun x hx => h1 x (by simp [hx]))
    refine ⟨w', ?_, ?_, ?_, ?_, ?_, ?_, ?_⟩
    · simp only [storeCells, Sem.run_bind, hs, Result.andThen_ok, r1]
    · rw [r2]
      congr 2
      have hl : o + i < vs.length := by omega
      have : putL (vs.set (o + i) u) (o + (i + 1)) us = putL vs (o + i) (u :: us) := by
        unfold putL
        rw [List.set_eq_take_append_cons_drop, if_pos hl]
        have hlen2 : (List.take (o + i) vs).length = o + i := by simp; omega
        have e1 : (List.take (o + i) vs ++ u :: List.drop (o + i + 1) vs).take (o + (i + 1)) = List.take (o + i) vs ++ [u] := by
          rw [List.take_append, hlen2, List.take_of_length_le (by omega), show o + (i + 1) - (o + i) = 1 from by omega]; simp
        have e2 : (List.take (o + i) vs ++ u :: List.drop (o + i + 1) vs).drop (o + (i + 1) + us.length) = vs.drop (o + i + (us.length + 1)) := by
          rw [List.drop_append, hlen2, List.drop_eq_nil_of_le (by omega), show o + (i + 1) + us.length - (o + i) = us.length + 1 from by omega]
          simp [List.drop_drop]; congr 1; omega
        rw [e1, e2]; simp
      rw [this]
    · intro k hk
      rw [r3 k hk]; exact Below.heap_setCell w ⟨b, o + i, none⟩ u k hk
    · rw [r4]; simp [World.setCell]
    · rw [r5]; rfl
    · rw [r6]; rfl
    · rw [r7]; rfl

theorem run_storeVar {P : Program} {t : TypeId} {n : Nat} {g : Bool} (ht : tsz P t = some (n, g)) {w : World} {b o : Nat} {v : Value} {vs : List Value} {T : TypeId} (hb : w.heap[b]? = some (.cells ⟨vs⟩ T (0, 0)))
    (hn : v.cells.size = n) (hlen : o + n ≤ vs.length) (h1 : ∀ u ∈ v.cells.toList, u.oneCell' = true) :
    ∃ w', (storeVar t ⟨b, o, none⟩ v).run P w = .ok () w' ∧ w'.heap[b]? = some (.cells ⟨putL vs o v.cells.toList⟩ T (0, 0)) ∧ (∀ k, k ≠ b → w'.heap[k]? = w.heap[k]?) ∧ w'.heap.size = w.heap.size ∧
      w'.os = w.os ∧ w'.tape = w.tape ∧ w'.output = w.output := by
  obtain ⟨w', r1, r2⟩ := run_storeCells (P := P) v.cells.toList w b o 0 vs T hb (by simp; omega) h1
  refine ⟨w', ?_, r2⟩
  simp only [storeVar, Sem.run_bind, (tsz_spec ht w).1, Result.andThen_ok, hn, ne_eq, not_true_eq_false, if_false]
  exact r1

/-- A step that turns one own block alone. -/
theorem Mem.turn {n0 : Nat} {w0 : Base} {c : Cx} {ρ : Nat → AV} {L : Lk} {nenv : Nat} {w w' : World} (hm : Mem n0 w0 c ρ L nenv w) {i : Nat} {o o' : OS} {b : Nat} (hl : L i = some o) (hb : bl c i o = some b) (hb' : bl c i o' = some b)
    (hwf : o'.wf nenv L.dom = true) (hok : OwnOk c ρ w' i o') (hother : ∀ k, k ≠ b → w'.heap[k]? = w.heap[k]?) (hsize : w'.heap.size = w.heap.size) (hos : w'.os = w.os) (htape : w'.tape = w.tape) (hout : w'.output = w.output) :
    Mem n0 w0 c ρ (L.upd i o') nenv w' := by
  have hfr := hm.fresh i o b hl hb
  have hdj := hm.disj i o b hl hb
  refine hm.step i o' (Nat.le_refl _) (Cx.Keeps.refl _ _) (Agree.refl _ _) hm.pure ?_ ?_ (by omega) ?_ hm.old (OS.wf_mono (Nat.le_refl _) (Lk.dom_upd L i _) hwf) hok ?_ ?_ (fun j o b _ => hm.disj j o b)
  · refine hm.imm.keeps rfl rfl (fun k hk => hother k ?_)
    rintro rfl
    rcases hk with ⟨off, v, h⟩ | ⟨ob, h⟩
    · exact hdj.1 off v h
    · exact hdj.2 ob h
  · intro k hk; exact hm.immlt k (by omega)
  · exact hm.below.trans ⟨hos, htape, hout, by omega, fun k hk => hother k (by omega)⟩
  · intro j oj bj hj hlj hbj
    refine hother bj ?_
    rintro rfl
    exact hj (hm.dist j i oj o bj hlj hl hbj hb)
  · intro b2 hb2
    rw [hb'] at hb2; simp only [Option.some.injEq] at hb2; subst hb2
    exact ⟨hfr.1, by omega, fun j oj hj hlj hbj => hj (hm.dist j i oj o b hlj hl hbj hb), hdj⟩

/-- A store into a variable of the call's own. -/
theorem Mem.storeBox {P : Program} {n0 : Nat} {w0 : Base} {c : Cx} {ρ : Nat → AV} {L : Lk} {nenv : Nat} {w : World} (hm : Mem n0 w0 c ρ L nenv w) {i off n : Nat} {g : Bool} {t : TypeId} {cs us : List SE} {v : Value}
    (hl : L i = some (.box cs)) (ht : tsz P t = some (n, g)) (hn : v.cells.size = n) (hlen : off + n ≤ cs.length) (h1 : ∀ u ∈ v.cells.toList, u.oneCell' = true)
    (hr : Rvs c (dens ρ us) v.cells.toList) (hwf : SE.wfs nenv L.dom us = true) :
    ∃ w', (Instr.storeAt t (.pointer (some ⟨c.β i, off, none⟩)) v).run P w = .ok () w' ∧ Mem n0 w0 c ρ (L.upd i (.box (putL cs off us))) nenv w' := by
  obtain ⟨vs, T, hb, hvs, hh⟩ := hm.ok i _ hl
  have hlv := hvs.length; rw [dens_length] at hlv
  obtain ⟨w', r1, r2, r3, r4, r5, r6, r7⟩ := run_storeVar (P := P) ht hb hn (o := off) (by omega) h1
  refine ⟨w', by simpa [Instr.storeAt, Instr.sureAddr] using r1, ?_⟩
  have hcw : SE.wfs nenv L.dom cs = true := hm.wf i _ hl
  refine hm.turn hl rfl rfl ?_ ?_ r3 r4 r5 r6 r7
  · show SE.wfs nenv L.dom (putL cs off us) = true
    have happ : ∀ (a b : List SE), SE.wfs nenv L.dom (a ++ b) = (SE.wfs nenv L.dom a && SE.wfs nenv L.dom b) := by
      intro a b
      induction a with
      | nil => simp [SE.wfs]
      | cons x a ih => simp [SE.wfs, ih, Bool.and_assoc]
    have hsub : ∀ (k : Nat) (a : List SE), SE.wfs nenv L.dom a = true → SE.wfs nenv L.dom (a.take k) = true ∧ SE.wfs nenv L.dom (a.drop k) = true := by
      intro k a ha
      rw [← List.take_append_drop k a, happ, Bool.and_eq_true] at ha
      exact ha
    simp only [putL, happ, hwf, (hsub _ _ hcw).1, (hsub _ _ hcw).2, Bool.and_self]
  · refine ⟨putL vs off v.cells.toList, T, r2, by rw [dens_put]; exact hvs.put hr off, ?_⟩
    have hsz : v.cells.toList.length = n := by simpa using hn
    have hl2 : (putL vs off v.cells.toList).length = vs.length := by simp [putL, hsz]; omega
    rw [hl2]; exact hh

end Go.Lb

namespace Go.Lb
open Go.RowKit

/-- The fence that lets all in, in a round of a loop's or in none. -/
def FW (ro : Option Nat) : Fence := { Fence.wide with round := ro }
@[simp] theorem FW_fn (ro : Option Nat) (f : FuncId) : (FW ro).fn f = True := rfl
@[simp] theorem FW_depth (ro : Option Nat) : (FW ro).depth = none := rfl
@[simp] theorem FW_round (ro : Option Nat) : (FW ro).round = ro := rfl
theorem FW_calls {ro : Option Nat} {n : Nat} {P : Program} {f : FuncId} {args : Array Value} {w : World} {R : Ending → World → Prop} (h : Calls P f args w R) : CallsIn (FW ro) n P f args w R :=
  (callsIn_wide (n := n)).2 h

theorem wpIn_run {P : Program} {ro : Option Nat} {n : Nat} {o : Oper} {a : Act} {w : World} {next : Act → World → Prop} {Q : Exit → Act → World → Prop} (hd : ∀ c, o.op ≠ .defer c)
    (h : o.uponIn (FW ro) n P a next Q ((execOp a.eval o).run P w)) : o.wpIn (FW ro) n P a w next Q :=
  ⟨fun _ _ => trivial, by rw [Oper.semAt_eq _ _ _ hd]; exact h⟩

theorem wpIn_value {P : Program} {ro : Option Nat} {n : Nat} {o : Oper} {a : Act} {w w' : World} {next : Act → World → Prop} {Q : Exit → Act → World → Prop} (hd : ∀ c, o.op ≠ .defer c) {v : Value}
    (hr : (execOp a.eval o).run P w = .ok (.value v) w') (h : next (a.put o.dst v) w') : o.wpIn (FW ro) n P a w next Q :=
  wpIn_run hd (by rw [hr]; exact h)

/-- Tables that the program's text lays, by their variables' numbers. -/
abbrev Glob := List (List SE)
def GlobOk (G : Glob) (c : Cx) : Prop := ∀ g es, G[g]? = some es → Rcells c g 0 (dens (fun _ => .undef) es)

/-- What a function comes to, of pure values, leaving all that was there. -/
def Contract (P : Program) (G : Glob) (f : FuncId) (args : List AV) (r : AV) : Prop :=
  r.pure = true ∧ ∀ (w : World) (c : Cx) (vs : List Value), Imm c w → (∀ b, b ≥ w.heap.size → (∀ off v, c.I b off ≠ some v) ∧ (∀ ob, c.M b ≠ some ob)) → GlobOk G c → Rvs c args vs →
    Calls P f ⟨vs⟩ w fun e w' => ∃ v c', e = .returned v ∧ c.Le c' ∧ Imm c' w' ∧ (∀ b, b ≥ w'.heap.size → (∀ off v, c'.I b off ≠ some v) ∧ (∀ ob, c'.M b ≠ some ob)) ∧
      (∀ b, b < w.heap.size → (∀ off v, c'.I b off = some v → c.I b off = some v) ∧ (∀ o, c'.M b = some o → c.M b = some o)) ∧ Rv c' r v ∧ Below w.heap.size w w'

inductive Node where
  | chk (pcs : List (SE × Bool)) (o : PF) (args : List SE)
  | call (n : Nat) (pcs : List (SE × Bool)) (f : Nat) (args : List SE) (borrow : Bool)
  deriving Inhabited, Repr

/-- The path's conditions hold. -/
def Holds (ρ : Nat → AV) (pcs : List (SE × Bool)) : Prop := ∀ x ∈ pcs, den ρ x.1 = .bool x.2
theorem Holds.nil (ρ : Nat → AV) : Holds ρ [] := fun _ h => by cases h
theorem Holds.cons {ρ : Nat → AV} {x : SE × Bool} {pcs : List (SE × Bool)} : Holds ρ (x :: pcs) ↔ den ρ x.1 = .bool x.2 ∧ Holds ρ pcs := by simp [Holds]

mutual
/-- No part of it lies in memory. -/
def AV.scalar : AV → Bool
  | .bool _ | .int _ _ | .nilp | .nilf => true
  | .agg cs | .tup cs => AV.scalars cs
  | _ => false
def AV.scalars : List AV → Bool
  | [] => true
  | a :: as => AV.scalar a && AV.scalars as
end

def NodeOk (P : Program) (G : Glob) (ρ : Nat → AV) : Node → Prop
  | .chk pcs o args => Holds ρ pcs → pok o (dens ρ args)
  | .call n pcs f args borrow => Holds ρ pcs → Contract P G f (dens ρ args) (ρ n) ∧ (borrow = true → (ρ n).scalar = true)

structure Ent where
  pcs : List (SE × Bool)
  se : SE
  deriving Inhabited, Repr

def findE : List (Nat × Ent) → Nat → Option Ent
  | [], _ => none
  | (j, e) :: r, i => if Nat.beq i j then some e else findE r i

def pcIn (p : SE × Bool) (pcs : List (SE × Bool)) : Bool := pcs.any fun q => (p.2 == q.2) && SE.beq p.1 q.1
def pcsIn (ps pcs : List (SE × Bool)) : Bool := ps.all fun p => pcIn p pcs
theorem pcsIn_holds {ρ : Nat → AV} {ps pcs : List (SE × Bool)} (h : pcsIn ps pcs = true) (hp : Holds ρ pcs) : Holds ρ ps := by
  intro x hx
  have h1 := List.all_eq_true.1 h x hx
  obtain ⟨q, hq, h2⟩ := List.any_eq_true.1 h1
  simp only [Bool.and_eq_true, beq_iff_eq] at h2
  rw [SE.beq_eq _ _ h2.2, h2.1]; exact hp q hq

/-- An operand under path conditions. -/
def evS (G : Glob) (slots : List (Nat × Ent)) (pcs : List (SE × Bool)) : Operand → Option SE
  | .tmp t => match findE slots t with
    | some e => if pcsIn e.pcs pcs then some e.se else none
    | none => none
  | .const v => seOf v
  | .func f => some (.clo f [] [])
  | .global g => (G[g]?).map fun es => .ref es 0

def pcsWf (n : Nat) (m : Nat → Bool) (pcs : List (SE × Bool)) : Bool := pcs.all fun p => p.1.wf n m

/-- A slot: as it denotes, where the conditions hold; else nothing. -/
structure SlotOk (c : Cx) (ρ : Nat → AV) (nenv : Nat) (D : Nat → Bool) (tmps : Array Value) (d : Nat) (e : Ent) : Prop where
  yes : Holds ρ e.pcs → ∃ v, tmps[d]? = some v ∧ Rv c (den ρ e.se) v
  no : ¬ Holds ρ e.pcs → tmps[d]? = some undef
  wf : e.se.wf nenv D = true ∧ pcsWf nenv D e.pcs = true

def SlotsOk (c : Cx) (ρ : Nat → AV) (nenv : Nat) (D : Nat → Bool) (tmps : Array Value) (slots : List (Nat × Ent)) : Prop :=
  ∀ d e, findE slots d = some e → SlotOk c ρ nenv D tmps d e

theorem GlobOk.keeps {G : Glob} {c c' : Cx} (h : GlobOk G c) (hc : c.Le c') (hG : ∀ (g : Nat) es, G[g]? = some es → SE.wfs 0 (fun _ => false) es = true) : GlobOk G c' := by
  intro g es hg
  have hk : c.Keeps (fun _ => false) c' := ⟨hc, fun _ h => Bool.noConfusion h, fun _ h => Bool.noConfusion h, fun _ h => Bool.noConfusion h⟩
  have := h g es hg
  have hu : AV.underAll (fun _ => false) (dens (fun _ => .undef) es) = true := dens_under (fun _ => rfl) es (hG g es hg)
  generalize dens (fun _ => .undef) es = as at this hu
  generalize (0 : Nat) = o at this ⊢
  induction as generalizing o with
  | nil => exact .nil _ _
  | cons a as ih =>
    cases this with
    | cons _ _ _ v _ h1 h2 h3 =>
      simp only [AV.underAll, Bool.and_eq_true] at hu
      exact .cons _ _ _ v _ (hc.I _ _ _ h1) (Rv_keeps hk h2 hu.1) (ih hu.2 _ h3)

theorem wf_seOf : ∀ (v : Value) (e : SE), seOf v = some e → ∀ (n : Nat) (m : Nat → Bool), e.wf n m = true := by
  have key : ∀ (k : Nat), (∀ (v : Value) (e : SE), SizeOf.sizeOf v ≤ k → seOf v = some e → ∀ (n : Nat) (m : Nat → Bool), e.wf n m = true) ∧ (∀ (vs : List Value) (es : List SE), SizeOf.sizeOf vs ≤ k → seOfs vs = some es → ∀ (n : Nat) (m : Nat → Bool), SE.wfs n m es = true) := by
    intro k
    induction k with
    | zero => exact ⟨fun v _ h => by cases v <;> simp at h, fun vs _ h => by cases vs <;> simp at h⟩
    | succ k ih =>
      refine ⟨fun v e hk h n m => ?_, fun vs es hk h n m => ?_⟩
      · unfold seOf at h
        split at h <;> try (simp only [Option.some.injEq] at h; subst h; rfl)
        · obtain ⟨es, h1, rfl⟩ := Option.map_eq_some_iff.1 h
          rename_i vs
          exact ih.2 vs es (by simp at hk; omega) h1 n m
        · cases h
      · cases vs with
        | nil => simp only [seOfs, Option.some.injEq] at h; subst h; rfl
        | cons v vs =>
          simp only [seOfs] at h
          split at h
          · rename_i e es' h1 h2
            simp only [Option.some.injEq] at h; subst h
            simp at hk
            simp only [SE.wfs, ih.1 v e (by omega) h1 n m, ih.2 vs es' (by omega) h2 n m, Bool.and_self]
          · cases h
  exact fun v e h => (key (SizeOf.sizeOf v)).1 v e (Nat.le_refl _) h

theorem evS_sound {G : Glob} {c : Cx} {ρ : Nat → AV} {nenv : Nat} {D : Nat → Bool} {a : Act} {slots : List (Nat × Ent)} {pcs : List (SE × Bool)} (hs : SlotsOk c ρ nenv D a.tmps slots) (hG : GlobOk G c)
    (hGw : ∀ (g : Nat) es, G[g]? = some es → SE.wfs 0 (fun _ => false) es = true) (hp : Holds ρ pcs) {x : Operand} {e : SE} (h : evS G slots pcs x = some e) : Rv c (den ρ e) (a.eval x) ∧ e.wf nenv D = true := by
  cases x with
  | tmp t =>
    simp only [evS] at h
    split at h
    · rename_i en hf
      split at h
      · rename_i hi
        simp only [Option.some.injEq] at h; subst h
        have hso := hs t en hf
        obtain ⟨v, hv, hr⟩ := hso.yes (pcsIn_holds hi hp)
        refine ⟨?_, hso.wf.1⟩
        simp only [Act.eval]
        rw [Array.getD_eq_getD_getElem?, hv]; exact hr
      · cases h
    · cases h
  | const v => exact ⟨seOf_sound c ρ v e h, wf_seOf v e h _ _⟩
  | func f => simp only [evS, Option.some.injEq] at h; subst h; exact ⟨.clo f [] [] [] [] .nil .nil, rfl⟩
  | global g =>
    simp only [evS, Option.map_eq_some_iff] at h
    obtain ⟨es, h1, rfl⟩ := h
    have hw := hGw g es h1
    refine ⟨?_, SE.wf_mono (Nat.zero_le _) (fun _ h => Bool.noConfusion h) (e := .ref es 0) hw⟩
    have he : dens ρ es = dens (fun _ => .undef) es := dens_agree (n := 0) (m := fun _ => false) (fun i hi => absurd hi (Nat.not_lt_zero _)) es hw
    simp only [den, he]
    exact Rv.ref _ g 0 0 (hG g es h1)

end Go.Lb

namespace Go.Lb
open Go.RowKit

abbrev Ev := Operand → Option SE

def cutSE (cs : List SE) (off n : Nat) (g : Bool) : Option SE :=
  match g with
  | true => if off + n ≤ cs.length then some (.agg ((cs.drop off).take n)) else none
  | false => if n = 1 then cs[off]? else none

def evAll (ev : Ev) : List Operand → Option (List SE)
  | [] => some []
  | x :: xs => match ev x, evAll ev xs with
    | some e, some es => some (e :: es)
    | _, _ => none

/-- A value with its one question. -/
def ask (o : PF) (args : List SE) : Option (SE × List Chk) := some (.app o args, [(o, args)])

def lookChain (key : SE) (k : IntKind) : List Int → List SE → SE → SE
  | x :: xs, v :: vs, z => .app .pick [.app (.bin .eql) [key, .int k x], v, lookChain key k xs vs z]
  | _, _, z => z

def sLoad (P : Program) (O : Lk) (T : TypeId) (x : SE) : Option (SE × List Chk) :=
  match tsz P T with
  | none => none
  | some (n, g) =>
    match x with
    | .ptr i off => match O i with
      | some (.box cs) => (cutSE cs off n g).map fun e => (e, [])
      | _ => none
    | .ptrx i base idx len sz off => match O i with
      | some (.box cs) => ask (.aidx len sz (base + off) n g) [.agg cs, idx]
      | _ => none
    | .rptr i idx sz off => match O i with
      | some (.row sz' e) => if sz' = sz then ask (.rowget sz off n g) [e, idx] else none
      | _ => none
    | e => ask (.eload n g) [e]

def sBin (P : Program) (op : BinOp) (t : TypeId) (x y : SE) : Option (SE × List Chk) :=
  match P.underlying t with
  | some (.int _) => ask (.bin op) [x, y]
  | some .bool => match op with
    | .eql => ask (.eqb false) [x, y]
    | .neq => ask (.eqb true) [x, y]
    | _ => none
  | some (.func _ _ _) => match op, y with
    | .eql, .nilf => ask (.eqf false) [x, .nilf]
    | .neq, .nilf => ask (.eqf true) [x, .nilf]
    | _, _ => none
  | _ => match tsz P t, flatKinds P 64 t, P.eqGuardType P.depth t with
    | some (_, true), some ks, false => match op with
      | .eql => ask (.eqa ks false) [x, y]
      | .neq => ask (.eqa ks true) [x, y]
      | _ => none
    | _, _, _ => none

def sFieldAddr (P : Program) (T : TypeId) (x : SE) (i : Nat) : Option (SE × List Chk) :=
  match P.underlying T with
  | some (.struct fs) => match fs[i]? with
    | none => none
    | some f => match tsz P f.type with
      | some (n + 1, _) => match x with
        | .ptr j off => some (.ptr j (off + f.offset), [])
        | .ptrx j base idx len sz off => some (.ptrx j base idx len sz (off + f.offset), [(.inr len, [idx])])
        | .rptr j idx sz off => some (.rptr j idx sz (off + f.offset), [(.inr 4294967296, [idx])])
        | e => ask (.eoff f.offset) [e]
      | _ => none
  | _ => none

def sIndexAddr (P : Program) (O : Lk) (T : TypeId) (x idx : SE) : Option (SE × List Chk) :=
  match P.underlying T with
  | some (.slice e) => match tsz P e with
    | none => none
    | some (sz, _) => match x with
      | .row i => match O i with
        | some (.row sz' c) => if sz' = sz then some (.rptr i idx sz 0, [(.eidx sz, [c, idx])]) else none
        | _ => none
      | e => ask (.eidx sz) [e, idx]
  | some (.array len e) => match tsz P e with
    | none => none
    | some (sz, _) => match x, idx with
      | .ptr i off, .int _ k => if 0 ≤ k ∧ k < len then some (.ptr i (off + k.toNat * sz), []) else none
      | .ptr i off, idx => some (.ptrx i off idx len sz 0, [(.inr len, [idx])])
      | e, idx => ask (.eaidx len sz) [e, idx]
  | _ => none

def sLen (P : Program) (O : Lk) (t : TypeId) (x : Option SE) : Option (SE × List Chk) :=
  match P.underlying t with
  | some (.slice _) => match x with
    | some (.row i) => match O i with
      | some (.row _ c) => ask .len [c]
      | _ => none
    | some e => ask .len [e]
    | none => none
  | some (.array n _) => some (.int .i64 n, [])
  | _ => none

def sSlice (P : Program) (T : TypeId) (x : SE) (lo hi : Option SE) : Option (SE × List Chk) :=
  match P.underlying T with
  | some (.slice e) => match tsz P e with
    | some (sz, _) => match x with
      | .row _ => none
      | e => some (.app (.slice lo.isSome hi.isSome) (e :: (lo.toList ++ hi.toList)), [(.szs sz, [e]), (.slice lo.isSome hi.isSome, e :: (lo.toList ++ hi.toList))])
    | none => none
  | _ => none

/-- Cells by elements. -/
def chunkSE (sz : Nat) (g : Bool) : Nat → List SE → List SE
  | 0, _ => []
  | k + 1, cs => (match g with
    | true => .agg (cs.take sz)
    | false => cs.headD .undef) :: chunkSE sz g k (cs.drop sz)
def isOnes : List SE → List Chk
  | [] => []
  | e :: es => (.isOne, [e]) :: isOnes es
/-- A slice of an array that stays as it is. -/
def sSliceA (P : Program) (T : TypeId) (x : SE) (lo hi : Option SE) : Option (SE × List Chk) :=
  match P.underlying T with
  | some (.array len e) => match tsz P e with
    | some (sz, g) => match x with
      | .ref cs off => if off + len * sz ≤ cs.length ∧ (g = false → sz = 1) then
          some (.app (.slice lo.isSome hi.isSome) (.app .lst (chunkSE sz g len (cs.drop off)) :: (lo.toList ++ hi.toList)),
            (.slice lo.isSome hi.isSome, .app .lst (chunkSE sz g len (cs.drop off)) :: (lo.toList ++ hi.toList)) :: (match g with
              | true => []
              | false => isOnes (chunkSE sz g len (cs.drop off)))) else none
      | _ => none
    | none => none
  | _ => none

variable {P : Program} {c : Cx} {ρ : Nat → AV} {w : World}

theorem isOnes_all {es : List SE} (h : Chks ρ (isOnes es)) : ∀ e ∈ es, AV.one (den ρ e) = true := by
  induction es with
  | nil => intro e he; cases he
  | cons x es ih =>
    intro e he
    rcases List.mem_cons.1 he with rfl | he
    · have := h (.isOne, [e]) (by simp [isOnes])
      simpa [dens, pok] using this
    · exact ih (fun y hy => h y (by simp [isOnes, hy])) e he

theorem chunk_flat {sz : Nat} {g : Bool} (hg : g = false → sz = 1) : ∀ (len : Nat) (cs : List SE), len * sz ≤ cs.length → (g = false → ∀ e ∈ chunkSE sz g len cs, AV.one (den ρ e) = true) →
    AV.flat (dens ρ (chunkSE sz g len cs)) = (dens ρ cs).take (len * sz) ∧ (∀ x ∈ dens ρ (chunkSE sz g len cs), x.cells.length = sz) ∧ (dens ρ (chunkSE sz g len cs)).length = len
  | 0, cs, _, _ => ⟨by simp [chunkSE, AV.flat], by simp [chunkSE], rfl⟩
  | k + 1, cs, h, h1 => by
    have hk : (k + 1) * sz = sz + k * sz := by rw [Nat.add_mul]; omega
    have ih := chunk_flat hg k (cs.drop sz) (by simp; omega) (fun hf e he => h1 hf e (by simp [chunkSE, he]))
    simp only [chunkSE, dens, flat_cons, List.length_cons]
    rw [ih.1, ih.2.2]
    have hd : dens ρ (cs.drop sz) = (dens ρ cs).drop sz := by simp [dens_map]
    have ht : (dens ρ cs).take ((k + 1) * sz) = (dens ρ cs).take sz ++ ((dens ρ cs).drop sz).take (k * sz) := by
      rw [hk, List.take_add]
    cases g with
    | true =>
      refine ⟨?_, ?_, rfl⟩
      · rw [ht, hd]; simp [dens_map]
      · intro x hx
        rcases List.mem_cons.1 hx with rfl | hx
        · simp [dens_map]; omega
        · exact ih.2.1 x hx
    | false =>
      have hs := hg rfl
      subst hs
      have ho := h1 rfl (cs.headD .undef) (by simp [chunkSE])
      have hc : (den ρ (cs.headD .undef)).cells = [den ρ (cs.headD .undef)] := by
        revert ho
        cases den ρ (cs.headD .undef) <;> simp
      refine ⟨?_, ?_, rfl⟩
      · rw [ht, hd]
        simp only [hc]
        cases cs with
        | nil => simp at h
        | cons y ys => simp [dens_map]
      · intro x hx
        rcases List.mem_cons.1 hx with rfl | hx
        · simp only [hc]; rfl
        · exact ih.2.1 x hx

theorem sSliceA_sound {T : TypeId} {x e : SE} {lo hi : Option SE} {ck : List Chk} {v : Value} {vl vh : Option Value} (hx : Rv c (den ρ x) v) (hl : ∀ y, lo = some y → ∃ u, vl = some u ∧ Rv c (den ρ y) u) (hl0 : lo = none → vl = none)
    (hh : ∀ y, hi = some y → ∃ u, vh = some u ∧ Rv c (den ρ y) u) (hh0 : hi = none → vh = none) (h : sSliceA P T x lo hi = some (e, ck)) (hck : Chks ρ ck) : Runs P w c (den ρ e) (Instr.sliceAt T v vl vh none) := by
  unfold sSliceA at h
  split at h
  case h_2 => cases h
  rename_i len el ht
  split at h
  case h_2 => cases h
  rename_i sz g hs
  split at h
  case h_2 => cases h
  rename_i cs off
  split at h
  case isFalse => cases h
  rename_i hc
  simp only [Option.some.injEq, Prod.mk.injEq] at h
  obtain ⟨rfl, rfl⟩ := h
  have hone : g = false → ∀ e ∈ chunkSE sz g len (cs.drop off), AV.one (den ρ e) = true := by
    intro hg
    subst hg
    exact isOnes_all (fun y hy => hck y (List.mem_cons_of_mem _ hy))
  have hfl := chunk_flat (ρ := ρ) hc.2 len (cs.drop off) (by simp; omega) hone
  have hok := hck _ (List.mem_cons_self ..)
  simp only [dens, dens_append, den, pv_lst] at hok ⊢
  generalize dens ρ (chunkSE sz g len (cs.drop off)) = es at hfl hok ⊢
  simp only [den] at hx
  cases hx with
  | ref _ b o _ hr =>
    have hcells : Rcells c b (o + off) (AV.flat es) := by
      rw [hfl.1]
      have hd : dens ρ (cs.drop off) = (dens ρ cs).drop off := by simp [dens_map]
      rw [hd]
      exact (hr.drop off).take _
    have main : ∀ (l h' : Nat), l ≤ h' → h' ≤ es.length → ∀ vl vh, (∀ y, vl = some y → ∃ k, y = .int k l) → (vl = none → l = 0) → (∀ y, vh = some y → ∃ k, y = .int k h') → (vh = none → h' = es.length) →
        Runs P w c (.sl ((es.take h').drop l)) (Instr.sliceAt T (.pointer (some ⟨b, o + off, none⟩)) vl vh none) := by
      intro l h' hle hlen vl vh e1 e2 e3 e4
      have hb : (Instr.sliceBounds false len len vl vh none).run P w = .ok (l, h', len) w := by
        have hlen' := hfl.2.2
        cases vh with
        | none =>
          have := e4 rfl; subst this
          cases vl with
          | none => have := e2 rfl; subst this; simp [Instr.sliceBounds, hlen']
          | some y => obtain ⟨k, rfl⟩ := e1 y rfl; rw [hlen'] at hle ⊢; simp [Instr.sliceBounds, run_sliceBound, hle]
        | some y =>
          obtain ⟨k, rfl⟩ := e3 y rfl
          have hx : ((h' : Nat) : Int) ≤ len := by omega
          cases vl with
          | none => have := e2 rfl; subst this; simp [Instr.sliceBounds, run_sliceBound, hx]
          | some y => obtain ⟨k, rfl⟩ := e1 y rfl; simp [Instr.sliceBounds, run_sliceBound, hx, hle]
      refine ⟨_, ?_, Rv_slice_cut (cap := len) (by omega) hfl.2.1 hcells hle hlen⟩
      simp only [Instr.sliceAt, Instr.sureAddr, Sem.run_bind, run_underlying ht, Result.andThen_ok, hb, (tsz_spec hs w).1, Sem.run_pure, Addr.add_eq]
      by_cases hc : len = l <;> simp [hc]
    have nat : ∀ (i : Int), 0 ≤ i → ∃ n : Nat, i = n := fun i h => ⟨i.toNat, by omega⟩
    cases lo with
    | none =>
      have v1 := hl0 rfl; subst v1
      cases hi with
      | none =>
        have v2 := hh0 rfl; subst v2
        simpa [pv] using main 0 es.length (by omega) (by omega) none none (by simp) (by simp) (by simp) (by simp)
      | some x =>
        obtain ⟨y, rfl, hy⟩ := hh _ rfl
        simp only [Option.toList, Option.isSome, List.nil_append, dens] at hok ⊢
        generalize den ρ x = xx at hok hy ⊢
        cases xx <;> simp [pok] at hok
        rename_i k i
        obtain ⟨n, rfl⟩ := nat i hok.1
        cases hy
        simpa [pv] using main 0 n (by omega) (by omega) none (some (.int k n)) (by simp) (by simp) (fun y hy => ⟨k, by simpa using hy.symm⟩) (by simp)
    | some x =>
      obtain ⟨y, rfl, hy⟩ := hl _ rfl
      cases hi with
      | none =>
        have v2 := hh0 rfl; subst v2
        simp only [Option.toList, Option.isSome, List.append_nil, dens] at hok ⊢
        generalize den ρ x = xx at hok hy ⊢
        cases xx <;> simp [pok] at hok
        rename_i k i
        obtain ⟨n, rfl⟩ := nat i hok.1
        cases hy
        simpa [pv] using main n es.length (by omega) (by omega) (some (.int k n)) none (fun y hy => ⟨k, by simpa using hy.symm⟩) (by simp) (by simp) (by simp)
      | some z =>
        obtain ⟨y', rfl, hy'⟩ := hh _ rfl
        simp only [Option.toList, Option.isSome, List.cons_append, List.nil_append, dens] at hok ⊢
        generalize den ρ x = xx at hok hy ⊢
        generalize den ρ z = zz at hok hy' ⊢
        cases xx <;> cases zz <;> simp [pok] at hok
        rename_i k i k' j
        obtain ⟨n, rfl⟩ := nat i hok.1
        obtain ⟨m, rfl⟩ := nat j (by omega)
        cases hy; cases hy'
        simpa [pv] using main n m (by omega) (by omega) (some (.int k n)) (some (.int k' m)) (fun y hy => ⟨k, by simpa using hy.symm⟩) (by simp) (fun y hy => ⟨k', by simpa using hy.symm⟩) (by simp)

theorem cutSE_sound {cs : List SE} {vs : List Value} {off n : Nat} {g : Bool} {e : SE} (h : cutSE cs off n g = some e) (hr : Rvs c (dens ρ cs) vs) :
    den ρ e = AV.cut (dens ρ cs) off n g ∧ AV.cutOk (dens ρ cs) off n g := by
  unfold cutSE at h
  cases g with
  | true =>
    simp only at h
    split at h
    · rename_i hle
      simp only [Option.some.injEq] at h; subst h
      refine ⟨by simp [dens_map, List.map_take, List.map_drop], by simpa [dens_length] using hle⟩
    · cases h
  | false =>
    simp only at h
    split at h
    · rename_i hn
      refine ⟨?_, ?_, hn⟩
      · have := dens_getElem? ρ cs off
        rw [h] at this
        simp only [AV.cut, List.getD_eq_getElem?_getD, this]; rfl
      · have hlt := (List.getElem?_eq_some_iff.1 h).1
        simpa [dens_length] using hlt
    · cases h

theorem Chks.one {ρ : Nat → AV} {o : PF} {args : List SE} (h : Chks ρ [(o, args)]) : pok o (dens ρ args) := h (o, args) (by simp)

theorem run_row_get {t : TypeId} {n sz off : Nat} {g : Bool} (ht : tsz P t = some (n, g)) {i : Nat} {xs : List AV} {k : Nat} (hrow : RowOk c w sz (c.h i) xs) {v : Value} (hv : Rv c (.rptr i k sz off) v) (hk : k < xs.length)
    (hsz : (xs.getD k .undef).cells.length = sz) (hok : AV.cutOk (xs.getD k .undef).cells off n g) : ∃ u, (Instr.loadAt t v).run P w = .ok u w ∧ Rv c (AV.cut (xs.getD k .undef).cells off n g) u := by
  cases hv with
  | rptr _ _ _ _ b o m cap hh =>
    rw [hh] at hrow
    cases hrow with
    | zero => simp at hk
    | row _ _ _ vs T _ h0 h1 h2 h3 h4 h5 =>
      have hd : Rvs c (xs.getD k .undef).cells (((vs.drop o).take (xs.length * sz)).drop (k * sz) |>.take sz) := by
        have h6 := (h5.drop (k * sz)).take sz
        rw [flat_drop h4, List.drop_eq_getElem_cons hk, flat_cons] at h6
        have hl : (xs[k]).cells.length = sz := h4 _ (by simp)
        rw [List.take_append_of_le_length (by omega), List.take_of_length_le (by omega)] at h6
        simpa [List.getD_eq_getElem?_getD, List.getElem?_eq_getElem hk] using h6
      have hlen : (k + 1) * sz ≤ xs.length * sz := Nat.mul_le_mul_right _ hk
      have hcell : ∀ j u, (((vs.drop o).take (xs.length * sz)).drop (k * sz) |>.take sz)[j]? = some u → w.cell? (Addr.add ⟨b, o + k * sz, none⟩ j) = some u := by
        intro j u hj
        rw [Addr.add_eq, cell_of_row w b _ _ T _ h1]
        rw [List.getElem?_take] at hj
        split at hj
        · rw [List.getElem?_drop, List.getElem?_take] at hj
          split at hj
          · rw [List.getElem?_drop] at hj
            simp only [List.getElem?_toArray]
            rw [← hj]; congr 1; omega
          · cases hj
        · cases hj
      obtain ⟨u, r1, r2⟩ := run_loadVar (P := P) ht hd hcell rfl off hok
      exact ⟨u, by simpa [Instr.loadAt, Instr.sureAddr] using r1, r2⟩

theorem sLoad_sound {n0 : Nat} {w0 : Base} {O : Lk} {nenv : Nat} (hm : Mem n0 w0 c ρ O nenv w) {T : TypeId} {x e : SE} {ck : List Chk} {v : Value} (hx : Rv c (den ρ x) v) (h : sLoad P O T x = some (e, ck)) (hck : Chks ρ ck) :
    Runs P w c (den ρ e) (Instr.loadAt T v) := by
  unfold sLoad at h
  split at h
  · cases h
  · rename_i n g ht
    split at h
    · rename_i i off
      split at h
      · rename_i cs hl
        simp only [Option.map_eq_some_iff, Prod.mk.injEq] at h
        obtain ⟨e', h1, rfl, rfl⟩ := h
        obtain ⟨vs, T', hb, hvs, hh⟩ := hm.ok i _ hl
        obtain ⟨d1, d2⟩ := cutSE_sound h1 hvs
        simp only [den] at hx
        cases hx
        obtain ⟨u, r1, r2⟩ := run_loadVar (P := P) (w := w) (a := ⟨c.β i, 0, none⟩) ht hvs (fun j u hj => by
          rw [Addr.add_eq, cell_of_row w _ _ _ T' _ hb]; simpa using hj) rfl off d2
        refine ⟨u, by simpa [Instr.loadAt, Instr.sureAddr] using r1, by rw [d1]; exact r2⟩
      · cases h
    · rename_i i base idx len sz off
      split at h
      · rename_i cs hl
        simp only [ask, Option.some.injEq, Prod.mk.injEq] at h
        obtain ⟨rfl, rfl⟩ := h
        have hk := hck.one
        obtain ⟨vs, T', hb, hvs, hh⟩ := hm.ok i _ hl
        simp only [dens, den] at hk hx ⊢
        cases hi : den ρ idx with
        | int k j =>
          rw [hi] at hk hx
          simp only [pok] at hk
          simp only [denIdx] at hx
          cases hx
          obtain ⟨u, r1, r2⟩ := run_loadVar (P := P) (w := w) (a := ⟨c.β i, 0, none⟩) ht hvs (fun j u hj => by
            rw [Addr.add_eq, cell_of_row w _ _ _ T' _ hb]; simpa using hj) rfl (j.toNat * sz + (base + off)) hk.2.2
          refine ⟨u, ?_, r2⟩
          rw [show (0 : Nat) + (j.toNat * sz + (base + off)) = base + j.toNat * sz + off from by omega] at r1
          simpa [Instr.loadAt, Instr.sureAddr] using r1
        | _ => rw [hi] at hk; simp [pok] at hk
      · cases h
    · rename_i i idx sz off
      split at h
      · rename_i sz' e' hl
        split at h
        case isFalse => cases h
        rename_i hsz
        subst hsz
        simp only [ask, Option.some.injEq, Prod.mk.injEq] at h
        obtain ⟨rfl, rfl⟩ := h
        have hk := hck.one
        obtain ⟨xs, he, hrow⟩ := hm.ok i _ hl
        simp only [dens, den, he] at hk hx ⊢
        cases hi : den ρ idx with
        | int k j =>
          rw [hi] at hk hx
          simp only [pok] at hk
          simp only [denIdx] at hx
          exact run_row_get ht hrow hx (by omega) hk.2.2.1 hk.2.2.2
        | _ => rw [hi] at hk; simp [pok] at hk
      · cases h
    · simp only [ask, Option.some.injEq, Prod.mk.injEq] at h
      obtain ⟨rfl, rfl⟩ := h
      have hk := hck.one
      simp only [dens, den] at hk ⊢
      exact run_eload ht hm.imm hx hk

theorem sBin_sound {op : BinOp} {t : TypeId} {x y e : SE} {ck : List Chk} {ox oy : Operand} {vx vy : Value} (hx : Rv c (den ρ x) vx) (hy : Rv c (den ρ y) vy) (h : sBin P op t x y = some (e, ck)) (hck : Chks ρ ck) :
    Runs P w c (den ρ e) (do eqGuard op t ox oy vx vy; binOp op t vx vy) := by
  unfold sBin at h
  split at h
  · simp only [ask, Option.some.injEq, Prod.mk.injEq] at h
    obtain ⟨rfl, rfl⟩ := h
    have hk := hck.one
    simp only [dens, den] at hk ⊢
    cases h1 : den ρ x with
    | int k m =>
      cases h2 : den ρ y with
      | int k' m' =>
        rw [h1, h2] at hk; rw [h1] at hx; rw [h2] at hy
        simp only [pok] at hk
        cases hx; cases hy
        exact run_bin hk
      | _ => rw [h1, h2] at hk; simp [pok] at hk
    | _ => rw [h1] at hk; simp [pok] at hk
  · rename_i hu
    have key : ∀ neg, Chks ρ [(.eqb neg, [x, y])] → Runs P w c (pv (.eqb neg) [den ρ x, den ρ y]) (do eqGuard (if neg then .neq else .eql) t ox oy vx vy; binOp (if neg then .neq else .eql) t vx vy) := by
      intro neg hck
      have hk := hck.one
      simp only [dens] at hk
      cases h1 : den ρ x with
      | bool a =>
        cases h2 : den ρ y with
        | bool b =>
          rw [h1] at hx; rw [h2] at hy
          cases hx; cases hy
          exact run_eqb neg hu
        | _ => rw [h1, h2] at hk; simp [pok] at hk
      | _ => rw [h1] at hk; simp [pok] at hk
    split at h
    · simp only [ask, Option.some.injEq, Prod.mk.injEq] at h
      obtain ⟨rfl, rfl⟩ := h
      exact key false hck
    · simp only [ask, Option.some.injEq, Prod.mk.injEq] at h
      obtain ⟨rfl, rfl⟩ := h
      exact key true hck
    · cases h
  · rename_i hu
    split at h
    · simp only [ask, Option.some.injEq, Prod.mk.injEq] at h
      obtain ⟨rfl, rfl⟩ := h
      have hk := hck.one
      simp only [dens, den] at hk hy ⊢
      exact run_eqf (neg := false) hu hx hy hk
    · simp only [ask, Option.some.injEq, Prod.mk.injEq] at h
      obtain ⟨rfl, rfl⟩ := h
      have hk := hck.one
      simp only [dens, den] at hk hy ⊢
      exact run_eqf (neg := true) hu hx hy hk
    · cases h
  · split at h
    · rename_i nsz ks ht hf hg
      have key : ∀ neg, Chks ρ [(.eqa ks neg, [x, y])] → Runs P w c (pv (.eqa ks neg) [den ρ x, den ρ y]) (do eqGuard (if neg then .neq else .eql) t ox oy vx vy; binOp (if neg then .neq else .eql) t vx vy) := by
        intro neg hck
        have hk := hck.one
        simp only [dens] at hk
        cases h1 : den ρ x with
        | agg xs =>
          cases h2 : den ρ y with
          | agg ys =>
            rw [h1] at hx; rw [h2] at hy; rw [h1, h2] at hk
            simp only [pok] at hk
            exact run_eqa neg ht hf hg hx hy hk.1 hk.2
          | _ => rw [h1, h2] at hk; simp [pok] at hk
        | _ => rw [h1] at hk; simp [pok] at hk
      split at h
      · simp only [ask, Option.some.injEq, Prod.mk.injEq] at h
        obtain ⟨rfl, rfl⟩ := h
        exact key false hck
      · simp only [ask, Option.some.injEq, Prod.mk.injEq] at h
        obtain ⟨rfl, rfl⟩ := h
        exact key true hck
      · cases h
    · cases h

theorem sFieldAddr_sound {T : TypeId} {x e : SE} {i : Nat} {ck : List Chk} {v : Value} (hx : Rv c (den ρ x) v) (h : sFieldAddr P T x i = some (e, ck)) (hck : Chks ρ ck) : Runs P w c (den ρ e) (Instr.fieldAt T v i) := by
  unfold sFieldAddr at h
  split at h
  · rename_i fs hs
    split at h
    · cases h
    · rename_i f hf
      split at h
      · rename_i n g ht
        split at h
        · simp only [Option.some.injEq, Prod.mk.injEq] at h
          obtain ⟨rfl, rfl⟩ := h
          simp only [den] at hx ⊢
          cases hx
          exact ⟨_, run_fieldAt hs hf ht (by omega) _ _, .ptr _ _⟩
        · rename_i j base idx len sz off
          simp only [Option.some.injEq, Prod.mk.injEq] at h
          obtain ⟨rfl, rfl⟩ := h
          have hk := hck.one
          simp only [dens, den] at hk hx ⊢
          cases hi : den ρ idx with
          | int k m =>
            rw [hi] at hx
            simp only [denIdx] at hx ⊢
            cases hx
            refine ⟨_, run_fieldAt hs hf ht (by omega) _ _, ?_⟩
            rw [show base + m.toNat * sz + off + f.offset = base + m.toNat * sz + (off + f.offset) from by omega]; exact .ptr _ _
          | _ => rw [hi] at hk; simp [pok] at hk
        · rename_i j idx sz off
          simp only [Option.some.injEq, Prod.mk.injEq] at h
          obtain ⟨rfl, rfl⟩ := h
          have hk := hck.one
          simp only [dens, den] at hk hx ⊢
          cases hi : den ρ idx with
          | int k m =>
            rw [hi] at hx
            simp only [denIdx] at hx ⊢
            cases hx with
            | rptr _ _ _ _ b o m' cap hh =>
              refine ⟨_, run_fieldAt hs hf ht (by omega) _ _, ?_⟩
              have := Rv.rptr j m.toNat sz (off + f.offset) b o m' cap hh
              rwa [← Nat.add_assoc] at this
          | _ => rw [hi] at hk; simp [pok] at hk
        · simp only [ask, Option.some.injEq, Prod.mk.injEq] at h
          obtain ⟨rfl, rfl⟩ := h
          have hk := hck.one
          simp only [dens, den] at hk ⊢
          exact run_fieldAt_pv hs hf ht (by omega) hx hk
      · cases h
  · cases h

theorem sIndexAddr_sound {n0 : Nat} {w0 : Base} {O : Lk} {nenv : Nat} (hm : Mem n0 w0 c ρ O nenv w) {T : TypeId} {x idx e : SE} {ck : List Chk} {v u : Value} (hx : Rv c (den ρ x) v) (hi : Rv c (den ρ idx) u)
    (h : sIndexAddr P O T x idx = some (e, ck)) (hck : Chks ρ ck) : Runs P w c (den ρ e) (Instr.indexAt T v u) := by
  unfold sIndexAddr at h
  split at h
  · rename_i el ht
    split at h
    · cases h
    · rename_i sz g hs
      split at h
      · rename_i i
        split at h
        · rename_i sz' cc hl
          split at h
          case isFalse => cases h
          rename_i hsz
          subst hsz
          simp only [Option.some.injEq, Prod.mk.injEq] at h
          obtain ⟨rfl, rfl⟩ := h
          have hk := hck.one
          obtain ⟨xs, he, hrow⟩ := hm.ok i _ hl
          simp only [dens, den, he] at hk hx ⊢
          cases hd : den ρ idx with
          | int k j =>
            rw [hd] at hk hi
            simp only [pok] at hk
            cases hi
            cases hx with
            | row _ a n cap hh =>
              rw [hh] at hrow
              cases hrow with
              | nil => simp at hk; omega
              | zero => simp at hk; omega
              | row b o _ vs T' _ h0 h1 h2 h3 h4 h5 =>
                refine ⟨_, run_indexAt_slice ht hs b o _ _ hk.1 hk.2.1, ?_⟩
                simp only [denIdx]
                have := Rv.rptr i j.toNat sz' 0 b o _ _ hh
                simpa using this
          | _ => rw [hd] at hk; simp [pok] at hk
        · cases h
      · simp only [ask, Option.some.injEq, Prod.mk.injEq] at h
        obtain ⟨rfl, rfl⟩ := h
        have hk := hck.one
        simp only [dens, den] at hk ⊢
        exact run_indexAt_slice_pv ht hs hx hi hk
  · rename_i len el ht
    split at h
    · cases h
    · rename_i sz g hs
      split at h
      · split at h
        · rename_i hr
          simp only [Option.some.injEq, Prod.mk.injEq] at h
          obtain ⟨rfl, rfl⟩ := h
          simp only [den] at hx hi ⊢
          cases hx; cases hi
          exact ⟨_, run_indexAt_array ht hs _ _ hr.1 hr.2, .ptr _ _⟩
        · cases h
      · rename_i i off _ _
        simp only [Option.some.injEq, Prod.mk.injEq] at h
        obtain ⟨rfl, rfl⟩ := h
        have hk := hck.one
        simp only [dens, den] at hk hx ⊢
        cases hx
        cases hd : den ρ idx with
        | int k j =>
          rw [hd] at hk hi
          simp only [pok] at hk
          cases hi
          refine ⟨_, run_indexAt_array ht hs _ _ hk.1 hk.2, ?_⟩
          simp only [denIdx, Nat.add_zero]; exact .ptr _ _
        | _ => rw [hd] at hk; simp [pok] at hk
      · simp only [ask, Option.some.injEq, Prod.mk.injEq] at h
        obtain ⟨rfl, rfl⟩ := h
        have hk := hck.one
        simp only [dens, den] at hk ⊢
        exact run_indexAt_array_pv ht hs hx hi hk
  · cases h

theorem sLen_sound {n0 : Nat} {w0 : Base} {O : Lk} {nenv : Nat} (hm : Mem n0 w0 c ρ O nenv w) {t ty : TypeId} {x : Option SE} {e : SE} {ck : List Chk} {v : Value} (hx : ∀ y, x = some y → Rv c (den ρ y) v)
    (h : sLen P O t x = some (e, ck)) (hck : Chks ρ ck) : Runs P w c (den ρ e) (Builtin.len_ #[t] ty #[v]) := by
  unfold sLen at h
  split at h
  · rename_i el ht
    split at h
    · rename_i i
      split at h
      · rename_i sz' cc hl
        simp only [ask, Option.some.injEq, Prod.mk.injEq] at h
        obtain ⟨rfl, rfl⟩ := h
        obtain ⟨xs, he, hrow⟩ := hm.ok i _ hl
        have hv := hx _ rfl
        simp only [dens, den, he, pv] at hv ⊢
        cases hv with
        | row _ a n cap hh =>
          rw [hh] at hrow
          refine ⟨.int .i64 xs.length, ?_, .int _ _⟩
          cases hrow <;> simp [Builtin.len_, run_underlying ht, goInt]
      · cases h
    · simp only [ask, Option.some.injEq, Prod.mk.injEq] at h
      obtain ⟨rfl, rfl⟩ := h
      have hk := hck.one
      simp only [dens, den] at hk ⊢
      exact run_len_slice (hx _ rfl) ht hk
    · cases h
  · rename_i n el ht
    simp only [Option.some.injEq, Prod.mk.injEq] at h
    obtain ⟨rfl, rfl⟩ := h
    exact run_len_array v ht
  · cases h

theorem sSlice_sound {T : TypeId} {x e : SE} {lo hi : Option SE} {ck : List Chk} {v : Value} {vl vh : Option Value} (hx : Rv c (den ρ x) v) (hl : ∀ y, lo = some y → ∃ u, vl = some u ∧ Rv c (den ρ y) u) (hl0 : lo = none → vl = none)
    (hh : ∀ y, hi = some y → ∃ u, vh = some u ∧ Rv c (den ρ y) u) (hh0 : hi = none → vh = none) (h : sSlice P T x lo hi = some (e, ck)) (hck : Chks ρ ck) : Runs P w c (den ρ e) (Instr.slice T v vl vh none) := by
  unfold sSlice at h
  split at h
  · rename_i el ht
    split at h
    · rename_i sz g hs
      split at h
      · cases h
      · simp only [Option.some.injEq, Prod.mk.injEq] at h
        obtain ⟨rfl, rfl⟩ := h
        have h1 := hck (.szs sz, [x]) (by simp)
        have h2 := hck (.slice lo.isSome hi.isSome, x :: (lo.toList ++ hi.toList)) (by simp)
        simp only [dens, dens_append] at h1 h2
        have e1 : dens ρ lo.toList = (lo.map (den ρ)).toList := by cases lo <;> rfl
        have e2 : dens ρ hi.toList = (hi.map (den ρ)).toList := by cases hi <;> rfl
        have e3 : lo.isSome = (lo.map (den ρ)).isSome := by cases lo <;> rfl
        have e4 : hi.isSome = (hi.map (den ρ)).isSome := by cases hi <;> rfl
        rw [e1, e2, e3, e4] at h2
        have key := run_slice_pv (w := w) (lo := lo.map (den ρ)) (hi := hi.map (den ρ)) ht hs hx (vl := vl) (vh := vh)
          (fun y hy => by obtain ⟨z, hz, rfl⟩ := Option.map_eq_some_iff.1 hy; exact hl z hz) (fun hn => hl0 (by simpa using hn))
          (fun y hy => by obtain ⟨z, hz, rfl⟩ := Option.map_eq_some_iff.1 hy; exact hh z hz) (fun hn => hh0 (by simpa using hn))
          (fun es he => by rw [he] at h1; simp only [pok] at h1; exact fun x hx => (h1 x hx).1) h2
        simp only [den, dens, dens_append, e1, e2, e3, e4]
        exact key
    · cases h
  · cases h

end Go.Lb
