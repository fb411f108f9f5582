/- A struct's, an array's, a slice's literal. -/
import Derived.Test.YtkcpgfjlmicnnaaGreatDoorFw1
import Derived.RangeFuncCalls
set_option linter.unusedSimpArgs false
set_option linter.unusedVariables false
namespace Go.Lb
open Go.RowKit
variable {P : Program} {c : Cx} {ρ : Nat → AV} {w : World}
def putL {α : Type} (cs : List α) (off : Nat) (v : List α) : List α := cs.take off ++ v ++ cs.drop (off + v.length)
theorem zbG {α : Type} (cs : List α) (off : Nat) (v : List α) (h : off + v.length ≤ cs.length) : (putL cs off v).length = cs.length := by
 simp [putL]; omega
theorem zmm (off : Nat) : ∀ (vs : List Value) (j : Nat) (cells : Array Value), off + j + vs.length ≤ cells.size →
  ((vs.zipIdx j).foldl (fun cs (c, k) => cs.setIfInBounds (off + k) c) cells).toList = putL cells.toList (off + j) vs := by
 intro vs
 induction vs with
 | nil => intro j cells h; simp [putL]
 | cons v vs ih =>
  intro j cells h
  simp only [List.zipIdx_cons, List.foldl_cons]
  simp only [List.length_cons] at h
  rw [ih (j + 1) _ (by simp; omega)]
  have hlt : off + j < cells.toList.length := by simp; omega
  simp only [putL, Array.toList_setIfInBounds, List.length_cons]
  rw [List.set_eq_take_append_cons_drop, if_pos hlt]
  have e1 : (List.take (off + j) cells.toList ++ v :: List.drop (off + j + 1) cells.toList).take (off + (j + 1)) = List.take (off + j) cells.toList ++ [v] := by
   rw [List.take_append]
   have : (List.take (off + j) cells.toList).length = off + j := by simp; omega
   rw [this, List.take_of_length_le (by omega), show off + (j + 1) - (off + j) = 1 from by omega]
   simp
  have e2 : (List.take (off + j) cells.toList ++ v :: List.drop (off + j + 1) cells.toList).drop (off + (j + 1) + vs.length) = cells.toList.drop (off + j + (vs.length + 1)) := by
   rw [List.drop_append]
   have : (List.take (off + j) cells.toList).length = off + j := by simp; omega
   rw [this, List.drop_eq_nil_of_le (by omega), show off + (j + 1) + vs.length - (off + j) = vs.length + 1 from by omega]
   simp [List.drop_drop]; congr 1; omega
  rw [e1, e2]; simp
abbrev zm1 := Nat → Option (Nat × Nat × Bool)
def zgv (place : zm1) (cells : List SE) : List (Nat × SE) → Option (List SE × List Chk)
 | [] => some (cells, [])
 | (i, e) :: rest =>
  match place i with
  | none => none
  | some (off, n, g) =>
   if off + n ≤ cells.length ∧ (g = false → n = 1) then
    (zgv place (putL cells off (zan n g e).1) rest).map fun x => (x.1, (zan n g e).2 ++ x.2)
   else none
theorem zcA (n : Nat) (g : Bool) (e : SE) (hn : g = false → n = 1) : (zan n g e).1.length = n := by
 unfold zan
 cases g
 ·simp [hn rfl]
 ·simp only [if_true]
  split
  ·split
   ·rename_i h; exact h
   ·simp
  ·simp
theorem Rvs.put {as bs : List AV} {vs us : List Value} (h : Rvs c as vs) (k : Rvs c bs us) (off : Nat) : Rvs c (putL as off bs) (putL vs off us) := by
 unfold putL
 rw [← k.length]
 exact ((h.take off).append k).append (h.drop _)
theorem zjB (ρ : Nat → AV) (cs v : List SE) (off : Nat) : dens ρ (putL cs off v) = putL (dens ρ cs) off (dens ρ v) := by
 simp [putL, zbx, List.map_append]
theorem zes (place : zm1) (pl : Nat → Option (Nat × Nat)) (hpl : ∀ i off n g, place i = some (off, n, g) → pl i = some (off, n)) :
  ∀ (parts : List (Nat × SE)) (vals : List (Nat × Value)) (cells : List SE) (vs : Array Value) (out : List SE) (ck : List Chk),
   parts.length = vals.length → (∀ (j i : Nat) (e : SE) (i' : Nat) (v : Value), parts[j]? = some (i, e) → vals[j]? = some (i', v) → i' = i ∧ Rv c (den ρ e) v) →
   Rvs c (dens ρ cells) vs.toList → zgv place cells parts = some (out, ck) → Chks ρ ck →
   ∃ vs', Instr.fill pl vs vals = some vs' ∧ Rvs c (dens ρ out) vs'.toList := by
 intro parts
 induction parts with
 | nil =>
  intro vals cells vs out ck hl _ hr h _
  cases vals with
  | nil => simp only [zgv, Option.some.injEq, Prod.mk.injEq] at h; obtain ⟨rfl, rfl⟩ := h; exact ⟨vs, rfl, hr⟩
  | cons _ _ => simp at hl
 | cons p parts ih =>
  intro vals cells vs out ck hl hrel hr h hck
  obtain ⟨i, e⟩ := p
  cases vals with
  | nil => simp at hl
  | cons q vals =>
   obtain ⟨i', v⟩ := q
   obtain ⟨rfl, hv⟩ := hrel 0 i e i' v rfl rfl
   simp only [zgv] at h
   split at h
   ·cases h
   ·rename_i off n g hp
    split at h
    ·rename_i hcond
     obtain ⟨⟨out', ck'⟩, h1, h2⟩ := Option.map_eq_some_iff.1 h
     simp only [Prod.mk.injEq] at h2
     obtain ⟨rfl, rfl⟩ := h2
     rw [Chks.append] at hck
     obtain ⟨c1, c2, _, _, _⟩ := zbM hv hcond.2 hck.1
     have hlen := hr.length
     rw [zab] at hlen
     have hcn := zcA n g e hcond.2
     simp only [Instr.fill, hpl _ _ _ _ hp]
     have hsz : ¬ (v.cells.size ≠ n || decide (off + v.cells.size > vs.size)) = true := by
      simp [c2]; simp at hlen; omega
     simp only [hsz]
     have hf := zmm off v.cells.toList 0 vs (by simp [c2]; simp at hlen; omega)
     have hcells : ∀ A : Array Value, A.toList = putL vs.toList off v.cells.toList → Rvs c (dens ρ (putL cells off (zan n g e).1)) A.toList := by
      intro A hA; rw [hA, zjB]; exact hr.put c1 off
     have hfold : (v.cells.zipIdx.foldl (fun cs (c, j) => cs.setIfInBounds (off + j) c) vs).toList = putL vs.toList off v.cells.toList := by
      rw [Nat.add_zero] at hf; rw [← hf, ← Array.foldl_toList]; simp
     exact ih vals _ _ out' ck' (by simpa using hl) (fun j => hrel (j + 1)) (hcells _ hfold) h1 hck.2
    ·cases h
def zel (P : Program) (t : TypeId) : Option (List SE) :=
 match P.info? t with
 | some i => match i.zero with
  | some v => if v.cells.size = i.size then zfc v.cells.toList else none
  | none => none
 | none => none
theorem zbR {t : TypeId} {es : List SE} (h : zel P t = some es) : ∃ v, (zeroValue t).run P w = .ok v w ∧ Rvs c (dens ρ es) v.cells.toList := by
 unfold zel at h
 split at h
 ·rename_i i hi
  split at h
  ·rename_i v hv
   split at h
   ·exact ⟨v, by simp [zeroValue, run_typeInfo hi, hv], zdQ c ρ _ _ h⟩
   ·cases h
  ·cases h
 ·cases h
def zb9 (P : Program) : List Field → Option (List (Nat × Nat × Bool))
 | [] => some []
 | f :: fs => match tsz P f.type, zb9 P fs with
  | some (n, g), some r => some ((f.offset, n, g) :: r)
  | _, _ => none
theorem zer : ∀ (fs : List Field) (r : List (Nat × Nat × Bool)), zb9 P fs = some r →
  (fs.mapM fun f => (do pure (f.offset, ← sizeOf f.type) : Sem (Nat × Nat))).run P w = .ok (r.map fun x => (x.1, x.2.1)) w := by
 intro fs
 induction fs with
 | nil => intro r h; simp only [zb9, Option.some.injEq] at h; subst h; rfl
 | cons f fs ih =>
  intro r h
  simp only [zb9] at h
  split at h
  ·rename_i n g r' h1 h2
   simp only [Option.some.injEq] at h; subst h
   simp only [List.mapM_cons, Sem.run_bind, (zar h1 w).1, Result.andThen_ok, Sem.run_pure, ih r' h2, List.map_cons]
  ·cases h
def zjR (P : Program) (t : TypeId) : Option zm1 :=
 match P.underlying t with
 | some (.struct fs) => (zb9 P fs.toList).map fun l => fun i => l[i]?
 | some (.array _ e) => match tsz P e with
  | some (n, g) => some fun i => some (i * n, n, g)
  | none => none
 | _ => none
def ziX (P : Program) (t : TypeId) (parts : List (Nat × SE)) : Option (SE × List Chk) :=
 match zjR P t, zel P t with
 | some pl, some z => (zgv pl z parts).map fun x => (.agg x.1, x.2)
 | _, _ => none
theorem ziY {t : TypeId} {parts : List (Nat × SE)} {vals : List (Nat × Value)} {e : SE} {ck : List Chk} (h : ziX P t parts = some (e, ck)) (hl : parts.length = vals.length)
  (hrel : ∀ (j i : Nat) (e : SE) (i' : Nat) (v : Value), parts[j]? = some (i, e) → vals[j]? = some (i', v) → i' = i ∧ Rv c (den ρ e) v) (hck : Chks ρ ck) :
  Runs P w c (den ρ e) (Instr.build t ⟨vals⟩) := by
 unfold ziX at h
 split at h
 ·rename_i pl z h1 h2
  obtain ⟨⟨out, ck'⟩, h3, h4⟩ := Option.map_eq_some_iff.1 h
  simp only [Prod.mk.injEq] at h4; obtain ⟨rfl, rfl⟩ := h4
  obtain ⟨zv, hz, hzr⟩ := zbR (w := w) (c := c) (ρ := ρ) h2
  unfold zjR at h1
  split at h1
  ·rename_i fs hu
   obtain ⟨l, hl1, rfl⟩ := Option.map_eq_some_iff.1 h1
   have hm := zer (w := w) fs.toList l hl1
   have hm' : (fs.mapM fun f => (do pure (f.offset, ← sizeOf f.type) : Sem (Nat × Nat))).run P w = .ok (⟨l.map fun x => (x.1, x.2.1)⟩ : Array (Nat × Nat)) w := by
    rw [Array.mapM_eq_mapM_toList, Sem.run_map, hm]; rfl
   obtain ⟨vs', hf, hr⟩ := zes (c := c) (ρ := ρ) (fun i => l[i]?) (fun i => (⟨l.map fun x => (x.1, x.2.1)⟩ : Array (Nat × Nat))[i]?)
    (fun i off n g hp => by simp at hp ⊢; simp [hp]) parts vals z zv.cells out ck' hl hrel hzr h3 hck
   refine ⟨.agg vs', ?_, by simp only [den]; exact .agg _ _ hr⟩
   simp only [Instr.build, Sem.run_bind, hz, Result.andThen_ok, run_underlying hu, hm', hf, Sem.run_pure]
  ·rename_i n e hu
   split at h1
   ·rename_i n' g ht
    simp only [Option.some.injEq] at h1; subst h1
    obtain ⟨vs', hf, hr⟩ := zes (c := c) (ρ := ρ) (fun i => some (i * n', n', g)) (fun i => some (i * n', n'))
     (fun i off n g hp => by simp at hp ⊢; exact ⟨hp.1, hp.2.1⟩) parts vals z zv.cells out ck' hl hrel hzr h3 hck
    refine ⟨.agg vs', ?_, by simp only [den]; exact .agg _ _ hr⟩
    simp only [Instr.build, Sem.run_bind, hz, Result.andThen_ok, run_underlying hu, (zar ht w).1, hf, Sem.run_pure]
   ·cases h1
  ·cases h1
 ·cases h
end Go.Lb
namespace Go.Lb
open Go.RowKit
mutual
theorem AV.under_mono {n m : Nat → Bool} (h : ∀ i, n i = true → m i = true) : ∀ {a : AV}, AV.under n a = true → AV.under m a = true
 | .agg cs, ha | .tup cs, ha | .sl cs, ha | .eptr cs _ _, ha | .ref cs _, ha | .mp _ _ cs, ha => by
  simp only [AV.under] at ha ⊢; exact AV.underAll_mono h ha
 | .clo _ fs cs, ha => by
  simp only [AV.under, Bool.and_eq_true] at ha ⊢; exact ⟨AV.underAll_mono h ha.1, AV.underAll_mono h ha.2⟩
 | .ptr i _, ha | .row i, ha | .rptr i _ _ _, ha | .yield i, ha | .mref i, ha => by simp only [AV.under] at ha ⊢; exact h _ ha
 | .undef, _ | .bool _, _ | .int _ _, _ | .nilp, _ | .nilf, _ | .nsl, _ => rfl
theorem AV.underAll_mono {n m : Nat → Bool} (h : ∀ i, n i = true → m i = true) : ∀ {as : List AV}, AV.underAll n as = true → AV.underAll m as = true
 | [], _ => rfl
 | a :: as, ha => by
  simp only [AV.underAll, Bool.and_eq_true] at ha ⊢; exact ⟨AV.under_mono h ha.1, AV.underAll_mono h ha.2⟩
end
theorem AV.underAll_mem {m : Nat → Bool} : ∀ {as : List AV}, AV.underAll m as = true ↔ ∀ a ∈ as, AV.under m a = true
 | [] => by simp [AV.underAll]
 | a :: as => by simp [AV.underAll, AV.underAll_mem (as := as)]
theorem AV.under_getD {m : Nat → Bool} {as : List AV} (h : AV.underAll m as = true) (i : Nat) : AV.under m (as.getD i .undef) = true := by
 rw [List.getD_eq_getElem?_getD]
 cases hi : as[i]? with
 | none => rfl
 | some a => exact AV.underAll_mem.1 h a (List.mem_of_getElem? hi)
theorem AV.under_take {m : Nat → Bool} {as : List AV} (h : AV.underAll m as = true) (n : Nat) : AV.underAll m (as.take n) = true :=
 AV.underAll_mem.2 fun a ha => AV.underAll_mem.1 h a (List.mem_of_mem_take ha)
theorem AV.under_drop {m : Nat → Bool} {as : List AV} (h : AV.underAll m as = true) (n : Nat) : AV.underAll m (as.drop n) = true :=
 AV.underAll_mem.2 fun a ha => AV.underAll_mem.1 h a (List.mem_of_mem_drop ha)
theorem AV.under_cut {m : Nat → Bool} {as : List AV} (h : AV.underAll m as = true) (off n : Nat) (g : Bool) : AV.under m (AV.cut as off n g) = true := by
 cases g
 ·exact AV.under_getD h off
 ·simp only [AV.cut, AV.under]; exact AV.under_take (AV.under_drop h _) _
theorem AV.under_set {m : Nat → Bool} {as : List AV} (h : AV.underAll m as = true) (i : Nat) {a : AV} (ha : AV.under m a = true) : AV.underAll m (as.set i a) = true :=
 AV.underAll_mem.2 fun b hb => (List.mem_or_eq_of_mem_set hb).elim (AV.underAll_mem.1 h b) (fun e => e ▸ ha)
theorem AV.under_put {m : Nat → Bool} {as bs : List AV} (h : AV.underAll m as = true) (k : AV.underAll m bs = true) (off : Nat) : AV.underAll m (AV.put as off bs) = true := by
 unfold AV.put; rw [AV.under_append, AV.under_append, AV.under_take h, AV.under_drop h, k]; rfl
theorem AV.under_ofCells {m : Nat → Bool} {a : AV} {cs : List AV} (h : AV.underAll m cs = true) : AV.under m (AV.ofCells a cs) = true := by
 unfold AV.ofCells; split
 ·exact h
 ·exact AV.under_getD h 0
theorem zj0 (m : Nat → Bool) (op : BinOp) (k : IntKind) (a b : Int) : AV.under m (binI op k a b) = true := by
 cases op <;> rfl
theorem zjT {m : Nat → Bool} (o : PF) (args : List AV) (h : AV.underAll m args = true) : AV.under m (pv o args) = true := by
 unfold pv
 split <;> (try simp only [AV.underAll, AV.under, Bool.and_true, Bool.and_eq_true] at h) <;> (try simp only [AV.under])
 case _ => exact zj0 _ _ _ _ _
 case _ => split <;> simp_all
 all_goals first
  | rfl
  | exact h
  | exact h.1
  | exact AV.under_cut h _ _ _
  | exact AV.under_cut h.1 _ _ _
  | exact AV.under_getD h _
  | exact AV.under_drop h _
  | exact AV.under_drop h.1 _
  | exact AV.under_take h.1 _
  | exact AV.under_drop (AV.under_take h.1 _) _
  | exact AV.under_take h _
  | exact AV.underAll_mem.2 (fun a ha => (List.eq_of_mem_replicate ha) ▸ h.2)
  | exact AV.under_drop (AV.under_take h _) _
  | exact AV.under_cut (by rw [AV.under_cells]; exact AV.under_getD h _) _ _ _
  | exact AV.under_cut (by rw [AV.under_cells]; exact AV.under_getD h.1 _) _ _ _
  | exact AV.under_set h.1 _ (AV.under_ofCells (AV.under_put (by rw [AV.under_cells]; exact AV.under_getD h.1 _) (by rw [AV.under_cells]; exact h.2.2) _))
  | (rw [AV.under_append]; simp [h.1, h.2, AV.underAll])
  | (split <;> first | exact AV.under_getD (by rw [AV.under_cells]; exact h.2.2) _ | exact h.2.1)
mutual
def SE.weak : SE → SE
 | .enil => .nils
 | .agg cs => .agg (SE.weaks cs)
 | .tup cs => .tup (SE.weaks cs)
 | .clo f fs cs => .clo f (SE.weaks fs) (SE.weaks cs)
 | .mp k ks vs => .mp k ks (SE.weaks vs)
 | e => e
def SE.weaks : List SE → List SE
 | [] => []
 | e :: es => SE.weak e :: SE.weaks es
end
mutual
theorem zbJ {c : Cx} {ρ : Nat → AV} : ∀ (e : SE) {v : Value}, Rv c (den ρ e) v → Rv c (den ρ e.weak) v
 | .enil, v, h => by simp only [den] at h; cases h; exact .slnil
 | .agg cs, v, h => by simp only [den] at h; cases h with | agg _ vs h => exact .agg _ _ (zaR cs h)
 | .tup cs, v, h => by simp only [den] at h; cases h with | tup _ vs h => exact .tup _ _ (zaR cs h)
 | .clo f fs cs, v, h => by simp only [den] at h; cases h with | clo _ _ _ vf vc h1 h2 => exact .clo _ _ _ _ _ (zaR fs h1) (zaR cs h2)
 | .mp k ks vs, v, h => by simp only [den] at h; cases h with | mp _ _ _ b clk es h1 h2 h3 => exact .mp _ _ _ b clk es h1 h2 (zaR vs h3)
 | .inp _, _, h | .undef, _, h | .bool _, _, h | .int _ _, _, h | .nilp, _, h | .nilf, _, h | .nils, _, h | .ref _ _, _, h | .ptr _ _, _, h | .ptrx _ _ _ _ _ _, _, h | .row _, _, h | .rptr _ _ _ _, _, h | .yield _, _, h | .mref _, _, h | .app _ _, _, h => by
  simpa only [SE.weak] using h
theorem zaR {c : Cx} {ρ : Nat → AV} : ∀ (es : List SE) {vs : List Value}, Rvs c (dens ρ es) vs → Rvs c (dens ρ (SE.weaks es)) vs
 | [], vs, h => h
 | e :: es, vs, h => by
  simp only [dens] at h
  cases h with
  | cons _ v _ vs h1 h2 => exact .cons _ _ _ _ (zbJ e h1) (zaR es h2)
end
mutual
theorem zlR {n : Nat} {m : Nat → Bool} : ∀ (e : SE), e.wf n m = true → e.weak.wf n m = true
 | .agg cs, h | .tup cs, h | .mp _ _ cs, h => by simp only [SE.weak, SE.wf] at h ⊢; exact zfk cs h
 | .clo _ fs cs, h => by simp only [SE.weak, SE.wf, Bool.and_eq_true] at h ⊢; exact ⟨zfk fs h.1, zfk cs h.2⟩
 | .inp _, h | .undef, h | .bool _, h | .int _ _, h | .nilp, h | .nilf, h | .nils, h | .enil, h | .ref _ _, h | .ptr _ _, h | .ptrx _ _ _ _ _ _, h | .row _, h | .rptr _ _ _ _, h | .yield _, h | .mref _, h | .app _ _, h => by
  simp only [SE.weak, SE.wf] at h ⊢ <;> exact h
theorem zfk {n : Nat} {m : Nat → Bool} : ∀ (es : List SE), SE.wfs n m es = true → SE.wfs n m (SE.weaks es) = true
 | [], _ => rfl
 | e :: es, h => by
  simp only [SE.wfs, SE.weaks, Bool.and_eq_true] at h ⊢
  exact ⟨zlR e h.1, zfk es h.2⟩
end
mutual
theorem zbb {n : Nat} {m : Nat → Bool} {ρ : Nat → AV} (hρ : ∀ i, (ρ i).pure = true) : ∀ (e : SE), e.wf n m = true → (den ρ e).under m = true
 | .inp i, _ => by
  have := hρ i
  rw [AV.under_zero_of_pure] at this
  exact AV.under_mono (fun _ h => Bool.noConfusion h) this
 | .undef, _ | .bool _, _ | .int _ _, _ | .nilp, _ | .nilf, _ | .nils, _ | .enil, _ => rfl
 | .ptr i _, hw | .row i, hw | .yield i, hw | .mref i, hw => by simpa [SE.wf, AV.under] using hw
 | .agg cs, hw | .tup cs, hw | .mp _ _ cs, hw | .ref cs _, hw => by simp only [den, AV.under]; exact zaX hρ cs hw
 | .ptrx i _ e _ _ _, hw | .rptr i e _ _, hw => by
  simp only [SE.wf, Bool.and_eq_true, Nat.blt_eq] at hw
  simp only [den]; unfold zcU; split
  ·simpa [AV.under] using hw.1
  ·rfl
 | .clo _ fs cs, hw => by
  simp only [SE.wf, Bool.and_eq_true] at hw
  simp only [den, AV.under, zaX hρ fs hw.1, zaX hρ cs hw.2, Bool.and_self]
 | .app o cs, hw => by simp only [den]; exact zjT o _ (zaX hρ cs hw)
theorem zaX {n : Nat} {m : Nat → Bool} {ρ : Nat → AV} (hρ : ∀ i, (ρ i).pure = true) : ∀ (es : List SE), SE.wfs n m es = true → AV.underAll m (dens ρ es) = true
 | [], _ => rfl
 | e :: es, hw => by
  simp only [SE.wfs, Bool.and_eq_true] at hw
  simp only [dens, AV.underAll, zbb hρ e hw.1, zaX hρ es hw.2, Bool.and_self]
end
end Go.Lb
namespace Go.Lb
open Go.RowKit
inductive LSt where
 | ready
 | busy
 | doneRet
 | doneExit (id : Nat)
 | doneGoto (l : Nat)
 deriving DecidableEq, Repr, Inhabited
inductive OS where
 | box (cs : List SE)
 | row (sz : Nat) (e : SE)
 | mapo (k : IntKind) (ks : List Int) (vs : List SE)
 | dfr
 | loop (s : LSt)
 | gone
 deriving Inhabited, Repr
def OS.wf (n : Nat) (m : Nat → Bool) : OS → Bool
 | .box cs => SE.wfs n m cs
 | .row _ e => SE.wf n m e
 | .mapo _ _ vs => SE.wfs n m vs
 | _ => true
def OS.beq : OS → OS → Bool
 | .box a, .box b => SE.beqs a b
 | .row n a, .row m b => Nat.beq n m && SE.beq a b
 | .mapo k ks a, .mapo k' ks' b => decide (k = k') && decide (ks = ks') && SE.beqs a b
 | .dfr, .dfr => true
 | .loop a, .loop b => decide (a = b)
 | .gone, .gone => true
 | _, _ => false
theorem OS.beq_eq : ∀ (a b : OS), OS.beq a b = true → a = b
 | .box a, .box b, h => by rw [SE.beqs_eq a b h]
 | .row n a, .row m b, h => by
  simp only [OS.beq, Bool.and_eq_true] at h
  rw [Nat.eq_of_beq_eq_true h.1, SE.beq_eq a b h.2]
 | .mapo k ks a, .mapo k' ks' b, h => by
  simp only [OS.beq, Bool.and_eq_true, decide_eq_true_eq] at h
  rw [h.1.1, h.1.2, SE.beqs_eq a b h.2]
 | .dfr, .dfr, _ => rfl
 | .loop a, .loop b, h => by simp only [OS.beq, decide_eq_true_eq] at h; rw [h]
 | .gone, .gone, _ => rfl
abbrev Own := List (Nat × OS)
abbrev Lk := Nat → Option OS
def look : Own → Lk
 | [], _ => none
 | (j, o) :: rest, i => if Nat.beq i j then some o else look rest i
def Lk.dom (L : Lk) : Nat → Bool := fun i => (L i).isSome
def Lk.upd (L : Lk) (i : Nat) (o : OS) : Lk := fun j => if j = i then some o else L j
theorem Lk.upd_same (L : Lk) (i : Nat) (o : OS) : L.upd i o i = some o := by simp [Lk.upd]
theorem Lk.upd_other (L : Lk) {i j : Nat} (o : OS) (h : i ≠ j) : L.upd j o i = L i := by simp [Lk.upd, h]
theorem Lk.dom_of {L : Lk} {i : Nat} {o : OS} (h : L i = some o) : L.dom i = true := by simp [Lk.dom, h]
theorem Lk.dom_upd (L : Lk) (i : Nat) (o : OS) (j : Nat) (h : L.dom j = true) : (L.upd i o).dom j = true := by
 unfold Lk.dom Lk.upd; split
 ·rfl
 ·exact h
theorem Lk.dom_upd_same (L : Lk) (i : Nat) (o : OS) : (L.upd i o).dom i = true := by simp [Lk.dom, Lk.upd]
theorem zc0 (own : Own) (i : Nat) (o : OS) : look ((i, o) :: own) = (look own).upd i o := by
 funext j
 simp only [look, Lk.upd]
 by_cases h : j = i
 ·simp [h]
 ·simp [h]
def Own.wf (n : Nat) (own : Own) : Bool := own.all fun x => x.2.wf n (look own).dom
theorem Own.wf_look {n : Nat} {own : Own} (h : own.wf n = true) {i : Nat} {o : OS} (hl : look own i = some o) : o.wf n (look own).dom = true := by
 unfold Own.wf at h
 generalize (look own).dom = D at h ⊢
 induction own with
 | nil => simp [look] at hl
 | cons x own ih =>
  obtain ⟨j, o'⟩ := x
  simp only [List.all_cons, Bool.and_eq_true] at h
  simp only [look] at hl
  split at hl
  ·simp only [Option.some.injEq] at hl; subst hl
   exact h.1
  ·exact ih hl h.2
def zbU (r : Loop) : LSt → Loop
 | .ready => { r with state := .ready, pending := none }
 | .busy => { r with state := .busy, pending := none }
 | .doneRet => { r with state := .done, pending := some .ret }
 | .doneExit id => { r with state := .done, pending := some (.exit id) }
 | .doneGoto l => { r with state := .done, pending := some (.goto l) }
inductive RowOk (c : Cx) (w : World) (sz : Nat) : Value → List AV → Prop
 | nil : RowOk c w sz (.slice none 0 0) []
 | zero (ad : Addr) : RowOk c w sz (.slice (some ad) 0 0) []
 | row (b o cap : Nat) (vs : List Value) (T : TypeId) (xs : List AV) : 0 < cap → w.heap[b]? = some (.cells ⟨vs⟩ T (0, 0)) → xs.length ≤ cap → o + cap * sz ≤ vs.length →
   (∀ x ∈ xs, x.cells.length = sz) → Rvs c (AV.flat xs) ((vs.drop o).take (xs.length * sz)) → RowOk c w sz (.slice (some ⟨b, o, none⟩) xs.length cap) xs
def zgV (c : Cx) (ρ : Nat → AV) (w : World) (i : Nat) : OS → Prop
 | .box cs => ∃ vs T, w.heap[c.β i]? = some (.cells ⟨vs⟩ T (0, 0)) ∧ Rvs c (dens ρ cs) vs ∧ c.h i = .slice (some ⟨c.β i, 0, none⟩) vs.length vs.length
 | .row sz e => ∃ xs, den ρ e = .sl xs ∧ RowOk c w sz (c.h i) xs
 | .mapo k ks vs => ∃ es clk, w.heap[c.β i]? = some (.map ⟨es⟩ clk) ∧ es.map (·.key) = ks.map (Value.int k) ∧ Rvs c (dens ρ vs) (es.map (·.val))
 | .dfr => w.heap[c.β i]? = some (.deferred (some []))
 | .loop s => w.heap[c.β i]? = some (.loop (zbU (c.L i) s))
 | .gone => True
def zay : Value → Option Nat
 | .slice (some a) _ cap => if cap = 0 then none else some a.block
 | _ => none
def bl (c : Cx) (i : Nat) : OS → Option Nat
 | .row _ _ => zay (c.h i)
 | .gone => none
 | _ => some (c.β i)
structure Base where
 w : World
 I : Nat → Nat → Option Value
 M : Nat → Option Obj
structure Mem (n0 : Nat) (w0 : Base) (c : Cx) (ρ : Nat → AV) (L : Lk) (nenv : Nat) (w : World) : Prop where
 imm : Imm c w
 pure : ∀ i, (ρ i).pure = true
 wf : ∀ i o, L i = some o → o.wf nenv L.dom = true
 ok : ∀ i o, L i = some o → zgV c ρ w i o
 dist : ∀ i j oi oj b, L i = some oi → L j = some oj → bl c i oi = some b → bl c j oj = some b → i = j
 fresh : ∀ i o b, L i = some o → bl c i o = some b → n0 ≤ b ∧ b < w.heap.size
 disj : ∀ i o b, L i = some o → bl c i o = some b → (∀ off v, c.I b off ≠ some v) ∧ (∀ ob, c.M b ≠ some ob)
 immlt : ∀ b, b ≥ w.heap.size → (∀ off v, c.I b off ≠ some v) ∧ (∀ ob, c.M b ≠ some ob)
 below : Below n0 w0.w w
 old : ∀ b, b < n0 → (∀ off v, c.I b off = some v → w0.I b off = some v) ∧ (∀ o, c.M b = some o → w0.M b = some o)
theorem za4 {n : Nat → Bool} {c c' : Cx} (hc : c.Keeps n c') {as : List AV} {vs : List Value} (h : Rvs c as vs) (hu : AV.underAll n as = true) : Rvs c' as vs := by
 induction as generalizing vs with
 | nil => cases h; exact .nil
 | cons a as ih =>
  cases h with
  | cons _ v _ vs h1 h2 =>
   simp only [AV.underAll, Bool.and_eq_true] at hu
   exact .cons a v as vs (zch hc h1 hu.1) (ih h2 hu.2)
theorem RowOk.keeps {n : Nat → Bool} {sz : Nat} {c c' : Cx} {w w' : World} (hc : c.Keeps n c') {v : Value} {xs : List AV} (h : RowOk c w sz v xs) (hu : AV.underAll n xs = true)
  (hb : ∀ b, zay v = some b → w'.heap[b]? = w.heap[b]?) : RowOk c' w' sz v xs := by
 cases h with
 | nil => exact .nil
 | zero ad => exact .zero ad
 | row b o cap vs T _ h0 h1 h2 h3 h4 h5 =>
  exact .row b o cap vs T xs h0 ((hb b (by simp [zay]; omega)).trans h1) h2 h3 h4 (za4 hc h5 (by rw [AV.under_flat]; exact hu))
theorem zgV.keeps {nenv : Nat} {n : Nat → Bool} {c c' : Cx} {ρ ρ' : Nat → AV} {w w' : World} {i : Nat} {o : OS} (hc : c.Keeps n c') (hi : n i = true) (hρ : ∀ i, (ρ i).pure = true) (ha : zam nenv ρ ρ')
  (hw : o.wf nenv n = true) (h : zgV c ρ w i o) (hb : ∀ b, bl c i o = some b → w'.heap[b]? = w.heap[b]?) : zgV c' ρ' w' i o := by
 cases o with
 | box cs =>
  obtain ⟨vs, T, h1, h2, h3⟩ := h
  refine ⟨vs, T, ?_, ?_, ?_⟩
  ·rw [hc.β i hi]; exact (hb _ rfl).trans h1
  ·rw [zau ha cs hw]; exact za4 hc h2 (zaX hρ cs hw)
  ·rw [hc.β i hi, hc.h i hi]; exact h3
 | row sz e =>
  obtain ⟨xs, h1, h2⟩ := h
  refine ⟨xs, by rw [zat ha e hw]; exact h1, ?_⟩
  rw [hc.h i hi]
  refine h2.keeps hc ?_ (fun b hbb => hb b hbb)
  have := zbb hρ e hw
  rwa [h1] at this
 | mapo k ks vs =>
  obtain ⟨es, clk, h1, h2, h3⟩ := h
  refine ⟨es, clk, ?_, h2, ?_⟩
  ·rw [hc.β i hi]; exact (hb _ rfl).trans h1
  ·rw [zau ha vs hw]; exact za4 hc h3 (zaX hρ vs hw)
 | dfr => show w'.heap[c'.β i]? = _; rw [hc.β i hi]; exact (hb _ rfl).trans h
 | loop s => show w'.heap[c'.β i]? = _; rw [hc.β i hi, hc.L i hi]; exact (hb _ rfl).trans h
 | gone => trivial
theorem zbY {n : Nat → Bool} {c c' : Cx} (hc : c.Keeps n c') {i : Nat} (hi : n i = true) (o : OS) : bl c' i o = bl c i o := by
 cases o <;> simp [bl, hc.β i hi, hc.h i hi]
mutual
theorem SE.wf_mono {n n' : Nat} {m m' : Nat → Bool} (h : n ≤ n') (k : ∀ i, m i = true → m' i = true) : ∀ {e : SE}, e.wf n m = true → e.wf n' m' = true
 | .inp i, hw => by simp only [SE.wf, Nat.blt_eq] at hw ⊢; omega
 | .ptr i _, hw | .row i, hw | .yield i, hw | .mref i, hw => by simp only [SE.wf] at hw ⊢; exact k _ hw
 | .undef, _ | .bool _, _ | .int _ _, _ | .nilp, _ | .nilf, _ | .nils, _ | .enil, _ => rfl
 | .ptrx _ _ _ _ _ _, hw | .rptr _ _ _ _, hw => by
  simp only [SE.wf, Bool.and_eq_true] at hw ⊢; exact ⟨k _ hw.1, SE.wf_mono h k hw.2⟩
 | .agg cs, hw | .tup cs, hw | .mp _ _ cs, hw | .ref cs _, hw | .app _ cs, hw => by simp only [SE.wf] at hw ⊢; exact SE.wfs_mono h k hw
 | .clo _ fs cs, hw => by
  simp only [SE.wf, Bool.and_eq_true] at hw ⊢; exact ⟨SE.wfs_mono h k hw.1, SE.wfs_mono h k hw.2⟩
theorem SE.wfs_mono {n n' : Nat} {m m' : Nat → Bool} (h : n ≤ n') (k : ∀ i, m i = true → m' i = true) : ∀ {es : List SE}, SE.wfs n m es = true → SE.wfs n' m' es = true
 | [], _ => rfl
 | e :: es, hw => by
  simp only [SE.wfs, Bool.and_eq_true] at hw ⊢; exact ⟨SE.wf_mono h k hw.1, SE.wfs_mono h k hw.2⟩
end
theorem OS.wf_mono {n n' : Nat} {m m' : Nat → Bool} (h : n ≤ n') (k : ∀ i, m i = true → m' i = true) {o : OS} (hw : o.wf n m = true) : o.wf n' m' = true := by
 cases o <;> simp only [OS.wf] at hw ⊢
 ·exact SE.wfs_mono h k hw
 ·exact SE.wf_mono h k hw
 ·exact SE.wfs_mono h k hw
theorem Mem.step {n0 : Nat} {w0 : Base} {c c' : Cx} {ρ ρ' : Nat → AV} {L : Lk} {nenv nenv' : Nat} {w w' : World} (hm : Mem n0 w0 c ρ L nenv w)
  (i : Nat) (o' : OS) (hnenv : nenv ≤ nenv') (hc : c.Keeps L.dom c') (ha : zam nenv ρ ρ') (hρ : ∀ i, (ρ' i).pure = true)
  (himm : Imm c' w') (hlt : ∀ b, b ≥ w'.heap.size → (∀ off v, c'.I b off ≠ some v) ∧ (∀ ob, c'.M b ≠ some ob))
  (hsize : w.heap.size ≤ w'.heap.size) (hbelow : Below n0 w0.w w')
  (hold : ∀ b, b < n0 → (∀ off v, c'.I b off = some v → w0.I b off = some v) ∧ (∀ o, c'.M b = some o → w0.M b = some o))
  (hwf : o'.wf nenv' (L.upd i o').dom = true) (hok : zgV c' ρ' w' i o')
  (hother : ∀ j o b, j ≠ i → L j = some o → bl c j o = some b → w'.heap[b]? = w.heap[b]?)
  (hblk : ∀ b, bl c' i o' = some b → n0 ≤ b ∧ b < w'.heap.size ∧ (∀ j o, j ≠ i → L j = some o → bl c j o ≠ some b) ∧ (∀ off v, c'.I b off ≠ some v) ∧ (∀ ob, c'.M b ≠ some ob))
  (hI : ∀ j o b, j ≠ i → L j = some o → bl c j o = some b → (∀ off v, c'.I b off ≠ some v) ∧ (∀ ob, c'.M b ≠ some ob)) :
  Mem n0 w0 c' ρ' (L.upd i o') nenv' w' := by
 have hcase : ∀ j o, L.upd i o' j = some o → (j = i ∧ o = o') ∨ (j ≠ i ∧ L j = some o) := by
  intro j o hl
  by_cases hj : j = i
  ·subst hj; rw [Lk.upd_same] at hl; exact .inl ⟨rfl, by simpa using hl.symm⟩
  ·rw [Lk.upd_other _ _ hj] at hl; exact .inr ⟨hj, hl⟩
 refine ⟨himm, hρ, ?_, ?_, ?_, ?_, ?_, hlt, hbelow, hold⟩
 ·intro j o hl
  rcases hcase j o hl with ⟨rfl, rfl⟩ | ⟨hj, hl⟩
  ·exact hwf
  ·exact OS.wf_mono hnenv (Lk.dom_upd L i o') (hm.wf j o hl)
 ·intro j o hl
  rcases hcase j o hl with ⟨rfl, rfl⟩ | ⟨hj, hl⟩
  ·exact hok
  ·exact (hm.ok j o hl).keeps hc (Lk.dom_of hl) hm.pure ha (hm.wf j o hl) (fun b hb => hother j o b hj hl hb)
 ·intro j k oj ok b hj hk bj bk
  rcases hcase j oj hj with ⟨e1, e2⟩ | ⟨nj, lj⟩
  ·rcases hcase k ok hk with ⟨e3, e4⟩ | ⟨nk, lk⟩
   ·rw [e1, e3]
   ·rw [zbY hc (Lk.dom_of lk)] at bk
    rw [e1, e2] at bj
    exact absurd bk ((hblk b bj).2.2.1 k ok nk lk)
  ·rw [zbY hc (Lk.dom_of lj)] at bj
   rcases hcase k ok hk with ⟨e3, e4⟩ | ⟨nk, lk⟩
   ·rw [e3, e4] at bk
    exact absurd bj ((hblk b bk).2.2.1 j oj nj lj)
   ·rw [zbY hc (Lk.dom_of lk)] at bk
    exact hm.dist j k oj ok b lj lk bj bk
 ·intro j o b hl hb
  rcases hcase j o hl with ⟨rfl, rfl⟩ | ⟨hj, hl⟩
  ·exact ⟨(hblk b hb).1, (hblk b hb).2.1⟩
  ·rw [zbY hc (Lk.dom_of hl)] at hb
   have := hm.fresh j o b hl hb
   exact ⟨this.1, by omega⟩
 ·intro j o b hl hb
  rcases hcase j o hl with ⟨rfl, rfl⟩ | ⟨hj, hl⟩
  ·exact (hblk b hb).2.2.2
  ·rw [zbY hc (Lk.dom_of hl)] at hb
   exact hI j o b hj hl hb
end Go.Lb
namespace Go.Lb
open Go.RowKit
def Cx.setβ (c : Cx) (i b : Nat) : Cx := { c with β := fun j => if j = i then b else c.β j }
def Cx.seth (c : Cx) (i : Nat) (v : Value) : Cx := { c with h := fun j => if j = i then v else c.h j }
def Cx.setL (c : Cx) (i : Nat) (r : Loop) : Cx := { c with L := fun j => if j = i then r else c.L j }
theorem zc2 {L : Lk} {i j : Nat} (h : L i = none) (hj : L.dom j = true) : j ≠ i := by
 rintro rfl; simp [Lk.dom, h] at hj
def Cx.setBox (c : Cx) (i b n : Nat) : Cx := { c with β := fun j => if j = i then b else c.β j, h := fun j => if j = i then .slice (some ⟨b, 0, none⟩) n n else c.h j }
theorem Cx.setBox_keeps (c : Cx) {i b n : Nat} {L : Lk} (h : L i = none) : c.Keeps L.dom (c.setBox i b n) :=
 ⟨⟨fun _ _ _ h => h, fun _ _ h => h⟩, fun j hj => by simp [Cx.setBox, zc2 h hj], fun j hj => by simp [Cx.setBox, zc2 h hj], fun _ _ => rfl⟩
theorem Cx.setβ_keeps (c : Cx) {i b : Nat} {L : Lk} (h : L i = none) : c.Keeps L.dom (c.setβ i b) :=
 ⟨⟨fun _ _ _ h => h, fun _ _ h => h⟩, fun j hj => by simp [Cx.setβ, zc2 h hj], fun _ _ => rfl, fun _ _ => rfl⟩
theorem Cx.seth_keeps (c : Cx) {i : Nat} {L : Lk} {v : Value} (h : L i = none) : c.Keeps L.dom (c.seth i v) :=
 ⟨⟨fun _ _ _ h => h, fun _ _ h => h⟩, fun _ _ => rfl, fun j hj => by simp [Cx.seth, zc2 h hj], fun _ _ => rfl⟩
theorem Cx.setL_keeps (c : Cx) {i : Nat} {L : Lk} {r : Loop} (h : L i = none) : c.Keeps L.dom (c.setL i r) :=
 ⟨⟨fun _ _ _ h => h, fun _ _ h => h⟩, fun _ _ => rfl, fun _ _ => rfl, fun j hj => by simp [Cx.setL, zc2 h hj]⟩
theorem zkU {w : World} {b off : Nat} {v : Value} (h : w.cell? ⟨b, off, none⟩ = some v) : b < w.heap.size := by
 unfold World.cell? at h
 rcases Nat.lt_or_ge b w.heap.size with hl | hl
 ·exact hl
 ·simp [Array.getElem?_eq_none hl] at h
theorem Imm.lt {n0 : Nat} {w0 : Base} {c : Cx} {ρ : Nat → AV} {L : Lk} {nenv : Nat} {w : World} (hm : Mem n0 w0 c ρ L nenv w) :
  (∀ b off v, c.I b off = some v → b < w.heap.size) ∧ (∀ b o, c.M b = some o → b < w.heap.size) := by
 constructor
 ·intro b off v h
  rcases Nat.lt_or_ge b w.heap.size with hl | hl
  ·exact hl
  ·exact absurd h ((hm.immlt b hl).1 off v)
 ·intro b o h
  rcases Nat.lt_or_ge b w.heap.size with hl | hl
  ·exact hl
  ·exact absurd h ((hm.immlt b hl).2 o)
theorem Imm.keeps {c c' : Cx} {w w' : World} (hi : Imm c w) (hI : c'.I = c.I) (hM : c'.M = c.M) (hb : ∀ b, ((∃ off v, c.I b off = some v) ∨ ∃ o, c.M b = some o) → w'.heap[b]? = w.heap[b]?) : Imm c' w' := by
 refine ⟨fun b o v h => ?_, fun b o h => ?_⟩
 ·rw [hI] at h; rw [World.cell?_of_block (w := w) (hb b (.inl ⟨o, v, h⟩))]; exact hi.I b o v h
 ·rw [hM] at h; rw [hb b (.inr ⟨o, h⟩)]; exact hi.M b o h
theorem Mem.new {n0 : Nat} {w0 : Base} {c c' : Cx} {ρ : Nat → AV} {L : Lk} {nenv : Nat} {w : World} (hm : Mem n0 w0 c ρ L nenv w) (ob : Obj) (i : Nat) (hid : L i = none) (o' : OS)
  (hc : c.Keeps L.dom c') (hI : c'.I = c.I) (hM : c'.M = c.M) (hwf : o'.wf nenv (L.upd i o').dom = true) (hok : zgV c' ρ (w.alloc ob) i o') (hbl : ∀ b, bl c' i o' = some b → b = w.heap.size) (hn0 : n0 ≤ w.heap.size) :
  Mem n0 w0 c' ρ (L.upd i o') nenv (w.alloc ob) := by
 have hlt := Imm.lt hm
 refine hm.step i o' (Nat.le_refl _) hc (zam.refl _ _) hm.pure ?_ ?_ (by simp) (hm.below.alloc hn0 ob) (by rw [hI, hM]; exact hm.old) hwf hok ?_ ?_ ?_
 ·refine hm.imm.keeps hI hM (fun b hb => Below.heap_alloc w ob b ?_)
  rcases hb with ⟨off, v, h⟩ | ⟨o, h⟩
  ·exact hlt.1 b off v h
  ·exact hlt.2 b o h
 ·intro b hb
  rw [hI, hM]
  exact hm.immlt b (by simp at hb; omega)
 ·intro j o b _ hl hb
  exact Below.heap_alloc w ob b (hm.fresh j o b hl hb).2
 ·intro b hb
  have := hbl b hb; subst this
  refine ⟨hn0, by simp, fun j o _ hl hbb => ?_, ?_⟩
  ·have := (hm.fresh j o _ hl hbb).2; omega
  ·rw [hI, hM]; exact hm.immlt _ (Nat.le_refl _)
 ·intro j o b _ hl hb
  rw [hI, hM]; exact hm.disj j o b hl hb
theorem Mem.newBox {n0 : Nat} {w0 : Base} {c : Cx} {ρ : Nat → AV} {L : Lk} {nenv : Nat} {w : World} (hm : Mem n0 w0 c ρ L nenv w) (hn0 : n0 ≤ w.heap.size)
  {i : Nat} (hid : L i = none) (cs : List SE) (vs : List Value) (T : TypeId) (hr : Rvs c (dens ρ cs) vs) (hwf : SE.wfs nenv L.dom cs = true) :
  Mem n0 w0 (c.setBox i w.heap.size vs.length) ρ (L.upd i (.box cs)) nenv (w.alloc (.cells ⟨vs⟩ T)) := by
 have hk : c.Keeps L.dom (c.setBox i w.heap.size vs.length) := c.setBox_keeps hid
 refine hm.new _ i hid (.box cs) hk rfl rfl (SE.wfs_mono (Nat.le_refl _) (Lk.dom_upd L i _) hwf) ?_ ?_ hn0
 ·refine ⟨vs, T, ?_, za4 hk hr (zaX hm.pure cs hwf), ?_⟩
  ·simp only [Cx.setBox, if_true]; exact World.alloc_heap_new w _
  ·simp [Cx.setBox]
 ·intro b hb; simp [bl, Cx.setBox] at hb; exact hb.symm
theorem Mem.newRow {n0 : Nat} {w0 : Base} {c : Cx} {ρ : Nat → AV} {L : Lk} {nenv : Nat} {w : World} (hm : Mem n0 w0 c ρ L nenv w) (hn0 : n0 ≤ w.heap.size)
  {i : Nat} (hid : L i = none) (e : SE) (xs : List AV) (cap sz : Nat) (vs : List Value) (T : TypeId) (he : den ρ e = .sl xs) (hwf : e.wf nenv L.dom = true) (hcap : xs.length ≤ cap) (hlen : cap * sz ≤ vs.length)
  (hsz : ∀ x ∈ xs, x.cells.length = sz) (hr : Rvs c (AV.flat xs) (vs.take (xs.length * sz))) :
  Mem n0 w0 (c.seth i (.slice (some ⟨w.heap.size, 0, none⟩) xs.length cap)) ρ (L.upd i (.row sz e)) nenv (w.alloc (.cells ⟨vs⟩ T)) := by
 have hk : c.Keeps L.dom (c.seth i (.slice (some ⟨w.heap.size, 0, none⟩) xs.length cap)) := c.seth_keeps hid
 refine hm.new _ i hid (.row sz e) hk rfl rfl (SE.wf_mono (Nat.le_refl _) (Lk.dom_upd L i _) hwf) ?_ ?_ hn0
 ·refine ⟨xs, he, ?_⟩
  simp only [Cx.seth, if_true]
  have hu : AV.underAll L.dom xs = true := by have := zbb hm.pure e hwf; rwa [he] at this
  rcases Nat.eq_zero_or_pos cap with h0 | h0
  ·subst h0
   have hx : xs = [] := List.eq_nil_of_length_eq_zero (by omega)
   subst hx
   exact .zero _
  ·refine .row w.heap.size 0 cap vs T xs h0 (World.alloc_heap_new w _) hcap (by omega) hsz ?_
   rw [List.drop_zero]
   exact za4 hk hr (by rw [AV.under_flat]; exact hu)
 ·intro b hb
  simp only [bl, Cx.seth, zay, if_true] at hb
  split at hb
  ·cases hb
  ·simpa using hb.symm
theorem Mem.noRow {n0 : Nat} (sz : Nat) {w0 : Base} {c : Cx} {ρ : Nat → AV} {L : Lk} {nenv : Nat} {w : World} (hm : Mem n0 w0 c ρ L nenv w) {i : Nat} (hid : L i = none) {v : Value} (hv : v = .slice none 0 0 ∨ ∃ ad, v = .slice (some ad) 0 0) :
  Mem n0 w0 (c.seth i v) ρ (L.upd i (.row sz .nils)) nenv w := by
 have hk : c.Keeps L.dom (c.seth i v) := c.seth_keeps hid
 refine hm.step i (.row sz .nils) (Nat.le_refl _) hk (zam.refl _ _) hm.pure ⟨hm.imm.I, hm.imm.M⟩ hm.immlt (Nat.le_refl _) hm.below hm.old rfl ?_ (fun _ _ _ _ _ _ => rfl) ?_ (fun j o b _ => hm.disj j o b)
 ·refine ⟨[], rfl, ?_⟩
  simp only [Cx.seth, if_true]
  rcases hv with rfl | ⟨ad, rfl⟩
  ·exact .nil
  ·exact .zero ad
 ·intro b hb
  simp only [bl, Cx.seth, if_true] at hb
  rcases hv with rfl | ⟨ad, rfl⟩ <;> simp [zay] at hb
theorem Mem.draw {n0 : Nat} {w0 : Base} {c : Cx} {ρ : Nat → AV} {L : Lk} {nenv : Nat} {w : World} (hm : Mem n0 w0 c ρ L nenv w) (d : Nat) : Mem n0 w0 c ρ L nenv { w with drawn := d } := by
 refine ⟨⟨hm.imm.I, hm.imm.M⟩, hm.pure, hm.wf, ?_, hm.dist, hm.fresh, hm.disj, hm.immlt, ⟨hm.below.os, hm.below.tape, hm.below.output, hm.below.size, hm.below.block⟩, hm.old⟩
 intro i o hl
 exact (hm.ok i o hl).keeps (Cx.Keeps.refl L.dom c) (Lk.dom_of hl) hm.pure (zam.refl nenv ρ) (hm.wf i o hl) (fun _ _ => rfl)
theorem Mem.later {n0 : Nat} {w0 : Base} {c c' : Cx} {ρ ρ' : Nat → AV} {L : Lk} {nenv nenv' : Nat} {w w' : World} (hm : Mem n0 w0 c ρ L nenv w) (hnenv : nenv ≤ nenv')
  (hb : Below w.heap.size w w') (hn0 : n0 ≤ w.heap.size) (hc : c.Keeps L.dom c') (himm : Imm c' w')
  (hnew : ∀ b, b < w.heap.size → (∀ off v, c'.I b off = some v → c.I b off = some v) ∧ (∀ o, c'.M b = some o → c.M b = some o))
  (hlt : ∀ b, b ≥ w'.heap.size → (∀ off v, c'.I b off ≠ some v) ∧ (∀ ob, c'.M b ≠ some ob)) (ha : zam nenv ρ ρ') (hρ : ∀ i, (ρ' i).pure = true) :
  Mem n0 w0 c' ρ' L nenv' w' := by
 refine ⟨himm, hρ, fun i o hl => OS.wf_mono hnenv (fun _ h => h) (hm.wf i o hl), ?_, ?_, ?_, ?_, hlt, hm.below.trans (hb.mono hn0),
  fun b hb => ⟨fun off v h => (hm.old b hb).1 off v ((hnew b (by omega)).1 off v h), fun ob h => (hm.old b hb).2 ob ((hnew b (by omega)).2 ob h)⟩⟩
 ·intro i o hl
  exact (hm.ok i o hl).keeps hc (Lk.dom_of hl) hm.pure ha (hm.wf i o hl) (fun b hbb => hb.block b (hm.fresh i o b hl hbb).2)
 ·intro i j oi oj b hi hj bi bj
  rw [zbY hc (Lk.dom_of hi)] at bi
  rw [zbY hc (Lk.dom_of hj)] at bj
  exact hm.dist i j oi oj b hi hj bi bj
 ·intro i o b hl hbb
  rw [zbY hc (Lk.dom_of hl)] at hbb
  have := hm.fresh i o b hl hbb
  exact ⟨this.1, Nat.lt_of_lt_of_le this.2 hb.size⟩
 ·intro i o b hl hbb
  rw [zbY hc (Lk.dom_of hl)] at hbb
  have hlt2 := (hm.fresh i o b hl hbb).2
  have hd := hm.disj i o b hl hbb
  exact ⟨fun off v h => hd.1 off v ((hnew b hlt2).1 off v h), fun ob h => hd.2 ob ((hnew b hlt2).2 ob h)⟩
theorem zew {w : World} {b off : Nat} {vs : List Value} {T : TypeId} {fr : Nat × Nat} (h : w.heap[b]? = some (.cells ⟨vs⟩ T fr)) (u : Value) :
  (w.setCell ⟨b, off, none⟩ u).heap[b]? = some (.cells ⟨vs.set off u⟩ T fr) := by
 have hlt : b < w.heap.size := (Array.getElem?_eq_some_iff.1 h).1
 have he : w.heap[b] = .cells ⟨vs⟩ T fr := by simpa [Array.getElem?_eq_getElem hlt] using h
 simp [World.setCell, Array.getElem_modify, hlt, he]
theorem run_storeCells {P : Program} : ∀ (us : List Value) (w : World) (b o i : Nat) (vs : List Value) (T : TypeId), w.heap[b]? = some (.cells ⟨vs⟩ T (0, 0)) → o + i + us.length ≤ vs.length → (∀ u ∈ us, u.oneCell' = true) →
  ∃ w', (storeCells ⟨b, o, none⟩ us i).run P w = .ok () w' ∧ w'.heap[b]? = some (.cells ⟨putL vs (o + i) us⟩ T (0, 0)) ∧ (∀ k, k ≠ b → w'.heap[k]? = w.heap[k]?) ∧ w'.heap.size = w.heap.size ∧
   w'.os = w.os ∧ w'.tape = w.tape ∧ w'.output = w.output := by
 intro us
 induction us with
 | nil =>
  intro w b o i vs T h _ _
  exact ⟨w, rfl, by simpa [putL] using h, fun _ _ => rfl, rfl, rfl, rfl, rfl⟩
 | cons u us ih =>
  intro w b o i vs T h hlen h1
  simp only [List.length_cons] at hlen
  have hc : w.cell? ⟨b, o + i, none⟩ = some (vs.getD (o + i) undef) := by
   rw [cell_of_row w b (o + i) _ T _ h]; simp [show o + i < vs.length from by omega]
  have hf : w.frozen? ⟨b, o + i, none⟩ = false := frozen_of_row w b (o + i) _ T h
  have hs : (store ((⟨b, o, none⟩ : Addr).add i) u).run P w = .ok () (w.setCell ⟨b, o + i, none⟩ u) := by
   rw [Addr.add_eq, run_store P w _ u _ (h1 u (by simp)), hc]
   simp [hf]
  have h2 := zew (off := o + i) h u
  obtain ⟨w', r1, r2, r3, r4, r5, r6, r7⟩ := ih (w.setCell ⟨b, o + i, none⟩ u) b o (i + 1) (vs.set (o + i) u) T h2 (by simp; omega) (fun x hx => h1 x (by simp [hx]))
  refine ⟨w', ?_, ?_, ?_, ?_, ?_, ?_, ?_⟩
  ·simp only [storeCells, Sem.run_bind, hs, Result.andThen_ok, r1]
  ·rw [r2]
   congr 2
   have hl : o + i < vs.length := by omega
   have : putL (vs.set (o + i) u) (o + (i + 1)) us = putL vs (o + i) (u :: us) := by
    unfold putL
    rw [List.set_eq_take_append_cons_drop, if_pos hl]
    have hlen2 : (List.take (o + i) vs).length = o + i := by simp; omega
    have e1 : (List.take (o + i) vs ++ u :: List.drop (o + i + 1) vs).take (o + (i + 1)) = List.take (o + i) vs ++ [u] := by
     rw [List.take_append, hlen2, List.take_of_length_le (by omega), show o + (i + 1) - (o + i) = 1 from by omega]; simp
    have e2 : (List.take (o + i) vs ++ u :: List.drop (o + i + 1) vs).drop (o + (i + 1) + us.length) = vs.drop (o + i + (us.length + 1)) := by
     rw [List.drop_append, hlen2, List.drop_eq_nil_of_le (by omega), show o + (i + 1) + us.length - (o + i) = us.length + 1 from by omega]
     simp [List.drop_drop]; congr 1; omega
    rw [e1, e2]; simp
   rw [this]
  ·intro k hk
   rw [r3 k hk]; exact Below.heap_setCell w ⟨b, o + i, none⟩ u k hk
  ·rw [r4]; simp [World.setCell]
  ·rw [r5]; rfl
  ·rw [r6]; rfl
  ·rw [r7]; rfl
theorem run_storeVar {P : Program} {t : TypeId} {n : Nat} {g : Bool} (ht : tsz P t = some (n, g)) {w : World} {b o : Nat} {v : Value} {vs : List Value} {T : TypeId} (hb : w.heap[b]? = some (.cells ⟨vs⟩ T (0, 0)))
  (hn : v.cells.size = n) (hlen : o + n ≤ vs.length) (h1 : ∀ u ∈ v.cells.toList, u.oneCell' = true) :
  ∃ w', (storeVar t ⟨b, o, none⟩ v).run P w = .ok () w' ∧ w'.heap[b]? = some (.cells ⟨putL vs o v.cells.toList⟩ T (0, 0)) ∧ (∀ k, k ≠ b → w'.heap[k]? = w.heap[k]?) ∧ w'.heap.size = w.heap.size ∧
   w'.os = w.os ∧ w'.tape = w.tape ∧ w'.output = w.output := by
 obtain ⟨w', r1, r2⟩ := run_storeCells (P := P) v.cells.toList w b o 0 vs T hb (by simp; omega) h1
 refine ⟨w', ?_, r2⟩
 simp only [storeVar, Sem.run_bind, (zar ht w).1, Result.andThen_ok, hn, ne_eq, not_true_eq_false, if_false]
 exact r1
theorem Mem.turn {n0 : Nat} {w0 : Base} {c : Cx} {ρ : Nat → AV} {L : Lk} {nenv : Nat} {w w' : World} (hm : Mem n0 w0 c ρ L nenv w) {i : Nat} {o o' : OS} {b : Nat} (hl : L i = some o) (hb : bl c i o = some b) (hb' : bl c i o' = some b)
  (hwf : o'.wf nenv L.dom = true) (hok : zgV c ρ w' i o') (hother : ∀ k, k ≠ b → w'.heap[k]? = w.heap[k]?) (hsize : w'.heap.size = w.heap.size) (hos : w'.os = w.os) (htape : w'.tape = w.tape) (hout : w'.output = w.output) :
  Mem n0 w0 c ρ (L.upd i o') nenv w' := by
 have hfr := hm.fresh i o b hl hb
 have hdj := hm.disj i o b hl hb
 refine hm.step i o' (Nat.le_refl _) (Cx.Keeps.refl _ _) (zam.refl _ _) hm.pure ?_ ?_ (by omega) ?_ hm.old (OS.wf_mono (Nat.le_refl _) (Lk.dom_upd L i _) hwf) hok ?_ ?_ (fun j o b _ => hm.disj j o b)
 ·refine hm.imm.keeps rfl rfl (fun k hk => hother k ?_)
  rintro rfl
  rcases hk with ⟨off, v, h⟩ | ⟨ob, h⟩
  ·exact hdj.1 off v h
  ·exact hdj.2 ob h
 ·intro k hk; exact hm.immlt k (by omega)
 ·exact hm.below.trans ⟨hos, htape, hout, by omega, fun k hk => hother k (by omega)⟩
 ·intro j oj bj hj hlj hbj
  refine hother bj ?_
  rintro rfl
  exact hj (hm.dist j i oj o bj hlj hl hbj hb)
 ·intro b2 hb2
  rw [hb'] at hb2; simp only [Option.some.injEq] at hb2; subst hb2
  exact ⟨hfr.1, by omega, fun j oj hj hlj hbj => hj (hm.dist j i oj o b hlj hl hbj hb), hdj⟩
theorem Mem.storeBox {P : Program} {n0 : Nat} {w0 : Base} {c : Cx} {ρ : Nat → AV} {L : Lk} {nenv : Nat} {w : World} (hm : Mem n0 w0 c ρ L nenv w) {i off n : Nat} {g : Bool} {t : TypeId} {cs us : List SE} {v : Value}
  (hl : L i = some (.box cs)) (ht : tsz P t = some (n, g)) (hn : v.cells.size = n) (hlen : off + n ≤ cs.length) (h1 : ∀ u ∈ v.cells.toList, u.oneCell' = true)
  (hr : Rvs c (dens ρ us) v.cells.toList) (hwf : SE.wfs nenv L.dom us = true) :
  ∃ w', (Instr.storeAt t (.pointer (some ⟨c.β i, off, none⟩)) v).run P w = .ok () w' ∧ Mem n0 w0 c ρ (L.upd i (.box (putL cs off us))) nenv w' := by
 obtain ⟨vs, T, hb, hvs, hh⟩ := hm.ok i _ hl
 have hlv := hvs.length; rw [zab] at hlv
 obtain ⟨w', r1, r2, r3, r4, r5, r6, r7⟩ := run_storeVar (P := P) ht hb hn (o := off) (by omega) h1
 refine ⟨w', by simpa [Instr.storeAt, Instr.sureAddr] using r1, ?_⟩
 have hcw : SE.wfs nenv L.dom cs = true := hm.wf i _ hl
 refine hm.turn hl rfl rfl ?_ ?_ r3 r4 r5 r6 r7
 ·show SE.wfs nenv L.dom (putL cs off us) = true
  have happ : ∀ (a b : List SE), SE.wfs nenv L.dom (a ++ b) = (SE.wfs nenv L.dom a && SE.wfs nenv L.dom b) := by
   intro a b
   induction a with
   | nil => simp [SE.wfs]
   | cons x a ih => simp [SE.wfs, ih, Bool.and_assoc]
  have hsub : ∀ (k : Nat) (a : List SE), SE.wfs nenv L.dom a = true → SE.wfs nenv L.dom (a.take k) = true ∧ SE.wfs nenv L.dom (a.drop k) = true := by
   intro k a ha
   rw [← List.take_append_drop k a, happ, Bool.and_eq_true] at ha
   exact ha
  simp only [putL, happ, hwf, (hsub _ _ hcw).1, (hsub _ _ hcw).2, Bool.and_self]
 ·refine ⟨putL vs off v.cells.toList, T, r2, by rw [zjB]; exact hvs.put hr off, ?_⟩
  have hsz : v.cells.toList.length = n := by simpa using hn
  have hl2 : (putL vs off v.cells.toList).length = vs.length := by simp [putL, hsz]; omega
  rw [hl2]; exact hh
end Go.Lb
namespace Go.Lb
open Go.RowKit
def FW (ro : Option Nat) : Fence := { Fence.wide with round := ro }
@[simp] theorem FW_fn (ro : Option Nat) (f : FuncId) : (FW ro).fn f = True := rfl
@[simp] theorem FW_depth (ro : Option Nat) : (FW ro).depth = none := rfl
@[simp] theorem FW_round (ro : Option Nat) : (FW ro).round = ro := rfl
theorem zdV {ro : Option Nat} {n : Nat} {P : Program} {f : FuncId} {args : Array Value} {w : World} {R : Ending → World → Prop} (h : Calls P f args w R) : CallsIn (FW ro) n P f args w R :=
 (callsIn_wide (n := n)).2 h
theorem zbB {P : Program} {ro : Option Nat} {n : Nat} {o : Oper} {a : Act} {w : World} {next : Act → World → Prop} {Q : Exit → Act → World → Prop} (hd : ∀ c, o.op ≠ .defer c)
  (h : o.uponIn (FW ro) n P a next Q ((execOp a.eval o).run P w)) : o.wpIn (FW ro) n P a w next Q :=
 ⟨fun _ _ => trivial, by rw [Oper.semAt_eq _ _ _ hd]; exact h⟩
theorem zas {P : Program} {ro : Option Nat} {n : Nat} {o : Oper} {a : Act} {w w' : World} {next : Act → World → Prop} {Q : Exit → Act → World → Prop} (hd : ∀ c, o.op ≠ .defer c) {v : Value}
  (hr : (execOp a.eval o).run P w = .ok (.value v) w') (h : next (a.put o.dst v) w') : o.wpIn (FW ro) n P a w next Q :=
 zbB hd (by rw [hr]; exact h)
abbrev Glob := List (List SE)
def zbD (G : Glob) (c : Cx) : Prop := ∀ g es, G[g]? = some es → Rcells c g 0 (dens (fun _ => .undef) es)
def zbh (P : Program) (G : Glob) (f : FuncId) (args : List AV) (r : AV) : Prop :=
 r.pure = true ∧ ∀ (w : World) (c : Cx) (vs : List Value), Imm c w → (∀ b, b ≥ w.heap.size → (∀ off v, c.I b off ≠ some v) ∧ (∀ ob, c.M b ≠ some ob)) → zbD G c → Rvs c args vs →
  Calls P f ⟨vs⟩ w fun e w' => ∃ v c', e = .returned v ∧ c.Le c' ∧ Imm c' w' ∧ (∀ b, b ≥ w'.heap.size → (∀ off v, c'.I b off ≠ some v) ∧ (∀ ob, c'.M b ≠ some ob)) ∧
   (∀ b, b < w.heap.size → (∀ off v, c'.I b off = some v → c.I b off = some v) ∧ (∀ o, c'.M b = some o → c.M b = some o)) ∧ Rv c' r v ∧ Below w.heap.size w w'
inductive Node where
 | chk (pcs : List (SE × Bool)) (o : PF) (args : List SE)
 | call (n : Nat) (pcs : List (SE × Bool)) (f : Nat) (args : List SE) (borrow : Bool)
 deriving Inhabited, Repr
def Holds (ρ : Nat → AV) (pcs : List (SE × Bool)) : Prop := ∀ x ∈ pcs, den ρ x.1 = .bool x.2
theorem Holds.nil (ρ : Nat → AV) : Holds ρ [] := fun _ h => by cases h
theorem Holds.cons {ρ : Nat → AV} {x : SE × Bool} {pcs : List (SE × Bool)} : Holds ρ (x :: pcs) ↔ den ρ x.1 = .bool x.2 ∧ Holds ρ pcs := by simp [Holds]
mutual
def AV.scalar : AV → Bool
 | .bool _ | .int _ _ | .nilp | .nilf => true
 | .agg cs | .tup cs => AV.scalars cs
 | _ => false
def AV.scalars : List AV → Bool
 | [] => true
 | a :: as => AV.scalar a && AV.scalars as
end
structure Ent where
 pcs : List (SE × Bool)
 se : SE
 deriving Inhabited, Repr
def zaM : List (Nat × Ent) → Nat → Option Ent
 | [], _ => none
 | (j, e) :: r, i => if Nat.beq i j then some e else zaM r i
def pcIn (p : SE × Bool) (pcs : List (SE × Bool)) : Bool := pcs.any fun q => (p.2 == q.2) && SE.beq p.1 q.1
def zow (ps pcs : List (SE × Bool)) : Bool := ps.all fun p => pcIn p pcs
theorem pcsIn_holds {ρ : Nat → AV} {ps pcs : List (SE × Bool)} (h : zow ps pcs = true) (hp : Holds ρ pcs) : Holds ρ ps := by
 intro x hx
 have h1 := List.all_eq_true.1 h x hx
 obtain ⟨q, hq, h2⟩ := List.any_eq_true.1 h1
 simp only [Bool.and_eq_true, beq_iff_eq] at h2
 rw [SE.beq_eq _ _ h2.2, h2.1]; exact hp q hq
def evS (G : Glob) (slots : List (Nat × Ent)) (pcs : List (SE × Bool)) : Operand → Option SE
 | .tmp t => match zaM slots t with
  | some e => if zow e.pcs pcs then some e.se else none
  | none => none
 | .const v => seOf v
 | .func f => some (.clo f [] [])
 | .global g => (G[g]?).map fun es => .ref es 0
def zco (n : Nat) (m : Nat → Bool) (pcs : List (SE × Bool)) : Bool := pcs.all fun p => p.1.wf n m
structure SlotOk (c : Cx) (ρ : Nat → AV) (nenv : Nat) (D : Nat → Bool) (tmps : Array Value) (d : Nat) (e : Ent) : Prop where
 yes : Holds ρ e.pcs → ∃ v, tmps[d]? = some v ∧ Rv c (den ρ e.se) v
 no : ¬ Holds ρ e.pcs → tmps[d]? = some undef
 wf : e.se.wf nenv D = true ∧ zco nenv D e.pcs = true
def zbo (c : Cx) (ρ : Nat → AV) (nenv : Nat) (D : Nat → Bool) (tmps : Array Value) (slots : List (Nat × Ent)) : Prop :=
 ∀ d e, zaM slots d = some e → SlotOk c ρ nenv D tmps d e
theorem zbD.keeps {G : Glob} {c c' : Cx} (h : zbD G c) (hc : c.Le c') (hG : ∀ (g : Nat) es, G[g]? = some es → SE.wfs 0 (fun _ => false) es = true) : zbD G c' := by
 intro g es hg
 have hk : c.Keeps (fun _ => false) c' := ⟨hc, fun _ h => Bool.noConfusion h, fun _ h => Bool.noConfusion h, fun _ h => Bool.noConfusion h⟩
 have := h g es hg
 have hu : AV.underAll (fun _ => false) (dens (fun _ => .undef) es) = true := zaX (fun _ => rfl) es (hG g es hg)
 generalize dens (fun _ => .undef) es = as at this hu
 generalize (0 : Nat) = o at this ⊢
 induction as generalizing o with
 | nil => exact .nil _ _
 | cons a as ih =>
  cases this with
  | cons _ _ _ v _ h1 h2 h3 =>
   simp only [AV.underAll, Bool.and_eq_true] at hu
   exact .cons _ _ _ v _ (hc.I _ _ _ h1) (zch hk h2 hu.1) (ih hu.2 _ h3)
theorem zlS : ∀ (v : Value) (e : SE), seOf v = some e → ∀ (n : Nat) (m : Nat → Bool), e.wf n m = true := by
 have key : ∀ (k : Nat), (∀ (v : Value) (e : SE), SizeOf.sizeOf v ≤ k → seOf v = some e → ∀ (n : Nat) (m : Nat → Bool), e.wf n m = true) ∧ (∀ (vs : List Value) (es : List SE), SizeOf.sizeOf vs ≤ k → zfc vs = some es → ∀ (n : Nat) (m : Nat → Bool), SE.wfs n m es = true) := by
  intro k
  induction k with
  | zero => exact ⟨fun v _ h => by cases v <;> simp at h, fun vs _ h => by cases vs <;> simp at h⟩
  | succ k ih =>
   refine ⟨fun v e hk h n m => ?_, fun vs es hk h n m => ?_⟩
   ·unfold seOf at h
    split at h <;> try (simp only [Option.some.injEq] at h; subst h; rfl)
    ·obtain ⟨es, h1, rfl⟩ := Option.map_eq_some_iff.1 h
     rename_i vs
     exact ih.2 vs es (by simp at hk; omega) h1 n m
    ·cases h
   ·cases vs with
    | nil => simp only [zfc, Option.some.injEq] at h; subst h; rfl
    | cons v vs =>
     simp only [zfc] at h
     split at h
     ·rename_i e es' h1 h2
      simp only [Option.some.injEq] at h; subst h
      simp at hk
      simp only [SE.wfs, ih.1 v e (by omega) h1 n m, ih.2 vs es' (by omega) h2 n m, Bool.and_self]
     ·cases h
 exact fun v e h => (key (SizeOf.sizeOf v)).1 v e (Nat.le_refl _) h
theorem zb8 {G : Glob} {c : Cx} {ρ : Nat → AV} {nenv : Nat} {D : Nat → Bool} {a : Act} {slots : List (Nat × Ent)} {pcs : List (SE × Bool)} (hs : zbo c ρ nenv D a.tmps slots) (hG : zbD G c)
  (hGw : ∀ (g : Nat) es, G[g]? = some es → SE.wfs 0 (fun _ => false) es = true) (hp : Holds ρ pcs) {x : Operand} {e : SE} (h : evS G slots pcs x = some e) : Rv c (den ρ e) (a.eval x) ∧ e.wf nenv D = true := by
 cases x with
 | tmp t =>
  simp only [evS] at h
  split at h
  ·rename_i en hf
   split at h
   ·rename_i hi
    simp only [Option.some.injEq] at h; subst h
    have hso := hs t en hf
    obtain ⟨v, hv, hr⟩ := hso.yes (pcsIn_holds hi hp)
    refine ⟨?_, hso.wf.1⟩
    simp only [Act.eval]
    rw [Array.getD_eq_getD_getElem?, hv]; exact hr
   ·cases h
  ·cases h
 | const v => exact ⟨zeJ c ρ v e h, zlS v e h _ _⟩
 | func f => simp only [evS, Option.some.injEq] at h; subst h; exact ⟨.clo f [] [] [] [] .nil .nil, rfl⟩
 | global g =>
  simp only [evS, Option.map_eq_some_iff] at h
  obtain ⟨es, h1, rfl⟩ := h
  have hw := hGw g es h1
  refine ⟨?_, SE.wf_mono (Nat.zero_le _) (fun _ h => Bool.noConfusion h) (e := .ref es 0) hw⟩
  have he : dens ρ es = dens (fun _ => .undef) es := zau (n := 0) (m := fun _ => false) (fun i hi => absurd hi (Nat.not_lt_zero _)) es hw
  simp only [den, he]
  exact Rv.ref _ g 0 0 (hG g es h1)
end Go.Lb
