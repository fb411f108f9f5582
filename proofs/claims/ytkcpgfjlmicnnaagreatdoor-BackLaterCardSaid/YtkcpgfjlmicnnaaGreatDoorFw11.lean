/- Arguments that are read as data, as pure values. -/
import Derived.Test.YtkcpgfjlmicnnaaGreatDoorFw10
import Derived.ProofKit
import Derived.LaidMore
import Derived.LaidLaws
import Derived.MakeChecks
import Derived.OpenShut
import Derived.Deep.DeepHandedRow
set_option linter.unusedSimpArgs false
set_option linter.unusedVariables false
namespace Go.Lb
open Go.RowKit Go.ChangeShapes
def TyFs (T : TypeId → List AV → Prop) : List Field → List AV → Prop
 | [], as => as = []
 | f :: fs, as => ∃ p q, as = p ++ q ∧ T f.type p ∧ TyFs T fs q
def zhN (T : List AV → Prop) : Nat → List AV → Prop
 | 0, as => as = []
 | n + 1, as => ∃ p q, as = p ++ q ∧ T p ∧ zhN T n q
def isSt (P : Program) (e : TypeId) : Bool := match P.underlying e with
 | some (.struct _) | some (.array ..) => true
 | _ => false
def Ty (P : Program) : Nat → TypeId → List AV → Prop
 | 0, _, _ => False
 | n + 1, t, as => match P.underlying t with
  | some .bool => ∃ b, as = [.bool b]
  | some (.int k) => ∃ m, as = [.int k m] ∧ k.min ≤ m ∧ m ≤ k.max
  | some (.slice e) => ∃ es, as = [.sl es] ∧ es.length ≤ maxLen ∧ ∀ x ∈ es, Ty P n e x.cells ∧ (isSt P e = true ↔ ∃ cs, x = .agg cs)
  | some (.struct fs) => TyFs (Ty P n) fs.toList as
  | some (.array k e) => zhN (Ty P n e) k as
  | _ => False
def ziM (P : Program) : List Field → Nat → Nat → Bool
 | [], off, zbV => decide (off = zbV)
 | f :: fs, off, zbV => decide (f.offset = off) && ziM P fs (off + P.cellsOf f.type) zbV
def za1 (P : Program) : Nat → TypeId → Bool
 | 0, _ => false
 | n + 1, t => match P.underlying t with
  | some .bool | some (.int _) => decide (P.cellsOf t = 1)
  | some (.slice e) => decide (P.cellsOf t = 1) && decide (0 < P.cellsOf e) && za1 P n e && (isSt P e || decide (P.cellsOf e = 1))
  | some (.struct fs) => ziM P fs.toList 0 (P.cellsOf t) && fs.toList.all fun f => za1 P n f.type
  | some (.array k e) => decide (k * P.cellsOf e = P.cellsOf t) && za1 P n e
  | _ => false
mutual
def AV.bnd (B : Nat) : AV → Prop
 | .sl es => es.length ≤ B ∧ AV.bnds B es
 | .agg cs => AV.bnds B cs
 | _ => True
def AV.bnds (B : Nat) : List AV → Prop
 | [] => True
 | x :: xs => AV.bnd B x ∧ AV.bnds B xs
end
theorem ziW (B : Nat) (xs ys : List AV) : AV.bnds B (xs ++ ys) ↔ AV.bnds B xs ∧ AV.bnds B ys := by
 induction xs with
 | nil => simp [AV.bnds]
 | cons x xs ih => simp only [List.cons_append, AV.bnds, ih, and_assoc]
theorem zkM {B : Nat} {x : AV} : AV.bnd B x ↔ AV.bnds B x.cells := by
 cases x <;> simp [AV.bnd, AV.bnds, AV.cells]
structure Bulk (H : Type) where
 f : DataW H → Nat
 sl : ∀ elems spare, elems.length ≤ f (.slice elems spare)
 el : ∀ elems spare d, d ∈ elems → f d ≤ f (.slice elems spare)
 ag : ∀ parts d, d ∈ parts → f d ≤ f (.agg parts)
def Small {H : Type} (ds : List (DataW H)) (as : List AV) : Prop := ∀ (bk : Bulk H) (B : Nat), (∀ d ∈ ds, bk.f d ≤ B) → AV.bnds B as
def zig : IntKind → Nat
 | .i8 => 1 | .u8 => 1 | .i16 => 2 | .u16 => 2 | .i32 => 4 | .u32 => 4 | .i64 => 8 | .u64 => 8
def AV.bytes1 : AV → Nat
 | .bool _ => 1
 | .int k _ => zig k
 | .sl _ => 24
 | _ => 0
def AV.bytesL : List AV → Nat
 | [] => 0
 | x :: xs => x.bytes1 + AV.bytesL xs
theorem zdZ (xs ys : List AV) : AV.bytesL (xs ++ ys) = AV.bytesL xs + AV.bytesL ys := by
 induction xs with
 | nil => simp [AV.bytesL]
 | cons x xs ih => simp only [List.cons_append, AV.bytesL, ih]; omega
mutual
def AV.wgt (R : Nat) : AV → Prop
 | .sl es => (∀ x ∈ es, es.length * AV.bytesL x.cells ≤ R) ∧ AV.wgts R es
 | .agg cs => AV.wgts R cs
 | _ => True
def AV.wgts (R : Nat) : List AV → Prop
 | [] => True
 | x :: xs => AV.wgt R x ∧ AV.wgts R xs
end
theorem zf1 (R : Nat) (xs ys : List AV) : AV.wgts R (xs ++ ys) ↔ AV.wgts R xs ∧ AV.wgts R ys := by
 induction xs with
 | nil => simp [AV.wgts]
 | cons x xs ih => simp only [List.cons_append, AV.wgts, ih, and_assoc]
theorem zcF {R : Nat} {xs : List AV} (h : AV.wgts R xs) : ∀ x ∈ xs, AV.wgt R x := by
 induction xs with
 | nil => intro x hx; cases hx
 | cons y xs ih =>
  intro x hx
  simp only [AV.wgts] at h
  rcases List.mem_cons.1 hx with rfl | hx
  ·exact h.1
  ·exact ih h.2 x hx
theorem zlU {R : Nat} {x : AV} : AV.wgt R x ↔ AV.wgts R x.cells := by
 cases x <;> simp [AV.wgt, AV.wgts, AV.cells]
def zaT (P : Program) : Nat → TypeId → Bool
 | 0, _ => false
 | n + 1, t => match P.underlying t with
  | some .bool => decide (1 ≤ P.bytesOf t)
  | some (.int k) => decide (zig k ≤ P.bytesOf t)
  | some (.slice e) => decide (24 ≤ P.bytesOf t) && zaT P n e
  | some (.struct fs) => decide ((fs.toList.map fun f => P.bytesOf f.type).sum ≤ P.bytesOf t) && fs.toList.all fun f => zaT P n f.type
  | some (.array k e) => decide (k * P.bytesOf e ≤ P.bytesOf t) && zaT P n e
  | _ => false
theorem zgR {P : Program} {n : Nat} (ih : ∀ t as, zaT P n t = true → Ty P n t as → AV.bytesL as ≤ P.bytesOf t) : ∀ (fs : List Field) (as : List AV), (fs.all fun f => zaT P n f.type) = true → TyFs (Ty P n) fs as → AV.bytesL as ≤ (fs.map fun f => P.bytesOf f.type).sum
 | [], as, _, h => by cases h; simp [AV.bytesL]
 | f :: fs, as, hb, h => by
  obtain ⟨p, q, rfl, h1, h2⟩ := h
  simp only [List.all_cons, Bool.and_eq_true] at hb
  have e1 := ih _ p hb.1 h1
  have e2 := zgR ih fs q hb.2 h2
  rw [zdZ]
  simp only [List.map_cons, List.sum_cons]
  omega
theorem ze1 {T : List AV → Prop} {B : Nat} (ih : ∀ as, T as → AV.bytesL as ≤ B) : ∀ (k : Nat) (as : List AV), zhN T k as → AV.bytesL as ≤ k * B
 | 0, as, h => by cases h; simp [AV.bytesL]
 | k + 1, as, h => by
  obtain ⟨p, q, rfl, h1, h2⟩ := h
  have e1 := ih p h1
  have e2 := ze1 ih k q h2
  rw [zdZ, Nat.succ_mul]
  omega
theorem zhG {P : Program} : ∀ (n : Nat) (t : TypeId) (as : List AV), zaT P n t = true → Ty P n t as → AV.bytesL as ≤ P.bytesOf t
 | 0, _, _, h, _ => by simp [zaT] at h
 | n + 1, t, as, hb, h => by
  simp only [Ty] at h
  simp only [zaT] at hb
  split at h
  ·rename_i ht
   rw [ht] at hb
   obtain ⟨b, rfl⟩ := h
   simpa [AV.bytesL, AV.bytes1] using hb
  ·rename_i k ht
   rw [ht] at hb
   obtain ⟨m, rfl, _⟩ := h
   simpa [AV.bytesL, AV.bytes1] using hb
  ·rename_i e ht
   rw [ht] at hb
   obtain ⟨es, rfl, _⟩ := h
   simp only [Bool.and_eq_true, decide_eq_true_eq] at hb
   simpa [AV.bytesL, AV.bytes1] using hb.1
  ·rename_i fs ht
   rw [ht] at hb
   simp only [Bool.and_eq_true, decide_eq_true_eq] at hb
   exact Nat.le_trans (zgR (fun t as => zhG n t as) _ _ hb.2 h) hb.1
  ·rename_i k e ht
   rw [ht] at hb
   simp only [Bool.and_eq_true, decide_eq_true_eq] at hb
   exact Nat.le_trans (ze1 (fun as => zhG n e as hb.2) _ _ h) hb.1
  ·exact h.elim
def ziR {H : Type} (P : Program) (n : Nat) (t : TypeId) (d : DataW H) (as : List AV) : Prop := zaT P n t = true → ∀ R, (∀ x ∈ DataW.weights P t d, x ≤ R) → AV.wgts R as
def zfm {H : Type} (P : Program) (n : Nat) (e : TypeId) (ds : List (DataW H)) (as : List AV) : Prop := zaT P n e = true → ∀ R, (∀ x ∈ DataW.weightsAll P e ds, x ≤ R) → AV.wgts R as
def zhK {H : Type} (P : Program) (n : Nat) (fs : List Field) (ds : List (DataW H)) (as : List AV) : Prop := (fs.all fun f => zaT P n f.type) = true → ∀ R, (∀ x ∈ DataW.weightsEach P (fs.map (·.type)) ds, x ≤ R) → AV.wgts R as
theorem zfm.cons {H : Type} {P : Program} {n : Nat} {e : TypeId} {y : DataW H × List MemPlace} {ys xs : List (DataW H × List MemPlace)} {p q : List AV} (h : y :: ys = xs) (h1 : ziR P n e y.1 p) (h2 : zfm P n e (ys.map (·.1)) q) : zfm P n e (xs.map (·.1)) (p ++ q) := by
 subst h
 intro hb R hr
 simp only [List.map_cons, DataW.weightsAll, List.mem_append] at hr
 rw [zf1]
 exact ⟨h1 hb R fun x hx => hr x (.inl hx), h2 hb R fun x hx => hr x (.inr hx)⟩
theorem zhK.cons {H : Type} {P : Program} {n : Nat} {f : Field} {fs : List Field} {y : DataW H × List MemPlace} {ys xs : List (DataW H × List MemPlace)} {p q : List AV} (h : y :: ys = xs) (h1 : ziR P n f.type y.1 p) (h2 : zhK P n fs (ys.map (·.1)) q) : zhK P n (f :: fs) (xs.map (·.1)) (p ++ q) := by
 subst h
 intro hb R hr
 simp only [List.all_cons, Bool.and_eq_true] at hb
 simp only [List.map_cons, DataW.weightsEach, List.mem_append] at hr
 rw [zf1]
 exact ⟨h1 hb.1 R fun x hx => hr x (.inl hx), h2 hb.2 R fun x hx => hr x (.inr hx)⟩
def Cx.all (w : World) : Cx := { I := fun b o => w.cell? ⟨b, o, none⟩, M := fun b => w.heap[b]?, β := fun _ => 0, h := fun _ => .nilFunc, L := fun _ => default }
section
variable {H : Type} {enc : TypeId × Value → H} {P : Program} {w : World} {base : Nat} {spare : Nat → Bool} {held : Bool}
theorem trod_bool {fuel : Nat} {t : TypeId} {cs : List Value} {y : DataW H × List MemPlace} (ht : P.underlying t = some .bool) (h : DataW.trod enc P w base spare held (fuel + 1) t cs = some y) : ∃ b, cs = [.bool b] := by
 unfold DataW.trod at h
 rw [ht] at h
 split at h <;> simp_all
theorem trod_int {fuel : Nat} {t : TypeId} {k : IntKind} {cs : List Value} {y : DataW H × List MemPlace} (ht : P.underlying t = some (.int k)) (h : DataW.trod enc P w base spare held (fuel + 1) t cs = some y) : ∃ m, cs = [.int k m] ∧ k.min ≤ m ∧ m ≤ k.max := by
 unfold DataW.trod at h
 rw [ht] at h
 split at h <;> simp_all
 ·have hw := h.1.2
  simpa [Lit.wf] using hw
theorem zkB {fuel : Nat} {t e : TypeId} {cs : List Value} {y : DataW H × List MemPlace} (ht : P.underlying t = some (.slice e)) (h : DataW.trod enc P w base spare held (fuel + 1) t cs = some y) :
  cs = [.slice none 0 0] ∨ ∃ a len cap elems rest, cs = [.slice (some a) len cap] ∧ len ≤ cap ∧ cap ≤ maxLen ∧
   (List.range len).mapM (fun i => (w.cells? base (a.add (i * P.cellsOf e)) (P.cellsOf e)).bind (DataW.trod enc P w base spare held fuel e)) = some elems ∧
   (if spare a.block then (List.range (cap - len)).mapM (fun j => (w.cells? base (a.add ((len + j) * P.cellsOf e)) (P.cellsOf e)).bind (DataW.trod enc P w base spare held fuel e)) else some []) = some rest ∧ y.1 = .slice (elems.map (·.1)) (rest.map (·.1)) := by
 unfold DataW.trod at h
 rw [ht] at h
 split at h <;> try (simp_all; done)
 ·right
  rename_i e' a len cap h1
  cases h1
  dsimp only at h
  split at h
  ·rename_i hc
   obtain ⟨elems, h3, h4⟩ := Option.bind_eq_some_iff.1 h
   obtain ⟨rest, h5, h6⟩ := Option.map_eq_some_iff.1 h4
   exact ⟨a, len, cap, elems, rest, rfl, hc.2.1, hc.2.2, h3, h5, by rw [← h6]⟩
  ·cases h
theorem zju {fuel : Nat} {t : TypeId} {fs : Array Field} {cs : List Value} {y : DataW H × List MemPlace} (ht : P.underlying t = some (.struct fs)) (h : DataW.trod enc P w base spare held (fuel + 1) t cs = some y) :
  cs.length = P.cellsOf t ∧ ∃ xs, fs.toList.mapM (fun f => DataW.trod enc P w base spare held fuel f.type ((cs.drop f.offset).take (P.cellsOf f.type))) = some xs ∧ y.1 = .agg (xs.map (·.1)) := by
 unfold DataW.trod at h
 rw [ht] at h
 split at h <;> try (simp_all; done)
 ·rename_i fs' h1
  cases h1
  split at h
  ·rename_i hc
   obtain ⟨xs, h3, h4⟩ := Option.map_eq_some_iff.1 h
   exact ⟨hc, xs, h3, by rw [← h4]⟩
  ·cases h
theorem zkA {fuel k : Nat} {t e : TypeId} {cs : List Value} {y : DataW H × List MemPlace} (ht : P.underlying t = some (.array k e)) (h : DataW.trod enc P w base spare held (fuel + 1) t cs = some y) :
  cs.length = P.cellsOf t ∧ ∃ xs, (List.range k).mapM (fun i => DataW.trod enc P w base spare held fuel e ((cs.drop (i * P.cellsOf e)).take (P.cellsOf e))) = some xs ∧ y.1 = .agg (xs.map (·.1)) := by
 unfold DataW.trod at h
 rw [ht] at h
 split at h <;> try (simp_all; done)
 ·rename_i k' e' h1
  cases h1
  split at h
  ·rename_i hc
   obtain ⟨xs, h3, h4⟩ := Option.map_eq_some_iff.1 h
   exact ⟨hc, xs, h3, by rw [← h4]⟩
  ·cases h
theorem Small.cons {H : Type} {y : DataW H × List MemPlace} {ys xs : List (DataW H × List MemPlace)} {p q : List AV} (h : y :: ys = xs) (h1 : Small [y.1] p) (h2 : Small (ys.map (·.1)) q) : Small (xs.map (·.1)) (p ++ q) := by
 subst h
 intro bk B hb
 simp only [List.map_cons, List.mem_cons] at hb
 rw [ziW]
 exact ⟨h1 bk B fun d hd => by simp only [List.mem_singleton] at hd; exact hb d (.inl hd), h2 bk B fun d hd => hb d (.inr hd)⟩
theorem zit {n fuel sz : Nat} {e : TypeId} {cs : List Value} (hsz : P.cellsOf e = sz) (ih : ∀ (cs : List Value) (y : DataW H × List MemPlace), DataW.trod enc P w base spare held fuel e cs = some y → ∃ as, Rvs (Cx.all w) as cs ∧ Ty P n e as ∧ cs.length = P.cellsOf e ∧ Small [y.1] as ∧ ziR P n e y.1 as) :
  ∀ (k i : Nat) (xs : List (DataW H × List MemPlace)), cs.length = (i + k) * sz →
   (List.range' i k).mapM (fun i => DataW.trod enc P w base spare held fuel e ((cs.drop (i * sz)).take sz)) = some xs → ∃ as, Rvs (Cx.all w) as (cs.drop (i * sz)) ∧ zhN (Ty P n e) k as ∧ Small (xs.map (·.1)) as ∧ zfm P n e (xs.map (·.1)) as
 | 0, i, xs, hl, h => by
  refine ⟨[], ?_, rfl, fun _ _ _ => trivial, fun _ _ _ => trivial⟩
  rw [List.drop_of_length_le (by rw [hl]; simp)]; exact .nil
 | k + 1, i, xs, hl, h => by
  rw [List.range'_succ, List.mapM_cons] at h
  simp only [Option.bind_eq_bind, Option.pure_def] at h
  obtain ⟨y, h1, h2⟩ := Option.bind_eq_some_iff.1 h
  obtain ⟨ys, h3, h9⟩ := Option.bind_eq_some_iff.1 h2
  obtain ⟨p, r1, r2, r3, r6, r8⟩ := ih _ y h1
  obtain ⟨q, r4, r5, r7, r9⟩ := zit hsz ih k (i + 1) ys (by rw [hl]; congr 1; omega) h3
  simp only [Option.some.injEq] at h9
  refine ⟨p ++ q, ?_, ⟨p, q, rfl, r2, r5⟩, Small.cons h9 r6 r7, zfm.cons h9 r8 r9⟩
  have : cs.drop (i * sz) = (cs.drop (i * sz)).take sz ++ cs.drop ((i + 1) * sz) := by
   rw [Nat.succ_mul, ← List.drop_drop, List.take_append_drop]
  rw [this]
  exact r1.append r4
theorem zfL {n fuel zbV : Nat} {cs : List Value} (ih : ∀ (t : TypeId) (cs : List Value) (y : DataW H × List MemPlace), za1 P n t = true → DataW.trod enc P w base spare held fuel t cs = some y → ∃ as, Rvs (Cx.all w) as cs ∧ Ty P n t as ∧ cs.length = P.cellsOf t ∧ Small [y.1] as ∧ ziR P n t y.1 as)
  (hl : cs.length = zbV) : ∀ (fs : List Field) (off : Nat) (xs : List (DataW H × List MemPlace)), ziM P fs off zbV = true → (fs.all fun f => za1 P n f.type) = true →
   fs.mapM (fun f => DataW.trod enc P w base spare held fuel f.type ((cs.drop f.offset).take (P.cellsOf f.type))) = some xs → ∃ as, Rvs (Cx.all w) as (cs.drop off) ∧ TyFs (Ty P n) fs as ∧ Small (xs.map (·.1)) as ∧ zhK P n fs (xs.map (·.1)) as
 | [], off, xs, ht, hp, h => by
  simp only [ziM, decide_eq_true_eq] at ht
  refine ⟨[], ?_, rfl, fun _ _ _ => trivial, fun _ _ _ => trivial⟩
  rw [List.drop_of_length_le (by omega)]; exact .nil
 | f :: fs, off, xs, ht, hp, h => by
  simp only [ziM, Bool.and_eq_true, decide_eq_true_eq] at ht
  simp only [List.all_cons, Bool.and_eq_true] at hp
  rw [List.mapM_cons] at h
  simp only [Option.bind_eq_bind, Option.pure_def] at h
  obtain ⟨y, h1, h2⟩ := Option.bind_eq_some_iff.1 h
  obtain ⟨ys, h3, h9⟩ := Option.bind_eq_some_iff.1 h2
  obtain ⟨p, r1, r2, r3, r6, r8⟩ := ih _ _ y hp.1 h1
  obtain ⟨q, r4, r5, r7, r9⟩ := zfL ih hl fs _ ys ht.2 hp.2 h3
  simp only [Option.some.injEq] at h9
  refine ⟨p ++ q, ?_, ⟨p, q, rfl, r2, r5⟩, Small.cons h9 r6 r7, zhK.cons h9 r8 r9⟩
  have : cs.drop off = (cs.drop off).take (P.cellsOf f.type) ++ cs.drop (off + P.cellsOf f.type) := by
   rw [← List.drop_drop, List.take_append_drop]
  rw [this]
  rw [ht.1] at r1
  exact r1.append r4
theorem zgI {n fuel sz : Nat} {e : TypeId} {a : Addr} (ih : ∀ (cs : List Value) (y : DataW H × List MemPlace), DataW.trod enc P w base spare held fuel e cs = some y → ∃ as, Rvs (Cx.all w) as cs ∧ Ty P n e as ∧ cs.length = P.cellsOf e ∧ Small [y.1] as ∧ ziR P n e y.1 as)
  (hsz : P.cellsOf e = sz) (h0 : 0 < sz) (hone : isSt P e = true ∨ sz = 1) (hsp : a.spot = none) : ∀ (len i : Nat) (xs : List (DataW H × List MemPlace)),
   ((List.range' i len).mapM fun i => (w.cells? base (a.add (i * sz)) sz).bind (DataW.trod enc P w base spare held fuel e)) = some xs →
   ∃ es, es.length = len ∧ (∀ x ∈ es, Ty P n e x.cells ∧ (isSt P e = true ↔ ∃ cs, x = .agg cs)) ∧ (∀ x ∈ es, x.cells.length = sz) ∧ Rcells (Cx.all w) a.block (a.off + i * sz) (AV.flat es) ∧ xs.length = len ∧ Small (xs.map (·.1)) es ∧ zfm P n e (xs.map (·.1)) es
 | 0, i, xs, h => ⟨[], rfl, by simp, by simp, .nil _ _, by simp at h; subst h; rfl, fun _ _ _ => trivial, fun _ _ _ => trivial⟩
 | len + 1, i, xs, h => by
  rw [List.range'_succ, List.mapM_cons] at h
  simp only [Option.bind_eq_bind, Option.pure_def] at h
  obtain ⟨y, h1, h2⟩ := Option.bind_eq_some_iff.1 h
  obtain ⟨ys, h3, h9⟩ := Option.bind_eq_some_iff.1 h2
  simp only [Option.some.injEq] at h9
  obtain ⟨cs, h4, h5⟩ := Option.bind_eq_some_iff.1 h1
  obtain ⟨as, r1, r2, r3, r6, r8⟩ := ih cs y h5
  obtain ⟨es, q1, q2, q3, q4, q5, q6, q8⟩ := zgI ih hsz h0 hone hsp len (i + 1) ys h3
  obtain ⟨_, c1, c2⟩ := World.cells?_some h4
  have hlen : as.length = sz := by rw [← hsz, ← r3, r1.length]
  have hx : ∃ x : AV, x.cells = as ∧ (isSt P e = true ↔ ∃ cs, x = .agg cs) := by
   by_cases hs : isSt P e = true
   ·exact ⟨.agg as, rfl, ⟨fun _ => ⟨as, rfl⟩, fun _ => hs⟩⟩
   ·have h1 : sz = 1 := by rcases hone with h | h; exact absurd h hs; exact h
    match as, hlen with
    | [x], _ =>
     suffices hna : ∀ cs, x ≠ .agg cs by
      refine ⟨x, ?_, ⟨fun h => absurd h hs, fun ⟨cs, h⟩ => absurd h (hna cs)⟩⟩
      cases x <;> first | rfl | exact absurd rfl (hna _)
     rintro cs' rfl
     cases n with
     | zero => exact r2
     | succ n =>
      simp only [Ty] at r2
      unfold isSt at hs
      split at r2 <;> try (simp at r2; done)
      ·rename_i fs hfs; rw [hfs] at hs; simp at hs
      ·rename_i fs hfs; rw [hfs] at hs; simp at hs
    | [], h => simp at h; omega
    | _ :: _ :: _, h => simp at h; omega
  obtain ⟨x, hxc, hxa⟩ := hx
  refine ⟨x :: es, by simp [q1], ?_, ?_, ?_, by rw [← h9]; simp [q5], Small.cons (p := [x]) h9 (fun bk B hb => by simp only [AV.bnds, and_true]; rw [zkM, hxc]; exact r6 bk B hb) q6, zfm.cons (p := [x]) h9 (fun hb R hr => by simp only [AV.wgts, and_true]; rw [zlU, hxc]; exact r8 hb R hr) q8⟩
  ·intro z hz
   rcases List.mem_cons.1 hz with rfl | hz
   ·exact ⟨by rw [hxc]; exact r2, hxa⟩
   ·exact q2 z hz
  ·intro z hz
   rcases List.mem_cons.1 hz with rfl | hz
   ·rw [hxc]; exact hlen
   ·exact q3 z hz
  ·rw [zaY, hxc]
   have hadd : ∀ k, (a.add (i * sz)).add k = ⟨a.block, a.off + i * sz + k, none⟩ := by
    intro k
    cases a with
    | mk b o s =>
     simp only at hsp; subst hsp
     unfold Addr.add
     by_cases h1 : i * sz = 0
     ·simp only [h1, if_true]
      by_cases h2 : k = 0 <;> simp [h2]
     ·simp only [h1, if_false]
      by_cases h2 : k = 0 <;> simp [h2]
   have hcells : ∀ (as : List AV) (cs : List Value) (k : Nat), Rvs (Cx.all w) as cs → (∀ j, j < cs.length → w.cell? ⟨a.block, a.off + i * sz + k + j, none⟩ = cs[j]?) →
     ∀ rest, Rcells (Cx.all w) a.block (a.off + i * sz + k + as.length) rest → Rcells (Cx.all w) a.block (a.off + i * sz + k) (as ++ rest) := by
    intro as
    induction as with
    | nil => intro cs k h hc rest hr; cases h; simpa using hr
    | cons x xs ihx =>
     intro cs k h hc rest hr
     cases h with
     | cons _ v _ vs h1 h2 =>
      have hv := hc 0 (by simp)
      simp only [Nat.add_zero, List.getElem?_cons_zero] at hv
      refine .cons _ _ _ v _ hv h1 ?_
      have := ihx vs (k + 1) h2 (fun j hj => by
       have := hc (j + 1) (by simpa using hj)
       rw [show a.off + i * sz + (k + 1) + j = a.off + i * sz + k + (j + 1) from by omega, this]; simp) rest
       (by rw [show a.off + i * sz + (k + 1) + xs.length = a.off + i * sz + k + (x :: xs).length from by simp; omega]; exact hr)
      exact this
   have := hcells as cs 0 r1 (fun j hj => by
    rw [← c2 j (by omega), hadd]; rfl) (AV.flat es)
    (by rw [hlen, show a.off + i * sz + 0 + sz = a.off + (i + 1) * sz from by rw [Nat.succ_mul]; omega]; exact q4)
   simpa using this
theorem zmE : ∀ (n fuel : Nat) (t : TypeId) (cs : List Value) (y : DataW H × List MemPlace), za1 P n t = true →
  DataW.trod enc P w base (fun _ => true) held fuel t cs = some y → ∃ as, Rvs (Cx.all w) as cs ∧ Ty P n t as ∧ cs.length = P.cellsOf t ∧ Small [y.1] as ∧ ziR P n t y.1 as := by
 intro n
 induction n with
 | zero => intro fuel t cs y h; simp [za1] at h
 | succ n ih =>
  intro fuel t cs y hp h
  cases fuel with
  | zero => simp [DataW.trod] at h
  | succ fuel =>
   simp only [za1] at hp
   simp only [Ty]
   split at hp
   ·rename_i ht
    obtain ⟨b, rfl⟩ := trod_bool ht h
    simp only [decide_eq_true_eq] at hp
    exact ⟨[.bool b], .cons _ _ _ _ (.bool b) .nil, ⟨b, rfl⟩, by simp [hp], fun _ _ _ => ⟨trivial, trivial⟩, fun _ _ _ => ⟨trivial, trivial⟩⟩
   ·rename_i k ht
    obtain ⟨m, rfl, hm⟩ := trod_int ht h
    simp only [decide_eq_true_eq] at hp
    exact ⟨[.int k m], .cons _ _ _ _ (.int k m) .nil, ⟨m, rfl, hm⟩, by simp [hp], fun _ _ _ => ⟨trivial, trivial⟩, fun _ _ _ => ⟨trivial, trivial⟩⟩
   ·rename_i e ht
    simp only [Bool.and_eq_true, decide_eq_true_eq, Bool.or_eq_true] at hp
    rcases zkB ht h with rfl | ⟨a, len, cap, elems, rest, rfl, h1, h2, h3, h4, hy1⟩
    ·exact ⟨[.sl []], .cons _ _ _ _ .slnil .nil, ⟨[], rfl, by simp, by simp⟩, by simp [hp.1.1.1], fun _ _ _ => ⟨⟨Nat.zero_le _, trivial⟩, trivial⟩, fun _ _ _ => ⟨⟨by simp, trivial⟩, trivial⟩⟩
    ·by_cases hsp : a.spot = none
     ·rw [List.range_eq_range'] at h3
      obtain ⟨es, q1, q2, q3, q4, q5, q6, q8⟩ := zgI (n := n) (e := e) (sz := P.cellsOf e) (fun cs y hy => ih fuel e cs y hp.1.2 hy) rfl hp.1.1.2 hp.2 hsp len 0 elems h3
      refine ⟨[.sl es], .cons _ _ _ _ ?_ .nil, ⟨es, rfl, by omega, q2⟩, by simp [hp.1.1.1], fun bk B hb => ?_, fun hb R hr => ?_⟩
      rotate_left
      ·have hB := hb y.1 (List.mem_singleton.2 rfl)
       rw [hy1] at hB
       have s1 := bk.sl (elems.map (·.1)) (rest.map (·.1))
       rw [List.length_map] at s1
       exact ⟨⟨by omega, q6 bk B fun d hd => Nat.le_trans (bk.el _ _ d hd) hB⟩, trivial⟩
      ·simp only [zaT, ht, Bool.and_eq_true] at hb
       rw [hy1] at hr
       simp only [DataW.weights, ht, List.mem_cons, List.mem_append, List.length_map] at hr
       refine ⟨⟨fun x hx => ?_, q8 hb.2 R fun x hx => hr x (.inr (.inl hx))⟩, trivial⟩
       have e1 := zhG n e _ hb.2 (q2 x hx).1
       have e2 := hr _ (.inl rfl)
       have e3 : es.length * AV.bytesL x.cells ≤ (elems.length + rest.length) * P.bytesOf e := Nat.mul_le_mul (by omega) e1
       omega
      have : a = ⟨a.block, a.off, none⟩ := by cases a; simp_all
      rw [this, ← q1]
      refine .sl es (P.cellsOf e) _ _ cap (by omega) q3 ?_
      simpa using q4
     ·
      have bad : ∀ i, i * P.cellsOf e = 0 → ∀ y, (w.cells? base (a.add (i * P.cellsOf e)) (P.cellsOf e)).bind (DataW.trod enc P w base (fun _ => true) held fuel e) ≠ some y := by
       intro i hi y hy
       obtain ⟨cs, c1, _⟩ := Option.bind_eq_some_iff.1 hy
       obtain ⟨_, c2, c3⟩ := World.cells?_some c1
       have := c3 0 hp.1.1.2
       rw [hi] at this
       simp only [Addr.add, if_true] at this
       have hn : w.cell? a = none := by
        unfold World.cell?
        split
        ·rw [if_pos (by cases hs : a.spot with | none => exact absurd hs hsp | some _ => rfl)]
        ·rfl
       rw [hn] at this
       have hlt : 0 < cs.length := by rw [c2]; exact hp.1.1.2
       rw [List.getElem?_eq_getElem hlt] at this
       cases this
      have hlen : len = 0 := by
       cases len with
       | zero => rfl
       | succ len =>
        rw [List.range_succ_eq_map, List.mapM_cons] at h3
        simp only [Option.bind_eq_bind, Option.pure_def] at h3
        obtain ⟨y, h5, _⟩ := Option.bind_eq_some_iff.1 h3
        exact absurd h5 (bad 0 (by simp) y)
      have hcap : cap = 0 := by
       subst hlen
       cases cap with
       | zero => rfl
       | succ cap =>
        simp only [if_true, Nat.sub_zero] at h4
        rw [List.range_succ_eq_map, List.mapM_cons] at h4
        simp only [Option.bind_eq_bind, Option.pure_def] at h4
        obtain ⟨y, h5, _⟩ := Option.bind_eq_some_iff.1 h4
        exact absurd h5 (bad (0 + 0) (by simp) y)
      subst hlen; subst hcap
      exact ⟨[.sl []], .cons _ _ _ _ (.sl0 a) .nil, ⟨[], rfl, by simp, by simp⟩, by simp [hp.1.1.1], fun _ _ _ => ⟨⟨Nat.zero_le _, trivial⟩, trivial⟩, fun _ _ _ => ⟨⟨by simp, trivial⟩, trivial⟩⟩
   ·rename_i fs ht
    simp only [Bool.and_eq_true] at hp
    obtain ⟨h1, xs, h2, hy1⟩ := zju ht h
    obtain ⟨as, r1, r2, r3, r4⟩ := zfL (n := n) (fun t cs y hy h => ih fuel t cs y hy h) h1 fs.toList 0 xs hp.1 hp.2 h2
    exact ⟨as, by simpa using r1, r2, h1, fun bk B hb => r3 bk B fun d hd => Nat.le_trans (bk.ag _ d hd) (by rw [← hy1]; exact hb y.1 (List.mem_singleton.2 rfl)), fun hb R hr => by
     simp only [zaT, ht, Bool.and_eq_true] at hb
     rw [hy1] at hr
     simp only [DataW.weights, ht] at hr
     exact r4 hb.2 R hr⟩
   ·rename_i k e ht
    simp only [Bool.and_eq_true, decide_eq_true_eq] at hp
    obtain ⟨h1, xs, h2, hy1⟩ := zkA ht h
    rw [List.range_eq_range'] at h2
    obtain ⟨as, r1, r2, r3, r4⟩ := zit (n := n) (e := e) rfl (fun cs y hy => ih fuel e cs y hp.2 hy) k 0 xs (by rw [h1, ← hp.1]; simp) h2
    exact ⟨as, by simpa using r1, r2, h1, fun bk B hb => r3 bk B fun d hd => Nat.le_trans (bk.ag _ d hd) (by rw [← hy1]; exact hb y.1 (List.mem_singleton.2 rfl)), fun hb R hr => by
     simp only [zaT, ht, Bool.and_eq_true] at hb
     rw [hy1] at hr
     simp only [DataW.weights, ht] at hr
     exact r4 hb.2 R hr⟩
   ·cases hp
end
end Go.Lb
namespace Go.Lb
open Go.RowKit
def zcB (vs : List AV) : Nat → AV := fun i => vs.getD i .undef
@[simp] theorem zk3 {vs : List AV} {n : Nat} (h : vs.length = n) (r : AV) : zaC (zcB vs) n r = zcB (vs ++ [r]) := by
 subst h
 funext i
 unfold zaC zcB
 simp only [List.getD_eq_getElem?_getD]
 split
 ·rename_i h; subst h; simp
 ·rename_i h
  rcases Nat.lt_trichotomy i vs.length with h1 | h1 | h1
  ·rw [List.getElem?_append_left h1]
  ·exact absurd h1 h
  ·rw [List.getElem?_eq_none (by omega), List.getElem?_eq_none (by simp; omega)]
theorem zka {vs : List AV} {n : Nat} (h : vs.length = n) (us : List AV) : zbk (zcB vs) n us = zcB (vs ++ us) := by
 subst h
 funext i
 unfold zbk zcB
 simp only [List.getD_eq_getElem?_getD]
 split
 ·rename_i h
  rw [List.getElem?_append_right h.1]
 ·rename_i h
  by_cases h1 : i < vs.length
  ·rw [List.getElem?_append_left h1]
  ·rw [List.getElem?_eq_none (by omega), List.getElem?_eq_none (by simp; omega)]
theorem zj9 {vs : List AV} (h : AV.pureAll vs = true) : ∀ i, (zcB vs i).pure = true := by
 intro i
 unfold zcB
 rw [List.getD_eq_getElem?_getD]
 by_cases hi : i < vs.length
 ·rw [List.getElem?_eq_getElem hi]; exact zdL h (List.getElem_mem hi)
 ·rw [List.getElem?_eq_none (by omega)]; rfl
@[simp] theorem znP (a : AV) (l : List AV) : zcB (a :: l) 0 = a := rfl
@[simp] theorem znO (a : AV) (l : List AV) (n : Nat) : zcB (a :: l) (n + 1) = zcB l n := rfl
theorem zfu {E : Env} (hE : EnvOk E) (hmix : E.P.follows .mixedOrders = true) {f n : Nat} {args : List SE} (vs : List AV) {rt : RT} (hrun : runF E f args n = rt) (hw : SE.wfs n (fun _ => false) args = true)
  (hp : AV.pureAll vs = true) {r : AV} (hr : r.pure = true) (h : RTwp E.P E.G (fun x => x = r) rt (fun _ _ => False) (zcB vs)) {avs : List AV} (ha : dens (zcB vs) args = avs) : zbh E.P E.G f avs r := by
 rw [← ha]
 exact zfv hE hmix hw (zj9 hp) hr (by rw [hrun]; exact h)
section
variable {P : Program} {G : Glob} {R : AV → Prop} {L : Nat → List AV → Prop} {ρ : Nat → AV} {K : (Nat → AV) → Prop}
@[simp] theorem RTwp_ret {e : SE} : RTwp P G R (.ret e) L ρ ↔ R (den ρ e) := Iff.rfl
@[simp] theorem zc8 {k : RT} : RTwp P G R (.seg [] k) L ρ ↔ RTwp P G R k L ρ := Iff.rfl
@[simp] theorem zdW {pcs : List (SE × Bool)} {o : PF} {args : List SE} {ns : List Nd} {k : RT} : RTwp P G R (.seg (.chk pcs o args :: ns) k) L ρ ↔ ((Holds ρ pcs → pok o (dens ρ args)) ∧ RTwp P G R (.seg ns k) L ρ) := Iff.rfl
@[simp] theorem zn8 {pcs : List (SE × Bool)} {n : Nat} {e : SE} {ns : List Nd} {k : RT} : RTwp P G R (.seg (.same n pcs e :: ns) k) L ρ ↔ ((Holds ρ pcs → ρ n = den ρ e) ∧ RTwp P G R (.seg ns k) L ρ) := Iff.rfl
@[simp] theorem znN {pcs : List (SE × Bool)} {n : Nat} {e : SE} {ns : List Nd} {k : RT} : RTwp P G R (.seg (.isNil n pcs e :: ns) k) L ρ ↔ ∀ b, (Holds ρ pcs → b = true → den ρ e = .sl []) → RTwp P G R (.seg ns k) L (zaC ρ n (.bool b)) := Iff.rfl
@[simp] theorem zkF {n : Nat} {e : SE} {ns : List Nd} {k : RT} : RTwp P G R (.seg (.bind n e :: ns) k) L ρ ↔ RTwp P G R (.seg ns k) L (zaC ρ n (den ρ e)) := Iff.rfl
@[simp] theorem RTwp_cmp {n : Nat} {e : SE} {ns : List Nd} {k : RT} : RTwp P G R (.seg (.cmp n e :: ns) k) L ρ ↔ ∃ l : List Int, l.length ≤ 4294967296 ∧ den ρ e = .sl (l.map (AV.int .i64)) ∧ RTwp P G R (.seg ns k) L (zaC ρ n (.sl ((zaO l).map (AV.int .i64)))) := Iff.rfl
@[simp] theorem RTwp_srt {n : Nat} {e : SE} {ns : List Nd} {k : RT} : RTwp P G R (.seg (.srt n e :: ns) k) L ρ ↔ ∃ l : List Int, l.length ≤ 4294967296 ∧ den ρ e = .sl (l.map (AV.int .i64)) ∧ RTwp P G R (.seg ns k) L (zaC ρ n (.sl ((zbA l).map (AV.int .i64)))) := Iff.rfl
theorem zkG {pcs : List (SE × Bool)} {n f : Nat} {args : List SE} {bo : Bool} {ns : List Nd} {k : RT} (r : AV) (hr : r.pure = true) (hc : Holds ρ pcs → zbh P G f (dens ρ args) r ∧ (bo = true → r.scalar = true)) (h : RTwp P G R (.seg ns k) L (zaC ρ n r)) :
  RTwp P G R (.seg (.call n pcs f args bo :: ns) k) L ρ := ⟨r, hr, hc, h⟩
theorem zgf {n f : Nat} {args : List SE} {bo : Bool} {ns : List Nd} {k : RT} {r : AV} (hc : zbh P G f (dens ρ args) r) (hb : bo = true → r.scalar = true) (h : RTwp P G R (.seg ns k) L (zaC ρ n r)) :
  RTwp P G R (.seg (.call n [] f args bo :: ns) k) L ρ := ⟨r, hc.1, fun _ => ⟨hc, hb⟩, h⟩
@[simp] theorem zgg {c : SE} {t f : RT} : RTwp P G R (.cond c t f) L ρ ↔ ∃ b, den ρ c = .bool b ∧ (b = true → RTwp P G R t L ρ) ∧ (b = false → RTwp P G R f L ρ) := Iff.rfl
@[simp] theorem zn7 {n : Nat} {i : List SE} : RTwp P G R (.dead n i) L ρ ↔ False := Iff.rfl
@[simp] theorem znM {id : Nat} {vals : List SE} : RTwp P G R (.again id vals) L ρ ↔ L id (dens ρ vals) := Iff.rfl
theorem zae {id n : Nat} {init : List SE} {body : RT} {xs : List AV} (hn : xs.length = n) (I : List AV → Prop) (μ : List AV → Nat) (h0 : I (dens (zcB xs) init))
  (hb : ∀ vs, vs.length = init.length → I vs → RTwp P G R body (fun j us => if j = id then I us ∧ μ us < μ vs else L j us) (zcB (xs ++ vs))) : RTwp P G R (.loop id n init body) L (zcB xs) := by
 refine ⟨I, μ, h0, fun vs hl _ hi => ?_⟩
 rw [zka hn]
 exact hb vs hl hi
@[simp] theorem zn6 : Holds ρ [] ↔ True := by simp [Holds]
@[simp] theorem znL {e : SE} {b : Bool} {r : List (SE × Bool)} : Holds ρ ((e, b) :: r) ↔ den ρ e = .bool b ∧ Holds ρ r := Holds.cons
end
@[simp] theorem pv_bin (op : BinOp) (k k' : IntKind) (a b : Int) : pv (.bin op) [.int k a, .int k' b] = binI op k a b := rfl
@[simp] theorem pv_eqb (n a b : Bool) : pv (.eqb n) [.bool a, .bool b] = .bool ((a == b) != n) := rfl
@[simp] theorem pv_eqf1 (n : Bool) : pv (.eqf n) [.nilf, .nilf] = .bool (!n) := rfl
@[simp] theorem pv_eqf2 (n : Bool) (f : Nat) (x y : List AV) : pv (.eqf n) [.clo f x y, .nilf] = .bool n := rfl
@[simp] theorem pv_eqa (ks : List (Option IntKind)) (n : Bool) (x y : List AV) : pv (.eqa ks n) [.agg x, .agg y] = .bool (AV.eqs x y != n) := rfl
@[simp] theorem pv_not (b : Bool) : pv (.un .not) [.bool b] = .bool (!b) := rfl
@[simp] theorem pv_neg (k : IntKind) (n : Int) : pv (.un .neg) [.int k n] = .int k (k.wrap (0 - n)) := rfl
@[simp] theorem pv_len (es : List AV) : pv .len [.sl es] = .int .i64 es.length := rfl
@[simp] theorem pv_mm (m : Bool) (k : IntKind) (a : Int) (rest : List AV) : pv (.mm m) (.int k a :: rest) = .int k (rest.foldl (zds m) a) := by cases rest <;> rfl
@[simp] theorem pv_conv (k k' : IntKind) (n : Int) : pv (.conv k) [.int k' n] = .int k (k.wrap n) := rfl
@[simp] theorem pv_pick (c : Bool) (a b : AV) : pv .pick [.bool c, a, b] = if c then a else b := rfl
@[simp] theorem pv_eidx (sz : Nat) (es : List AV) (k : IntKind) (i : Int) : pv (.eidx sz) [.sl es, .int k i] = .eptr es i.toNat 0 := rfl
@[simp] theorem zoD (len sz : Nat) (es : List AV) (j off : Nat) (k : IntKind) (i : Int) : pv (.eaidx len sz) [.eptr es j off, .int k i] = .eptr es j (off + i.toNat * sz) := rfl
@[simp] theorem zoE (len sz : Nat) (cs : List AV) (off : Nat) (k : IntKind) (i : Int) : pv (.eaidx len sz) [.ref cs off, .int k i] = .ref cs (off + i.toNat * sz) := rfl
@[simp] theorem pv_eoff1 (k : Nat) (es : List AV) (j off : Nat) : pv (.eoff k) [.eptr es j off] = .eptr es j (off + k) := rfl
@[simp] theorem pv_eoff2 (k : Nat) (cs : List AV) (off : Nat) : pv (.eoff k) [.ref cs off] = .ref cs (off + k) := rfl
@[simp] theorem zoF (n : Nat) (g : Bool) (es : List AV) (j off : Nat) : pv (.eload n g) [.eptr es j off] = AV.cut (es.getD j .undef).cells off n g := rfl
@[simp] theorem zoG (n : Nat) (g : Bool) (cs : List AV) (off : Nat) : pv (.eload n g) [.ref cs off] = AV.cut cs off n g := rfl
@[simp] theorem pv_part (off n : Nat) (g : Bool) (cs : List AV) : pv (.part off n g) [.agg cs] = AV.cut cs off n g := rfl
@[simp] theorem zaa (len sz off n : Nat) (g : Bool) (cs : List AV) (k : IntKind) (i : Int) : pv (.aidx len sz off n g) [.agg cs, .int k i] = AV.cut cs (i.toNat * sz + off) n g := rfl
@[simp] theorem pv_rep (k : IntKind) (n : Int) (v : AV) : pv .rep [.int k n, v] = .sl (List.replicate n.toNat v) := rfl
@[simp] theorem pv_tproj (i : Nat) (vs : List AV) : pv (.tproj i) [.tup vs] = vs.getD i .undef := rfl
@[simp] theorem zn1 (es : List AV) : pv (.slice false false) [.sl es] = .sl es := rfl
@[simp] theorem zn3 (es : List AV) (k : IntKind) (l : Int) : pv (.slice true false) [.sl es, .int k l] = .sl (es.drop l.toNat) := rfl
@[simp] theorem zn2 (es : List AV) (k : IntKind) (h : Int) : pv (.slice false true) [.sl es, .int k h] = .sl (es.take h.toNat) := rfl
@[simp] theorem zn4 (es : List AV) (k k' : IntKind) (l h : Int) : pv (.slice true true) [.sl es, .int k l, .int k' h] = .sl ((es.take h.toNat).drop l.toNat) := rfl
@[simp] theorem pv_app (es fs : List AV) : pv .app [.sl es, .sl fs] = .sl (es ++ fs) := rfl
@[simp] theorem zoI (z off n : Nat) (es : List AV) (k : IntKind) (i : Int) (v : AV) : pv (.rowset z off n) [.sl es, .int k i, v] = .sl (es.set i.toNat (AV.ofCells (es.getD i.toNat .undef) (AV.put (es.getD i.toNat .undef).cells off v.cells))) := rfl
@[simp] theorem zoH (z off n : Nat) (g : Bool) (es : List AV) (k : IntKind) (i : Int) : pv (.rowget z off n g) [.sl es, .int k i] = AV.cut (es.getD i.toNat .undef).cells off n g := rfl
@[simp] theorem pok_bin (op : BinOp) (k k' : IntKind) (a b : Int) : pok (.bin op) [.int k a, .int k' b] = zf3 op k k' b := rfl
@[simp] theorem pok_eqb (n a b : Bool) : pok (.eqb n) [.bool a, .bool b] = True := rfl
@[simp] theorem pok_eqf1 (n : Bool) : pok (.eqf n) [.nilf, .nilf] = True := rfl
@[simp] theorem pok_eqf2 (n : Bool) (f : Nat) (x y : List AV) : pok (.eqf n) [.clo f x y, .nilf] = True := rfl
@[simp] theorem pok_eqa (ks : List (Option IntKind)) (n : Bool) (x y : List AV) : pok (.eqa ks n) [.agg x, .agg y] = (AV.kinds ks x ∧ AV.kinds ks y) := rfl
@[simp] theorem pok_not (b : Bool) : pok (.un .not) [.bool b] = True := rfl
@[simp] theorem pok_neg (k : IntKind) (n : Int) : pok (.un .neg) [.int k n] = True := rfl
@[simp] theorem pok_len (es : List AV) : pok .len [.sl es] = True := rfl
@[simp] theorem pok_mm (m : Bool) (k : IntKind) (a : Int) (rest : List AV) : pok (.mm m) (.int k a :: rest) = ∀ y ∈ rest, ∃ b, y = .int k b := by cases rest <;> rfl
@[simp] theorem pok_conv (k k' : IntKind) (n : Int) : pok (.conv k) [.int k' n] = True := rfl
@[simp] theorem pok_pick (c : Bool) (a b : AV) : pok .pick [.bool c, a, b] = True := rfl
@[simp] theorem pok_eidx (sz : Nat) (es : List AV) (k : IntKind) (i : Int) : pok (.eidx sz) [.sl es, .int k i] = (0 ≤ i ∧ i < es.length ∧ (es.getD i.toNat .undef).cells.length = sz) := rfl
@[simp] theorem znU (len sz : Nat) (es : List AV) (j off : Nat) (k : IntKind) (i : Int) : pok (.eaidx len sz) [.eptr es j off, .int k i] = (0 ≤ i ∧ i < len) := rfl
@[simp] theorem znV (len sz : Nat) (cs : List AV) (off : Nat) (k : IntKind) (i : Int) : pok (.eaidx len sz) [.ref cs off, .int k i] = (0 ≤ i ∧ i < len) := rfl
@[simp] theorem zox (k : Nat) (es : List AV) (j off : Nat) : pok (.eoff k) [.eptr es j off] = True := rfl
@[simp] theorem zoy (k : Nat) (cs : List AV) (off : Nat) : pok (.eoff k) [.ref cs off] = True := rfl
@[simp] theorem znW (n : Nat) (g : Bool) (es : List AV) (j off : Nat) : pok (.eload n g) [.eptr es j off] = AV.cutOk (es.getD j .undef).cells off n g := rfl
@[simp] theorem znX (n : Nat) (g : Bool) (cs : List AV) (off : Nat) : pok (.eload n g) [.ref cs off] = AV.cutOk cs off n g := rfl
@[simp] theorem pok_part (off n : Nat) (g : Bool) (cs : List AV) : pok (.part off n g) [.agg cs] = AV.cutOk cs off n g := rfl
@[simp] theorem pok_aidx (len sz off n : Nat) (g : Bool) (cs : List AV) (k : IntKind) (i : Int) : pok (.aidx len sz off n g) [.agg cs, .int k i] = (0 ≤ i ∧ i < len ∧ AV.cutOk cs (i.toNat * sz + off) n g) := rfl
@[simp] theorem pok_rep (k : IntKind) (n : Int) (v : AV) : pok .rep [.int k n, v] = (0 ≤ n ∧ n ≤ 4294967296 ∧ AV.ones v.cells = true) := rfl
@[simp] theorem zoz (n : Nat) (cs : List AV) : pok (.isAgg n) [.agg cs] = (cs.length = n ∧ AV.ones cs = true) := rfl
@[simp] theorem zoA (v : AV) : pok .isOne [v] = (AV.one v = true) := by cases v <;> rfl
@[simp] theorem zoB (i : Nat) (vs : List AV) : pok (.tproj i) [.tup vs] = (i < vs.length) := rfl
@[simp] theorem zny (es : List AV) : pok (.slice false false) [.sl es] = True := rfl
@[simp] theorem znA (es : List AV) (k : IntKind) (l : Int) : pok (.slice true false) [.sl es, .int k l] = (0 ≤ l ∧ l ≤ es.length) := rfl
@[simp] theorem znz (es : List AV) (k : IntKind) (h : Int) : pok (.slice false true) [.sl es, .int k h] = (0 ≤ h ∧ h ≤ es.length) := rfl
@[simp] theorem znB (es : List AV) (k k' : IntKind) (l h : Int) : pok (.slice true true) [.sl es, .int k l, .int k' h] = (0 ≤ l ∧ l ≤ h ∧ h ≤ es.length) := rfl
@[simp] theorem pok_app (es fs : List AV) : pok .app [.sl es, .sl fs] = (es.length + fs.length ≤ 8796093022208) := rfl
@[simp] theorem pok_szs (sz : Nat) (es : List AV) : pok (.szs sz) [.sl es] = ∀ e ∈ es, e.cells.length = sz ∧ AV.ones e.cells = true := rfl
@[simp] theorem pok_inr (len : Nat) (k : IntKind) (i : Int) : pok (.inr len) [.int k i] = (0 ≤ i ∧ i < len) := rfl
@[simp] theorem znZ (z off n : Nat) (es : List AV) (k : IntKind) (i : Int) (v : AV) : pok (.rowset z off n) [.sl es, .int k i, v] = (0 ≤ i ∧ i < es.length ∧ (es.getD i.toNat .undef).cells.length = z ∧ v.cells.length = n ∧ AV.ones v.cells = true ∧ off + n ≤ z) := rfl
abbrev I (n : Int) : AV := .int .i64 n
abbrev U (n : Int) : AV := .int .u8 n
abbrev ints (l : List Int) : AV := .sl (l.map I)
theorem zlf (l : List Int) : AV.pureAll (l.map I) = true := by
 induction l with
 | nil => rfl
 | cons x l ih => simp [AV.pureAll, AV.pure, ih]
end Go.Lb
namespace Go.Lb
open Go.RowKit Go.ChangeShapes Go.WideShapes Go.ChangeAt
def zgh (P : Program) (n : Nat) : List TypeId → List AV → Prop
 | [], as => as = []
 | t :: ts, as => ∃ x xs, as = x :: xs ∧ Ty P n t x.cells ∧ (isSt P t = true ↔ ∃ cs, x = .agg cs) ∧ zgh P n ts xs
theorem zm5 (w : World) : Imm (Cx.all w) w := ⟨fun _ _ _ h => h, fun _ _ h => h⟩
theorem zn9 (w : World) : ∀ b, b ≥ w.heap.size → (∀ off v, (Cx.all w).I b off ≠ some v) ∧ (∀ ob, (Cx.all w).M b ≠ some ob) := by
 intro b hb
 refine ⟨fun off v h => ?_, fun ob h => ?_⟩
 ·have h : w.cell? ⟨b, off, none⟩ = some v := h
  unfold World.cell? at h
  rw [Array.getElem?_eq_none (by omega)] at h
  simp at h
 ·have h : w.heap[b]? = some ob := h
  rw [Array.getElem?_eq_none (by omega)] at h
  cases h
section
variable {H : Type} {enc : TypeId × Value → H} {P : Program} {w : World} {base : Nat} {held : Bool}
theorem zmF {n : Nat} {t : TypeId} {v : Value} {d : DataW H} {ps : List MemPlace} (hp : za1 P n t = true) (hok : Value.okWide P w .any base t v) (h : DataW.Trod enc P w 0 (fun _ => true) held t v d ps) :
  ∃ x, Rv (Cx.all w) x v ∧ Ty P n t x.cells ∧ (isSt P t = true ↔ ∃ cs, x = .agg cs) ∧ Small [d] [x] ∧ ziR P n t d [x] := by
 obtain ⟨fuel, hf⟩ := h
 obtain ⟨as, h1, h2, h3, h4s, h4w⟩ := zmE n fuel t _ _ hp hf
 by_cases hs : isSt P t = true
 ·have : ∃ cs, v = .agg cs := by
   unfold isSt at hs
   split at hs
   ·rename_i fs ht
    simp only [Value.okWide, ht] at hok
    obtain ⟨cs, rfl, _⟩ := hok; exact ⟨cs, rfl⟩
   ·rename_i fs ht
    simp only [Value.okWide, ht] at hok
    obtain ⟨cs, rfl, _⟩ := hok; exact ⟨cs, rfl⟩
   ·cases hs
  obtain ⟨cs, rfl⟩ := this
  exact ⟨.agg as, .agg as cs.toList h1, h2, ⟨fun _ => ⟨as, rfl⟩, fun _ => hs⟩, fun bk B hb => ⟨h4s bk B hb, trivial⟩, fun hb R hr => ⟨h4w hb R hr, trivial⟩⟩
 ·have hna : v.cells.toList = [v] ∧ ∃ a, as = [a] ∧ ∀ cs, a ≠ .agg cs := by
   cases n with
   | zero => exact h2.elim
   | succ n =>
    simp only [Ty] at h2
    unfold isSt at hs
    split at h2
    ·rename_i ht
     obtain ⟨b, rfl⟩ := okWide_bool ht hok
     obtain ⟨b', rfl⟩ := h2
     exact ⟨rfl, _, rfl, by simp⟩
    ·rename_i k ht
     obtain ⟨m, rfl⟩ := okWide_int ht hok
     obtain ⟨b', rfl, _⟩ := h2
     exact ⟨rfl, _, rfl, by simp⟩
    ·rename_i e ht
     obtain ⟨a, len, cap, rfl⟩ := okWide_slice ht hok
     obtain ⟨b', rfl, _⟩ := h2
     exact ⟨rfl, _, rfl, by simp⟩
    ·rename_i fs ht; rw [ht] at hs; simp at hs
    ·rename_i fs e ht; rw [ht] at hs; simp at hs
    ·exact h2.elim
  obtain ⟨h4, a, rfl, h5⟩ := hna
  rw [h4] at h1
  cases h1 with
  | cons _ _ _ _ h6 h7 =>
   refine ⟨a, h6, ?_, ⟨fun h => absurd h hs, fun ⟨cs, h⟩ => absurd h (h5 cs)⟩, h4s, h4w⟩
   have : a.cells = [a] := by cases a <;> first | rfl | exact absurd rfl (h5 _)
   rw [this]; exact h2
theorem zis {n : Nat} : ∀ (ts : List TypeId) (vs : List Value) (ds : List (DataW H)) (ps : List MemPlace), (∀ t ∈ ts, za1 P n t = true) →
  (∀ (j : Nat) t v, ts[j]? = some t → vs[j]? = some v → Value.okWide P w .any base t v) → DataW.TrodAll enc P w 0 (fun _ => true) held ts vs ds ps → ∃ as, Rvs (Cx.all w) as vs ∧ zgh P n ts as ∧ Small ds as ∧ ((ts.all fun t => zaT P n t) = true → ∀ R, (∀ x ∈ DataW.weightsEach P ts ds, x ≤ R) → AV.wgts R as)
 | [], vs, ds, ps, _, _, h => by
  obtain ⟨rfl, rfl, rfl⟩ := trodAll_nil h
  exact ⟨[], .nil, rfl, fun _ _ _ => trivial, fun _ _ _ => trivial⟩
 | t :: ts, vs, ds, ps, hp, hok, h => by
  obtain ⟨v, vs1, d, ds1, a, b, rfl, rfl, rfl, h1, h2⟩ := trodAll_cons h
  obtain ⟨x, r1, r2, r3, r6, r8⟩ := zmF (hp t (by simp)) (hok 0 t v rfl rfl) h1
  obtain ⟨xs, r4, r5, r7, r9⟩ := zis ts vs1 ds1 b (fun t ht => hp t (by simp [ht])) (fun j t v h3 h4 => hok (j + 1) t v (by simpa using h3) (by simpa using h4)) h2
  exact ⟨x :: xs, .cons _ _ _ _ r1 r4, ⟨x, xs, rfl, r2, r3, r5⟩, fun bk B hb => ⟨(r6 bk B fun q hq => by rw [List.mem_singleton.1 hq]; exact hb d (List.mem_cons_self ..)).1, r7 bk B fun q hq => hb q (List.mem_cons_of_mem _ hq)⟩, fun hb R hr => by
   simp only [List.all_cons, Bool.and_eq_true] at hb
   simp only [DataW.weightsEach, List.mem_append] at hr
   exact ⟨(r8 hb.1 R fun q hq => hr q (.inl hq)).1, r9 hb.2 R fun q hq => hr q (.inr hq)⟩⟩
theorem ziH (hl : laidOutB P = true) {w' : World} (hb : Below w.heap.size w w') : ∀ (ts : List TypeId) (vs : List Value) (ds : List (DataW H)) (ps : List MemPlace), (∀ t ∈ ts, P.readableRec t = true ∧ t < P.types.size) → (∀ p ∈ ps, p.block < w.heap.size) →
  DataW.TrodAll enc P w 0 (fun _ => true) true ts vs ds ps → DataW.TrodAll enc P w' 0 (fun b => decide (b < w.heap.size)) true ts vs ds ps
 | [], vs, ds, ps, _, _, h => by
  obtain ⟨rfl, rfl, rfl⟩ := trodAll_nil h
  rfl
 | t :: ts, vs, ds, ps, hp, hlt, h => by
  obtain ⟨v, vs1, d, ds1, a, b, rfl, rfl, rfl, h1, h2⟩ := trodAll_cons h
  have := hp t (by simp)
  exact ⟨a, b, Below.trod hl this.1 this.2 h1 hb (fun x hx => hlt x (by simp [hx])), ziH hl hb ts vs1 ds1 b (fun t ht => hp t (by simp [ht])) (fun x hx => hlt x (by simp [hx])) h2, rfl⟩
end
end Go.Lb
namespace Go.Lb
open Go.RowKit Go.ChangeShapes
inductive TS where
 | bool
 | int (k : IntKind)
 | sl (st : Bool) (e : TS)
 | agg (ts : List TS)
 | no
 deriving Inhabited, Repr
def zdx (st : Bool) (x : AV) : Prop := st = true ↔ ∃ cs, x = .agg cs
mutual
def TS.fits : TS → List AV → Prop
 | .bool, as => ∃ b, as = [.bool b]
 | .int k, as => ∃ m, as = [.int k m] ∧ k.min ≤ m ∧ m ≤ k.max
 | .sl st e, as => ∃ es, as = [.sl es] ∧ es.length ≤ maxLen ∧ ∀ x ∈ es, TS.fits e x.cells ∧ zdx st x
 | .agg ts, as => TS.fitsAll ts as
 | .no, _ => False
def TS.fitsAll : List TS → List AV → Prop
 | [], as => as = []
 | t :: ts, as => ∃ p q, as = p ++ q ∧ TS.fits t p ∧ TS.fitsAll ts q
end
def tyS (P : Program) : Nat → TypeId → TS
 | 0, _ => .no
 | n + 1, t => match P.underlying t with
  | some .bool => .bool
  | some (.int k) => .int k
  | some (.slice e) => .sl (isSt P e) (tyS P n e)
  | some (.struct fs) => .agg (fs.toList.map fun f => tyS P n f.type)
  | some (.array k e) => .agg (List.replicate k (tyS P n e))
  | _ => .no
theorem zm4 {P : Program} : ∀ (n : Nat) (t : TypeId) (as : List AV), Ty P n t as → (tyS P n t).fits as := by
 intro n
 induction n with
 | zero => intro t as h; exact h.elim
 | succ n ih =>
  intro t as h
  simp only [Ty] at h
  unfold tyS
  split at h <;> first | exact h.elim | (rename_i heq; (try rw [heq]); clear heq)
  ·simpa only [TS.fits] using h
  ·simpa only [TS.fits] using h
  ·obtain ⟨es, h1, h2, h3⟩ := h
   simp only [TS.fits]
   exact ⟨es, h1, h2, fun x hx => ⟨ih _ _ (h3 x hx).1, (h3 x hx).2⟩⟩
  ·rename_i fs
   simp only [TS.fits]
   have : ∀ (fs : List Field) (as : List AV), TyFs (Ty P n) fs as → TS.fitsAll (fs.map fun f => tyS P n f.type) as := by
    intro fs
    induction fs with
    | nil => intro as h; exact h
    | cons f fs ihf =>
     intro as h
     obtain ⟨p, q, h1, h2, h3⟩ := h
     exact ⟨p, q, h1, ih _ _ h2, ihf _ h3⟩
   exact this _ _ h
  ·rename_i k e
   simp only [TS.fits]
   have : ∀ (k : Nat) (as : List AV), zhN (Ty P n e) k as → TS.fitsAll (List.replicate k (tyS P n e)) as := by
    intro k
    induction k with
    | zero => intro as h; exact h
    | succ k ihf =>
     intro as h
     obtain ⟨p, q, h1, h2, h3⟩ := h
     exact ⟨p, q, h1, ih _ _ h2, ihf _ h3⟩
   exact this _ _ h
def zk5 : List (Bool × TS) → List AV → Prop
 | [], as => as = []
 | t :: ts, as => ∃ x xs, as = x :: xs ∧ t.2.fits x.cells ∧ zdx t.1 x ∧ zk5 ts xs
def zm7 (P : Program) (n : Nat) (ts : List TypeId) : List (Bool × TS) := ts.map fun t => (isSt P t, tyS P n t)
theorem zdw {P : Program} {n : Nat} : ∀ (ts : List TypeId) (as : List AV), zgh P n ts as → zk5 (zm7 P n ts) as
 | [], _, h => h
 | t :: ts, as, h => by
  obtain ⟨x, xs, h1, h2, h3, h4⟩ := h
  exact ⟨x, xs, h1, zm4 _ _ _ h2, h3, zdw ts xs h4⟩
@[simp] theorem zh9 {as : List AV} : TS.fits .bool as ↔ ∃ b, as = [.bool b] := by rw [TS.fits]
@[simp] theorem zhf {k : IntKind} {as : List AV} : TS.fits (.int k) as ↔ ∃ m, as = [.int k m] ∧ k.min ≤ m ∧ m ≤ k.max := by rw [TS.fits]
theorem zja {st : Bool} {e : TS} {as : List AV} : TS.fits (.sl st e) as ↔ ∃ es, as = [.sl es] ∧ es.length ≤ maxLen ∧ ∀ x ∈ es, TS.fits e x.cells ∧ zdx st x := by rw [TS.fits]
theorem zbm {ts : List TS} {as : List AV} : TS.fits (.agg ts) as ↔ TS.fitsAll ts as := by rw [TS.fits]
theorem zaG {as : List AV} : TS.fitsAll [] as ↔ as = [] := by rw [TS.fitsAll]
theorem zbc {t : TS} {ts : List TS} {as : List AV} : TS.fitsAll (t :: ts) as ↔ ∃ p q, as = p ++ q ∧ TS.fits t p ∧ TS.fitsAll ts q := by rw [TS.fitsAll]
theorem zaF {k : IntKind} {ts : List TS} {as : List AV} : TS.fitsAll (.int k :: ts) as ↔ ∃ m q, as = .int k m :: q ∧ (k.min ≤ m ∧ m ≤ k.max) ∧ TS.fitsAll ts q := by
 rw [zbc]
 constructor
 ·rintro ⟨p, q, rfl, h1, h2⟩
  obtain ⟨m, rfl, h3⟩ := zhf.1 h1
  exact ⟨m, q, rfl, h3, h2⟩
 ·rintro ⟨m, q, rfl, h1, h2⟩
  exact ⟨[.int k m], q, rfl, zhf.2 ⟨m, rfl, h1⟩, h2⟩
theorem zeT {ts : List TS} {as : List AV} : TS.fitsAll (.bool :: ts) as ↔ ∃ m q, as = .bool m :: q ∧ TS.fitsAll ts q := by
 rw [zbc]
 constructor
 ·rintro ⟨p, q, rfl, h1, h2⟩
  obtain ⟨m, rfl⟩ := zh9.1 h1
  exact ⟨m, q, rfl, h2⟩
 ·rintro ⟨m, q, rfl, h2⟩
  exact ⟨[.bool m], q, rfl, zh9.2 ⟨m, rfl⟩, h2⟩
theorem zbu {st : Bool} {e : TS} {ts : List TS} {as : List AV} : TS.fitsAll (.sl st e :: ts) as ↔ ∃ es q, as = .sl es :: q ∧ (es.length ≤ maxLen ∧ ∀ x ∈ es, TS.fits e x.cells ∧ zdx st x) ∧ TS.fitsAll ts q := by
 rw [zbc]
 constructor
 ·rintro ⟨p, q, rfl, h1, h2⟩
  obtain ⟨m, rfl, h3⟩ := zja.1 h1
  exact ⟨m, q, rfl, h3, h2⟩
 ·rintro ⟨m, q, rfl, h1, h2⟩
  exact ⟨[.sl m], q, rfl, zja.2 ⟨m, rfl, h1⟩, h2⟩
theorem zaI {us ts : List TS} {as : List AV} : TS.fitsAll (.agg us :: ts) as ↔ TS.fitsAll (us ++ ts) as := by
 have : ∀ (us ts : List TS) (as : List AV), TS.fitsAll (us ++ ts) as ↔ ∃ p q, as = p ++ q ∧ TS.fitsAll us p ∧ TS.fitsAll ts q := by
  intro us
  induction us with
  | nil => intro ts as; simp only [List.nil_append, zaG]; exact ⟨fun h => ⟨[], as, rfl, rfl, h⟩, fun ⟨p, q, h1, h2, h3⟩ => by subst h2; subst h1; exact h3⟩
  | cons u us ih =>
   intro ts as
   rw [List.cons_append, zbc]
   constructor
   ·rintro ⟨p, q, rfl, h1, h2⟩
    obtain ⟨p', q', rfl, h3, h4⟩ := (ih _ _).1 h2
    exact ⟨p ++ p', q', by simp, zbc.2 ⟨p, p', rfl, h1, h3⟩, h4⟩
   ·rintro ⟨p, q, rfl, h1, h2⟩
    obtain ⟨p', q', rfl, h3, h4⟩ := zbc.1 h1
    exact ⟨p', q' ++ q, by simp, h3, (ih _ _).2 ⟨q', q, rfl, h4, h2⟩⟩
 rw [zbc, this]
 simp only [zbm]
theorem ze0 {α : Type} {T : TS} {g : α → AV} (hg : ∀ cs, T.fits cs → ∃ a, AV.agg cs = g a) : ∀ es : List AV, (∀ x ∈ es, T.fits x.cells ∧ zdx true x) → ∃ l : List α, es = l.map g
 | [], _ => ⟨[], rfl⟩
 | e :: es, h => by
  obtain ⟨h1, h2⟩ := h e (by simp)
  obtain ⟨cs, rfl⟩ := h2.1 rfl
  obtain ⟨a, ha⟩ := hg cs h1
  obtain ⟨l, hl⟩ := ze0 hg es fun x hx => h x (by simp [hx])
  exact ⟨a :: l, by rw [ha, hl]; rfl⟩
theorem zhA {α : Type} {T : TS} {g : α → AV} {Q : α → Prop} (hg : ∀ cs, T.fits cs → ∃ a, AV.agg cs = g a ∧ Q a) : ∀ es : List AV, (∀ x ∈ es, T.fits x.cells ∧ zdx true x) → ∃ l : List α, es = l.map g ∧ ∀ a ∈ l, Q a
 | [], _ => ⟨[], rfl, by simp⟩
 | e :: es, h => by
  obtain ⟨h1, h2⟩ := h e (by simp)
  obtain ⟨cs, rfl⟩ := h2.1 rfl
  obtain ⟨a, ha, hq⟩ := hg cs h1
  obtain ⟨l, hl, hq2⟩ := zhA hg es fun x hx => h x (by simp [hx])
  refine ⟨a :: l, by rw [ha, hl]; rfl, fun b hb => ?_⟩
  rcases List.mem_cons.1 hb with rfl | hb
  ·exact hq
  ·exact hq2 b hb
@[simp] theorem i64_min : IntKind.i64.min = -9223372036854775808 := by decide +kernel
@[simp] theorem i64_max : IntKind.i64.max = 9223372036854775807 := by decide +kernel
@[simp] theorem u8_min : IntKind.u8.min = 0 := by decide +kernel
@[simp] theorem u8_max : IntKind.u8.max = 255 := by decide +kernel
end Go.Lb
namespace Go.Lb
open Go.RowKit Go.ChangeShapes
@[simp] theorem mm_max (a b : Int) (k : IntKind) : zds true a (.int k b) = max a b := by
 simp only [zds]; split <;> omega
@[simp] theorem mm_min (a b : Int) (k : IntKind) : zds false a (.int k b) = min a b := by
 simp only [zds]; split <;> omega
@[simp] theorem znY (z off n : Nat) (g : Bool) (es : List AV) (k : IntKind) (i : Int) : pok (.rowget z off n g) [.sl es, .int k i] = (0 ≤ i ∧ i < es.length ∧ (es.getD i.toNat .undef).cells.length = z ∧ AV.cutOk (es.getD i.toNat .undef).cells off n g) := rfl
@[simp] theorem znR (l : List Int) : (ints l).pure = true := by simp [AV.pure, zlf]
theorem zaj (xs ys : List AV) : AV.pureAll (xs ++ ys) = (AV.pureAll xs && AV.pureAll ys) := by
 induction xs with
 | nil => simp [AV.pureAll]
 | cons x xs ih => simp [AV.pureAll, ih, Bool.and_assoc]
theorem zaB {n : Int} (h1 : -9223372036854775808 ≤ n) (h2 : n ≤ 9223372036854775807) : IntKind.i64.wrap n = n := by
 simp [IntKind.wrap, IntKind.signed, IntKind.bits]; split <;> omega
theorem zaf {i : Nat} (h : i ≤ 4611686018427387904) : IntKind.i64.wrap ((i : Int) + 1) = ((i + 1 : Nat) : Int) := by rw [zaB] <;> omega
theorem za2 {α : Type} (f : α → AV) (h : ∀ x, (f x).pure = true) (l : List α) : AV.pureAll (l.map f) = true := by
 induction l with
 | nil => rfl
 | cons x l ih => simp [AV.pureAll, h, ih]
section
variable {H : Type}
def zd7 (f : DataW H → Option (List Value)) : List (DataW H) → Option (List Value)
 | [] => some []
 | d :: ds => match f d, zd7 f ds with
  | some a, some b => some (a ++ b)
  | _, _ => none
def zd8 : Nat → DataW H → Option (List Value)
 | 0, _ => none
 | _ + 1, .lit (.bool b) => some [.bool b]
 | _ + 1, .lit (.int k m) => some [.int k m]
 | n + 1, .agg parts => zd7 (zd8 n) parts
 | _ + 1, _ => none
variable {enc : TypeId × Value → H} {P : Program} {w : World} {base : Nat} {spare : Nat → Bool} {held : Bool}
theorem zfF {f : DataW H → Option (List Value)} {d : DataW H} {ds : List (DataW H)} {vs : List Value} (h : zd7 f (d :: ds) = some vs) : ∃ a b, f d = some a ∧ zd7 f ds = some b ∧ vs = a ++ b := by
 simp only [zd7] at h
 split at h
 ·rename_i a b h1 h2
  simp only [Option.some.injEq] at h
  exact ⟨a, b, h1, h2, h.symm⟩
 ·cases h
theorem zfG {n fuel zbV : Nat} {cs : List Value} (ih : ∀ (t : TypeId) (cs : List Value) (y : DataW H × List MemPlace) (vs : List Value), za1 P n t = true → DataW.trod enc P w base spare held fuel t cs = some y → zd8 n y.1 = some vs → cs = vs)
  (hl : cs.length = zbV) : ∀ (fs : List Field) (off : Nat) (xs : List (DataW H × List MemPlace)) (vs : List Value), ziM P fs off zbV = true → (fs.all fun f => za1 P n f.type) = true →
   fs.mapM (fun f => DataW.trod enc P w base spare held fuel f.type ((cs.drop f.offset).take (P.cellsOf f.type))) = some xs → zd7 (zd8 n) (xs.map (·.1)) = some vs → cs.drop off = vs
 | [], off, xs, vs, ht, hp, h, hv => by
  simp only [ziM, decide_eq_true_eq] at ht
  simp at h; subst h
  simp [zd7] at hv; subst hv
  exact List.drop_of_length_le (by omega)
 | f :: fs, off, xs, vs, ht, hp, h, hv => by
  simp only [ziM, Bool.and_eq_true, decide_eq_true_eq] at ht
  simp only [List.all_cons, Bool.and_eq_true] at hp
  rw [List.mapM_cons] at h
  simp only [Option.bind_eq_bind, Option.pure_def] at h
  obtain ⟨y, h1, h2⟩ := Option.bind_eq_some_iff.1 h
  obtain ⟨ys, h3, h4⟩ := Option.bind_eq_some_iff.1 h2
  simp only [Option.some.injEq] at h4; subst h4
  rw [List.map_cons] at hv
  obtain ⟨a, b, v1, v2, rfl⟩ := zfF hv
  have e1 := ih _ _ y a hp.1 h1 v1
  have e2 := zfG ih hl fs _ ys b ht.2 hp.2 h3 v2
  rw [← e1, ← e2, ht.1, ← List.drop_drop, List.take_append_drop]
theorem zij {n fuel sz : Nat} {e : TypeId} {cs : List Value} (ih : ∀ (cs : List Value) (y : DataW H × List MemPlace) (vs : List Value), DataW.trod enc P w base spare held fuel e cs = some y → zd8 n y.1 = some vs → cs = vs) :
  ∀ (k i : Nat) (xs : List (DataW H × List MemPlace)) (vs : List Value), cs.length = (i + k) * sz →
   (List.range' i k).mapM (fun i => DataW.trod enc P w base spare held fuel e ((cs.drop (i * sz)).take sz)) = some xs → zd7 (zd8 n) (xs.map (·.1)) = some vs → cs.drop (i * sz) = vs
 | 0, i, xs, vs, hl, h, hv => by
  simp at h; subst h
  simp [zd7] at hv; subst hv
  exact List.drop_of_length_le (by rw [hl]; simp)
 | k + 1, i, xs, vs, hl, h, hv => by
  rw [List.range'_succ, List.mapM_cons] at h
  simp only [Option.bind_eq_bind, Option.pure_def] at h
  obtain ⟨y, h1, h2⟩ := Option.bind_eq_some_iff.1 h
  obtain ⟨ys, h3, h4⟩ := Option.bind_eq_some_iff.1 h2
  simp only [Option.some.injEq] at h4; subst h4
  rw [List.map_cons] at hv
  obtain ⟨a, b, v1, v2, rfl⟩ := zfF hv
  have e1 := ih _ y a h1 v1
  have e2 := zij ih k (i + 1) ys b (by rw [hl]; congr 1; omega) h3 v2
  rw [← e1, ← e2, Nat.succ_mul, ← List.drop_drop, List.take_append_drop]
theorem zlM : ∀ (n fuel : Nat) (t : TypeId) (cs : List Value) (y : DataW H × List MemPlace) (vs : List Value), za1 P n t = true →
  DataW.trod enc P w base spare held fuel t cs = some y → zd8 n y.1 = some vs → cs = vs := by
 intro n
 induction n with
 | zero => intro fuel t cs y vs h; simp [za1] at h
 | succ n ih =>
  intro fuel t cs y vs hp h hv
  simp only [za1] at hp
  split at hp
  ·rename_i ht
   obtain ⟨b, rfl, rfl⟩ := DataW.trod_bool ht h
   simpa [zd8] using hv
  ·rename_i k ht
   obtain ⟨m, rfl, rfl, _⟩ := DataW.trod_int ht h
   simpa [zd8] using hv
  ·rename_i e ht
   cases fuel with
   | zero => simp [DataW.trod] at h
   | succ fuel =>
    unfold DataW.trod at h
    rw [ht] at h
    split at h <;> try (simp_all; done)
    ·simp only [Option.some.injEq] at h; subst h; simp [zd8] at hv
    ·dsimp only at h
     split at h
     ·obtain ⟨elems, h3, h4⟩ := Option.bind_eq_some_iff.1 h
      obtain ⟨rest, h5, h6⟩ := Option.map_eq_some_iff.1 h4
      subst h6
      simp [zd8] at hv
     ·cases h
  ·rename_i fs ht
   cases fuel with
   | zero => simp [DataW.trod] at h
   | succ fuel =>
    unfold DataW.trod at h
    rw [ht] at h
    split at h <;> try (simp_all; done)
    rename_i fs' h1
    cases h1
    split at h
    ·rename_i hc
     obtain ⟨xs, h3, h4⟩ := Option.map_eq_some_iff.1 h
     subst h4
     simp only [Bool.and_eq_true] at hp
     have := zfG (n := n) (fun t cs y vs hy h hv => ih fuel t cs y vs hy h hv) hc fs.toList 0 xs vs hp.1 hp.2 h3 (by simpa only [zd8] using hv)
     simpa using this
    ·cases h
  ·rename_i k e ht
   cases fuel with
   | zero => simp [DataW.trod] at h
   | succ fuel =>
    unfold DataW.trod at h
    rw [ht] at h
    split at h <;> try (simp_all; done)
    rename_i k' e' h1
    cases h1
    split at h
    ·rename_i hc
     obtain ⟨xs, h3, h4⟩ := Option.map_eq_some_iff.1 h
     subst h4
     simp only [Bool.and_eq_true, decide_eq_true_eq] at hp
     rw [List.range_eq_range'] at h3
     have := zij (n := n) (sz := P.cellsOf e) (fun cs y vs h hv => ih fuel e cs y vs hp.2 h hv) k 0 xs vs (by rw [hc, ← hp.1]; simp) h3 (by simpa only [zd8] using hv)
     simpa using this
    ·cases h
  ·cases hp
theorem zcN {c : Cx} {b : Nat} : ∀ (as : List AV) (vs : List Value) (o : Nat), Rvs c as vs → (∀ j, j < vs.length → c.I b (o + j) = vs[j]?) → Rcells c b o as
 | [], _, o, _, _ => .nil _ _
 | a :: as, _, o, h, hc => by
  cases h with
  | cons _ v _ vs h1 h2 =>
   have hv := hc 0 (by simp)
   simp only [Nat.add_zero, List.getElem?_cons_zero] at hv
   refine .cons _ _ _ v _ hv h1 (zcN as vs (o + 1) h2 fun j hj => ?_)
   have := hc (j + 1) (by simpa using hj)
   rw [show o + 1 + j = o + (j + 1) from by omega, this]; simp
end
def lit1 : SE → Option Value
 | .bool b => some (.bool b)
 | .int k n => some (.int k n)
 | _ => none
def litL : List SE → Option (List Value)
 | [] => some []
 | e :: es => match lit1 e, litL es with
  | some v, some vs => some (v :: vs)
  | _, _ => none
theorem zgC {c : Cx} {ρ : Nat → AV} : ∀ (es : List SE) (vs : List Value), litL es = some vs → Rvs c (dens ρ es) vs
 | [], vs, h => by simp only [litL, Option.some.injEq] at h; subst h; exact .nil
 | e :: es, vs, h => by
  simp only [litL] at h
  split at h
  ·rename_i v vs' h1 h2
   simp only [Option.some.injEq] at h; subst h
   refine .cons _ _ _ _ ?_ (zgC es vs' h2)
   cases e <;> simp [lit1] at h1
   ·subst h1; exact .bool _
   ·subst h1; exact .int _ _
  ·cases h
def vsEq : List Value → List Value → Bool
 | [], [] => true
 | .bool a :: x, .bool b :: y => (a == b) && vsEq x y
 | .int k a :: x, .int k' b :: y => decide (k = k') && decide (a = b) && vsEq x y
 | _, _ => false
theorem zjv : ∀ (a b : List Value), vsEq a b = true → a = b
 | [], [], _ => rfl
 | .bool a :: x, .bool b :: y, h => by
  simp only [vsEq, Bool.and_eq_true, beq_iff_eq] at h
  rw [h.1, zjv x y h.2]
 | .int k a :: x, .int k' b :: y, h => by
  simp only [vsEq, Bool.and_eq_true, decide_eq_true_eq] at h
  rw [h.1.1, h.1.2, zjv x y h.2]
theorem zgB {P : Program} {w : World} {n : Nat} : ∀ {laid : List (String × DataW Unit)} {ps : List MemPlace}, DataW.LaidVars P w laid ps → ∀ (x : String) (d : DataW Unit), (x, d) ∈ laid → ∀ (g : Nat) (t : TypeId) (vs : List Value), P.globalNamed x = some g → (P.globals[g]?).map (·.type) = some t →
  za1 P n t = true → zd8 n d = some vs → ∀ j, w.cell? ⟨g, j, none⟩ = vs[j]?
 | [], _, _, x, d, h => by cases h
 | (x', d') :: r, ps, h, x, d, hx => by
  intro g t vs hg ht hp hv j
  obtain ⟨g', t', cs, fuel, p, q, h1, h2, h3, h4, h5, _⟩ := h
  rcases List.mem_cons.1 hx with he | hx
  ·cases he
   obtain rfl := Option.some.inj (hg.symm.trans h1)
   obtain rfl := Option.some.inj (ht.symm.trans h2)
   have := zlM n fuel t cs.toList (_, p) vs hp h4 hv
   have hc := World.var?_cell hg h3 j
   rw [hc, ← this]; simp
  ·exact zgB h5 x d hx g t vs hg ht hp hv j
theorem zdo {P : Program} {laid : List (String × DataW Unit)} {G : Glob} (n : Nat) (hpl : (laid.all fun x => x.2.handleName?.isNone) = true)
  (hG : (List.range G.length).all (fun g => match G[g]? with
   | some [] => true
   | some es => (match litL es with
    | some vs => laid.any fun x => decide (P.globalNamed x.1 = some g) && (match (P.globals[g]?).map (·.type) with
     | some t => za1 P n t && (match zd8 n x.2 with
      | some us => vsEq us vs
      | none => false)
     | none => false)
    | none => false)
   | none => true) = true) {w : World} (h : laidMetH P laid w) : zbD G (Cx.all w) := by
 rw [MakeChecks.laidMetH_plain _ _ _ hpl] at h
 obtain ⟨ps, h1, _⟩ := h
 intro g es hg
 have hlt : g < G.length := (List.getElem?_eq_some_iff.1 hg).1
 have hx := List.all_eq_true.1 hG g (List.mem_range.2 hlt)
 rw [hg] at hx
 cases es with
 | nil => exact .nil _ _
 | cons e es =>
  simp only at hx
  split at hx
  ·rename_i vs hvs
   obtain ⟨⟨x, d⟩, hm, hx⟩ := List.any_eq_true.1 hx
   simp only [Bool.and_eq_true, decide_eq_true_eq] at hx
   obtain ⟨hn, hx⟩ := hx
   split at hx
   ·rename_i t ht
    simp only [Bool.and_eq_true] at hx
    obtain ⟨hp, hx⟩ := hx
    split at hx
    ·rename_i us hus
     have hx := zjv _ _ hx; subst hx
     refine zcN _ us 0 (zgC _ _ hvs) fun j hj => ?_
     have := zgB h1 x d hm g t us hn ht hp hus j
     simpa [Cx.all] using this
    ·cases hx
   ·cases hx
  ·cases hx
end Go.Lb
namespace Go.Lb
open Go.RowKit Go.ChangeShapes
end Go.Lb
namespace Go.Lb
def ips : Nat → Nat → List SE
 | _, 0 => []
 | a, n + 1 => .inp a :: ips (a + 1) n
def ipx : Nat → Nat → List SE
 | _, 0 => []
 | a, n + 1 => .inp a :: ipx (a + 1) n
def pts (x : SE) : Nat → Nat → List SE
 | _, 0 => []
 | j, n + 1 => .app (.part j 1 false) [x] :: pts x (j + 1) n
def ptx (x : SE) : Nat → Nat → List SE
 | _, 0 => []
 | j, n + 1 => .app (.part j 1 false) [x] :: ptx x (j + 1) n
def zms : Nat → List SE
 | 0 => []
 | n + 1 => .int .i64 0 :: .int .i64 0 :: .bool false :: zms n
def ap {α : Type} (a b : List α) : List α := a ++ b
@[simp] theorem ap_eq {α : Type} (a b : List α) : ap a b = a ++ b := rfl
abbrev sL (k : Nat) (e : SE) : Nat × Ent := (k, ⟨[], e⟩)
abbrev zi (n : Int) : SE := .int .i64 n
abbrev bF : SE := .bool false
abbrev bT : SE := .bool true
abbrev bi (o : BinOp) (a b : SE) : SE := .app (.bin o) [a, b]
abbrev ln (a : SE) : SE := .app .len [a]
abbrev nt (a : SE) : SE := .app (.un .not) [a]
abbrev pk (a b c : SE) : SE := .app .pick [a, b, c]
abbrev tp (i : Nat) (a : SE) : SE := .app (.tproj i) [a]
abbrev pt (i : Nat) (a : SE) : SE := .app (.part i 1 false) [a]
abbrev ei (n : Nat) (a b : SE) : SE := .app (.eidx n) [a, b]
abbrev el (n : Nat) (a : SE) : SE := .app (.eload n true) [a]
abbrev e1 (a : SE) : SE := .app (.eload 1 false) [a]
abbrev ck (o : PF) (args : List SE) (k : RT) : RT := .seg [.chk [] o args] k
abbrev ckg (c : SE) (b : Bool) (o : PF) (args : List SE) (k : RT) : RT := .seg [.chk [(c, b)] o args] k
@[simp] theorem ipx_zero (a : Nat) : ipx a 0 = [] := rfl
@[simp] theorem ipx_succ (a n : Nat) : ipx a (n + 1) = .inp a :: ipx (a + 1) n := rfl
@[simp] theorem ptx_zero (x : SE) (a : Nat) : ptx x a 0 = [] := rfl
@[simp] theorem ptx_succ (x : SE) (a n : Nat) : ptx x a (n + 1) = .app (.part a 1 false) [x] :: ptx x (a + 1) n := rfl
end Go.Lb
namespace Go.Lb
open Go.RowKit Go.ChangeShapes
theorem zcJ {H : Type} {P : Program} : ∀ (ts us : List TypeId) (ds : List (DataW H)), ds.length ≤ ts.length → DataW.weightsEach P (ts ++ us) ds = DataW.weightsEach P ts ds
 | ts, us, [], _ => by cases ts <;> cases us <;> simp [DataW.weightsEach]
 | [], us, d :: ds, h => by simp at h
 | t :: ts, us, d :: ds, h => by
  simp only [List.cons_append, DataW.weightsEach, zcJ ts us ds (by simpa using h)]
theorem zdq {C : Checked} (os : Os) (started : os.Started) {f : FuncId} {fn : Func} {s : ChangeSpec} {tb : TypeId} (n : Nat) (H : Type) (enc : TypeId × Value → H) {laid : List (String × DataW Unit)} {G : Glob}
  (hpl : (laid.all fun x => x.2.handleName?.isNone) = true) (own : ownKnob C.prog.godebug = none) (hl : laidOutB C.prog = true) (noInit : C.prog.inits.idxOf? f = none) (hfn : C.prog.funcs[f]? = some fn)
  (witness : ∃ (w : World) (tape : Tape) (i : Input), w.os = os ∧ (w.forCall tape i).Shaped C.prog ∧ i.vars = [] ∧ Input.okWide C.prog (w.forCall tape i) .any w.heap.size f i ∧
   ((s.pre enc C.prog fn [] false (w.forCall tape i).memory i.args ∧ laidMetH C.prog laid (w.forCall tape i).memory) ∧ sizedMet enc C.prog fn (OpenSpec.ofChange s) false (w.forCall tape i).memory i.args) ∧ ({} : Assume).holds C.prog (lone (Frame.enter C.prog f i.args .normal) [] (w.forCall tape i)))
  (hvars : s.vars = []) (hres : fn.resultTypes = #[tb]) (htb : C.prog.underlying tb = some .bool) (hpar : fn.params.toList.all (fun t => za1 C.prog n t && C.prog.readableRec t && decide (t < C.prog.types.size)) = true)
  (hfnr : ∀ ds : List (DataW H), ds.length = fn.params.size → (s.fn H ds).results = [.lit (.bool true)] ∧ (s.fn H ds).args = ds ∧ (s.fn H ds).vars = [])
  (hG : ∀ w, laidMetH C.prog laid w → zbD G (Cx.all w))
  (hfit : (fn.params.toList.all fun t => zaT C.prog n t) = true)
  (hC : ∀ avs, zgh C.prog n fn.params.toList avs → AV.wgts reachBytes avs → zbh C.prog G f avs (.bool true)) :
  ReturnsInHanded {} C os f .any (fun w args => (s.pre enc C.prog fn [] false w args ∧ laidMetH C.prog laid w) ∧ sizedMet enc C.prog fn (OpenSpec.ofChange s) false w args) (s.post enc C.prog fn false true false false) := by
 refine returnsInHanded_of_change_and (X := fun w _ => laidMetH C.prog laid w) (fun _ _ _ hh h => by simp only [MakeChecks.laidMetH_plain _ _ _ hpl] at h ⊢; exact h.of_heap hh) own started noInit hfn witness ?_
 intro W base args ds gs before hval hW _ hwt hL _
 have hW' := hW
 obtain ⟨p, q, hA, hV, rfl, hfz, hnd⟩ := hW
 rw [hvars] at hV
 obtain ⟨rfl, rfl⟩ := trodVars_none hV
 have hpar : ∀ t ∈ fn.params.toList, (za1 C.prog n t = true ∧ C.prog.readableRec t = true) ∧ t < C.prog.types.size := by
  simpa only [List.all_eq_true, Bool.and_eq_true, decide_eq_true_eq] using hpar
 obtain ⟨avs, h1, h2, _, h4⟩ := zis (base := base) fn.params.toList args.toList ds p (fun t ht => (hpar t ht).1.1)
  (fun j t v h3 h4 => hval j t v (by simpa using h3) (by simpa using h4)) hA
 have hlen : ds.length = fn.params.size := by
  have : ∀ (ts : List TypeId) (vs : List Value) (ds : List (DataW H)) (ps : List MemPlace), DataW.TrodAll enc C.prog W 0 (fun _ => true) true ts vs ds ps → ds.length = ts.length := by
   intro ts
   induction ts with
   | nil => intro vs ds ps h; obtain ⟨rfl, rfl, rfl⟩ := trodAll_nil h; rfl
   | cons t ts ih =>
    intro vs ds ps h
    obtain ⟨v, vs1, d, ds1, a, b, rfl, rfl, rfl, h1, h2⟩ := trodAll_cons h
    simp [ih _ _ _ h2]
  simpa using this _ _ _ _ hA
 obtain ⟨e1, e2, e3⟩ := hfnr (ds ++ []) (by simpa using hlen)
 have h5 : AV.wgts reachBytes avs := h4 hfit reachBytes fun x hx => by
  rw [List.append_nil, zcJ _ _ ds (by rw [hlen]; simp)] at hwt
  simpa using List.all_eq_true.1 hwt x hx
 refine ((hC avs h2 h5).2 W (Cx.all W) args.toList (zm5 W) (zn9 W) (hG W hL) h1).mono fun e W' ⟨v, c', he, _, _, _, _, hv, hb⟩ => ?_
 subst he
 cases hv
 refine ⟨_, rfl, ds, [], p ++ [], [], p, [], hW', ?_, ?_, ?_, ?_, fun h => by cases h⟩
 ·rw [e1, hres]
  exact ⟨[], [], shut_bool htb true, rfl, rfl⟩
 ·rw [e2, List.append_nil]
  exact ziH hl hb _ _ _ _ (fun t ht => ⟨(hpar t ht).1.2, (hpar t ht).2⟩) (fun x hx => by simpa using hW'.lt x (by simpa using hx)) hA
 ·rw [e3, hvars]; rfl
 ·exact hb.frame _
theorem zlV {R : Nat} {α : Type} {g : α → AV} {l : List α} (h : AV.wgt R (.sl (l.map g))) : (∀ x ∈ l, l.length * AV.bytesL (g x).cells ≤ R) ∧ ∀ x ∈ l, AV.wgt R (g x) := by
 simp only [AV.wgt, List.length_map] at h
 exact ⟨fun x hx => h.1 _ (List.mem_map_of_mem hx), fun x hx => zcF h.2 _ (List.mem_map_of_mem hx)⟩
end Go.Lb
