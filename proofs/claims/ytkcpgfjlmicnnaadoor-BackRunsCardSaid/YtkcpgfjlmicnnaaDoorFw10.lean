/- The form of data, off the program. -/
/- Plain rules more; variables laid by the program's text. -/
import Derived.Test.YtkcpgfjlmicnnaaDoorFw9
import Derived.LaidMore
import Derived.LaidLaws
import Derived.MakeChecks
import Derived.OpenShut
set_option linter.unusedSimpArgs false
set_option linter.unusedVariables false
namespace Go.Lb
open Go.RowKit Go.ChangeShapes

inductive TS where
  | bool
  | int (k : IntKind)
  | sl (st : Bool) (e : TS)
  | agg (ts : List TS)
  | no
  deriving Inhabited, Repr

def aggIf (st : Bool) (x : AV) : Prop := st = true ↔ ∃ cs, x = .agg cs

mutual
def TS.fits : TS → List AV → Prop
  | .bool, as => ∃ b, as = [.bool b]
  | .int k, as => ∃ m, as = [.int k m] ∧ k.min ≤ m ∧ m ≤ k.max
  | .sl st e, as => ∃ es, as = [.sl es] ∧ es.length ≤ maxLen ∧ ∀ x ∈ es, TS.fits e x.cells ∧ aggIf st x
  | .agg ts, as => TS.fitsAll ts as
  | .no, _ => False
def TS.fitsAll : List TS → List AV → Prop
  | [], as => as = []
  | t :: ts, as => ∃ p q, as = p ++ q ∧ TS.fits t p ∧ TS.fitsAll ts q
end

def tyS (P : Program) : Nat → TypeId → TS
  | 0, _ => .no
  | n + 1, t => match P.underlying t with
    | some .bool => .bool
    | some (.int k) => .int k
    | some (.slice e) => .sl (isSt P e) (tyS P n e)
    | some (.struct fs) => .agg (fs.toList.map fun f => tyS P n f.type)
    | some (.array k e) => .agg (List.replicate k (tyS P n e))
    | _ => .no

theorem Ty_fits {P : Program} : ∀ (n : Nat) (t : TypeId) (as : List AV), Ty P n t as → (tyS P n t).fits as := by
  intro n
  induction n with
  | zero => intro t as h; exact h.elim
  | succ n ih =>
    intro t as h
    simp only [Ty] at h
    unfold tyS
    split at h <;> first | exact h.elim | (rename_i heq; (try rw [heq]); clear heq)
    · simpa only [TS.fits] using h
    · simpa only [TS.fits] using h
    · obtain ⟨es, h1, h2, h3⟩ := h
      simp only [TS.fits]
      exact ⟨es, h1, h2, fun x hx => ⟨ih _ _ (h3 x hx).1, (h3 x hx).2⟩⟩
    · rename_i fs
      simp only [TS.fits]
      have : ∀ (fs : List Field) (as : List AV), TyFs (Ty P n) fs as → TS.fitsAll (fs.map fun f => tyS P n f.type) as := by
        intro fs
        induction fs with
        | nil => intro as h; exact h
        | cons f fs ihf =>
          intro as h
          obtain ⟨p, q, h1, h2, h3⟩ := h
          exact ⟨p, q, h1, ih _ _ h2, ihf _ h3⟩
      exact this _ _ h
    · rename_i k e
      simp only [TS.fits]
      have : ∀ (k : Nat) (as : List AV), TyReps (Ty P n e) k as → TS.fitsAll (List.replicate k (tyS P n e)) as := by
        intro k
        induction k with
        | zero => intro as h; exact h
        | succ k ihf =>
          intro as h
          obtain ⟨p, q, h1, h2, h3⟩ := h
          exact ⟨p, q, h1, ih _ _ h2, ihf _ h3⟩
      exact this _ _ h


/-- The form of arguments. -/
def fitArgs : List (Bool × TS) → List AV → Prop
  | [], as => as = []
  | t :: ts, as => ∃ x xs, as = x :: xs ∧ t.2.fits x.cells ∧ aggIf t.1 x ∧ fitArgs ts xs
def argsS (P : Program) (n : Nat) (ts : List TypeId) : List (Bool × TS) := ts.map fun t => (isSt P t, tyS P n t)
theorem TyArgs_fits {P : Program} {n : Nat} : ∀ (ts : List TypeId) (as : List AV), TyArgs P n ts as → fitArgs (argsS P n ts) as
  | [], _, h => h
  | t :: ts, as, h => by
    obtain ⟨x, xs, h1, h2, h3, h4⟩ := h
    exact ⟨x, xs, h1, Ty_fits _ _ _ h2, h3, TyArgs_fits ts xs h4⟩

theorem pureAll_app (xs ys : List AV) : AV.pureAll (xs ++ ys) = (AV.pureAll xs && AV.pureAll ys) := by
  induction xs with
  | nil => simp [AV.pureAll]
  | cons x xs ih => simp [AV.pureAll, ih, Bool.and_assoc]
theorem pure_of_cells {x : AV} (h : AV.pureAll x.cells = true) : x.pure = true := by
  cases x <;> simp_all [AV.cells, AV.pureAll, AV.pure]
theorem pureAll_of {es : List AV} (h : ∀ x ∈ es, x.pure = true) : AV.pureAll es = true := by
  induction es with
  | nil => rfl
  | cons e es ih => simp [AV.pureAll, h e (by simp), ih fun x hx => h x (by simp [hx])]

mutual
theorem TS.fits_pure : ∀ (t : TS) (as : List AV), t.fits as → AV.pureAll as = true
  | .bool, as, h => by obtain ⟨b, rfl⟩ := h; rfl
  | .int k, as, h => by obtain ⟨b, rfl, _⟩ := h; rfl
  | .sl st e, as, h => by
    obtain ⟨es, rfl, _, h3⟩ := h
    simp only [AV.pureAll, AV.pure, Bool.and_true]
    exact pureAll_of fun x hx => pure_of_cells (TS.fits_pure e _ (h3 x hx).1)
  | .agg ts, as, h => TS.fitsAll_pure ts as h
  | .no, as, h => h.elim
theorem TS.fitsAll_pure : ∀ (ts : List TS) (as : List AV), TS.fitsAll ts as → AV.pureAll as = true
  | [], as, h => by rw [show as = [] from h]; rfl
  | t :: ts, as, h => by
    obtain ⟨p, q, rfl, h2, h3⟩ := h
    rw [pureAll_app, TS.fits_pure t p h2, TS.fitsAll_pure ts q h3]; rfl
end

/-! ### To read it off -/
@[simp] theorem fits_bool {as : List AV} : TS.fits .bool as ↔ ∃ b, as = [.bool b] := by rw [TS.fits]
@[simp] theorem fits_int {k : IntKind} {as : List AV} : TS.fits (.int k) as ↔ ∃ m, as = [.int k m] ∧ k.min ≤ m ∧ m ≤ k.max := by rw [TS.fits]
theorem fits_sl {st : Bool} {e : TS} {as : List AV} : TS.fits (.sl st e) as ↔ ∃ es, as = [.sl es] ∧ es.length ≤ maxLen ∧ ∀ x ∈ es, TS.fits e x.cells ∧ aggIf st x := by rw [TS.fits]
theorem fits_agg {ts : List TS} {as : List AV} : TS.fits (.agg ts) as ↔ TS.fitsAll ts as := by rw [TS.fits]
theorem fitsAll_nil {as : List AV} : TS.fitsAll [] as ↔ as = [] := by rw [TS.fitsAll]
theorem fitsAll_cons {t : TS} {ts : List TS} {as : List AV} : TS.fitsAll (t :: ts) as ↔ ∃ p q, as = p ++ q ∧ TS.fits t p ∧ TS.fitsAll ts q := by rw [TS.fitsAll]
theorem fitsAll_int {k : IntKind} {ts : List TS} {as : List AV} : TS.fitsAll (.int k :: ts) as ↔ ∃ m q, as = .int k m :: q ∧ (k.min ≤ m ∧ m ≤ k.max) ∧ TS.fitsAll ts q := by
  rw [fitsAll_cons]
  constructor
  · rintro ⟨p, q, rfl, h1, h2⟩
    obtain ⟨m, rfl, h3⟩ := fits_int.1 h1
    exact ⟨m, q, rfl, h3, h2⟩
  · rintro ⟨m, q, rfl, h1, h2⟩
    exact ⟨[.int k m], q, rfl, fits_int.2 ⟨m, rfl, h1⟩, h2⟩
theorem fitsAll_bool {ts : List TS} {as : List AV} : TS.fitsAll (.bool :: ts) as ↔ ∃ m q, as = .bool m :: q ∧ TS.fitsAll ts q := by
  rw [fitsAll_cons]
  constructor
  · rintro ⟨p, q, rfl, h1, h2⟩
    obtain ⟨m, rfl⟩ := fits_bool.1 h1
    exact ⟨m, q, rfl, h2⟩
  · rintro ⟨m, q, rfl, h2⟩
    exact ⟨[.bool m], q, rfl, fits_bool.2 ⟨m, rfl⟩, h2⟩
theorem fitsAll_sl {st : Bool} {e : TS} {ts : List TS} {as : List AV} : TS.fitsAll (.sl st e :: ts) as ↔ ∃ es q, as = .sl es :: q ∧ (es.length ≤ maxLen ∧ ∀ x ∈ es, TS.fits e x.cells ∧ aggIf st x) ∧ TS.fitsAll ts q := by
  rw [fitsAll_cons]
  constructor
  · rintro ⟨p, q, rfl, h1, h2⟩
    obtain ⟨m, rfl, h3⟩ := fits_sl.1 h1
    exact ⟨m, q, rfl, h3, h2⟩
  · rintro ⟨m, q, rfl, h1, h2⟩
    exact ⟨[.sl m], q, rfl, fits_sl.2 ⟨m, rfl, h1⟩, h2⟩
theorem fitsAll_agg {us ts : List TS} {as : List AV} : TS.fitsAll (.agg us :: ts) as ↔ TS.fitsAll (us ++ ts) as := by
  have : ∀ (us ts : List TS) (as : List AV), TS.fitsAll (us ++ ts) as ↔ ∃ p q, as = p ++ q ∧ TS.fitsAll us p ∧ TS.fitsAll ts q := by
    intro us
    induction us with
    | nil => intro ts as; simp only [List.nil_append, fitsAll_nil]; exact ⟨fun h => ⟨[], as, rfl, rfl, h⟩, fun ⟨p, q, h1, h2, h3⟩ => by subst h2; subst h1; exact h3⟩
    | cons u us ih =>
      intro ts as
      rw [List.cons_append, fitsAll_cons]
      constructor
      · rintro ⟨p, q, rfl, h1, h2⟩
        obtain ⟨p', q', rfl, h3, h4⟩ := (ih _ _).1 h2
        exact ⟨p ++ p', q', by simp, fitsAll_cons.2 ⟨p, p', rfl, h1, h3⟩, h4⟩
      · rintro ⟨p, q, rfl, h1, h2⟩
        obtain ⟨p', q', rfl, h3, h4⟩ := fitsAll_cons.1 h1
        exact ⟨p', q' ++ q, by simp, h3, (ih _ _).2 ⟨q', q, rfl, h4, h2⟩⟩
  rw [fitsAll_cons, this]
  simp only [fits_agg]

/-- A slice's elements, each the picture of some value. -/
theorem sl_map {α : Type} {T : TS} {g : α → AV} (hg : ∀ cs, T.fits cs → ∃ a, AV.agg cs = g a) : ∀ es : List AV, (∀ x ∈ es, T.fits x.cells ∧ aggIf true x) → ∃ l : List α, es = l.map g
  | [], _ => ⟨[], rfl⟩
  | e :: es, h => by
    obtain ⟨h1, h2⟩ := h e (by simp)
    obtain ⟨cs, rfl⟩ := h2.1 rfl
    obtain ⟨a, ha⟩ := hg cs h1
    obtain ⟨l, hl⟩ := sl_map hg es fun x hx => h x (by simp [hx])
    exact ⟨a :: l, by rw [ha, hl]; rfl⟩
theorem sl_mapP {α : Type} {T : TS} {g : α → AV} {Q : α → Prop} (hg : ∀ cs, T.fits cs → ∃ a, AV.agg cs = g a ∧ Q a) : ∀ es : List AV, (∀ x ∈ es, T.fits x.cells ∧ aggIf true x) → ∃ l : List α, es = l.map g ∧ ∀ a ∈ l, Q a
  | [], _ => ⟨[], rfl, by simp⟩
  | e :: es, h => by
    obtain ⟨h1, h2⟩ := h e (by simp)
    obtain ⟨cs, rfl⟩ := h2.1 rfl
    obtain ⟨a, ha, hq⟩ := hg cs h1
    obtain ⟨l, hl, hq2⟩ := sl_mapP hg es fun x hx => h x (by simp [hx])
    refine ⟨a :: l, by rw [ha, hl]; rfl, fun b hb => ?_⟩
    rcases List.mem_cons.1 hb with rfl | hb
    · exact hq
    · exact hq2 b hb
theorem sl_ints {k : IntKind} : ∀ es : List AV, (∀ x ∈ es, TS.fits (.int k) x.cells ∧ aggIf false x) → ∃ l : List Int, es = l.map (AV.int k) ∧ ∀ m ∈ l, k.min ≤ m ∧ m ≤ k.max
  | [], _ => ⟨[], rfl, by simp⟩
  | e :: es, h => by
    obtain ⟨h1, h2⟩ := h e (by simp)
    obtain ⟨m, h1, hm⟩ := fits_int.1 h1
    obtain ⟨l, hl, h3⟩ := sl_ints es fun x hx => h x (by simp [hx])
    have he : e = .int k m := by
      cases e <;> simp_all [AV.cells, aggIf]
    refine ⟨m :: l, by rw [he, hl]; rfl, fun b hb => ?_⟩
    rcases List.mem_cons.1 hb with rfl | hb
    · exact hm
    · exact h3 b hb
@[simp] theorem i64_min : IntKind.i64.min = -9223372036854775808 := by decide +kernel
@[simp] theorem i64_max : IntKind.i64.max = 9223372036854775807 := by decide +kernel
@[simp] theorem u8_min : IntKind.u8.min = 0 := by decide +kernel
@[simp] theorem u8_max : IntKind.u8.max = 255 := by decide +kernel
end Go.Lb

namespace Go.Lb
open Go.RowKit Go.ChangeShapes

@[simp] theorem mm_max (a b : Int) (k : IntKind) : mmStep true a (.int k b) = max a b := by
  simp only [mmStep]; split <;> omega
@[simp] theorem mm_min (a b : Int) (k : IntKind) : mmStep false a (.int k b) = min a b := by
  simp only [mmStep]; split <;> omega
@[simp] theorem pok_rowget (z off n : Nat) (g : Bool) (es : List AV) (k : IntKind) (i : Int) : pok (.rowget z off n g) [.sl es, .int k i] = (0 ≤ i ∧ i < es.length ∧ (es.getD i.toNat .undef).cells.length = z ∧ AV.cutOk (es.getD i.toNat .undef).cells off n g) := rfl
@[simp] theorem ints_pure' (l : List Int) : (ints l).pure = true := by simp [AV.pure, ints_pure]
theorem pureAll_append (xs ys : List AV) : AV.pureAll (xs ++ ys) = (AV.pureAll xs && AV.pureAll ys) := by
  induction xs with
  | nil => simp [AV.pureAll]
  | cons x xs ih => simp [AV.pureAll, ih, Bool.and_assoc]
theorem wrap_i {n : Int} (h1 : -9223372036854775808 ≤ n) (h2 : n ≤ 9223372036854775807) : IntKind.i64.wrap n = n := by
  simp [IntKind.wrap, IntKind.signed, IntKind.bits]; split <;> omega
theorem wrap_succ {i : Nat} (h : i ≤ 4294967296) : IntKind.i64.wrap ((i : Int) + 1) = ((i + 1 : Nat) : Int) := by rw [wrap_i] <;> omega
theorem pureAll_map {α : Type} (f : α → AV) (h : ∀ x, (f x).pure = true) (l : List α) : AV.pureAll (l.map f) = true := by
  induction l with
  | nil => rfl
  | cons x l ih => simp [AV.pureAll, h, ih]
theorem map_getD {α : Type} {f : α → AV} {l : List α} {i : Nat} (h : i < l.length) (d : AV) : (l.map f).getD i d = f (l[i]) := by
  rw [List.getD_eq_getElem?_getD, List.getElem?_map, List.getElem?_eq_getElem h]; rfl
theorem omap_getD {α : Type} {f : α → AV} {l : List α} {i : Nat} (h : i < l.length) (d : AV) : (Option.map f l[i]?).getD d = f (l[i]) := by
  rw [List.getElem?_eq_getElem h]; rfl

/-! ### What a laid variable's cells are -/
section
variable {H : Type}
def litCat (f : DataW H → Option (List Value)) : List (DataW H) → Option (List Value)
  | [] => some []
  | d :: ds => match f d, litCat f ds with
    | some a, some b => some (a ++ b)
    | _, _ => none
def litVs : Nat → DataW H → Option (List Value)
  | 0, _ => none
  | _ + 1, .lit (.bool b) => some [.bool b]
  | _ + 1, .lit (.int k m) => some [.int k m]
  | n + 1, .agg parts => litCat (litVs n) parts
  | _ + 1, _ => none

variable {enc : TypeId × Value → H} {P : Program} {w : World} {base : Nat} {spare : Nat → Bool} {held : Bool}

theorem litCat_cons {f : DataW H → Option (List Value)} {d : DataW H} {ds : List (DataW H)} {vs : List Value} (h : litCat f (d :: ds) = some vs) : ∃ a b, f d = some a ∧ litCat f ds = some b ∧ vs = a ++ b := by
  simp only [litCat] at h
  split at h
  · rename_i a b h1 h2
    simp only [Option.some.injEq] at h
    exact ⟨a, b, h1, h2, h.symm⟩
  · cases h

theorem lits_fields {n fuel total : Nat} {cs : List Value} (ih : ∀ (t : TypeId) (cs : List Value) (y : DataW H × List MemPlace) (vs : List Value), plainTy P n t = true → DataW.trod enc P w base spare held fuel t cs = some y → litVs n y.1 = some vs → cs = vs)
    (hl : cs.length = total) : ∀ (fs : List Field) (off : Nat) (xs : List (DataW H × List MemPlace)) (vs : List Value), tiles P fs off total = true → (fs.all fun f => plainTy P n f.type) = true →
      fs.mapM (fun f => DataW.trod enc P w base spare held fuel f.type ((cs.drop f.offset).take (P.cellsOf f.type))) = some xs → litCat (litVs n) (xs.map (·.1)) = some vs → cs.drop off = vs
  | [], off, xs, vs, ht, hp, h, hv => by
    simp only [tiles, decide_eq_true_eq] at ht
    simp at h; subst h
    simp [litCat] at hv; subst hv
    exact List.drop_of_length_le (by omega)
  | f :: fs, off, xs, vs, ht, hp, h, hv => by
    simp only [tiles, Bool.and_eq_true, decide_eq_true_eq] at ht
    simp only [List.all_cons, Bool.and_eq_true] at hp
    rw [List.mapM_cons] at h
    simp only [Option.bind_eq_bind, Option.pure_def] at h
    obtain ⟨y, h1, h2⟩ := Option.bind_eq_some_iff.1 h
    obtain ⟨ys, h3, h4⟩ := Option.bind_eq_some_iff.1 h2
    simp only [Option.some.injEq] at h4; subst h4
    rw [List.map_cons] at hv
    obtain ⟨a, b, v1, v2, rfl⟩ := litCat_cons hv
    have e1 := ih _ _ y a hp.1 h1 v1
    have e2 := lits_fields ih hl fs _ ys b ht.2 hp.2 h3 v2
    rw [← e1, ← e2, ht.1, ← List.drop_drop, List.take_append_drop]

theorem lits_reps {n fuel sz : Nat} {e : TypeId} {cs : List Value} (ih : ∀ (cs : List Value) (y : DataW H × List MemPlace) (vs : List Value), DataW.trod enc P w base spare held fuel e cs = some y → litVs n y.1 = some vs → cs = vs) :
    ∀ (k i : Nat) (xs : List (DataW H × List MemPlace)) (vs : List Value), cs.length = (i + k) * sz →
      (List.range' i k).mapM (fun i => DataW.trod enc P w base spare held fuel e ((cs.drop (i * sz)).take sz)) = some xs → litCat (litVs n) (xs.map (·.1)) = some vs → cs.drop (i * sz) = vs
  | 0, i, xs, vs, hl, h, hv => by
    simp at h; subst h
    simp [litCat] at hv; subst hv
    exact List.drop_of_length_le (by rw [hl]; simp)
  | k + 1, i, xs, vs, hl, h, hv => by
    rw [List.range'_succ, List.mapM_cons] at h
    simp only [Option.bind_eq_bind, Option.pure_def] at h
    obtain ⟨y, h1, h2⟩ := Option.bind_eq_some_iff.1 h
    obtain ⟨ys, h3, h4⟩ := Option.bind_eq_some_iff.1 h2
    simp only [Option.some.injEq] at h4; subst h4
    rw [List.map_cons] at hv
    obtain ⟨a, b, v1, v2, rfl⟩ := litCat_cons hv
    have e1 := ih _ y a h1 v1
    have e2 := lits_reps ih k (i + 1) ys b (by rw [hl]; congr 1; omega) h3 v2
    rw [← e1, ← e2, Nat.succ_mul, ← List.drop_drop, List.take_append_drop]

theorem trod_lits : ∀ (n fuel : Nat) (t : TypeId) (cs : List Value) (y : DataW H × List MemPlace) (vs : List Value), plainTy P n t = true →
    DataW.trod enc P w base spare held fuel t cs = some y → litVs n y.1 = some vs → cs = vs := by
  intro n
  induction n with
  | zero => intro fuel t cs y vs h; simp [plainTy] at h
  | succ n ih =>
    intro fuel t cs y vs hp h hv
    simp only [plainTy] at hp
    split at hp
    · rename_i ht
      obtain ⟨b, rfl, rfl⟩ := DataW.trod_bool ht h
      simpa [litVs] using hv
    · rename_i k ht
      obtain ⟨m, rfl, rfl, _⟩ := DataW.trod_int ht h
      simpa [litVs] using hv
    · rename_i e ht
      cases fuel with
      | zero => simp [DataW.trod] at h
      | succ fuel =>
        unfold DataW.trod at h
        rw [ht] at h
        split at h <;> try (simp_all; done)
        · simp only [Option.some.injEq] at h; subst h; simp [litVs] at hv
        · dsimp only at h
          split at h
          · obtain ⟨elems, h3, h4⟩ := Option.bind_eq_some_iff.1 h
            obtain ⟨rest, h5, h6⟩ := Option.map_eq_some_iff.1 h4
            subst h6
            simp [litVs] at hv
          · cases h
    · rename_i fs ht
      cases fuel with
      | zero => simp [DataW.trod] at h
      | succ fuel =>
        unfold DataW.trod at h
        rw [ht] at h
        split at h <;> try (simp_all; done)
        rename_i fs' h1
        cases h1
        split at h
        · rename_i hc
          obtain ⟨xs, h3, h4⟩ := Option.map_eq_some_iff.1 h
          subst h4
          simp only [Bool.and_eq_true] at hp
          have := lits_fields (n := n) (fun t cs y vs hy h hv => ih fuel t cs y vs hy h hv) hc fs.toList 0 xs vs hp.1 hp.2 h3 (by simpa only [litVs] using hv)
          simpa using this
        · cases h
    · rename_i k e ht
      cases fuel with
      | zero => simp [DataW.trod] at h
      | succ fuel =>
        unfold DataW.trod at h
        rw [ht] at h
        split at h <;> try (simp_all; done)
        rename_i k' e' h1
        cases h1
        split at h
        · rename_i hc
          obtain ⟨xs, h3, h4⟩ := Option.map_eq_some_iff.1 h
          subst h4
          simp only [Bool.and_eq_true, decide_eq_true_eq] at hp
          rw [List.range_eq_range'] at h3
          have := lits_reps (n := n) (sz := P.cellsOf e) (fun cs y vs h hv => ih fuel e cs y vs hp.2 h hv) k 0 xs vs (by rw [hc, ← hp.1]; simp) h3 (by simpa only [litVs] using hv)
          simpa using this
        · cases h
    · cases hp

theorem Rcells_of_cells {c : Cx} {b : Nat} : ∀ (as : List AV) (vs : List Value) (o : Nat), Rvs c as vs → (∀ j, j < vs.length → c.I b (o + j) = vs[j]?) → Rcells c b o as
  | [], _, o, _, _ => .nil _ _
  | a :: as, _, o, h, hc => by
    cases h with
    | cons _ v _ vs h1 h2 =>
      have hv := hc 0 (by simp)
      simp only [Nat.add_zero, List.getElem?_cons_zero] at hv
      refine .cons _ _ _ v _ hv h1 (Rcells_of_cells as vs (o + 1) h2 fun j hj => ?_)
      have := hc (j + 1) (by simpa using hj)
      rw [show o + 1 + j = o + (j + 1) from by omega, this]; simp
end

/-- Literal cells. -/
def lit1 : SE → Option Value
  | .bool b => some (.bool b)
  | .int k n => some (.int k n)
  | _ => none
def litL : List SE → Option (List Value)
  | [] => some []
  | e :: es => match lit1 e, litL es with
    | some v, some vs => some (v :: vs)
    | _, _ => none
theorem litL_sound {c : Cx} {ρ : Nat → AV} : ∀ (es : List SE) (vs : List Value), litL es = some vs → Rvs c (dens ρ es) vs
  | [], vs, h => by simp only [litL, Option.some.injEq] at h; subst h; exact .nil
  | e :: es, vs, h => by
    simp only [litL] at h
    split at h
    · rename_i v vs' h1 h2
      simp only [Option.some.injEq] at h; subst h
      refine .cons _ _ _ _ ?_ (litL_sound es vs' h2)
      cases e <;> simp [lit1] at h1
      · subst h1; exact .bool _
      · subst h1; exact .int _ _
    · cases h

def vsEq : List Value → List Value → Bool
  | [], [] => true
  | .bool a :: x, .bool b :: y => (a == b) && vsEq x y
  | .int k a :: x, .int k' b :: y => decide (k = k') && decide (a = b) && vsEq x y
  | _, _ => false
theorem vsEq_eq : ∀ (a b : List Value), vsEq a b = true → a = b
  | [], [], _ => rfl
  | .bool a :: x, .bool b :: y, h => by
    simp only [vsEq, Bool.and_eq_true, beq_iff_eq] at h
    rw [h.1, vsEq_eq x y h.2]
  | .int k a :: x, .int k' b :: y, h => by
    simp only [vsEq, Bool.and_eq_true, decide_eq_true_eq] at h
    rw [h.1.1, h.1.2, vsEq_eq x y h.2]

/-- A variable that is laid by plain data. -/
theorem laid_cells {P : Program} {w : World} {n : Nat} : ∀ {laid : List (String × DataW Unit)} {ps : List MemPlace}, DataW.LaidVars P w laid ps → ∀ (x : String) (d : DataW Unit), (x, d) ∈ laid → ∀ (g : Nat) (t : TypeId) (vs : List Value), P.globalNamed x = some g → (P.globals[g]?).map (·.type) = some t →
    plainTy P n t = true → litVs n d = some vs → ∀ j, w.cell? ⟨g, j, none⟩ = vs[j]?
  | [], _, _, x, d, h => by cases h
  | (x', d') :: r, ps, h, x, d, hx => by
    intro g t vs hg ht hp hv j
    obtain ⟨g', t', cs, fuel, p, q, h1, h2, h3, h4, h5, _⟩ := h
    rcases List.mem_cons.1 hx with he | hx
    · cases he
      obtain rfl := Option.some.inj (hg.symm.trans h1)
      obtain rfl := Option.some.inj (ht.symm.trans h2)
      have := trod_lits n fuel t cs.toList (_, p) vs hp h4 hv
      have hc := World.var?_cell hg h3 j
      rw [hc, ← this]; simp
    · exact laid_cells h5 x d hx g t vs hg ht hp hv j

/-- The table of variables, by what the row lays. -/
theorem globOk_of_laid {P : Program} {laid : List (String × DataW Unit)} {G : Glob} (n : Nat) (hpl : (laid.all fun x => x.2.handleName?.isNone) = true)
    (hG : (List.range G.length).all (fun g => match G[g]? with
      | some [] => true
      | some es => (match litL es with
        | some vs => laid.any fun x => decide (P.globalNamed x.1 = some g) && (match (P.globals[g]?).map (·.type) with
          | some t => plainTy P n t && (match litVs n x.2 with
            | some us => vsEq us vs
            | none => false)
          | none => false)
        | none => false)
      | none => true) = true) {w : World} (h : laidMetH P laid w) : GlobOk G (Cx.all w) := by
  rw [MakeChecks.laidMetH_plain _ _ _ hpl] at h
  obtain ⟨ps, h1, _⟩ := h
  intro g es hg
  have hlt : g < G.length := (List.getElem?_eq_some_iff.1 hg).1
  have hx := List.all_eq_true.1 hG g (List.mem_range.2 hlt)
  rw [hg] at hx
  cases es with
  | nil => exact .nil _ _
  | cons e es =>
    simp only at hx
    split at hx
    · rename_i vs hvs
      obtain ⟨⟨x, d⟩, hm, hx⟩ := List.any_eq_true.1 hx
      simp only [Bool.and_eq_true, decide_eq_true_eq] at hx
      obtain ⟨hn, hx⟩ := hx
      split at hx
      · rename_i t ht
        simp only [Bool.and_eq_true] at hx
        obtain ⟨hp, hx⟩ := hx
        split at hx
        · rename_i us hus
          have hx := vsEq_eq _ _ hx; subst hx
          refine Rcells_of_cells _ us 0 (litL_sound _ _ hvs) fun j hj => ?_
          have := laid_cells h1 x d hm g t us hn ht hp hus j
          simpa [Cx.all] using this
        · cases hx
      · cases hx
    · cases hx

/-- A law that answers true, by its contract, where variables are laid by the program's text. -/
theorem law_laid {C : Checked} (os : Os) (started : os.Started) {f : FuncId} {fn : Func} {s : ChangeSpec} {tb : TypeId} (n : Nat) (H : Type) (enc : TypeId × Value → H) {laid : List (String × DataW Unit)} {G : Glob}
    (hpl : (laid.all fun x => x.2.handleName?.isNone) = true) (own : ownKnob C.prog.godebug = none) (hl : laidOutB C.prog = true) (noInit : C.prog.inits.idxOf? f = none) (hfn : C.prog.funcs[f]? = some fn)
    (witness : ∃ (w : World) (tape : Tape) (i : Input), w.os = os ∧ (w.forCall tape i).Shaped C.prog ∧ i.vars = [] ∧ Input.okWide C.prog (w.forCall tape i) .any w.heap.size f i ∧
      ((s.pre enc C.prog fn [] false (w.forCall tape i).memory i.args ∧ laidMetH C.prog laid (w.forCall tape i).memory) ∧ sizedMet enc C.prog fn (OpenSpec.ofChange s) false (w.forCall tape i).memory i.args) ∧ ({} : Assume).holds C.prog (lone (Frame.enter C.prog f i.args .normal) [] (w.forCall tape i)))
    (hvars : s.vars = []) (hres : fn.resultTypes = #[tb]) (htb : C.prog.underlying tb = some .bool) (hpar : fn.params.toList.all (fun t => plainTy C.prog n t && C.prog.readableRec t && decide (t < C.prog.types.size)) = true)
    (hfnr : ∀ ds : List (DataW H), ds.length = fn.params.size → (s.fn H ds).results = [.lit (.bool true)] ∧ (s.fn H ds).args = ds ∧ (s.fn H ds).vars = [])
    (hG : ∀ w, laidMetH C.prog laid w → GlobOk G (Cx.all w))
    (hC : ∀ avs, TyArgs C.prog n fn.params.toList avs → Contract C.prog G f avs (.bool true)) :
    ReturnsInHanded {} C os f .any (fun w args => (s.pre enc C.prog fn [] false w args ∧ laidMetH C.prog laid w) ∧ sizedMet enc C.prog fn (OpenSpec.ofChange s) false w args) (s.post enc C.prog fn false true false false) := by
  refine returnsInHanded_of_change_and (X := fun w _ => laidMetH C.prog laid w) (fun _ _ _ hh h => by simp only [MakeChecks.laidMetH_plain _ _ _ hpl] at h ⊢; exact h.of_heap hh) own started noInit hfn witness ?_
  intro W base args ds gs before hval hW _ _ hL _
  have hW' := hW
  obtain ⟨p, q, hA, hV, rfl, hfz, hnd⟩ := hW
  rw [hvars] at hV
  obtain ⟨rfl, rfl⟩ := trodVars_none hV
  have hpar : ∀ t ∈ fn.params.toList, (plainTy C.prog n t = true ∧ C.prog.readableRec t = true) ∧ t < C.prog.types.size := by
    simpa only [List.all_eq_true, Bool.and_eq_true, decide_eq_true_eq] using hpar
  obtain ⟨avs, h1, h2, _⟩ := open_args (base := base) fn.params.toList args.toList ds p (fun t ht => (hpar t ht).1.1)
    (fun j t v h3 h4 => hval j t v (by simpa using h3) (by simpa using h4)) hA
  have hlen : ds.length = fn.params.size := by
    have : ∀ (ts : List TypeId) (vs : List Value) (ds : List (DataW H)) (ps : List MemPlace), DataW.TrodAll enc C.prog W 0 (fun _ => true) true ts vs ds ps → ds.length = ts.length := by
      intro ts
      induction ts with
      | nil => intro vs ds ps h; obtain ⟨rfl, rfl, rfl⟩ := trodAll_nil h; rfl
      | cons t ts ih =>
        intro vs ds ps h
        obtain ⟨v, vs1, d, ds1, a, b, rfl, rfl, rfl, h1, h2⟩ := trodAll_cons h
        simp [ih _ _ _ h2]
    simpa using this _ _ _ _ hA
  obtain ⟨e1, e2, e3⟩ := hfnr (ds ++ []) (by simpa using hlen)
  refine ((hC avs h2).2 W (Cx.all W) args.toList (all_imm W) (all_lt W) (hG W hL) h1).mono fun e W' ⟨v, c', he, _, _, _, _, hv, hb⟩ => ?_
  subst he
  cases hv
  refine ⟨_, rfl, ds, [], p ++ [], [], p, [], hW', ?_, ?_, ?_, ?_, fun h => by cases h⟩
  · rw [e1, hres]
    exact ⟨[], [], shut_bool htb true, rfl, rfl⟩
  · rw [e2, List.append_nil]
    exact stay_args hl hb _ _ _ _ (fun t ht => ⟨(hpar t ht).1.2, (hpar t ht).2⟩) (fun x hx => by simpa using hW'.lt x (by simpa using hx)) hA
  · rw [e3, hvars]; rfl
  · exact hb.frame _
end Go.Lb
