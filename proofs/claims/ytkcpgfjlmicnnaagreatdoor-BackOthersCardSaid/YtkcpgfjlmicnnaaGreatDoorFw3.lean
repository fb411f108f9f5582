/- One operation that leaves the world alone, symbolically. -/
import Derived.Test.YtkcpgfjlmicnnaaGreatDoorFw2
set_option linter.unusedSimpArgs false
set_option linter.unusedVariables false
namespace Go.Lb
open Go.RowKit
abbrev Ev := Operand → Option SE
def zna (cs : List SE) (off n : Nat) (g : Bool) : Option SE :=
 match g with
 | true => if off + n ≤ cs.length then some (.agg ((cs.drop off).take n)) else none
 | false => if n = 1 then cs[off]? else none
def zby (ev : Ev) : List Operand → Option (List SE)
 | [] => some []
 | x :: xs => match ev x, zby ev xs with
  | some e, some es => some (e :: es)
  | _, _ => none
def ask (o : PF) (args : List SE) : Option (SE × List Chk) := some (.app o args, [(o, args)])
def zbe (key : SE) (k : IntKind) : List Int → List SE → SE → SE
 | x :: xs, v :: vs, z => .app .pick [.app (.bin .eql) [key, .int k x], v, zbe key k xs vs z]
 | _, _, z => z
mutual
def SE.noOwn : SE → Bool
 | .agg cs | .tup cs | .mp _ _ cs | .ref cs _ | .app _ cs => SE.noOwns cs
 | .clo _ fs cs => SE.noOwns fs && SE.noOwns cs
 | .ptr _ _ | .ptrx _ _ _ _ _ _ | .row _ | .rptr _ _ _ _ | .yield _ | .mref _ => false
 | _ => true
def SE.noOwns : List SE → Bool
 | [] => true
 | e :: es => SE.noOwn e && SE.noOwns es
end
def zjf (c : SE) : SE := if c.noOwn = true then c else .undef
def zfI (cs : List SE) (b e : Nat) : List SE := (cs.take b).map zjf ++ ((cs.drop b).take (e - b) ++ (cs.drop e).map zjf)
def zjN (cs : List SE) (b len sz off n : Nat) : List SE := if (SE.noOwns cs || !Nat.ble (off + n) sz) = true then cs else zfI cs b (b + len * sz)
def zmI (P : Program) (O : Lk) (T : TypeId) (x : SE) : Option (SE × List Chk) :=
 match tsz P T with
 | none => none
 | some (n, g) =>
  match x with
  | .ptr i off => match O i with
   | some (.box cs) => (zna cs off n g).map fun e => (e, [])
   | _ => none
  | .ptrx i base idx len sz off => match O i with
   | some (.box cs) => ask (.aidx len sz (base + off) n g) [.agg (zjN cs base len sz off n), idx]
   | _ => none
  | .rptr i idx sz off => match O i with
   | some (.row sz' e) => if sz' = sz then ask (.rowget sz off n g) [e, idx] else none
   | _ => none
  | e => ask (.eload n g) [e]
def sBin (P : Program) (op : BinOp) (t : TypeId) (x y : SE) : Option (SE × List Chk) :=
 match P.underlying t with
 | some (.int _) => ask (.bin op) [x, y]
 | some .bool => match op with
  | .eql => ask (.eqb false) [x, y]
  | .neq => ask (.eqb true) [x, y]
  | _ => none
 | some (.func _ _ _) => match op, y with
  | .eql, .nilf => ask (.eqf false) [x, .nilf]
  | .neq, .nilf => ask (.eqf true) [x, .nilf]
  | _, _ => none
 | _ => match tsz P t, zbd P 64 t, P.eqGuardType P.depth t with
  | some (_, true), some ks, false => match op with
   | .eql => ask (.eqa ks false) [x, y]
   | .neq => ask (.eqa ks true) [x, y]
   | _ => none
  | _, _, _ => none
def zeG (P : Program) (T : TypeId) (x : SE) (i : Nat) : Option (SE × List Chk) :=
 match P.underlying T with
 | some (.struct fs) => match fs[i]? with
  | none => none
  | some f => match tsz P f.type with
   | some (n + 1, _) => match x with
    | .ptr j off => some (.ptr j (off + f.offset), [])
    | .ptrx j base idx len sz off => some (.ptrx j base idx len sz (off + f.offset), [(.inr len, [idx])])
    | .rptr j idx sz off => some (.rptr j idx sz (off + f.offset), [(.inr 4294967296, [idx])])
    | e => ask (.eoff f.offset) [e]
   | _ => none
 | _ => none
def zeH (P : Program) (O : Lk) (T : TypeId) (x idx : SE) : Option (SE × List Chk) :=
 match P.underlying T with
 | some (.slice e) => match tsz P e with
  | none => none
  | some (sz, _) => match x with
   | .row i => match O i with
    | some (.row sz' c) => if sz' = sz then some (.rptr i idx sz 0, [(.eidx sz, [c, idx])]) else none
    | _ => none
   | e => ask (.eidx sz) [e, idx]
 | some (.array len e) => match tsz P e with
  | none => none
  | some (sz, _) => match x, idx with
   | .ptr i off, .int _ k => if 0 ≤ k ∧ k < len then some (.ptr i (off + k.toNat * sz), []) else none
   | .ptr i off, idx => some (.ptrx i off idx len sz 0, [(.inr len, [idx])])
   | e, idx => ask (.eaidx len sz) [e, idx]
 | _ => none
def sLen (P : Program) (O : Lk) (t : TypeId) (x : Option SE) : Option (SE × List Chk) :=
 match P.underlying t with
 | some (.slice _) => match x with
  | some (.row i) => match O i with
   | some (.row _ c) => ask .len [c]
   | _ => none
  | some e => ask .len [e]
  | none => none
 | some (.array n _) => some (.int .i64 n, [])
 | _ => none
def zlF (P : Program) (T : TypeId) (x : SE) (lo hi : Option SE) : Option (SE × List Chk) :=
 match P.underlying T with
 | some (.slice e) => match tsz P e with
  | some (sz, _) => match x with
   | .row _ => none
   | e => some (.app (.slice lo.isSome hi.isSome) (e :: (lo.toList ++ hi.toList)), [(.szs sz, [e]), (.slice lo.isSome hi.isSome, e :: (lo.toList ++ hi.toList))])
  | none => none
 | _ => none
def zbp (sz : Nat) (g : Bool) : Nat → List SE → List SE
 | 0, _ => []
 | k + 1, cs => (match g with
  | true => .agg (cs.take sz)
  | false => cs.headD .undef) :: zbp sz g k (cs.drop sz)
def zif : List SE → List Chk
 | [] => []
 | e :: es => (.isOne, [e]) :: zif es
def zjl (P : Program) (T : TypeId) (x : SE) (lo hi : Option SE) : Option (SE × List Chk) :=
 match P.underlying T with
 | some (.array len e) => match tsz P e with
  | some (sz, g) => match x with
   | .ref cs off => if off + len * sz ≤ cs.length ∧ (g = false → sz = 1) then
     some (.app (.slice lo.isSome hi.isSome) (.app .lst (zbp sz g len (cs.drop off)) :: (lo.toList ++ hi.toList)),
      (.slice lo.isSome hi.isSome, .app .lst (zbp sz g len (cs.drop off)) :: (lo.toList ++ hi.toList)) :: (match g with
       | true => []
       | false => zif (zbp sz g len (cs.drop off)))) else none
   | _ => none
  | none => none
 | _ => none
variable {P : Program} {c : Cx} {ρ : Nat → AV} {w : World}
theorem zkf {es : List SE} (h : Chks ρ (zif es)) : ∀ e ∈ es, AV.one (den ρ e) = true := by
 induction es with
 | nil => intro e he; cases he
 | cons x es ih =>
  intro e he
  rcases List.mem_cons.1 he with rfl | he
  ·have := h (.isOne, [e]) (by simp [zif])
   simpa [dens, pok] using this
  ·exact ih (fun y hy => h y (by simp [zif, hy])) e he
theorem zgp {sz : Nat} {g : Bool} (hg : g = false → sz = 1) : ∀ (len : Nat) (cs : List SE), len * sz ≤ cs.length → (g = false → ∀ e ∈ zbp sz g len cs, AV.one (den ρ e) = true) →
  AV.flat (dens ρ (zbp sz g len cs)) = (dens ρ cs).take (len * sz) ∧ (∀ x ∈ dens ρ (zbp sz g len cs), x.cells.length = sz) ∧ (dens ρ (zbp sz g len cs)).length = len
 | 0, cs, _, _ => ⟨by simp [zbp, AV.flat], by simp [zbp], rfl⟩
 | k + 1, cs, h, h1 => by
  have hk : (k + 1) * sz = sz + k * sz := by rw [Nat.add_mul]; omega
  have ih := zgp hg k (cs.drop sz) (by simp; omega) (fun hf e he => h1 hf e (by simp [zbp, he]))
  simp only [zbp, dens, zaY, List.length_cons]
  rw [ih.1, ih.2.2]
  have hd : dens ρ (cs.drop sz) = (dens ρ cs).drop sz := by simp [zbx]
  have ht : (dens ρ cs).take ((k + 1) * sz) = (dens ρ cs).take sz ++ ((dens ρ cs).drop sz).take (k * sz) := by
   rw [hk, List.take_add]
  cases g with
  | true =>
   refine ⟨?_, ?_, rfl⟩
   ·rw [ht, hd]; simp [zbx]
   ·intro x hx
    rcases List.mem_cons.1 hx with rfl | hx
    ·simp [zbx]; omega
    ·exact ih.2.1 x hx
  | false =>
   have hs := hg rfl
   subst hs
   have ho := h1 rfl (cs.headD .undef) (by simp [zbp])
   have hc : (den ρ (cs.headD .undef)).cells = [den ρ (cs.headD .undef)] := by
    revert ho
    cases den ρ (cs.headD .undef) <;> simp
   refine ⟨?_, ?_, rfl⟩
   ·rw [ht, hd]
    simp only [hc]
    cases cs with
    | nil => simp at h
    | cons y ys => simp [zbx]
   ·intro x hx
    rcases List.mem_cons.1 hx with rfl | hx
    ·simp only [hc]; rfl
    ·exact ih.2.1 x hx
theorem zhy {T : TypeId} {x e : SE} {lo hi : Option SE} {ck : List Chk} {v : Value} {vl vh : Option Value} (hx : Rv c (den ρ x) v) (hl : ∀ y, lo = some y → ∃ u, vl = some u ∧ Rv c (den ρ y) u) (hl0 : lo = none → vl = none)
  (hh : ∀ y, hi = some y → ∃ u, vh = some u ∧ Rv c (den ρ y) u) (hh0 : hi = none → vh = none) (h : zjl P T x lo hi = some (e, ck)) (hck : Chks ρ ck) : Runs P w c (den ρ e) (Instr.sliceAt T v vl vh none) := by
 unfold zjl at h
 split at h
 case h_2 => cases h
 rename_i len el ht
 split at h
 case h_2 => cases h
 rename_i sz g hs
 split at h
 case h_2 => cases h
 rename_i cs off
 split at h
 case isFalse => cases h
 rename_i hc
 simp only [Option.some.injEq, Prod.mk.injEq] at h
 obtain ⟨rfl, rfl⟩ := h
 have hone : g = false → ∀ e ∈ zbp sz g len (cs.drop off), AV.one (den ρ e) = true := by
  intro hg
  subst hg
  exact zkf (fun y hy => hck y (List.mem_cons_of_mem _ hy))
 have hfl := zgp (ρ := ρ) hc.2 len (cs.drop off) (by simp; omega) hone
 have hok := hck _ (List.mem_cons_self ..)
 simp only [dens, zaE, den, zmV] at hok ⊢
 generalize dens ρ (zbp sz g len (cs.drop off)) = es at hfl hok ⊢
 simp only [den] at hx
 cases hx with
 | ref _ b o _ hr =>
  have hcells : Rcells c b (o + off) (AV.flat es) := by
   rw [hfl.1]
   have hd : dens ρ (cs.drop off) = (dens ρ cs).drop off := by simp [zbx]
   rw [hd]
   exact (hr.drop off).take _
  have main : ∀ (l h' : Nat), l ≤ h' → h' ≤ es.length → ∀ vl vh, (∀ y, vl = some y → ∃ k, y = .int k l) → (vl = none → l = 0) → (∀ y, vh = some y → ∃ k, y = .int k h') → (vh = none → h' = es.length) →
    Runs P w c (.sl ((es.take h').drop l)) (Instr.sliceAt T (.pointer (some ⟨b, o + off, none⟩)) vl vh none) := by
   intro l h' hle hlen vl vh e1 e2 e3 e4
   have hb : (Instr.sliceBounds false len len vl vh none).run P w = .ok (l, h', len) w := by
    have hlen' := hfl.2.2
    cases vh with
    | none =>
     have := e4 rfl; subst this
     cases vl with
     | none => have := e2 rfl; subst this; simp [Instr.sliceBounds, hlen']
     | some y => obtain ⟨k, rfl⟩ := e1 y rfl; rw [hlen'] at hle ⊢; simp [Instr.sliceBounds, run_sliceBound, hle]
    | some y =>
     obtain ⟨k, rfl⟩ := e3 y rfl
     have hx : ((h' : Nat) : Int) ≤ len := by omega
     cases vl with
     | none => have := e2 rfl; subst this; simp [Instr.sliceBounds, run_sliceBound, hx]
     | some y => obtain ⟨k, rfl⟩ := e1 y rfl; simp [Instr.sliceBounds, run_sliceBound, hx, hle]
   refine ⟨_, ?_, zeM (cap := len) (by omega) hfl.2.1 hcells hle hlen⟩
   simp only [Instr.sliceAt, Instr.sureAddr, Sem.run_bind, run_underlying ht, Result.andThen_ok, hb, (zar hs w).1, Sem.run_pure, Addr.add_eq]
   by_cases hc : len = l <;> simp [hc]
  have nat : ∀ (i : Int), 0 ≤ i → ∃ n : Nat, i = n := fun i h => ⟨i.toNat, by omega⟩
  cases lo with
  | none =>
   have v1 := hl0 rfl; subst v1
   cases hi with
   | none =>
    have v2 := hh0 rfl; subst v2
    simpa [pv] using main 0 es.length (by omega) (by omega) none none (by simp) (by simp) (by simp) (by simp)
   | some x =>
    obtain ⟨y, rfl, hy⟩ := hh _ rfl
    simp only [Option.toList, Option.isSome, List.nil_append, dens] at hok ⊢
    generalize den ρ x = xx at hok hy ⊢
    cases xx <;> simp [pok] at hok
    rename_i k i
    obtain ⟨n, rfl⟩ := nat i hok.1
    cases hy
    simpa [pv] using main 0 n (by omega) (by omega) none (some (.int k n)) (by simp) (by simp) (fun y hy => ⟨k, by simpa using hy.symm⟩) (by simp)
  | some x =>
   obtain ⟨y, rfl, hy⟩ := hl _ rfl
   cases hi with
   | none =>
    have v2 := hh0 rfl; subst v2
    simp only [Option.toList, Option.isSome, List.append_nil, dens] at hok ⊢
    generalize den ρ x = xx at hok hy ⊢
    cases xx <;> simp [pok] at hok
    rename_i k i
    obtain ⟨n, rfl⟩ := nat i hok.1
    cases hy
    simpa [pv] using main n es.length (by omega) (by omega) (some (.int k n)) none (fun y hy => ⟨k, by simpa using hy.symm⟩) (by simp) (by simp) (by simp)
   | some z =>
    obtain ⟨y', rfl, hy'⟩ := hh _ rfl
    simp only [Option.toList, Option.isSome, List.cons_append, List.nil_append, dens] at hok ⊢
    generalize den ρ x = xx at hok hy ⊢
    generalize den ρ z = zz at hok hy' ⊢
    cases xx <;> cases zz <;> simp [pok] at hok
    rename_i k i k' j
    obtain ⟨n, rfl⟩ := nat i hok.1
    obtain ⟨m, rfl⟩ := nat j (by omega)
    cases hy; cases hy'
    simpa [pv] using main n m (by omega) (by omega) (some (.int k n)) (some (.int k' m)) (fun y hy => ⟨k, by simpa using hy.symm⟩) (by simp) (fun y hy => ⟨k', by simpa using hy.symm⟩) (by simp)
theorem zi5 {cs : List SE} {vs : List Value} {off n : Nat} {g : Bool} {e : SE} (h : zna cs off n g = some e) (hr : Rvs c (dens ρ cs) vs) :
  den ρ e = AV.cut (dens ρ cs) off n g ∧ AV.cutOk (dens ρ cs) off n g := by
 unfold zna at h
 cases g with
 | true =>
  simp only at h
  split at h
  ·rename_i hle
   simp only [Option.some.injEq] at h; subst h
   refine ⟨by simp [zbx, List.map_take, List.map_drop], by simpa [zab] using hle⟩
  ·cases h
 | false =>
  simp only at h
  split at h
  ·rename_i hn
   refine ⟨?_, ?_, hn⟩
   ·have := zaq? ρ cs off
    rw [h] at this
    simp only [AV.cut, List.getD_eq_getElem?_getD, this]; rfl
   ·have hlt := (List.getElem?_eq_some_iff.1 h).1
    simpa [zab] using hlt
  ·cases h
theorem Chks.one {ρ : Nat → AV} {o : PF} {args : List SE} (h : Chks ρ [(o, args)]) : pok o (dens ρ args) := h (o, args) (by simp)
theorem run_row_get {t : TypeId} {n sz off : Nat} {g : Bool} (ht : tsz P t = some (n, g)) {i : Nat} {xs : List AV} {k : Nat} (hrow : RowOk c w sz (c.h i) xs) {v : Value} (hv : Rv c (.rptr i k sz off) v) (hk : k < xs.length)
  (hsz : (xs.getD k .undef).cells.length = sz) (hok : AV.cutOk (xs.getD k .undef).cells off n g) : ∃ u, (Instr.loadAt t v).run P w = .ok u w ∧ Rv c (AV.cut (xs.getD k .undef).cells off n g) u := by
 cases hv with
 | rptr _ _ _ _ b o m cap hh =>
  rw [hh] at hrow
  cases hrow with
  | zero => simp at hk
  | row _ _ _ vs T _ h0 h1 h2 h3 h4 h5 =>
   have hd : Rvs c (xs.getD k .undef).cells (((vs.drop o).take (xs.length * sz)).drop (k * sz) |>.take sz) := by
    have h6 := (h5.drop (k * sz)).take sz
    rw [zcX h4, List.drop_eq_getElem_cons hk, zaY] at h6
    have hl : (xs[k]).cells.length = sz := h4 _ (by simp)
    rw [List.take_append_of_le_length (by omega), List.take_of_length_le (by omega)] at h6
    simpa [List.getD_eq_getElem?_getD, List.getElem?_eq_getElem hk] using h6
   have hlen : (k + 1) * sz ≤ xs.length * sz := Nat.mul_le_mul_right _ hk
   have hcell : ∀ j u, (((vs.drop o).take (xs.length * sz)).drop (k * sz) |>.take sz)[j]? = some u → w.cell? (Addr.add ⟨b, o + k * sz, none⟩ j) = some u := by
    intro j u hj
    rw [Addr.add_eq, cell_of_row w b _ _ T _ h1]
    rw [List.getElem?_take] at hj
    split at hj
    ·rw [List.getElem?_drop, List.getElem?_take] at hj
     split at hj
     ·rw [List.getElem?_drop] at hj
      simp only [List.getElem?_toArray]
      rw [← hj]; congr 1; omega
     ·cases hj
    ·cases hj
   obtain ⟨u, r1, r2⟩ := run_loadVar (P := P) ht hd hcell rfl off hok
   exact ⟨u, by simpa [Instr.loadAt, Instr.sureAddr] using r1, r2⟩
theorem zhp (cs : List SE) {b e : Nat} (h : b ≤ e) : (zfI cs b e).length = cs.length := by
 unfold zfI
 simp only [List.length_append, List.length_map, List.length_take, List.length_drop]
 omega
theorem zkj (cs : List SE) {b e p : Nat} (h1 : b ≤ p) (h2 : p < e) : (zfI cs b e)[p]? = cs[p]? := by
 unfold zfI
 by_cases hp : p < cs.length
 ·rw [List.getElem?_append_right (by simp; omega)]
  have hl : ((cs.take b).map zjf).length = b := by simp; omega
  rw [hl, List.getElem?_append_left (by simp; omega), List.getElem?_take_of_lt (by omega), List.getElem?_drop]
  congr 1; omega
 ·rw [List.getElem?_eq_none (by simp; omega), List.getElem?_eq_none (by omega)]
theorem zmy {cs : List SE} {b len sz off n j : Nat} {g : Bool} (hj : j < len) (hok : AV.cutOk (dens ρ (zjN cs b len sz off n)) (j * sz + (b + off)) n g) :
  AV.cut (dens ρ (zjN cs b len sz off n)) (j * sz + (b + off)) n g = AV.cut (dens ρ cs) (j * sz + (b + off)) n g ∧ AV.cutOk (dens ρ cs) (j * sz + (b + off)) n g := by
 unfold zjN at hok ⊢
 split
 ·rename_i h; rw [if_pos h] at hok; exact ⟨rfl, hok⟩
 ·rename_i h
  rw [if_neg h] at hok
  simp only [Bool.or_eq_true, Bool.not_eq_true', not_or, Bool.not_eq_true, Bool.not_eq_false] at h
  have ho : off + n ≤ sz := Nat.le_of_ble_eq_true h.2
  have hmul : (j + 1) * sz ≤ len * sz := Nat.mul_le_mul_right sz hj
  rw [Nat.add_mul, Nat.one_mul] at hmul
  have hlen : (dens ρ (zfI cs b (b + len * sz))).length = (dens ρ cs).length := by rw [zab, zab, zhp cs (by omega)]
  have hget : ∀ t, t < n → (dens ρ (zfI cs b (b + len * sz)))[j * sz + (b + off) + t]? = (dens ρ cs)[j * sz + (b + off) + t]? := by
   intro t ht
   rw [zaq?, zaq?, zkj cs (by omega) (by omega)]
  cases g with
  | true =>
   simp only [AV.cutOk, AV.cut] at hok ⊢
   rw [hlen] at hok
   refine ⟨?_, hok⟩
   congr 1
   apply List.ext_getElem?
   intro t
   by_cases ht : t < n
   ·rw [List.getElem?_take_of_lt ht, List.getElem?_take_of_lt ht, List.getElem?_drop, List.getElem?_drop]
    exact hget t ht
   ·rw [List.getElem?_take_eq_none (by omega), List.getElem?_take_eq_none (by omega)]
  | false =>
   simp only [AV.cutOk, AV.cut] at hok ⊢
   rw [hlen] at hok
   refine ⟨?_, hok⟩
   rw [List.getD_eq_getElem?_getD, List.getD_eq_getElem?_getD]
   have := hget 0 (by omega)
   rw [Nat.add_zero] at this
   rw [this]
theorem zfR {n0 : Nat} {w0 : Base} {O : Lk} {nenv : Nat} (hm : Mem n0 w0 c ρ O nenv w) {T : TypeId} {x e : SE} {ck : List Chk} {v : Value} (hx : Rv c (den ρ x) v) (h : zmI P O T x = some (e, ck)) (hck : Chks ρ ck) :
  Runs P w c (den ρ e) (Instr.loadAt T v) := by
 unfold zmI at h
 split at h
 ·cases h
 ·rename_i n g ht
  split at h
  ·rename_i i off
   split at h
   ·rename_i cs hl
    simp only [Option.map_eq_some_iff, Prod.mk.injEq] at h
    obtain ⟨e', h1, rfl, rfl⟩ := h
    obtain ⟨vs, T', hb, hvs, hh⟩ := hm.ok i _ hl
    obtain ⟨d1, d2⟩ := zi5 h1 hvs
    simp only [den] at hx
    cases hx
    obtain ⟨u, r1, r2⟩ := run_loadVar (P := P) (w := w) (a := ⟨c.β i, 0, none⟩) ht hvs (fun j u hj => by
     rw [Addr.add_eq, cell_of_row w _ _ _ T' _ hb]; simpa using hj) rfl off d2
    refine ⟨u, by simpa [Instr.loadAt, Instr.sureAddr] using r1, by rw [d1]; exact r2⟩
   ·cases h
  ·rename_i i base idx len sz off
   split at h
   ·rename_i cs hl
    simp only [ask, Option.some.injEq, Prod.mk.injEq] at h
    obtain ⟨rfl, rfl⟩ := h
    have hk := hck.one
    obtain ⟨vs, T', hb, hvs, hh⟩ := hm.ok i _ hl
    simp only [dens, den] at hk hx ⊢
    cases hi : den ρ idx with
    | int k j =>
     rw [hi] at hk hx
     simp only [pok] at hk
     simp only [zcU] at hx
     cases hx
     obtain ⟨hcut, hok2⟩ := zmy (by omega) hk.2.2
     obtain ⟨u, r1, r2⟩ := run_loadVar (P := P) (w := w) (a := ⟨c.β i, 0, none⟩) ht hvs (fun j u hj => by
      rw [Addr.add_eq, cell_of_row w _ _ _ T' _ hb]; simpa using hj) rfl (j.toNat * sz + (base + off)) hok2
     refine ⟨u, ?_, by simp only [pv]; rw [hcut]; exact r2⟩
     rw [show (0 : Nat) + (j.toNat * sz + (base + off)) = base + j.toNat * sz + off from by omega] at r1
     simpa [Instr.loadAt, Instr.sureAddr] using r1
    | _ => rw [hi] at hk; simp [pok] at hk
   ·cases h
  ·rename_i i idx sz off
   split at h
   ·rename_i sz' e' hl
    split at h
    case isFalse => cases h
    rename_i hsz
    subst hsz
    simp only [ask, Option.some.injEq, Prod.mk.injEq] at h
    obtain ⟨rfl, rfl⟩ := h
    have hk := hck.one
    obtain ⟨xs, he, hrow⟩ := hm.ok i _ hl
    simp only [dens, den, he] at hk hx ⊢
    cases hi : den ρ idx with
    | int k j =>
     rw [hi] at hk hx
     simp only [pok] at hk
     simp only [zcU] at hx
     exact run_row_get ht hrow hx (by omega) hk.2.2.1 hk.2.2.2
    | _ => rw [hi] at hk; simp [pok] at hk
   ·cases h
  ·simp only [ask, Option.some.injEq, Prod.mk.injEq] at h
   obtain ⟨rfl, rfl⟩ := h
   have hk := hck.one
   simp only [dens, den] at hk ⊢
   exact run_eload ht hm.imm hx hk
theorem zku {op : BinOp} {t : TypeId} {x y e : SE} {ck : List Chk} {ox oy : Operand} {vx vy : Value} (hx : Rv c (den ρ x) vx) (hy : Rv c (den ρ y) vy) (h : sBin P op t x y = some (e, ck)) (hck : Chks ρ ck) :
  Runs P w c (den ρ e) (do eqGuard op t ox oy vx vy; binOp op t vx vy) := by
 unfold sBin at h
 split at h
 ·simp only [ask, Option.some.injEq, Prod.mk.injEq] at h
  obtain ⟨rfl, rfl⟩ := h
  have hk := hck.one
  simp only [dens, den] at hk ⊢
  cases h1 : den ρ x with
  | int k m =>
   cases h2 : den ρ y with
   | int k' m' =>
    rw [h1, h2] at hk; rw [h1] at hx; rw [h2] at hy
    simp only [pok] at hk
    cases hx; cases hy
    exact run_bin hk
   | _ => rw [h1, h2] at hk; simp [pok] at hk
  | _ => rw [h1] at hk; simp [pok] at hk
 ·rename_i hu
  have key : ∀ neg, Chks ρ [(.eqb neg, [x, y])] → Runs P w c (pv (.eqb neg) [den ρ x, den ρ y]) (do eqGuard (if neg then .neq else .eql) t ox oy vx vy; binOp (if neg then .neq else .eql) t vx vy) := by
   intro neg hck
   have hk := hck.one
   simp only [dens] at hk
   cases h1 : den ρ x with
   | bool a =>
    cases h2 : den ρ y with
    | bool b =>
     rw [h1] at hx; rw [h2] at hy
     cases hx; cases hy
     exact run_eqb neg hu
    | _ => rw [h1, h2] at hk; simp [pok] at hk
   | _ => rw [h1] at hk; simp [pok] at hk
  split at h
  ·simp only [ask, Option.some.injEq, Prod.mk.injEq] at h
   obtain ⟨rfl, rfl⟩ := h
   exact key false hck
  ·simp only [ask, Option.some.injEq, Prod.mk.injEq] at h
   obtain ⟨rfl, rfl⟩ := h
   exact key true hck
  ·cases h
 ·rename_i hu
  split at h
  ·simp only [ask, Option.some.injEq, Prod.mk.injEq] at h
   obtain ⟨rfl, rfl⟩ := h
   have hk := hck.one
   simp only [dens, den] at hk hy ⊢
   exact run_eqf (neg := false) hu hx hy hk
  ·simp only [ask, Option.some.injEq, Prod.mk.injEq] at h
   obtain ⟨rfl, rfl⟩ := h
   have hk := hck.one
   simp only [dens, den] at hk hy ⊢
   exact run_eqf (neg := true) hu hx hy hk
  ·cases h
 ·split at h
  ·rename_i nsz ks ht hf hg
   have key : ∀ neg, Chks ρ [(.eqa ks neg, [x, y])] → Runs P w c (pv (.eqa ks neg) [den ρ x, den ρ y]) (do eqGuard (if neg then .neq else .eql) t ox oy vx vy; binOp (if neg then .neq else .eql) t vx vy) := by
    intro neg hck
    have hk := hck.one
    simp only [dens] at hk
    cases h1 : den ρ x with
    | agg xs =>
     cases h2 : den ρ y with
     | agg ys =>
      rw [h1] at hx; rw [h2] at hy; rw [h1, h2] at hk
      simp only [pok] at hk
      exact run_eqa neg ht hf hg hx hy hk.1 hk.2
     | _ => rw [h1, h2] at hk; simp [pok] at hk
    | _ => rw [h1] at hk; simp [pok] at hk
   split at h
   ·simp only [ask, Option.some.injEq, Prod.mk.injEq] at h
    obtain ⟨rfl, rfl⟩ := h
    exact key false hck
   ·simp only [ask, Option.some.injEq, Prod.mk.injEq] at h
    obtain ⟨rfl, rfl⟩ := h
    exact key true hck
   ·cases h
  ·cases h
theorem zfa {T : TypeId} {x e : SE} {i : Nat} {ck : List Chk} {v : Value} (hx : Rv c (den ρ x) v) (h : zeG P T x i = some (e, ck)) (hck : Chks ρ ck) : Runs P w c (den ρ e) (Instr.fieldAt T v i) := by
 unfold zeG at h
 split at h
 ·rename_i fs hs
  split at h
  ·cases h
  ·rename_i f hf
   split at h
   ·rename_i n g ht
    split at h
    ·simp only [Option.some.injEq, Prod.mk.injEq] at h
     obtain ⟨rfl, rfl⟩ := h
     simp only [den] at hx ⊢
     cases hx
     exact ⟨_, run_fieldAt hs hf ht (by omega) _ _, .ptr _ _⟩
    ·rename_i j base idx len sz off
     simp only [Option.some.injEq, Prod.mk.injEq] at h
     obtain ⟨rfl, rfl⟩ := h
     have hk := hck.one
     simp only [dens, den] at hk hx ⊢
     cases hi : den ρ idx with
     | int k m =>
      rw [hi] at hx
      simp only [zcU] at hx ⊢
      cases hx
      refine ⟨_, run_fieldAt hs hf ht (by omega) _ _, ?_⟩
      rw [show base + m.toNat * sz + off + f.offset = base + m.toNat * sz + (off + f.offset) from by omega]; exact .ptr _ _
     | _ => rw [hi] at hk; simp [pok] at hk
    ·rename_i j idx sz off
     simp only [Option.some.injEq, Prod.mk.injEq] at h
     obtain ⟨rfl, rfl⟩ := h
     have hk := hck.one
     simp only [dens, den] at hk hx ⊢
     cases hi : den ρ idx with
     | int k m =>
      rw [hi] at hx
      simp only [zcU] at hx ⊢
      cases hx with
      | rptr _ _ _ _ b o m' cap hh =>
       refine ⟨_, run_fieldAt hs hf ht (by omega) _ _, ?_⟩
       have := Rv.rptr j m.toNat sz (off + f.offset) b o m' cap hh
       rwa [← Nat.add_assoc] at this
     | _ => rw [hi] at hk; simp [pok] at hk
    ·simp only [ask, Option.some.injEq, Prod.mk.injEq] at h
     obtain ⟨rfl, rfl⟩ := h
     have hk := hck.one
     simp only [dens, den] at hk ⊢
     exact run_fieldAt_pv hs hf ht (by omega) hx hk
   ·cases h
 ·cases h
theorem zfb {n0 : Nat} {w0 : Base} {O : Lk} {nenv : Nat} (hm : Mem n0 w0 c ρ O nenv w) {T : TypeId} {x idx e : SE} {ck : List Chk} {v u : Value} (hx : Rv c (den ρ x) v) (hi : Rv c (den ρ idx) u)
  (h : zeH P O T x idx = some (e, ck)) (hck : Chks ρ ck) : Runs P w c (den ρ e) (Instr.indexAt T v u) := by
 unfold zeH at h
 split at h
 ·rename_i el ht
  split at h
  ·cases h
  ·rename_i sz g hs
   split at h
   ·rename_i i
    split at h
    ·rename_i sz' cc hl
     split at h
     case isFalse => cases h
     rename_i hsz
     subst hsz
     simp only [Option.some.injEq, Prod.mk.injEq] at h
     obtain ⟨rfl, rfl⟩ := h
     have hk := hck.one
     obtain ⟨xs, he, hrow⟩ := hm.ok i _ hl
     simp only [dens, den, he] at hk hx ⊢
     cases hd : den ρ idx with
     | int k j =>
      rw [hd] at hk hi
      simp only [pok] at hk
      cases hi
      cases hx with
      | row _ a n cap hh =>
       rw [hh] at hrow
       cases hrow with
       | nil => simp at hk; omega
       | zero => simp at hk; omega
       | row b o _ vs T' _ h0 h1 h2 h3 h4 h5 =>
        refine ⟨_, run_indexAt_slice ht hs b o _ _ hk.1 hk.2.1, ?_⟩
        simp only [zcU]
        have := Rv.rptr i j.toNat sz' 0 b o _ _ hh
        simpa using this
     | _ => rw [hd] at hk; simp [pok] at hk
    ·cases h
   ·simp only [ask, Option.some.injEq, Prod.mk.injEq] at h
    obtain ⟨rfl, rfl⟩ := h
    have hk := hck.one
    simp only [dens, den] at hk ⊢
    exact run_indexAt_slice_pv ht hs hx hi hk
 ·rename_i len el ht
  split at h
  ·cases h
  ·rename_i sz g hs
   split at h
   ·split at h
    ·rename_i hr
     simp only [Option.some.injEq, Prod.mk.injEq] at h
     obtain ⟨rfl, rfl⟩ := h
     simp only [den] at hx hi ⊢
     cases hx; cases hi
     exact ⟨_, run_indexAt_array ht hs _ _ hr.1 hr.2, .ptr _ _⟩
    ·cases h
   ·rename_i i off _ _
    simp only [Option.some.injEq, Prod.mk.injEq] at h
    obtain ⟨rfl, rfl⟩ := h
    have hk := hck.one
    simp only [dens, den] at hk hx ⊢
    cases hx
    cases hd : den ρ idx with
    | int k j =>
     rw [hd] at hk hi
     simp only [pok] at hk
     cases hi
     refine ⟨_, run_indexAt_array ht hs _ _ hk.1 hk.2, ?_⟩
     simp only [zcU, Nat.add_zero]; exact .ptr _ _
    | _ => rw [hd] at hk; simp [pok] at hk
   ·simp only [ask, Option.some.injEq, Prod.mk.injEq] at h
    obtain ⟨rfl, rfl⟩ := h
    have hk := hck.one
    simp only [dens, den] at hk ⊢
    exact run_indexAt_array_pv ht hs hx hi hk
 ·cases h
theorem zkv {n0 : Nat} {w0 : Base} {O : Lk} {nenv : Nat} (hm : Mem n0 w0 c ρ O nenv w) {t ty : TypeId} {x : Option SE} {e : SE} {ck : List Chk} {v : Value} (hx : ∀ y, x = some y → Rv c (den ρ y) v)
  (h : sLen P O t x = some (e, ck)) (hck : Chks ρ ck) : Runs P w c (den ρ e) (Builtin.len_ #[t] ty #[v]) := by
 unfold sLen at h
 split at h
 ·rename_i el ht
  split at h
  ·rename_i i
   split at h
   ·rename_i sz' cc hl
    simp only [ask, Option.some.injEq, Prod.mk.injEq] at h
    obtain ⟨rfl, rfl⟩ := h
    obtain ⟨xs, he, hrow⟩ := hm.ok i _ hl
    have hv := hx _ rfl
    simp only [dens, den, he, pv] at hv ⊢
    cases hv with
    | row _ a n cap hh =>
     rw [hh] at hrow
     refine ⟨.int .i64 xs.length, ?_, .int _ _⟩
     cases hrow <;> simp [Builtin.len_, run_underlying ht, goInt]
   ·cases h
  ·simp only [ask, Option.some.injEq, Prod.mk.injEq] at h
   obtain ⟨rfl, rfl⟩ := h
   have hk := hck.one
   simp only [dens, den] at hk ⊢
   exact run_len_slice (hx _ rfl) ht hk
  ·cases h
 ·rename_i n el ht
  simp only [Option.some.injEq, Prod.mk.injEq] at h
  obtain ⟨rfl, rfl⟩ := h
  exact run_len_array v ht
 ·cases h
theorem ziy {T : TypeId} {x e : SE} {lo hi : Option SE} {ck : List Chk} {v : Value} {vl vh : Option Value} (hx : Rv c (den ρ x) v) (hl : ∀ y, lo = some y → ∃ u, vl = some u ∧ Rv c (den ρ y) u) (hl0 : lo = none → vl = none)
  (hh : ∀ y, hi = some y → ∃ u, vh = some u ∧ Rv c (den ρ y) u) (hh0 : hi = none → vh = none) (h : zlF P T x lo hi = some (e, ck)) (hck : Chks ρ ck) : Runs P w c (den ρ e) (Instr.slice T v vl vh none) := by
 unfold zlF at h
 split at h
 ·rename_i el ht
  split at h
  ·rename_i sz g hs
   split at h
   ·cases h
   ·simp only [Option.some.injEq, Prod.mk.injEq] at h
    obtain ⟨rfl, rfl⟩ := h
    have h1 := hck (.szs sz, [x]) (by simp)
    have h2 := hck (.slice lo.isSome hi.isSome, x :: (lo.toList ++ hi.toList)) (by simp)
    simp only [dens, zaE] at h1 h2
    have e1 : dens ρ lo.toList = (lo.map (den ρ)).toList := by cases lo <;> rfl
    have e2 : dens ρ hi.toList = (hi.map (den ρ)).toList := by cases hi <;> rfl
    have e3 : lo.isSome = (lo.map (den ρ)).isSome := by cases lo <;> rfl
    have e4 : hi.isSome = (hi.map (den ρ)).isSome := by cases hi <;> rfl
    rw [e1, e2, e3, e4] at h2
    have key := run_slice_pv (w := w) (lo := lo.map (den ρ)) (hi := hi.map (den ρ)) ht hs hx (vl := vl) (vh := vh)
     (fun y hy => by obtain ⟨z, hz, rfl⟩ := Option.map_eq_some_iff.1 hy; exact hl z hz) (fun hn => hl0 (by simpa using hn))
     (fun y hy => by obtain ⟨z, hz, rfl⟩ := Option.map_eq_some_iff.1 hy; exact hh z hz) (fun hn => hh0 (by simpa using hn))
     (fun es he => by rw [he] at h1; simp only [pok] at h1; exact fun x hx => (h1 x hx).1) h2
    simp only [den, dens, zaE, e1, e2, e3, e4]
    exact key
  ·cases h
 ·cases h
end Go.Lb
namespace Go.Lb
open Go.RowKit
theorem getElem?_putL {α : Type} (cs : List α) (off : Nat) (v : List α) (h : off + v.length ≤ cs.length) (q : Nat) :
  (putL cs off v)[q]? = if q < off then cs[q]? else if q < off + v.length then v[q - off]? else cs[q]? := by
 unfold putL
 have hl : (List.take off cs).length = off := by simp; omega
 by_cases h1 : q < off
 ·rw [if_pos h1, List.append_assoc, List.getElem?_append_left (by omega), List.getElem?_take, if_pos h1]
 ·rw [if_neg h1]
  by_cases h2 : q < off + v.length
  ·rw [if_pos h2, List.append_assoc, List.getElem?_append_right (by omega), hl, List.getElem?_append_left (by omega)]
  ·rw [if_neg h2, List.getElem?_append_right (by simp; omega), List.getElem?_drop]
   congr 1; simp; omega
theorem zgb {α : Type} (vs : List α) (o p L : Nat) (us : List α) (h1 : o + L ≤ vs.length) (h2 : p + us.length ≤ L) :
  ((putL vs (o + p) us).drop o).take L = putL ((vs.drop o).take L) p us := by
 apply List.ext_getElem?
 intro q
 rw [getElem?_putL _ _ _ (by simp; omega), List.getElem?_take, List.getElem?_drop, getElem?_putL _ _ _ (by omega), List.getElem?_take, List.getElem?_drop]
 by_cases hq : q < L
 ·simp only [hq, if_true]
  by_cases a : q < p
  ·rw [if_pos a, if_pos (by omega)]
  ·rw [if_neg a, if_neg (by omega)]
   by_cases b : q < p + us.length
   ·rw [if_pos b, if_pos (by omega)]; congr 1; omega
   ·rw [if_neg b, if_neg (by omega)]
 ·simp only [hq, if_false]
  rw [if_neg (by omega), if_neg (by omega)]
theorem zmk {es : List AV} {sz : Nat} (h : ∀ e ∈ es, e.cells.length = sz) {j : Nat} (hj : j < es.length) (e : AV) (he : e.cells.length = sz) :
  AV.flat (es.set j e) = putL (AV.flat es) (j * sz) e.cells := by
 rw [List.set_eq_take_append_cons_drop, if_pos hj, zbq, zaY]
 have hx : es = es.take j ++ es[j] :: es.drop (j + 1) := by simp
 have hl : (AV.flat (es.take j)).length = j * sz := by
  rw [zaH (fun x hx => h x (List.mem_of_mem_take hx))]; congr 1; simp; omega
 have hle : (es[j]).cells.length = sz := h _ (by simp)
 have hf : AV.flat es = AV.flat (es.take j) ++ ((es[j]).cells ++ AV.flat (es.drop (j + 1))) := by
  rw [← zaY, ← zbq, ← hx]
 unfold putL
 have e1 : (AV.flat (es.take j) ++ ((es[j]).cells ++ AV.flat (es.drop (j + 1)))).take (j * sz) = AV.flat (es.take j) := by
  rw [List.take_append_of_le_length (by omega), List.take_of_length_le (by omega)]
 have e2 : (AV.flat (es.take j) ++ ((es[j]).cells ++ AV.flat (es.drop (j + 1)))).drop (j * sz + e.cells.length) = AV.flat (es.drop (j + 1)) := by
  rw [← List.append_assoc]
  have : (AV.flat (es.take j) ++ (es[j]).cells).length = j * sz + e.cells.length := by rw [List.length_append, hl, hle, he]
  rw [← this, List.drop_left]
 rw [hf, e1, e2]
 simp
theorem zlv {α : Type} (cs old : List α) (p off : Nat) (us : List α) (h1 : p + old.length ≤ cs.length) (h2 : off + us.length ≤ old.length) (hold : (cs.drop p).take old.length = old) :
  putL cs p (putL old off us) = putL cs (p + off) us := by
 apply List.ext_getElem?
 intro q
 have hl := zbG old off us h2
 rw [getElem?_putL cs p _ (by omega), getElem?_putL cs (p + off) us (by omega), hl, getElem?_putL old off us h2]
 have ho : ∀ k, k < old.length → old[k]? = cs[p + k]? := by
  intro k hk
  rw [← hold, List.getElem?_take, if_pos hk, List.getElem?_drop]
 by_cases a : q < p
 ·rw [if_pos a, if_pos (by omega)]
 ·rw [if_neg a]
  by_cases b : q < p + old.length
  ·rw [if_pos b]
   by_cases d : q < p + off
   ·rw [if_pos d, if_pos (by omega), ho _ (by omega)]; congr 1; omega
   ·rw [if_neg d, if_neg (by omega)]
    by_cases f : q < p + off + us.length
    ·rw [if_pos f, if_pos (by omega)]; congr 1; omega
    ·rw [if_neg f, if_neg (by omega), ho _ (by omega)]; congr 1; omega
  ·rw [if_neg b, if_neg (by omega), if_neg (by omega)]
def OpGo (P : Program) (ro : Option Nat) (n0 : Nat) (w0 : Base) (c : Cx) (ρ : Nat → AV) (O : Lk) (e : SE) (O' : Lk) (nenv' : Nat) (o : Oper) (a : Act) (w : World) : Prop :=
 ∀ (n : Nat) (next : Act → World → Prop) (Q : Exit → Act → World → Prop),
  (∀ v w' c', c.Keeps O.dom c' → Rv c' (den ρ e) v → Mem n0 w0 c' ρ O' nenv' w' → next (a.put o.dst v) w') → o.wpIn (FW ro) n P a w next Q
variable {P : Program} {ro : Option Nat} {n0 : Nat} {w0 : Base} {c : Cx} {ρ : Nat → AV} {O : Lk} {nenv : Nat} {o : Oper} {a : Act} {w : World}
theorem OpGo.pure (hm : Mem n0 w0 c ρ O nenv w) {e : SE} {s : Sem Value} (hd : ∀ c, o.op ≠ .defer c) (he : execOp a.eval o = (do Pure.pure (.value (← s)))) (hr : Runs P w c (den ρ e) s) :
  OpGo P ro n0 w0 c ρ O e O nenv o a w := by
 intro n next Q hn
 obtain ⟨v, r1, r2⟩ := hr
 exact zas hd (v := v) (w' := w) (by rw [he, Sem.run_bind, r1]; rfl) (hn v w c (Cx.Keeps.refl _ _) r2 hm)
def Chks.nodes (pcs : List (SE × Bool)) (ck : List Chk) : List Node := ck.map fun x => .chk pcs x.1 x.2
theorem zou (hm : Mem n0 w0 c ρ O nenv w) {nid : Nat} (hid : O nid = none) (hn0 : n0 ≤ w.heap.size) {T : TypeId} {x : Operand} {e : SE} {k : Nat} {g : Bool} (ho : o.op = .box T x) (hx : Rv c (den ρ e) (a.eval x)) (hg : g = false → k = 1)
  (hck : Chks ρ (zan k g e).2) (hwf : SE.wfs nenv O.dom (zan k g e).1 = true) :
  OpGo P ro n0 w0 c ρ O (.ptr nid 0) (O.upd nid (.box (zan k g e).1)) nenv o a w := by
 intro n next Q hn
 obtain ⟨h1, _, _, _, _⟩ := zbM hx hg hck
 have hb := hm.newBox hn0 hid _ (a.eval x).cells.toList T h1 hwf
 refine zas (by rw [ho]; intro c h; cases h) (v := .pointer (some ⟨w.heap.size, 0, none⟩)) (w' := w.alloc (.cells (a.eval x).cells T)) ?_ (hn _ _ _ (c.setBox_keeps hid) ?_ hb)
 ·simp only [execOp, ho]; rfl
 ·have := Rv.ptr (c := c.setBox nid w.heap.size (a.eval x).cells.toList.length) nid 0
  simpa [Cx.setBox, den] using this
theorem zmD (hm : Mem n0 w0 c ρ O nenv w) {nid : Nat} (hid : O nid = none) (hn0 : n0 ≤ w.heap.size) {T : TypeId} {cs : List SE} (ho : o.op = .alloc T) (hz : zel P T = some cs) (hwf : SE.wfs nenv O.dom cs = true) :
  OpGo P ro n0 w0 c ρ O (.ptr nid 0) (O.upd nid (.box cs)) nenv o a w := by
 intro n next Q hn
 obtain ⟨zv, z1, z2⟩ := zbR (w := w) (c := c) (ρ := ρ) hz
 have hb := hm.newBox hn0 hid _ zv.cells.toList T z2 hwf
 refine zas (by rw [ho]; intro c h; cases h) (v := .pointer (some ⟨w.heap.size, 0, none⟩)) (w' := w.alloc (.cells zv.cells T)) ?_ (hn _ _ _ (c.setBox_keeps hid) ?_ hb)
 ·simp only [execOp, ho, Instr.alloc, Sem.run_bind, z1, Result.andThen_ok]; rfl
 ·have := Rv.ptr (c := c.setBox nid w.heap.size zv.cells.toList.length) nid 0
  simpa [Cx.setBox, den] using this
theorem zir (hm : Mem n0 w0 c ρ O nenv w) {T : TypeId} {x y : Operand} {e : SE} {i off k : Nat} {g : Bool} {cs : List SE} (ho : o.op = .store T x y) (hx : Rv c (.ptr i off) (a.eval x)) (hy : Rv c (den ρ e) (a.eval y))
  (ht : tsz P T = some (k, g)) (hg : g = false → k = 1) (hck : Chks ρ (zan k g e).2) (hl : O i = some (.box cs)) (hle : off + k ≤ cs.length) (hwf : SE.wfs nenv O.dom (zan k g e).1 = true) :
  OpGo P ro n0 w0 c ρ O .undef (O.upd i (.box (putL cs off (zan k g e).1))) nenv o a w := by
 intro n next Q hn
 obtain ⟨h1, h2, h3, _, _⟩ := zbM hy hg hck
 obtain ⟨w', r1, r2⟩ := hm.storeBox (P := P) hl ht h2 hle h3 h1 hwf
 refine zbB (by rw [ho]; intro c h; cases h) ?_
 have : (execOp a.eval o).run P w = .ok .skip w' := by
  have hv : a.eval x = .pointer (some ⟨c.β i, off, none⟩) := by
   generalize a.eval x = vx at hx
   cases hx; rfl
  simp only [execOp, ho, Sem.run_bind, hv, r1]; rfl
 rw [this]
 exact hn _ _ _ (Cx.Keeps.refl _ _) (.undef _ (fun _ h => by cases h)) r2
theorem zhr (hm : Mem n0 w0 c ρ O nenv w) {T : TypeId} {x y : Operand} {e idx : SE} {i base len sz off k : Nat} {g : Bool} {cs : List SE} (ho : o.op = .store T x y) (hx : Rv c (den ρ (.ptrx i base idx len sz off)) (a.eval x)) (hy : Rv c (den ρ e) (a.eval y))
  (ht : tsz P T = some (k, g)) (hg : g = false → k = 1) (hck : Chks ρ (zan k g e).2) (hl : O i = some (.box cs)) (hle : base + len * sz ≤ cs.length) (hin : pok (.inr len) [den ρ idx]) (hoff : off + k ≤ sz)
  (hwf : SE.wfs nenv O.dom (cs.zipIdx.map fun (u, j) => if base ≤ j ∧ j < base + len * sz then .app (.cellset base len sz off k j) [idx, u, .agg (zan k g e).1] else u) = true) :
  OpGo P ro n0 w0 c ρ O .undef (O.upd i (.box (cs.zipIdx.map fun (u, j) => if base ≤ j ∧ j < base + len * sz then .app (.cellset base len sz off k j) [idx, u, .agg (zan k g e).1] else u))) nenv o a w := by
 intro n next Q hn
 obtain ⟨h1, h2, h3, _, _⟩ := zbM hy hg hck
 have hcn := zcA k g e hg
 cases hi : den ρ idx with
 | int kk m =>
  rw [hi] at hin
  simp only [pok] at hin
  obtain ⟨j, rfl⟩ : ∃ j : Nat, m = j := ⟨m.toNat, by omega⟩
  have hj : j < len := by omega
  have hjs : j * sz + sz ≤ len * sz := by
   have := Nat.mul_le_mul_right sz (show j + 1 ≤ len from hj)
   rw [Nat.add_mul] at this; omega
  simp only [den, hi, zcU, Int.toNat_natCast] at hx
  obtain ⟨vs, T', hb, hvs, hh⟩ := hm.ok i _ hl
  have hlv := hvs.length; rw [zab] at hlv
  obtain ⟨w', r1, r2, r3, r4, r5, r6, r7⟩ := run_storeVar (P := P) ht hb h2 (o := base + j * sz + off) (by omega) h3
  have hmem : Mem n0 w0 c ρ (O.upd i (.box (cs.zipIdx.map fun (u, j) => if base ≤ j ∧ j < base + len * sz then .app (.cellset base len sz off k j) [idx, u, .agg (zan k g e).1] else u))) nenv w' := by
   refine hm.turn hl rfl rfl hwf ?_ r3 r4 r5 r6 r7
   refine ⟨putL vs (base + j * sz + off) (a.eval y).cells.toList, T', r2, ?_⟩
   have hput := hvs.put h1 (base + j * sz + off)
   have heq : dens ρ (cs.zipIdx.map fun (u, jj) => if base ≤ jj ∧ jj < base + len * sz then .app (.cellset base len sz off k jj) [idx, u, .agg (zan k g e).1] else u) =
     putL (dens ρ cs) (base + j * sz + off) (dens ρ (zan k g e).1) := by
    apply List.ext_getElem?
    intro q
    rw [zaq?, List.getElem?_map, List.getElem?_zipIdx]
    simp only [putL, zab, hcn]
    by_cases hq : q < cs.length
    ·have hq2 : cs[q]? = some cs[q] := by simp [hq]
     rw [hq2]
     simp only [Option.map_some, Nat.zero_add]
     by_cases hr : base ≤ q ∧ q < base + len * sz
     ·rw [if_pos hr]
      simp only [den, dens, hi, pv, Int.toNat_natCast, AV.cells]
      by_cases hs : base + j * sz + off ≤ q ∧ q < base + j * sz + off + k
      ·rw [if_pos hs]
       rw [List.append_assoc, List.getElem?_append_right (by simp [zab]; omega)]
       have e1 : q - (List.take (base + j * sz + off) (dens ρ cs)).length = q - (base + j * sz + off) := by simp [zab]; omega
       rw [e1, List.getElem?_append_left (by rw [zab, hcn]; omega)]
       rw [List.getD_eq_getElem?_getD]
       have : q - (base + j * sz + off) < (dens ρ (zan k g e).1).length := by rw [zab, hcn]; omega
       simp [this]
      ·rw [if_neg hs]
       by_cases hb2 : q < base + j * sz + off
       ·rw [List.append_assoc, List.getElem?_append_left (by simp [zab]; omega), List.getElem?_take, if_pos hb2, zaq?, hq2]; rfl
       ·rw [List.getElem?_append_right (by simp [zab, hcn]; omega), List.getElem?_drop, zaq?]
        have e1 : base + j * sz + off + k + (q - (List.take (base + j * sz + off) (dens ρ cs) ++ dens ρ (zan k g e).fst).length) = q := by
         simp [zab, hcn]; omega
        rw [e1, hq2]; rfl
     ·rw [if_neg hr]
      by_cases hb2 : q < base + j * sz + off
      ·rw [List.append_assoc, List.getElem?_append_left (by simp [zab]; omega), List.getElem?_take, if_pos hb2, zaq?, hq2]; rfl
      ·rw [List.getElem?_append_right (by simp [zab, hcn]; omega), List.getElem?_drop, zaq?]
       have e1 : base + j * sz + off + k + (q - (List.take (base + j * sz + off) (dens ρ cs) ++ dens ρ (zan k g e).fst).length) = q := by
        simp [zab, hcn]; omega
       rw [e1, hq2]; rfl
    ·have hq2 : cs[q]? = none := by simp; omega
     rw [hq2, List.getElem?_append_right (by simp [zab, hcn]; omega), List.getElem?_drop, zaq?]
     have : cs.length ≤ base + j * sz + off + k + (q - (List.take (base + j * sz + off) (dens ρ cs) ++ dens ρ (zan k g e).fst).length) := by
      simp [zab, hcn]; omega
     rw [List.getElem?_eq_none this]; rfl
   have hsz : (a.eval y).cells.toList.length = k := by simpa using h2
   have hl2 : (putL vs (base + j * sz + off) (a.eval y).cells.toList).length = vs.length := by simp [putL, hsz]; omega
   rw [heq, hl2]; exact ⟨hput, hh⟩
  refine zbB (by rw [ho]; intro c h; cases h) ?_
  have : (execOp a.eval o).run P w = .ok .skip w' := by
   have hv : a.eval x = .pointer (some ⟨c.β i, base + j * sz + off, none⟩) := by
    generalize a.eval x = vx at hx
    cases hx; rfl
   simp only [execOp, ho, Sem.run_bind, hv, Instr.storeAt, Instr.sureAddr, Sem.run_pure, Result.andThen_ok, r1]
  rw [this]
  exact hn _ _ _ (Cx.Keeps.refl _ _) (.undef _ (fun _ h => by cases h)) hmem
 | _ => rw [hi] at hin; simp [pok] at hin
theorem zhs (hm : Mem n0 w0 c ρ O nenv w) {T : TypeId} {x y : Operand} {e idx ec : SE} {i sz off k : Nat} {g : Bool} (ho : o.op = .store T x y) (hx : Rv c (den ρ (.rptr i idx sz off)) (a.eval x)) (hy : Rv c (den ρ e) (a.eval y))
  (ht : tsz P T = some (k, g)) (hg : g = false → k = 1) (hck : Chks ρ (zan k g e).2) (hl : O i = some (.row sz ec)) (hin : pok (.rowset sz off k) [den ρ ec, den ρ idx, den ρ (.agg (zan k g e).1)])
  (hwf : (SE.app (.rowset sz off k) [ec, idx, .agg (zan k g e).1]).wf nenv O.dom = true) :
  OpGo P ro n0 w0 c ρ O .undef (O.upd i (.row sz (.app (.rowset sz off k) [ec, idx, .agg (zan k g e).1]))) nenv o a w := by
 intro n next Q hn
 obtain ⟨h1, h2, h3, _, _⟩ := zbM hy hg hck
 have hcn := zcA k g e hg
 obtain ⟨xs, he, hrow⟩ := hm.ok i _ hl
 cases hi : den ρ idx with
 | int kk m =>
  rw [hi, he] at hin
  simp only [pok, den] at hin
  obtain ⟨i0, i1, i2, i3, i4, i5⟩ := hin
  obtain ⟨j, rfl⟩ : ∃ j : Nat, m = j := ⟨m.toNat, by omega⟩
  simp only [Int.toNat_natCast] at i2
  have hj : j < xs.length := by omega
  simp only [den, hi, zcU, Int.toNat_natCast] at hx
  have hex : ∃ b oo m' cap, c.h i = .slice (some ⟨b, oo, none⟩) m' cap ∧ a.eval x = .pointer (some ⟨b, oo + j * sz + off, none⟩) := by
   generalize a.eval x = vx at hx
   cases hx with
   | rptr _ _ _ _ b oo m' cap hh => exact ⟨b, oo, m', cap, hh, rfl⟩
  obtain ⟨b, oo, m', cap, hh, hv⟩ := hex
  rw [hh] at hrow
  cases hrow with
  | zero => simp at hj
  | row _ _ _ vs T' _ r0 r1 r2 r3 r4 r5 =>
   have hjs : j * sz + sz ≤ xs.length * sz := by
    have := Nat.mul_le_mul_right sz (show j + 1 ≤ xs.length from hj)
    rw [Nat.add_mul] at this; omega
   have hcap : xs.length * sz ≤ cap * sz := Nat.mul_le_mul_right _ r2
   obtain ⟨w', q1, q2, q3, q4, q5, q6, q7⟩ := run_storeVar (P := P) ht r1 h2 (o := oo + j * sz + off) (by omega) h3
   have hbl : bl c i (.row sz ec) = some b := by simp [bl, hh, zay]; omega
   have hbl' : bl c i (.row sz (.app (.rowset sz off k) [ec, idx, .agg (zan k g e).1])) = some b := by simp [bl, hh, zay]; omega
   have hmem : Mem n0 w0 c ρ (O.upd i (.row sz (.app (.rowset sz off k) [ec, idx, .agg (zan k g e).1]))) nenv w' := by
    refine hm.turn hl hbl hbl' hwf ?_ q3 q4 q5 q6 q7
    have hxj : xs.getD j .undef = xs[j] := by simp [List.getD_eq_getElem?_getD, hj]
    have hlj : (xs[j]).cells.length = sz := r4 _ (by simp)
    have hold : ((AV.flat xs).drop (j * sz)).take (xs[j]).cells.length = (xs[j]).cells := by
     rw [zcX r4, List.drop_eq_getElem_cons hj, zaY, List.take_left]
    have hul : (dens ρ (zan k g e).1).length = k := by rw [zab, hcn]
    have hput : AV.put xs[j].cells off (dens ρ (zan k g e).1) = putL xs[j].cells off (dens ρ (zan k g e).1) := rfl
    have hpl : (putL xs[j].cells off (dens ρ (zan k g e).1)).length = sz := by rw [zbG _ _ _ (by omega)]; exact hlj
    have hnew : (AV.ofCells xs[j] (putL xs[j].cells off (dens ρ (zan k g e).1))).cells = putL xs[j].cells off (dens ρ (zan k g e).1) := by
     unfold AV.ofCells
     split
     ·rfl
     ·rename_i hna
      have h1 : (xs[j]).cells = [xs[j]] := by
       cases hx2 : xs[j] <;> first | rfl | exact absurd hx2 (hna _)
      rw [h1] at hlj hpl ⊢
      simp only [List.length_singleton] at hlj
      rcases Nat.eq_zero_or_pos k with hk0 | hk1
      ·have hu0 : dens ρ (zan k g e).1 = [] := List.eq_nil_of_length_eq_zero (by omega)
       rw [hu0]
       have : putL [xs[j]] off ([] : List AV) = [xs[j]] := by simp [putL]
       rw [this]; exact h1
      ·have ho0 : off = 0 := by omega
       subst ho0
       obtain ⟨u, hu⟩ : ∃ u, dens ρ (zan k g e).1 = [u] := by
        match hd : dens ρ (zan k g e).1, hul with
        | [u], _ => exact ⟨u, rfl⟩
        | [], h => simp at h; omega
        | _ :: _ :: _, h => simp at h; omega
       rw [hu] at i4 ⊢
       have hone : u.one = true := by simpa using i4
       have : putL [xs[j]] 0 [u] = [u] := by simp [putL]
       rw [this]
       show (([u] : List AV).getD 0 .undef).cells = [u]
       simp only [List.getD_cons_zero]
       cases u <;> simp_all
    refine ⟨xs.set j (AV.ofCells xs[j] (putL xs[j].cells off (dens ρ (zan k g e).1))), by simp only [den, dens, he, hi, pv, Int.toNat_natCast, hxj]; rfl, ?_⟩
    rw [hh]
    have hset : (xs.set j (AV.ofCells xs[j] (putL xs[j].cells off (dens ρ (zan k g e).1)))).length = xs.length := by simp
    have key := RowOk.row (c := c) (w := w') (sz := sz) b oo cap (putL vs (oo + j * sz + off) (a.eval y).cells.toList) T' (xs.set j (AV.ofCells xs[j] (putL xs[j].cells off (dens ρ (zan k g e).1)))) r0 q2 (by omega)
     (by rw [zbG _ _ _ (by simp; omega)]; exact r3)
     (by
      intro x hx
      rcases List.mem_or_eq_of_mem_set hx with hx | rfl
      ·exact r4 x hx
      ·rw [hnew]; exact hpl)
     (by
      rw [zmk r4 hj _ (by rw [hnew]; exact hpl), hnew, hset, Nat.add_assoc, zgb _ _ _ _ _ (by omega) (by simp; omega),
       zlv _ _ _ _ _ (by rw [zaH r4]; omega) (by omega) hold]
      exact r5.put h1 _)
    rw [hset] at key
    exact key
   refine zbB (by rw [ho]; intro c h; cases h) ?_
   have : (execOp a.eval o).run P w = .ok .skip w' := by
    simp only [execOp, ho, Sem.run_bind, hv, Instr.storeAt, Instr.sureAddr, Sem.run_pure, Result.andThen_ok, q1]
   rw [this]
   exact hn _ _ _ (Cx.Keeps.refl _ _) (.undef _ (fun _ h => by cases h)) hmem
 | _ => rw [hi, he] at hin; simp [pok] at hin
end Go.Lb
namespace Go.Lb
open Go.RowKit
variable {P : Program} {ro : Option Nat} {n0 : Nat} {w0 : Base} {c : Cx} {ρ : Nat → AV} {O : Lk} {nenv : Nat} {o : Oper} {a : Act} {w : World}
structure Readable (P : Program) (c : Cx) (w : World) (sz : Nat) (v : Value) (ys : List AV) (us : List Value) : Prop where
 len : ∀ w', (Builtin.lenOf v).run P w' = .ok ys.length w'
 cells : ∀ d, (Builtin.firstCells sz ys.length v).run P { w with drawn := d } = .ok ⟨us⟩ { w with drawn := d }
 rel : Rvs c (AV.flat ys) us
theorem ziw (hi : Imm c w) {ys : List AV} {v : Value} {sz : Nat} (h : Rv c (.sl ys) v) (hs : ∀ y ∈ ys, y.cells.length = sz) : ∃ us, Readable P c w sz v ys us := by
 cases h with
 | slnil => exact ⟨[], ⟨fun _ => rfl, fun _ => rfl, .nil⟩⟩
 | sl0 ad => exact ⟨[], ⟨fun _ => rfl, fun d => by simp [Builtin.firstCells, loadCells, loadCellsFrom], .nil⟩⟩
 | sl _ sz' b o cap h1 h2 h3 =>
  obtain ⟨us, hu, hc⟩ := h3.values hi
  refine ⟨us, ⟨fun _ => rfl, fun d => ?_, hu⟩⟩
  have hl : us.length = ys.length * sz := by rw [hu.length, zaH hs]
  have := run_loadCells_list (P := P) (w := { w with drawn := d }) ⟨b, o, none⟩ us (fun j v hv => hc j v hv)
  simp only [Builtin.firstCells, ← hl]
  exact this
theorem zeY {xs : List AV} {v : Value} {sz : Nat} (h : RowOk c w sz v xs) (hs : ∀ y ∈ xs, y.cells.length = sz) : ∃ us, Readable P c w sz v xs us := by
 cases h with
 | nil => exact ⟨[], ⟨fun _ => rfl, fun _ => rfl, .nil⟩⟩
 | zero ad => exact ⟨[], ⟨fun _ => rfl, fun d => by simp [Builtin.firstCells, loadCells, loadCellsFrom], .nil⟩⟩
 | row b o cap vs T _ h0 h1 h2 h3 h4 h5 =>
  by_cases hx : xs = []
  ·subst hx
   exact ⟨[], ⟨fun _ => rfl, fun d => by simp [Builtin.firstCells, loadCells, loadCellsFrom], .nil⟩⟩
  ·obtain ⟨x, xs', rfl⟩ := List.exists_cons_of_ne_nil hx
   refine ⟨_, ⟨fun _ => rfl, fun d => ?_, h5⟩⟩
   have hcap : (x :: xs').length * sz ≤ cap * sz := Nat.mul_le_mul_right _ h2
   have hl : ((vs.drop o).take ((x :: xs').length * sz)).length = (x :: xs').length * sz := by rw [List.length_take, List.length_drop]; omega
   have := run_loadCells_list (P := P) (w := { w with drawn := d }) ⟨b, o, none⟩ ((vs.drop o).take ((x :: xs').length * sz)) (fun j u hj => by
    rw [Addr.add_eq]
    have hc := cell_of_row { w with drawn := d } b (o + j) _ T _ h1
    rw [hc]
    rw [List.getElem?_take] at hj
    split at hj
    ·rw [List.getElem?_drop] at hj; simpa using hj
    ·cases hj)
   rw [hl] at this
   exact this
theorem zlb (newLen : Nat) : ∀ (r c : Nat), Builtin.growBy newLen r c ≤ max c (2 * newLen + 192) := by
 intro r
 induction r with
 | zero => intro c; simp [Builtin.growBy]; omega
 | succ r ih =>
  intro c
  simp only [Builtin.growBy]
  split
  ·omega
  ·have := ih (c + (c + 768) / 4)
   omega
theorem zc3 {need cap : Nat} (h : cap < need) : Builtin.nextslicecap need cap ≤ 2 * need + 192 := by
 unfold Builtin.nextslicecap
 split
 ·omega
 ·split
  ·omega
  ·have := zlb need 4 cap; omega
theorem zke (newLen : Nat) : ∀ (r c : Nat), Builtin.growBy newLen r c ≤ max c ((5 * newLen + 768) / 4) := by
 intro r
 induction r with
 | zero => intro c; simp [Builtin.growBy]; omega
 | succ r ih =>
  intro c
  simp only [Builtin.growBy]
  split
  ·omega
  ·have := ih (c + (c + 768) / 4)
   omega
theorem ze8 {need cap : Nat} (h : cap < need) : 4 * Builtin.nextslicecap need cap ≤ 5 * need + 2048 := by
 unfold Builtin.nextslicecap
 split
 ·omega
 ·split
  ·omega
  ·have := zke need 4 cap; omega
theorem zbn (z : Array Value) (n : Nat) : (Builtin.zeroCells z n).toList.length = n * z.size := by simp [Builtin.zeroCells]
structure ElemOk (P : Program) (sT elem sz : Nat) : Prop where
 slice : P.underlying sT = some (.slice elem)
 size : ∃ g, tsz P elem = some (sz, g)
 info : ∃ i z, P.info? elem = some i ∧ i.bytes ≤ 16384 ∧ i.zero = some z ∧ z.cells.size = sz
theorem run_append {sT xT ty elem sz : Nat} (he : ElemOk P sT elem sz) {e2 : TypeId} (hx2 : P.underlying xT = some (.slice e2)) {s x : Value} {xs ys : List AV} {us : List Value} (hrow : RowOk c w sz s xs) (hr : Readable P c w sz x ys us)
  (hsx : ∀ y ∈ xs, y.cells.length = sz) (hsy : ∀ y ∈ ys, y.cells.length = sz) (hone : ∀ u ∈ us, u.oneCell' = true) (hlen : xs.length + ys.length ≤ 8796093022208) (hsmall : ∀ i, P.info? elem = some i → 24 < i.bytes → xs.length + ys.length ≤ 4294967296) :
  (∃ w', (Builtin.append_ #[sT, xT] ty #[s, x]).run P w = .ok s w' ∧ w' = w ∧ (s = .slice none 0 0 ∨ ∃ ad, s = .slice (some ad) 0 0) ∧ xs = [] ∧ ys = []) ∨
  (∃ b oo cap vs T w', 0 < cap ∧ s = .slice (some ⟨b, oo, none⟩) xs.length cap ∧ xs.length + ys.length ≤ cap ∧ w.heap[b]? = some (.cells ⟨vs⟩ T (0, 0)) ∧ (Builtin.append_ #[sT, xT] ty #[s, x]).run P w = .ok (.slice (some ⟨b, oo, none⟩) (xs.length + ys.length) cap) w' ∧
   w'.heap[b]? = some (.cells ⟨putL vs (oo + xs.length * sz) us⟩ T (0, 0)) ∧ oo + cap * sz ≤ vs.length ∧ Rvs c (AV.flat xs) ((vs.drop oo).take (xs.length * sz)) ∧
   (∀ k, k ≠ b → w'.heap[k]? = w.heap[k]?) ∧ w'.heap.size = w.heap.size ∧ w'.os = w.os ∧ w'.tape = w.tape ∧ w'.output = w.output) ∨
  (∃ cap vs d, (Builtin.append_ #[sT, xT] ty #[s, x]).run P w = .ok (.slice (some ⟨w.heap.size, 0, none⟩) (xs.length + ys.length) cap) (({ w with drawn := d } : World).alloc (.cells ⟨vs⟩ elem)) ∧
   xs.length + ys.length ≤ cap ∧ cap * sz ≤ vs.length ∧ Rvs c (AV.flat (xs ++ ys)) (vs.take ((xs.length + ys.length) * sz))) := by
 obtain ⟨g, hsz⟩ := he.size
 obtain ⟨i, z, hi, hb, hz, hzs⟩ := he.info
 have hlx : (Builtin.lenOf s).run P w = .ok xs.length w := by cases hrow <;> rfl
 have hul : us.length = ys.length * sz := by rw [hr.rel.length, zaH hsy]
 obtain ⟨ss, hss⟩ := zeY (P := P) hrow hsx
 have hsl : ss.length = xs.length * sz := by rw [hss.rel.length, zaH hsx]
 have hxm : (do pure ((← underlying xT) matches .int _) : Sem Bool).run P w = .ok false w := by
  simp [run_underlying hx2]
 have hzv : ∀ w' : World, (zeroValue elem).run P w' = .ok z w' := fun w' => by simp [zeroValue, run_typeInfo hi, hz]
 have inPlace : ∀ (base : Option Addr) (sCap : Nat), s = .slice base xs.length sCap → xs.length + ys.length ≤ sCap →
   (Builtin.append_ #[sT, xT] ty #[s, x]).run P w = (match base with
    | some a => (storeCells (a.add (xs.length * sz)) us).run P w
    | none => .ok () w).andThen fun _ w' => .ok (.slice base (xs.length + ys.length) sCap) w' := by
  intro base sCap hs hn
  subst hs
  have hc := hr.cells w.drawn
  simp only [Builtin.append_, List.getElem?_toArray, List.getElem?_cons_zero, List.getElem?_cons_succ, Sem.run_bind, run_underlying he.slice, Result.andThen_ok, (zar hsz w).1, run_underlying hx2, Sem.run_pure, Bool.false_eq_true, if_false, hr.len w, hn, if_true, Bool.not_false]
  have hc' : (Builtin.firstCells sz ys.length x).run P w = .ok ⟨us⟩ w := hc
  rw [hc']
  cases base with
  | none => rfl
  | some a => simp only [Result.andThen_ok, Sem.run_bind, Sem.run_pure]
 have grown : ∀ (base : Option Addr) (sCap : Nat), s = .slice base xs.length sCap → ¬ xs.length + ys.length ≤ sCap →
   ∃ newCap d, xs.length + ys.length ≤ newCap ∧ (Builtin.append_ #[sT, xT] ty #[s, x]).run P w = .ok (.slice (some ⟨w.heap.size, 0, none⟩) (xs.length + ys.length) newCap)
    (({ w with drawn := d } : World).alloc (.cells ⟨ss ++ us ++ (Builtin.zeroCells z.cells (newCap - (xs.length + ys.length))).toList⟩ elem)) := by
  intro base sCap hs hn
  have hs' := hs
  subst hs
  have h1 : ¬ (((xs.length + ys.length : Nat) : Int) > IntKind.i64.max ∧ (False ∨ i.bytes = 0)) := by
   rintro ⟨h, _⟩
   have : IntKind.i64.max = 9223372036854775807 := by decide
   rw [this] at h; omega
  have h2 : ¬ Builtin.nextslicecap (xs.length + ys.length) sCap * i.bytes > 2 ^ 48 := by
   by_cases hb24 : 24 < i.bytes
   ·have hs4 := hsmall i hi hb24
    have := zc3 (need := xs.length + ys.length) (cap := sCap) (by omega)
    have h3 : Builtin.nextslicecap (xs.length + ys.length) sCap * i.bytes ≤ (2 * 4294967296 + 192) * 16384 := Nat.mul_le_mul (by omega) hb
    omega
   ·have := ze8 (need := xs.length + ys.length) (cap := sCap) (by omega)
    have h3 : Builtin.nextslicecap (xs.length + ys.length) sCap * i.bytes ≤ 10995116278272 * 24 := Nat.mul_le_mul (by omega) (by omega)
    omega
  refine ⟨(xs.length + ys.length) + w.tape w.drawn (.appendCap (xs.length + ys.length) sCap elem) % (2 ^ 63 - (xs.length + ys.length)), w.drawn + 1, by omega, ?_⟩
  simp only [Builtin.append_, List.getElem?_toArray, List.getElem?_cons_zero, List.getElem?_cons_succ, Sem.run_bind, run_underlying he.slice, Result.andThen_ok, (zar hsz w).1, run_underlying hx2, Sem.run_pure, Bool.false_eq_true, if_false, hr.len w, hn]
  simp only [run_typeInfo hi, Result.andThen_ok]
  rw [if_neg h1]
  simp only [Sem.run_bind, run_typeInfo hi, Result.andThen_ok]
  rw [if_neg h2]
  have hcs := hss.cells (w.drawn + 1)
  have hcx := hr.cells (w.drawn + 1)
  simp only [Sem.run_bind, run_choose, Question.forced, Bool.false_eq_true, if_false, Question.cut, Result.andThen_ok, run_typeInfo hi, run_askRoom, hcs, hcx, Bool.not_false, if_true, hzv]
  have harr : ∀ Z : Array Value, ((⟨ss⟩ : Array Value) ++ ⟨us⟩ ++ Z) = ⟨ss ++ us ++ Z.toList⟩ := fun Z => Array.ext' (by simp)
  rw [harr]
  rfl
 cases hrow with
 | nil =>
  by_cases hy : ys = []
  ·subst hy
   left
   refine ⟨w, ?_, rfl, .inl rfl, rfl, rfl⟩
   rw [inPlace none 0 rfl (by simp)]; rfl
  ·right; right
   have : 0 < ys.length := List.length_pos_iff.2 hy
   obtain ⟨nc, d, g1, g2⟩ := grown none 0 rfl (by simp; omega)
   simp only [List.length_nil, Nat.zero_add] at g1 g2 ⊢
   refine ⟨nc, _, d, g2, g1, ?_, ?_⟩
   ·have h0 : (Builtin.zeroCells z.cells (nc - ys.length)).toList.length = (nc - ys.length) * sz := by rw [zbn, hzs]
    rw [List.length_append, List.length_append, h0, hsl, hul]
    simp only [List.length_nil, Nat.zero_mul, Nat.zero_add]
    rw [← Nat.add_mul]; apply Nat.mul_le_mul_right; omega
   ·have hsn : ss = [] := by apply List.eq_nil_of_length_eq_zero; simpa using hsl
    subst hsn
    simp only [List.nil_append, List.length_nil, Nat.zero_add]
    rw [← hul, List.take_left]; exact hr.rel
 | zero ad =>
  by_cases hy : ys = []
  ·subst hy
   left
   have hu0 : us = [] := List.eq_nil_of_length_eq_zero (by simpa using hul)
   subst hu0
   refine ⟨w, ?_, rfl, .inr ⟨ad, rfl⟩, rfl, rfl⟩
   rw [inPlace (some ad) 0 rfl (by simp)]; rfl
  ·right; right
   have : 0 < ys.length := List.length_pos_iff.2 hy
   obtain ⟨nc, d, g1, g2⟩ := grown (some ad) 0 rfl (by simp; omega)
   simp only [List.length_nil, Nat.zero_add] at g1 g2 ⊢
   refine ⟨nc, _, d, g2, g1, ?_, ?_⟩
   ·have h0 : (Builtin.zeroCells z.cells (nc - ys.length)).toList.length = (nc - ys.length) * sz := by rw [zbn, hzs]
    rw [List.length_append, List.length_append, h0, hsl, hul]
    simp only [List.length_nil, Nat.zero_mul, Nat.zero_add]
    rw [← Nat.add_mul]; apply Nat.mul_le_mul_right; omega
   ·have hsn : ss = [] := by apply List.eq_nil_of_length_eq_zero; simpa using hsl
    subst hsn
    simp only [List.nil_append, List.length_nil, Nat.zero_add]
    rw [← hul, List.take_left]; exact hr.rel
 | row b oo cap vs T _ r0 r1 r2 r3 r4 r5 =>
  by_cases hn : xs.length + ys.length ≤ cap
  ·right; left
   have hcap : (xs.length + ys.length) * sz ≤ cap * sz := Nat.mul_le_mul_right _ hn
   rw [Nat.add_mul] at hcap
   obtain ⟨w', q1, q2⟩ := run_storeCells (P := P) us w b (oo + xs.length * sz) 0 vs T r1 (by omega) hone
   refine ⟨b, oo, cap, vs, T, w', r0, rfl, hn, r1, ?_, q2.1, r3, r5, q2.2⟩
   rw [inPlace _ _ rfl hn]
   simp only [Addr.add_eq, q1]; rfl
  ·right; right
   obtain ⟨nc, d, g1, g2⟩ := grown (some ⟨b, oo, none⟩) cap rfl hn
   refine ⟨nc, _, d, g2, g1, ?_, ?_⟩
   ·have : (Builtin.zeroCells z.cells (nc - (xs.length + ys.length))).toList.length = (nc - (xs.length + ys.length)) * sz := by rw [zbn, hzs]
    simp only [List.length_append, this, hsl, hul]
    rw [← Nat.add_mul, ← Nat.add_mul]; apply Nat.mul_le_mul_right; omega
   ·rw [zbq, List.append_assoc]
    have e1 : (ss ++ (us ++ (Builtin.zeroCells z.cells (nc - (xs.length + ys.length))).toList)).take ((xs.length + ys.length) * sz) = ss ++ us := by
     rw [← List.append_assoc, List.take_append_of_le_length (by rw [List.length_append, hsl, hul, Nat.add_mul]; exact Nat.le_refl _), List.take_of_length_le (by rw [List.length_append, hsl, hul, Nat.add_mul]; exact Nat.le_refl _)]
    rw [e1]; exact hss.rel.append hr.rel
theorem zfJ {ys : List AV} (h : ∀ y ∈ ys, AV.ones y.cells = true) : AV.ones (AV.flat ys) = true := by
 induction ys with
 | nil => rfl
 | cons y ys ih =>
  have happ : ∀ (a b : List AV), AV.ones (a ++ b) = (AV.ones a && AV.ones b) := by
   intro a b
   induction a with
   | nil => simp
   | cons x a ih => simp [ih, Bool.and_assoc]
  rw [zaY, happ, h y (by simp), ih (fun z hz => h z (by simp [hz]))]; rfl
theorem Mem.drop (hm : Mem n0 w0 c ρ O nenv w) (i : Nat) : Mem n0 w0 c ρ (O.upd i .gone) nenv w :=
 hm.step i .gone (Nat.le_refl _) (Cx.Keeps.refl _ _) (zam.refl _ _) hm.pure hm.imm hm.immlt (Nat.le_refl _) hm.below hm.old rfl trivial (fun _ _ _ _ _ _ => rfl)
  (fun b hb => by simp [bl] at hb) (fun j o b _ => hm.disj j o b)
theorem Mem.reRow (hm : Mem n0 w0 c ρ O nenv w) {w' : World} {b oo cap sz : Nat} {vs : List Value} {T : TypeId} {e : SE} {xs : List AV} {nid : Nat} (hid : O nid = none) (he : den ρ e = .sl xs) (hwf : e.wf nenv O.dom = true)
  (hcap0 : 0 < cap) (hb : w'.heap[b]? = some (.cells ⟨vs⟩ T (0, 0))) (hcap : xs.length ≤ cap) (hlen : oo + cap * sz ≤ vs.length) (hs : ∀ x ∈ xs, x.cells.length = sz) (hr : Rvs c (AV.flat xs) ((vs.drop oo).take (xs.length * sz)))
  (hother : ∀ k, k ≠ b → w'.heap[k]? = w.heap[k]?) (hsize : w'.heap.size = w.heap.size) (hos : w'.os = w.os) (htape : w'.tape = w.tape) (hout : w'.output = w.output)
  (hn0 : n0 ≤ b) (hfree : ∀ j o, O j = some o → bl c j o ≠ some b) (hdisj : (∀ off v, c.I b off ≠ some v) ∧ (∀ ob, c.M b ≠ some ob)) :
  Mem n0 w0 (c.seth nid (.slice (some ⟨b, oo, none⟩) xs.length cap)) ρ (O.upd nid (.row sz e)) nenv w' := by
 have hk : c.Keeps O.dom (c.seth nid (.slice (some ⟨b, oo, none⟩) xs.length cap)) := c.seth_keeps hid
 have hblt : b < w'.heap.size := (Array.getElem?_eq_some_iff.1 hb).1
 have hu : AV.underAll O.dom xs = true := by have := zbb hm.pure e hwf; rwa [he] at this
 refine hm.step nid (.row sz e) (Nat.le_refl _) hk (zam.refl _ _) hm.pure ?_ ?_ (by omega) ?_ hm.old (SE.wf_mono (Nat.le_refl _) (Lk.dom_upd O nid _) hwf) ?_ ?_ ?_ (fun j o b _ => hm.disj j o b)
 ·refine hm.imm.keeps rfl rfl (fun k hk2 => hother k ?_)
  rintro rfl
  rcases hk2 with ⟨off, v, h⟩ | ⟨ob, h⟩
  ·exact hdisj.1 off v h
  ·exact hdisj.2 ob h
 ·intro k hk; exact hm.immlt k (by omega)
 ·exact hm.below.trans ⟨hos, htape, hout, by omega, fun k hk => hother k (by omega)⟩
 ·refine ⟨xs, he, ?_⟩
  simp only [Cx.seth, if_true]
  exact .row b oo cap vs T xs hcap0 hb hcap hlen hs (za4 hk hr (by rw [AV.under_flat]; exact hu))
 ·intro j oj bj hj hlj hbj
  refine hother bj ?_
  rintro rfl
  exact hfree j oj hlj hbj
 ·intro b2 hb2
  simp only [bl, Cx.seth, if_true, zay, show cap ≠ 0 from by omega, if_false, Option.some.injEq] at hb2
  subst hb2
  exact ⟨hn0, hblt, fun j oj _ hlj => hfree j oj hlj, hdisj⟩
theorem zio (hm : Mem n0 w0 c ρ O nenv w) (hn0 : n0 ≤ w.heap.size) {x1 x2 : Operand} {sT xT elem sz i : Nat} {ec ey : SE} {ys : List AV} {us : List Value} (ho : o.op = .call { callee := .builtin .append, args := #[x1, x2], argTypes := #[sT, xT] })
  (he : ElemOk P sT elem sz) {e2 : TypeId} (hx2 : P.underlying xT = some (.slice e2)) (hl : O i = some (.row sz ec)) (h1 : a.eval x1 = c.h i) (hy : den ρ ey = .sl ys) (hr : Readable P c w sz (a.eval x2) ys us)
  (hsz : pok (.szs sz) [den ρ ey]) (hok : pok .app [den ρ ec, den ρ ey]) (hsm : ∀ i', P.info? elem = some i' → 24 < i'.bytes → pok (.inr 4294967297) [den ρ (.app .len [.app .app [ec, ey]])]) (hwf : (SE.app .app [ec, ey]).wf nenv O.dom = true) {nid : Nat} (hid : O nid = none) :
  OpGo P ro n0 w0 c ρ O (.row nid) ((O.upd i .gone).upd nid (.row sz (.app .app [ec, ey]))) nenv o a w := by
 intro n next Q hn
 obtain ⟨xs, hxs, hrow⟩ := hm.ok i _ hl
 rw [hxs, hy] at hok
 rw [hy] at hsz
 simp only [pok] at hok hsz
 have hid1 : (O.upd i .gone) nid = none := by
  rw [Lk.upd_other]
  ·exact hid
  ·rintro rfl; rw [hid] at hl; cases hl
 have hwf1 : (SE.app .app [ec, ey]).wf nenv (O.upd i .gone).dom = true := SE.wf_mono (Nat.le_refl _) (Lk.dom_upd O i _) hwf
 have hden : den ρ (.app .app [ec, ey]) = .sl (xs ++ ys) := by simp only [den, dens, hxs, hy, pv]
 have hsx : ∀ x ∈ xs, x.cells.length = sz := by
  generalize c.h i = hv at hrow
  cases hrow with
  | nil => simp
  | zero => simp
  | row _ _ _ _ _ _ _ _ _ _ h4 _ => exact h4
 have hsy : ∀ y ∈ ys, y.cells.length = sz := fun y hy => (hsz y hy).1
 have hone : ∀ u ∈ us, u.oneCell' = true := hr.rel.ones (zfJ (fun y hy => (hsz y hy).2))
 have hsall : ∀ x ∈ xs ++ ys, x.cells.length = sz := fun x hx => (List.mem_append.1 hx).elim (hsx x) (hsy x)
 have hd : ∀ cc, o.op ≠ .defer cc := by rw [ho]; intro c h; cases h
 have hex : ∀ v w', (Builtin.append_ #[sT, xT] o.type #[a.eval x1, a.eval x2]).run P w = .ok v w' → (execOp a.eval o).run P w = .ok (.value v) w' := by
  intro v w' hrun
  simp only [execOp, ho, Sem.run_bind, resolve, Sem.run_pure, Result.andThen_ok, invoke, builtin]
  have : (#[x1, x2] : Array Operand).map a.eval = #[a.eval x1, a.eval x2] := by simp
  rw [this, hrun]; rfl
 have hm1 := hm.drop i
 rw [← h1] at hrow
 have hsmall : ∀ i', P.info? elem = some i' → 24 < i'.bytes → xs.length + ys.length ≤ 4294967296 := fun i' g1 g2 => by
  have h3 := hsm i' g1 g2
  have hd3 : den ρ (.app .len [.app .app [ec, ey]]) = .int .i64 (xs ++ ys).length := by
   rw [den, dens, hden, dens]; rfl
  rw [hd3] at h3
  simp only [pok, List.length_append] at h3
  omega
 rcases run_append (ty := o.type) he hx2 hrow hr hsx hsy hone hok hsmall with ⟨w', r1, rfl, hs, hxn, rfl⟩ | ⟨b, oo, cap, vs, T, w', hcap0, hs, hcap, hb, r1, r2, r3, r4, r5, r6, r7, r8, r9⟩ | ⟨cap, vs, d, r1, r2, r3, r4⟩
 ·subst hxn
  have hk : c.Keeps O.dom (c.seth nid (a.eval x1)) := c.seth_keeps hid
  refine zas hd (hex _ _ r1) (hn _ _ (c.seth nid (a.eval x1)) hk ?_ ?_)
  ·simp only [den]
   rcases hs with hs | ⟨ad, hs⟩
   ·rw [hs]; exact .row nid none 0 0 (by simp [Cx.seth])
   ·rw [hs]; exact .row nid (some ad) 0 0 (by simp [Cx.seth])
  ·refine hm1.step nid _ (Nat.le_refl _) (c.seth_keeps hid1) (zam.refl _ _) hm.pure ⟨hm.imm.I, hm.imm.M⟩ hm.immlt (Nat.le_refl _) hm.below hm.old (SE.wf_mono (Nat.le_refl _) (Lk.dom_upd _ nid _) hwf1) ?_ (fun _ _ _ _ _ _ => rfl) ?_ (fun j o b _ => hm1.disj j o b)
   ·refine ⟨_, hden, ?_⟩
    simp only [Cx.seth, if_true]
    rcases hs with hs | ⟨ad, hs⟩
    ·rw [hs]; exact .nil
    ·rw [hs]; exact .zero ad
   ·intro b hb
    simp only [bl, Cx.seth, if_true] at hb
    rcases hs with hs | ⟨ad, hs⟩ <;> simp [hs, zay] at hb
 ·rw [h1] at hs
  have hbi : bl c i (.row sz ec) = some b := by simp [bl, hs, zay]; omega
  have hfr := hm.fresh i _ b hl hbi
  have hmul : (xs.length + ys.length) * sz ≤ cap * sz := Nat.mul_le_mul_right _ hcap
  rw [Nat.add_mul] at hmul
  have hul : us.length = ys.length * sz := by rw [hr.rel.length, zaH hsy]
  have hre := hm1.reRow (w' := w') (b := b) (oo := oo) (cap := cap) (sz := sz) (vs := putL vs (oo + xs.length * sz) us) (T := T) hid1 hden hwf1 hcap0 r2 (by simpa using hcap) (by rw [zbG _ _ _ (by omega)]; exact r3) hsall
   (by
    rw [zbq, List.length_append, Nat.add_mul]
    have hsub : ((putL vs (oo + xs.length * sz) us).drop oo).take (xs.length * sz + ys.length * sz) = (vs.drop oo).take (xs.length * sz) ++ us := by
     apply List.ext_getElem?
     intro q
     rw [List.getElem?_take, List.getElem?_drop, getElem?_putL _ _ _ (by omega)]
     have hl2 : ((vs.drop oo).take (xs.length * sz)).length = xs.length * sz := by rw [List.length_take, List.length_drop]; omega
     by_cases hq1 : q < xs.length * sz
     ·rw [if_pos (by omega), if_pos (by omega), List.getElem?_append_left (by omega), List.getElem?_take, if_pos hq1, List.getElem?_drop]
     ·rw [List.getElem?_append_right (by omega), hl2]
      by_cases hq2 : q < xs.length * sz + ys.length * sz
      ·rw [if_pos hq2, if_neg (by omega), if_pos (by omega)]; congr 1; omega
      ·rw [if_neg hq2]; symm; apply List.getElem?_eq_none; omega
    rw [hsub]; exact r4.append hr.rel)
   r5 r6 r7 r8 r9 hfr.1
   (by
    intro j oj hlj hbj
    by_cases hji : j = i
    ·subst hji; rw [Lk.upd_same] at hlj; simp only [Option.some.injEq] at hlj; subst hlj; simp [bl] at hbj
    ·rw [Lk.upd_other _ _ hji] at hlj; exact hji (hm.dist j i oj _ b hlj hl hbj hbi))
   (hm.disj i _ b hl hbi)
  rw [List.length_append] at hre
  refine zas hd (hex _ _ r1) (hn _ _ _ (c.seth_keeps hid) ?_ hre)
  simp only [den]
  exact .row nid _ _ _ (by simp [Cx.seth])
 ·have hm2 := hm1.draw d
  have hnew := hm2.newRow (sz := sz) (by simpa using hn0) hid1 (.app .app [ec, ey]) (xs ++ ys) cap vs elem hden hwf1 (by simpa using r2) r3 hsall (by simpa using r4)
  rw [List.length_append] at hnew
  refine zas hd (hex _ _ r1) (hn _ _ _ (c.seth_keeps hid) ?_ hnew)
  simp only [den]
  exact .row nid _ _ _ (by simp [Cx.seth])
end Go.Lb
namespace Go.Lb
open Go.RowKit
variable {P : Program} {ro : Option Nat} {n0 : Nat} {w0 : Base} {c : Cx} {ρ : Nat → AV} {O : Lk} {nenv : Nat} {o : Oper} {a : Act} {w : World}
def zbS (sz : Nat) (g : Bool) : Nat → List SE → List SE
 | 0, _ => []
 | n + 1, cs => (if g then .agg (cs.take sz) else cs.getD 0 .undef) :: zbS sz g n (cs.drop sz)
theorem zhh (ρ : Nat → AV) (sz : Nat) (g : Bool) (hg : g = false → sz = 1) : ∀ (n : Nat) (cs : List SE), cs.length = n * sz → (g = false → AV.ones (dens ρ cs) = true) →
  (dens ρ (zbS sz g n cs)).length = n ∧ (∀ x ∈ dens ρ (zbS sz g n cs), x.cells.length = sz) ∧ AV.flat (dens ρ (zbS sz g n cs)) = dens ρ cs := by
 intro n
 induction n with
 | zero =>
  intro cs hl _
  have : cs = [] := by apply List.eq_nil_of_length_eq_zero; simpa using hl
  subst this; simp [zbS, AV.flat]
 | succ n ih =>
  intro cs hl h1
  rw [Nat.add_mul, Nat.one_mul] at hl
  have hones : ∀ (k : Nat), g = false → AV.ones (dens ρ (cs.drop k)) = true := by
   intro k hgf
   have hh := h1 hgf
   rw [zbx, List.map_drop, ← zbx]
   generalize dens ρ cs = l at hh
   induction k generalizing l with
   | zero => simpa using hh
   | succ k ihk => cases l with
    | nil => rfl
    | cons x l => simp only [AV.ones, Bool.and_eq_true] at hh; simpa using ihk l hh.2
  obtain ⟨i1, i2, i3⟩ := ih (cs.drop sz) (by simp; omega) (hones sz)
  refine ⟨by simp [zbS, i1], ?_, ?_⟩
  ·intro x hx
   simp only [zbS, dens, List.mem_cons] at hx
   rcases hx with rfl | hx
   ·cases g with
    | true => simp [zab]; omega
    | false =>
     have hs := hg rfl; subst hs
     obtain ⟨y, ys, rfl⟩ := List.exists_cons_of_ne_nil (l := cs) (by rintro rfl; simp at hl)
     have := h1 rfl
     simp only [dens, AV.ones, Bool.and_eq_true] at this
     simp only [Bool.false_eq_true, if_false, List.getD_cons_zero]
     cases hd : den ρ y <;> simp_all
   ·exact i2 x hx
  ·simp only [zbS, dens, zaY, i3]
   cases g with
   | true =>
    simp only [if_true, den]
    show dens ρ (cs.take sz) ++ dens ρ (cs.drop sz) = _
    rw [← zaE, List.take_append_drop]
   | false =>
    have hs := hg rfl; subst hs
    obtain ⟨y, ys, rfl⟩ := List.exists_cons_of_ne_nil (l := cs) (by rintro rfl; simp at hl)
    have := h1 rfl
    simp only [dens, AV.ones, Bool.and_eq_true] at this
    simp only [Bool.false_eq_true, if_false, List.getD_cons_zero, List.drop_succ_cons, List.drop_zero, dens]
    cases hd : den ρ y <;> simp_all
theorem zbT (z : Array Value) (n : Nat) : ((Array.range (n * z.size)).map (fun x => z[x % z.size]!)).toList = (List.replicate n z.toList).flatten := by
 apply List.ext_getElem?
 intro q
 simp only [Array.toList_map, Array.toList_range, List.getElem?_map]
 have hfl : ((List.replicate n z.toList).flatten).length = n * z.size := by simp
 by_cases hq : q < n * z.size
 ·rw [List.getElem?_range hq]
  have hz : 0 < z.size := by
   rcases Nat.eq_zero_or_pos z.size with h | h
   ·rw [h] at hq; simp at hq
   ·exact h
  induction n generalizing q with
  | zero => simp at hq
  | succ n ih =>
   rw [List.replicate_succ, List.flatten_cons]
   by_cases h : q < z.size
   ·rw [List.getElem?_append_left (by simpa using h)]
    simp [Nat.mod_eq_of_lt h, h, getElem!_pos]
   ·rw [List.getElem?_append_right (by simpa using h)]
    have := ih (q - z.size) (by simp) (by rw [Nat.add_mul] at hq; omega)
    simp only [Array.length_toList]
    rw [← this]
    simp only [Option.map_some]
    congr 2
    exact Nat.mod_eq_sub_mod (by omega)
 ·rw [List.getElem?_eq_none (by simpa using hq), List.getElem?_eq_none (by rw [hfl]; omega)]; rfl
theorem zf5 (ρ : Nat → AV) (n : Nat) (z : List SE) : dens ρ ((List.replicate n z).flatten) = (List.replicate n (dens ρ z)).flatten := by
 induction n with
 | zero => rfl
 | succ n ih => rw [List.replicate_succ, List.flatten_cons, zaE, ih, List.replicate_succ, List.flatten_cons]
theorem zcx {as : List AV} {vs : List Value} (h : Rvs c as vs) (n : Nat) : Rvs c (List.replicate n as).flatten (List.replicate n vs).flatten := by
 induction n with
 | zero => exact .nil
 | succ n ih => rw [List.replicate_succ, List.flatten_cons, List.replicate_succ, List.flatten_cons]; exact h.append ih
def zcR (P : Program) (t : TypeId) (len : Nat) (parts : List (Nat × SE)) : Option (Nat × SE × List Chk) :=
 match P.underlying t with
 | some (.slice e) => match tsz P e, zel P e with
  | some (sz, g), some z =>
   if len * sz ≤ 16777216 ∧ z.length = sz ∧ (g = false → sz = 1) ∧ sz ≠ 0 then
    match zgv (fun i => some (i * sz, sz, g)) ((List.replicate len (SE.weaks z)).flatten) parts with
    | some (cs, ck) => if cs.length = len * sz then some (sz, .app .lst (zbS sz g len cs), ck ++ (if g then [] else cs.map fun x => (.isOne, [x]))) else none
    | none => none
   else none
  | _, _ => none
 | _ => none
theorem zhq (hm : Mem n0 w0 c ρ O nenv w) (hn0 : n0 ≤ w.heap.size) {t len sz : Nat} {parts : List (Nat × Operand)} {ps : List (Nat × SE)} {e : SE} {ck : List Chk} (ho : o.op = .buildSlice t len ⟨parts⟩)
  (hb : zcR P t len ps = some (sz, e, ck)) (hl : ps.length = parts.length) (hrel : ∀ (j i : Nat) (e : SE) (i' : Nat) (x : Operand), ps[j]? = some (i, e) → parts[j]? = some (i', x) → i' = i ∧ Rv c (den ρ e) (a.eval x))
  (hck : Chks ρ ck) (hwf : e.wf nenv O.dom = true) {nid : Nat} (hid : O nid = none) :
  OpGo P ro n0 w0 c ρ O (.row nid) (O.upd nid (.row sz e)) nenv o a w := by
 intro n next Q hn
 unfold zcR at hb
 split at hb
 ·rename_i el hu
  split at hb
  ·rename_i sz' g z ht hz
   split at hb
   ·rename_i hc
    split at hb
    ·rename_i cs ck' hf
     split at hb
     ·rename_i hcl
      simp only [Option.some.injEq, Prod.mk.injEq] at hb
      obtain ⟨rfl, rfl, rfl⟩ := hb
      rw [Chks.append] at hck
      obtain ⟨c1, c2, c3, c4⟩ := hc
      obtain ⟨zv, z1, z2⟩ := zbR (w := w) (c := c) (ρ := ρ) hz
      have hzl : zv.cells.size = sz' := by have := z2.length; rw [zab, c2] at this; simpa using this
      have h0 : Rvs c (dens ρ ((List.replicate len (SE.weaks z)).flatten)) ((Array.range (len * sz')).map (fun x => zv.cells[x % zv.cells.size]!)).toList := by
       rw [← hzl, zbT, zf5]; exact zcx (zaR z z2) len
      obtain ⟨vs', f1, f2⟩ := zes (c := c) (ρ := ρ) (fun i => some (i * sz', sz', g)) (fun i => some (i * sz', sz')) (fun i off n g' hp => by simp at hp ⊢; exact ⟨hp.1, hp.2.1⟩)
       ps (parts.map fun (i, x) => (i, a.eval x)) _ _ cs ck' (by simpa using hl)
       (fun j i e i' v hp hv => by
        simp only [List.getElem?_map, Option.map_eq_some_iff, Prod.mk.injEq] at hv
        obtain ⟨⟨i2, x2⟩, hx, rfl, rfl⟩ := hv
        exact hrel j i e i2 x2 hp hx) h0 hf hck.1
      have hgr := zhh ρ sz' g c3 len cs hcl (by
       intro hgf
       subst hgf
       have h2 := hck.2
       simp only [Bool.false_eq_true, if_false] at h2
       have key : ∀ (l : List SE), Chks ρ (l.map fun x => (PF.isOne, [x])) → AV.ones (dens ρ l) = true := by
        intro l
        induction l with
        | nil => intro _; rfl
        | cons x l ih =>
         intro h
         rw [List.map_cons, Chks.cons] at h
         simp only [dens, AV.ones, Bool.and_eq_true]
         exact ⟨by simpa [pok] using h.1, ih h.2⟩
       exact key cs h2)
      have hden : den ρ (.app .lst (zbS sz' g len cs)) = .sl (dens ρ (zbS sz' g len cs)) := by
       simp only [den, zmV]
      have hvl : vs'.toList.length = len * sz' := by rw [f2.length, zab, hcl]
      have hnew := hm.newRow hn0 hid (.app .lst (zbS sz' g len cs)) _ len sz' vs'.toList el hden hwf (by rw [hgr.1]; exact Nat.le_refl _) (by rw [hvl]; exact Nat.le_refl _) hgr.2.1
       (by rw [hgr.1, List.take_of_length_le (by omega), hgr.2.2]; exact f2)
      rw [hgr.1] at hnew
      refine zas (by rw [ho]; intro c h; cases h) (v := .slice (some ⟨w.heap.size, 0, none⟩) len len) (w' := w.alloc (.cells vs' el)) ?_ (hn _ _ _ (c.seth_keeps hid) ?_ hnew)
      ·have hsz2 : ¬ len * sz' > 2 ^ 24 := by omega
       have hparts : (Array.map (fun x => (x.fst, a.eval x.snd)) (⟨parts⟩ : Array (Nat × Operand))).toList = parts.map fun (i, x) => (i, a.eval x) := by simp
       have hrange : ∀ Z : Array Value, (len * sz' = 0 ∨ Z = zv.cells) → (Array.range (len * sz')).map (fun x => Z[x % Z.size]!) = (Array.range (len * sz')).map (fun x => zv.cells[x % zv.cells.size]!) := by
        intro Z hZ
        rcases hZ with h0 | h0
        ·rw [h0]
         have : Array.range 0 = #[] := by simp [Array.range]
         rw [this, Array.map_empty, Array.map_empty]
        ·rw [h0]
       simp only [execOp, ho, Instr.buildSlice, Sem.run_bind, run_underlying hu, Result.andThen_ok, (zar ht w).1, hsz2, if_false, Sem.run_pure]
       by_cases h0 : len * sz' = 0
       ·rw [if_pos h0]
        simp only [Sem.run_bind, Sem.run_pure, Result.andThen_ok]
        rw [hrange #[] (.inl h0), hparts, f1]
        rfl
       ·rw [if_neg h0]
        simp only [Sem.run_bind, z1, Sem.run_pure, Result.andThen_ok]
        rw [hrange zv.cells (.inr rfl), hparts, f1]
        rfl
      ·simp only [den]; exact .row nid _ _ _ (by simp [Cx.seth])
     ·cases hb
    ·cases hb
   ·cases hb
  ·cases hb
 ·cases hb
end Go.Lb
