/- Trees, read off: rules for zc9 proofs. -/
import Derived.Test.YtbofccnennefnaaGreatDoorFw10
import Derived.LaidMore
import Derived.LaidLaws
import Derived.MakeChecks
import Derived.OpenShut
import Derived.Deep.DeepHandedRow
set_option linter.unusedSimpArgs false
set_option linter.unusedVariables false
namespace Go.Lb
open Go.RowKit
def zaL (vs : List AV) : Nat → AV := fun i => vs.getD i .undef
@[simp] theorem znZ {vs : List AV} {n : Nat} (h : vs.length = n) (r : AV) : zaZ (zaL vs) n r = zaL (vs ++ [r]) := by
 subst h
 funext i
 unfold zaZ zaL
 simp only [List.getD_eq_getElem?_getD]
 split
 ·rename_i h; subst h; simp
 ·rename_i h
  rcases Nat.lt_trichotomy i vs.length with h1 | h1 | h1
  ·rw [List.getElem?_append_left h1]
  ·exact absurd h1 h
  ·rw [List.getElem?_eq_none (by omega), List.getElem?_eq_none (by simp; omega)]
theorem zmU {vs : List AV} {n : Nat} (h : vs.length = n) (us : List AV) : zbH (zaL vs) n us = zaL (vs ++ us) := by
 subst h
 funext i
 unfold zbH zaL
 simp only [List.getD_eq_getElem?_getD]
 split
 ·rename_i h
  rw [List.getElem?_append_right h.1]
 ·rename_i h
  by_cases h1 : i < vs.length
  ·rw [List.getElem?_append_left h1]
  ·rw [List.getElem?_eq_none (by omega), List.getElem?_eq_none (by simp; omega)]
theorem zmT {vs : List AV} (h : AV.pureAll vs = true) : ∀ i, (zaL vs i).pure = true := by
 intro i
 unfold zaL
 rw [List.getD_eq_getElem?_getD]
 by_cases hi : i < vs.length
 ·rw [List.getElem?_eq_getElem hi]; exact zfb h (List.getElem_mem hi)
 ·rw [List.getElem?_eq_none (by omega)]; rfl
@[simp] theorem zmV (a : AV) (l : List AV) : zaL (a :: l) 0 = a := rfl
@[simp] theorem zqM (a : AV) (l : List AV) (n : Nat) : zaL (a :: l) (n + 1) = zaL l n := rfl
theorem zhs {E : Env} (hE : EnvOk E) (hmix : E.P.follows .mixedOrders = true) {f n : Nat} {args : List SE} (vs : List AV) {rt : RT} (hrun : runF E f args n = rt) (hw : SE.wfs n (fun _ => false) args = true)
  (hp : AV.pureAll vs = true) {r : AV} (hr : r.pure = true) (h : RTwp E.P E.G (fun x => x = r) rt (fun _ _ => False) (zaL vs)) {avs : List AV} (ha : dens (zaL vs) args = avs) : zbC E.P E.G f avs r := by
 rw [← ha]
 exact zht hE hmix hw (zmT hp) hr (by rw [hrun]; exact h)
section
variable {P : Program} {G : Glob} {R : AV → Prop} {L : Nat → List AV → Prop} {ρ : Nat → AV} {K : (Nat → AV) → Prop}
@[simp] theorem RTwp_ret {e : SE} : RTwp P G R (.ret e) L ρ ↔ R (den ρ e) := Iff.rfl
@[simp] theorem zl7 {k : RT} : RTwp P G R (.seg [] k) L ρ ↔ RTwp P G R k L ρ := Iff.rfl
@[simp] theorem zl6 {pcs : List (SE × Bool)} {o : PF} {args : List SE} {ns : List Nd} {k : RT} : RTwp P G R (.seg (.chk pcs o args :: ns) k) L ρ ↔ ((Holds ρ pcs → pok o (dens ρ args)) ∧ RTwp P G R (.seg ns k) L ρ) := Iff.rfl
@[simp] theorem zq5 {pcs : List (SE × Bool)} {n : Nat} {e : SE} {ns : List Nd} {k : RT} : RTwp P G R (.seg (.same n pcs e :: ns) k) L ρ ↔ ((Holds ρ pcs → ρ n = den ρ e) ∧ RTwp P G R (.seg ns k) L ρ) := Iff.rfl
@[simp] theorem zqL {pcs : List (SE × Bool)} {n : Nat} {e : SE} {ns : List Nd} {k : RT} : RTwp P G R (.seg (.isNil n pcs e :: ns) k) L ρ ↔ ∀ b, (Holds ρ pcs → b = true → den ρ e = .sl []) → RTwp P G R (.seg ns k) L (zaZ ρ n (.bool b)) := Iff.rfl
@[simp] theorem znp {n : Nat} {e : SE} {ns : List Nd} {k : RT} : RTwp P G R (.seg (.bind n e :: ns) k) L ρ ↔ RTwp P G R (.seg ns k) L (zaZ ρ n (den ρ e)) := Iff.rfl
@[simp] theorem RTwp_cmp {n : Nat} {e : SE} {ns : List Nd} {k : RT} : RTwp P G R (.seg (.cmp n e :: ns) k) L ρ ↔ ∃ l : List Int, l.length ≤ 4294967296 ∧ den ρ e = .sl (l.map (AV.int .i64)) ∧ RTwp P G R (.seg ns k) L (zaZ ρ n (.sl ((za7 l).map (AV.int .i64)))) := Iff.rfl
@[simp] theorem RTwp_srt {n : Nat} {e : SE} {ns : List Nd} {k : RT} : RTwp P G R (.seg (.srt n e :: ns) k) L ρ ↔ ∃ l : List Int, l.length ≤ 4294967296 ∧ den ρ e = .sl (l.map (AV.int .i64)) ∧ RTwp P G R (.seg ns k) L (zaZ ρ n (.sl ((zb4 l).map (AV.int .i64)))) := Iff.rfl
theorem zj0 {pcs : List (SE × Bool)} {n f : Nat} {args : List SE} {bo : Bool} {ns : List Nd} {k : RT} (r : AV) (hr : r.pure = true) (hc : Holds ρ pcs → zbC P G f (dens ρ args) r ∧ (bo = true → r.scalar = true)) (h : RTwp P G R (.seg ns k) L (zaZ ρ n r)) :
  RTwp P G R (.seg (.call n pcs f args bo :: ns) k) L ρ := ⟨r, hr, hc, h⟩
theorem zew {n f : Nat} {args : List SE} {bo : Bool} {ns : List Nd} {k : RT} {r : AV} (hc : zbC P G f (dens ρ args) r) (hb : bo = true → r.scalar = true) (h : RTwp P G R (.seg ns k) L (zaZ ρ n r)) :
  RTwp P G R (.seg (.call n [] f args bo :: ns) k) L ρ := ⟨r, hc.1, fun _ => ⟨hc, hb⟩, h⟩
@[simp] theorem zqK {c : SE} {t f : RT} : RTwp P G R (.cond c t f) L ρ ↔ ∃ b, den ρ c = .bool b ∧ (b = true → RTwp P G R t L ρ) ∧ (b = false → RTwp P G R f L ρ) := Iff.rfl
@[simp] theorem zq4 {n : Nat} {i : List SE} : RTwp P G R (.dead n i) L ρ ↔ False := Iff.rfl
@[simp] theorem zqJ {id : Nat} {vals : List SE} : RTwp P G R (.again id vals) L ρ ↔ L id (dens ρ vals) := Iff.rfl
theorem zaa {id n : Nat} {init : List SE} {body : RT} {xs : List AV} (hn : xs.length = n) (I : List AV → Prop) (μ : List AV → Nat) (h0 : I (dens (zaL xs) init))
  (hb : ∀ vs, vs.length = init.length → I vs → RTwp P G R body (fun j us => if j = id then I us ∧ μ us < μ vs else L j us) (zaL (xs ++ vs))) : RTwp P G R (.loop id n init body) L (zaL xs) := by
 refine ⟨I, μ, h0, fun vs hl _ hi => ?_⟩
 rw [zmU hn]
 exact hb vs hl hi
@[simp] theorem zq3 : Holds ρ [] ↔ True := by simp [Holds]
@[simp] theorem zqI {e : SE} {b : Bool} {r : List (SE × Bool)} : Holds ρ ((e, b) :: r) ↔ den ρ e = .bool b ∧ Holds ρ r := Holds.cons
end
@[simp] theorem pv_bin (op : BinOp) (k k' : IntKind) (a b : Int) : pv (.bin op) [.int k a, .int k' b] = binI op k a b := rfl
@[simp] theorem pv_eqb (n a b : Bool) : pv (.eqb n) [.bool a, .bool b] = .bool ((a == b) != n) := rfl
@[simp] theorem pv_eqf1 (n : Bool) : pv (.eqf n) [.nilf, .nilf] = .bool (!n) := rfl
@[simp] theorem pv_eqf2 (n : Bool) (f : Nat) (x y : List AV) : pv (.eqf n) [.clo f x y, .nilf] = .bool n := rfl
@[simp] theorem pv_eqa (ks : List (Option IntKind)) (n : Bool) (x y : List AV) : pv (.eqa ks n) [.agg x, .agg y] = .bool (AV.eqs x y != n) := rfl
@[simp] theorem pv_not (b : Bool) : pv (.un .not) [.bool b] = .bool (!b) := rfl
@[simp] theorem pv_neg (k : IntKind) (n : Int) : pv (.un .neg) [.int k n] = .int k (k.wrap (0 - n)) := rfl
@[simp] theorem pv_len (es : List AV) : pv .len [.sl es] = .int .i64 es.length := rfl
@[simp] theorem pv_mm (m : Bool) (k : IntKind) (a : Int) (rest : List AV) : pv (.mm m) (.int k a :: rest) = .int k (rest.foldl (zeR m) a) := by cases rest <;> rfl
@[simp] theorem pv_conv (k k' : IntKind) (n : Int) : pv (.conv k) [.int k' n] = .int k (k.wrap n) := rfl
@[simp] theorem pv_pick (c : Bool) (a b : AV) : pv .pick [.bool c, a, b] = if c then a else b := rfl
@[simp] theorem pv_eidx (sz : Nat) (es : List AV) (k : IntKind) (i : Int) : pv (.eidx sz) [.sl es, .int k i] = .eptr es i.toNat 0 := rfl
@[simp] theorem zrE (len sz : Nat) (es : List AV) (j off : Nat) (k : IntKind) (i : Int) : pv (.eaidx len sz) [.eptr es j off, .int k i] = .eptr es j (off + i.toNat * sz) := rfl
@[simp] theorem zrF (len sz : Nat) (cs : List AV) (off : Nat) (k : IntKind) (i : Int) : pv (.eaidx len sz) [.ref cs off, .int k i] = .ref cs (off + i.toNat * sz) := rfl
@[simp] theorem pv_eoff1 (k : Nat) (es : List AV) (j off : Nat) : pv (.eoff k) [.eptr es j off] = .eptr es j (off + k) := rfl
@[simp] theorem pv_eoff2 (k : Nat) (cs : List AV) (off : Nat) : pv (.eoff k) [.ref cs off] = .ref cs (off + k) := rfl
@[simp] theorem zrG (n : Nat) (g : Bool) (es : List AV) (j off : Nat) : pv (.eload n g) [.eptr es j off] = AV.cut (es.getD j .undef).cells off n g := rfl
@[simp] theorem zrH (n : Nat) (g : Bool) (cs : List AV) (off : Nat) : pv (.eload n g) [.ref cs off] = AV.cut cs off n g := rfl
@[simp] theorem pv_part (off n : Nat) (g : Bool) (cs : List AV) : pv (.part off n g) [.agg cs] = AV.cut cs off n g := rfl
@[simp] theorem zaf (len sz off n : Nat) (g : Bool) (cs : List AV) (k : IntKind) (i : Int) : pv (.aidx len sz off n g) [.agg cs, .int k i] = AV.cut cs (i.toNat * sz + off) n g := rfl
@[simp] theorem pv_rep (k : IntKind) (n : Int) (v : AV) : pv .rep [.int k n, v] = .sl (List.replicate n.toNat v) := rfl
@[simp] theorem pv_tproj (i : Nat) (vs : List AV) : pv (.tproj i) [.tup vs] = vs.getD i .undef := rfl
@[simp] theorem zqY (es : List AV) : pv (.slice false false) [.sl es] = .sl es := rfl
@[simp] theorem zq0 (es : List AV) (k : IntKind) (l : Int) : pv (.slice true false) [.sl es, .int k l] = .sl (es.drop l.toNat) := rfl
@[simp] theorem zqZ (es : List AV) (k : IntKind) (h : Int) : pv (.slice false true) [.sl es, .int k h] = .sl (es.take h.toNat) := rfl
@[simp] theorem zq1 (es : List AV) (k k' : IntKind) (l h : Int) : pv (.slice true true) [.sl es, .int k l, .int k' h] = .sl ((es.take h.toNat).drop l.toNat) := rfl
@[simp] theorem pv_app (es fs : List AV) : pv .app [.sl es, .sl fs] = .sl (es ++ fs) := rfl
@[simp] theorem zrJ (z off n : Nat) (es : List AV) (k : IntKind) (i : Int) (v : AV) : pv (.rowset z off n) [.sl es, .int k i, v] = .sl (es.set i.toNat (AV.ofCells (es.getD i.toNat .undef) (AV.put (es.getD i.toNat .undef).cells off v.cells))) := rfl
@[simp] theorem zrI (z off n : Nat) (g : Bool) (es : List AV) (k : IntKind) (i : Int) : pv (.rowget z off n g) [.sl es, .int k i] = AV.cut (es.getD i.toNat .undef).cells off n g := rfl
@[simp] theorem pok_bin (op : BinOp) (k k' : IntKind) (a b : Int) : pok (.bin op) [.int k a, .int k' b] = zh5 op k k' b := rfl
@[simp] theorem pok_eqb (n a b : Bool) : pok (.eqb n) [.bool a, .bool b] = True := rfl
@[simp] theorem pok_eqf1 (n : Bool) : pok (.eqf n) [.nilf, .nilf] = True := rfl
@[simp] theorem pok_eqf2 (n : Bool) (f : Nat) (x y : List AV) : pok (.eqf n) [.clo f x y, .nilf] = True := rfl
@[simp] theorem pok_eqa (ks : List (Option IntKind)) (n : Bool) (x y : List AV) : pok (.eqa ks n) [.agg x, .agg y] = (AV.kinds ks x ∧ AV.kinds ks y) := rfl
@[simp] theorem pok_not (b : Bool) : pok (.un .not) [.bool b] = True := rfl
@[simp] theorem pok_neg (k : IntKind) (n : Int) : pok (.un .neg) [.int k n] = True := rfl
@[simp] theorem pok_len (es : List AV) : pok .len [.sl es] = True := rfl
@[simp] theorem pok_mm (m : Bool) (k : IntKind) (a : Int) (rest : List AV) : pok (.mm m) (.int k a :: rest) = ∀ y ∈ rest, ∃ b, y = .int k b := by cases rest <;> rfl
@[simp] theorem pok_conv (k k' : IntKind) (n : Int) : pok (.conv k) [.int k' n] = True := rfl
@[simp] theorem pok_pick (c : Bool) (a b : AV) : pok .pick [.bool c, a, b] = True := rfl
@[simp] theorem pok_eidx (sz : Nat) (es : List AV) (k : IntKind) (i : Int) : pok (.eidx sz) [.sl es, .int k i] = (0 ≤ i ∧ i < es.length ∧ (es.getD i.toNat .undef).cells.length = sz) := rfl
@[simp] theorem zqQ (len sz : Nat) (es : List AV) (j off : Nat) (k : IntKind) (i : Int) : pok (.eaidx len sz) [.eptr es j off, .int k i] = (0 ≤ i ∧ i < len) := rfl
@[simp] theorem zqR (len sz : Nat) (cs : List AV) (off : Nat) (k : IntKind) (i : Int) : pok (.eaidx len sz) [.ref cs off, .int k i] = (0 ≤ i ∧ i < len) := rfl
@[simp] theorem zrx (k : Nat) (es : List AV) (j off : Nat) : pok (.eoff k) [.eptr es j off] = True := rfl
@[simp] theorem zry (k : Nat) (cs : List AV) (off : Nat) : pok (.eoff k) [.ref cs off] = True := rfl
@[simp] theorem zqS (n : Nat) (g : Bool) (es : List AV) (j off : Nat) : pok (.eload n g) [.eptr es j off] = AV.cutOk (es.getD j .undef).cells off n g := rfl
@[simp] theorem zqT (n : Nat) (g : Bool) (cs : List AV) (off : Nat) : pok (.eload n g) [.ref cs off] = AV.cutOk cs off n g := rfl
@[simp] theorem pok_part (off n : Nat) (g : Bool) (cs : List AV) : pok (.part off n g) [.agg cs] = AV.cutOk cs off n g := rfl
@[simp] theorem pok_aidx (len sz off n : Nat) (g : Bool) (cs : List AV) (k : IntKind) (i : Int) : pok (.aidx len sz off n g) [.agg cs, .int k i] = (0 ≤ i ∧ i < len ∧ AV.cutOk cs (i.toNat * sz + off) n g) := rfl
@[simp] theorem pok_rep (k : IntKind) (n : Int) (v : AV) : pok .rep [.int k n, v] = (0 ≤ n ∧ n ≤ 4294967296 ∧ AV.ones v.cells = true) := rfl
@[simp] theorem zrz (n : Nat) (cs : List AV) : pok (.isAgg n) [.agg cs] = (cs.length = n ∧ AV.ones cs = true) := rfl
@[simp] theorem zrA (v : AV) : pok .isOne [v] = (AV.one v = true) := by cases v <;> rfl
@[simp] theorem zrB (i : Nat) (vs : List AV) : pok (.tproj i) [.tup vs] = (i < vs.length) := rfl
@[simp] theorem zqt (es : List AV) : pok (.slice false false) [.sl es] = True := rfl
@[simp] theorem zqv (es : List AV) (k : IntKind) (l : Int) : pok (.slice true false) [.sl es, .int k l] = (0 ≤ l ∧ l ≤ es.length) := rfl
@[simp] theorem zqu (es : List AV) (k : IntKind) (h : Int) : pok (.slice false true) [.sl es, .int k h] = (0 ≤ h ∧ h ≤ es.length) := rfl
@[simp] theorem zqw (es : List AV) (k k' : IntKind) (l h : Int) : pok (.slice true true) [.sl es, .int k l, .int k' h] = (0 ≤ l ∧ l ≤ h ∧ h ≤ es.length) := rfl
@[simp] theorem pok_app (es fs : List AV) : pok .app [.sl es, .sl fs] = (es.length + fs.length ≤ 4294967296) := rfl
@[simp] theorem pok_szs (sz : Nat) (es : List AV) : pok (.szs sz) [.sl es] = ∀ e ∈ es, e.cells.length = sz ∧ AV.ones e.cells = true := rfl
@[simp] theorem pok_inr (len : Nat) (k : IntKind) (i : Int) : pok (.inr len) [.int k i] = (0 ≤ i ∧ i < len) := rfl
@[simp] theorem zqV (z off n : Nat) (es : List AV) (k : IntKind) (i : Int) (v : AV) : pok (.rowset z off n) [.sl es, .int k i, v] = (0 ≤ i ∧ i < es.length ∧ (es.getD i.toNat .undef).cells.length = z ∧ v.cells.length = n ∧ AV.ones v.cells = true ∧ off + n ≤ z) := rfl
abbrev I (n : Int) : AV := .int .i64 n
abbrev U (n : Int) : AV := .int .u8 n
abbrev ints (l : List Int) : AV := .sl (l.map I)
theorem zog (l : List Int) : AV.pureAll (l.map I) = true := by
 induction l with
 | nil => rfl
 | cons x l ih => simp [AV.pureAll, AV.pure, ih]
end Go.Lb
namespace Go.Lb
open Go.RowKit Go.ChangeShapes Go.WideShapes Go.ChangeAt
def zie (P : Program) (n : Nat) : List TypeId → List AV → Prop
 | [], as => as = []
 | t :: ts, as => ∃ x xs, as = x :: xs ∧ Ty P n t x.cells ∧ (isSt P t = true ↔ ∃ cs, x = .agg cs) ∧ zie P n ts xs
theorem zpS (w : World) : Imm (Cx.all w) w := ⟨fun _ _ _ h => h, fun _ _ h => h⟩
theorem zq9 (w : World) : ∀ b, b ≥ w.heap.size → (∀ off v, (Cx.all w).I b off ≠ some v) ∧ (∀ ob, (Cx.all w).M b ≠ some ob) := by
 intro b hb
 refine ⟨fun off v h => ?_, fun ob h => ?_⟩
 ·have h : w.cell? ⟨b, off, none⟩ = some v := h
  unfold World.cell? at h
  rw [Array.getElem?_eq_none (by omega)] at h
  simp at h
 ·have h : w.heap[b]? = some ob := h
  rw [Array.getElem?_eq_none (by omega)] at h
  cases h
section
variable {H : Type} {enc : TypeId × Value → H} {P : Program} {w : World} {base : Nat} {held : Bool}
theorem zpo {n : Nat} {t : TypeId} {v : Value} {d : DataW H} {ps : List MemPlace} (hp : zbl P n t = true) (hok : Value.okWide P w .any base t v) (h : DataW.Trod enc P w 0 (fun _ => true) held t v d ps) :
  ∃ x, Rv (Cx.all w) x v ∧ Ty P n t x.cells ∧ (isSt P t = true ↔ ∃ cs, x = .agg cs) ∧ Small [d] [x] := by
 obtain ⟨fuel, hf⟩ := h
 obtain ⟨as, h1, h2, h3, h4s⟩ := zpn n fuel t _ _ hp hf
 by_cases hs : isSt P t = true
 ·have : ∃ cs, v = .agg cs := by
   unfold isSt at hs
   split at hs
   ·rename_i fs ht
    simp only [Value.okWide, ht] at hok
    obtain ⟨cs, rfl, _⟩ := hok; exact ⟨cs, rfl⟩
   ·rename_i fs ht
    simp only [Value.okWide, ht] at hok
    obtain ⟨cs, rfl, _⟩ := hok; exact ⟨cs, rfl⟩
   ·cases hs
  obtain ⟨cs, rfl⟩ := this
  exact ⟨.agg as, .agg as cs.toList h1, h2, ⟨fun _ => ⟨as, rfl⟩, fun _ => hs⟩, fun bk B hb => ⟨h4s bk B hb, trivial⟩⟩
 ·have hna : v.cells.toList = [v] ∧ ∃ a, as = [a] ∧ ∀ cs, a ≠ .agg cs := by
   cases n with
   | zero => exact h2.elim
   | succ n =>
    simp only [Ty] at h2
    unfold isSt at hs
    split at h2
    ·rename_i ht
     obtain ⟨b, rfl⟩ := okWide_bool ht hok
     obtain ⟨b', rfl⟩ := h2
     exact ⟨rfl, _, rfl, by simp⟩
    ·rename_i k ht
     obtain ⟨m, rfl⟩ := okWide_int ht hok
     obtain ⟨b', rfl, _⟩ := h2
     exact ⟨rfl, _, rfl, by simp⟩
    ·rename_i e ht
     obtain ⟨a, len, cap, rfl⟩ := okWide_slice ht hok
     obtain ⟨b', rfl, _⟩ := h2
     exact ⟨rfl, _, rfl, by simp⟩
    ·rename_i fs ht; rw [ht] at hs; simp at hs
    ·rename_i fs e ht; rw [ht] at hs; simp at hs
    ·exact h2.elim
  obtain ⟨h4, a, rfl, h5⟩ := hna
  rw [h4] at h1
  cases h1 with
  | cons _ _ _ _ h6 h7 =>
   refine ⟨a, h6, ?_, ⟨fun h => absurd h hs, fun ⟨cs, h⟩ => absurd h (h5 cs)⟩, h4s⟩
   have : a.cells = [a] := by cases a <;> first | rfl | exact absurd rfl (h5 _)
   rw [this]; exact h2
theorem zkR {n : Nat} : ∀ (ts : List TypeId) (vs : List Value) (ds : List (DataW H)) (ps : List MemPlace), (∀ t ∈ ts, zbl P n t = true) →
  (∀ (j : Nat) t v, ts[j]? = some t → vs[j]? = some v → Value.okWide P w .any base t v) → DataW.TrodAll enc P w 0 (fun _ => true) held ts vs ds ps → ∃ as, Rvs (Cx.all w) as vs ∧ zie P n ts as ∧ Small ds as
 | [], vs, ds, ps, _, _, h => by
  obtain ⟨rfl, rfl, rfl⟩ := trodAll_nil h
  exact ⟨[], .nil, rfl, fun _ _ _ => trivial⟩
 | t :: ts, vs, ds, ps, hp, hok, h => by
  obtain ⟨v, vs1, d, ds1, a, b, rfl, rfl, rfl, h1, h2⟩ := trodAll_cons h
  obtain ⟨x, r1, r2, r3, r6⟩ := zpo (hp t (by simp)) (hok 0 t v rfl rfl) h1
  obtain ⟨xs, r4, r5, r7⟩ := zkR ts vs1 ds1 b (fun t ht => hp t (by simp [ht])) (fun j t v h3 h4 => hok (j + 1) t v (by simpa using h3) (by simpa using h4)) h2
  exact ⟨x :: xs, .cons _ _ _ _ r1 r4, ⟨x, xs, rfl, r2, r3, r5⟩, fun bk B hb => ⟨(r6 bk B fun q hq => by rw [List.mem_singleton.1 hq]; exact hb d (List.mem_cons_self ..)).1, r7 bk B fun q hq => hb q (List.mem_cons_of_mem _ hq)⟩⟩
theorem zk4 (hl : laidOutB P = true) {w' : World} (hb : Below w.heap.size w w') : ∀ (ts : List TypeId) (vs : List Value) (ds : List (DataW H)) (ps : List MemPlace), (∀ t ∈ ts, P.readableRec t = true ∧ t < P.types.size) → (∀ p ∈ ps, p.block < w.heap.size) →
  DataW.TrodAll enc P w 0 (fun _ => true) true ts vs ds ps → DataW.TrodAll enc P w' 0 (fun b => decide (b < w.heap.size)) true ts vs ds ps
 | [], vs, ds, ps, _, _, h => by
  obtain ⟨rfl, rfl, rfl⟩ := trodAll_nil h
  rfl
 | t :: ts, vs, ds, ps, hp, hlt, h => by
  obtain ⟨v, vs1, d, ds1, a, b, rfl, rfl, rfl, h1, h2⟩ := trodAll_cons h
  have := hp t (by simp)
  exact ⟨a, b, Below.trod hl this.1 this.2 h1 hb (fun x hx => hlt x (by simp [hx])), zk4 hl hb ts vs1 ds1 b (fun t ht => hp t (by simp [ht])) (fun x hx => hlt x (by simp [hx])) h2, rfl⟩
end
end Go.Lb
namespace Go.Lb
open Go.RowKit Go.ChangeShapes
inductive TS where
 | bool
 | int (k : IntKind)
 | sl (st : Bool) (e : TS)
 | agg (ts : List TS)
 | no
 deriving Inhabited, Repr
def zgO (st : Bool) (x : AV) : Prop := st = true ↔ ∃ cs, x = .agg cs
mutual
def TS.fits : TS → List AV → Prop
 | .bool, as => ∃ b, as = [.bool b]
 | .int k, as => ∃ m, as = [.int k m] ∧ k.min ≤ m ∧ m ≤ k.max
 | .sl st e, as => ∃ es, as = [.sl es] ∧ es.length ≤ maxLen ∧ ∀ x ∈ es, TS.fits e x.cells ∧ zgO st x
 | .agg ts, as => TS.fitsAll ts as
 | .no, _ => False
def TS.fitsAll : List TS → List AV → Prop
 | [], as => as = []
 | t :: ts, as => ∃ p q, as = p ++ q ∧ TS.fits t p ∧ TS.fitsAll ts q
end
def tyS (P : Program) : Nat → TypeId → TS
 | 0, _ => .no
 | n + 1, t => match P.underlying t with
  | some .bool => .bool
  | some (.int k) => .int k
  | some (.slice e) => .sl (isSt P e) (tyS P n e)
  | some (.struct fs) => .agg (fs.toList.map fun f => tyS P n f.type)
  | some (.array k e) => .agg (List.replicate k (tyS P n e))
  | _ => .no
theorem zpQ {P : Program} : ∀ (n : Nat) (t : TypeId) (as : List AV), Ty P n t as → (tyS P n t).fits as := by
 intro n
 induction n with
 | zero => intro t as h; exact h.elim
 | succ n ih =>
  intro t as h
  simp only [Ty] at h
  unfold tyS
  split at h <;> first | exact h.elim | (rename_i heq; (try rw [heq]); clear heq)
  ·simpa only [TS.fits] using h
  ·simpa only [TS.fits] using h
  ·obtain ⟨es, h1, h2, h3⟩ := h
   simp only [TS.fits]
   exact ⟨es, h1, h2, fun x hx => ⟨ih _ _ (h3 x hx).1, (h3 x hx).2⟩⟩
  ·rename_i fs
   simp only [TS.fits]
   have : ∀ (fs : List Field) (as : List AV), TyFs (Ty P n) fs as → TS.fitsAll (fs.map fun f => tyS P n f.type) as := by
    intro fs
    induction fs with
    | nil => intro as h; exact h
    | cons f fs ihf =>
     intro as h
     obtain ⟨p, q, h1, h2, h3⟩ := h
     exact ⟨p, q, h1, ih _ _ h2, ihf _ h3⟩
   exact this _ _ h
  ·rename_i k e
   simp only [TS.fits]
   have : ∀ (k : Nat) (as : List AV), zl8 (Ty P n e) k as → TS.fitsAll (List.replicate k (tyS P n e)) as := by
    intro k
    induction k with
    | zero => intro as h; exact h
    | succ k ihf =>
     intro as h
     obtain ⟨p, q, h1, h2, h3⟩ := h
     exact ⟨p, q, h1, ih _ _ h2, ihf _ h3⟩
   exact this _ _ h
def zn2 : List (Bool × TS) → List AV → Prop
 | [], as => as = []
 | t :: ts, as => ∃ x xs, as = x :: xs ∧ t.2.fits x.cells ∧ zgO t.1 x ∧ zn2 ts xs
def zpU (P : Program) (n : Nat) (ts : List TypeId) : List (Bool × TS) := ts.map fun t => (isSt P t, tyS P n t)
theorem zeT {P : Program} {n : Nat} : ∀ (ts : List TypeId) (as : List AV), zie P n ts as → zn2 (zpU P n ts) as
 | [], _, h => h
 | t :: ts, as, h => by
  obtain ⟨x, xs, h1, h2, h3, h4⟩ := h
  exact ⟨x, xs, h1, zpQ _ _ _ h2, h3, zeT ts xs h4⟩
@[simp] theorem zkz {as : List AV} : TS.fits .bool as ↔ ∃ b, as = [.bool b] := by rw [TS.fits]
@[simp] theorem zjq {k : IntKind} {as : List AV} : TS.fits (.int k) as ↔ ∃ m, as = [.int k m] ∧ k.min ≤ m ∧ m ≤ k.max := by rw [TS.fits]
theorem zn3 {st : Bool} {e : TS} {as : List AV} : TS.fits (.sl st e) as ↔ ∃ es, as = [.sl es] ∧ es.length ≤ maxLen ∧ ∀ x ∈ es, TS.fits e x.cells ∧ zgO st x := by rw [TS.fits]
theorem zbN {ts : List TS} {as : List AV} : TS.fits (.agg ts) as ↔ TS.fitsAll ts as := by rw [TS.fits]
theorem zaT {as : List AV} : TS.fitsAll [] as ↔ as = [] := by rw [TS.fitsAll]
theorem zbv {t : TS} {ts : List TS} {as : List AV} : TS.fitsAll (t :: ts) as ↔ ∃ p q, as = p ++ q ∧ TS.fits t p ∧ TS.fitsAll ts q := by rw [TS.fitsAll]
theorem zaS {k : IntKind} {ts : List TS} {as : List AV} : TS.fitsAll (.int k :: ts) as ↔ ∃ m q, as = .int k m :: q ∧ (k.min ≤ m ∧ m ≤ k.max) ∧ TS.fitsAll ts q := by
 rw [zbv]
 constructor
 ·rintro ⟨p, q, rfl, h1, h2⟩
  obtain ⟨m, rfl, h3⟩ := zjq.1 h1
  exact ⟨m, q, rfl, h3, h2⟩
 ·rintro ⟨m, q, rfl, h1, h2⟩
  exact ⟨[.int k m], q, rfl, zjq.2 ⟨m, rfl, h1⟩, h2⟩
theorem zgC {ts : List TS} {as : List AV} : TS.fitsAll (.bool :: ts) as ↔ ∃ m q, as = .bool m :: q ∧ TS.fitsAll ts q := by
 rw [zbv]
 constructor
 ·rintro ⟨p, q, rfl, h1, h2⟩
  obtain ⟨m, rfl⟩ := zkz.1 h1
  exact ⟨m, q, rfl, h2⟩
 ·rintro ⟨m, q, rfl, h2⟩
  exact ⟨[.bool m], q, rfl, zkz.2 ⟨m, rfl⟩, h2⟩
theorem zbE {st : Bool} {e : TS} {ts : List TS} {as : List AV} : TS.fitsAll (.sl st e :: ts) as ↔ ∃ es q, as = .sl es :: q ∧ (es.length ≤ maxLen ∧ ∀ x ∈ es, TS.fits e x.cells ∧ zgO st x) ∧ TS.fitsAll ts q := by
 rw [zbv]
 constructor
 ·rintro ⟨p, q, rfl, h1, h2⟩
  obtain ⟨m, rfl, h3⟩ := zn3.1 h1
  exact ⟨m, q, rfl, h3, h2⟩
 ·rintro ⟨m, q, rfl, h1, h2⟩
  exact ⟨[.sl m], q, rfl, zn3.2 ⟨m, rfl, h1⟩, h2⟩
theorem zaR {us ts : List TS} {as : List AV} : TS.fitsAll (.agg us :: ts) as ↔ TS.fitsAll (us ++ ts) as := by
 have : ∀ (us ts : List TS) (as : List AV), TS.fitsAll (us ++ ts) as ↔ ∃ p q, as = p ++ q ∧ TS.fitsAll us p ∧ TS.fitsAll ts q := by
  intro us
  induction us with
  | nil => intro ts as; simp only [List.nil_append, zaT]; exact ⟨fun h => ⟨[], as, rfl, rfl, h⟩, fun ⟨p, q, h1, h2, h3⟩ => by subst h2; subst h1; exact h3⟩
  | cons u us ih =>
   intro ts as
   rw [List.cons_append, zbv]
   constructor
   ·rintro ⟨p, q, rfl, h1, h2⟩
    obtain ⟨p', q', rfl, h3, h4⟩ := (ih _ _).1 h2
    exact ⟨p ++ p', q', by simp, zbv.2 ⟨p, p', rfl, h1, h3⟩, h4⟩
   ·rintro ⟨p, q, rfl, h1, h2⟩
    obtain ⟨p', q', rfl, h3, h4⟩ := zbv.1 h1
    exact ⟨p', q' ++ q, by simp, h3, (ih _ _).2 ⟨q', q, rfl, h4, h2⟩⟩
 rw [zbv, this]
 simp only [zbN]
theorem zfL {α : Type} {T : TS} {g : α → AV} (hg : ∀ cs, T.fits cs → ∃ a, AV.agg cs = g a) : ∀ es : List AV, (∀ x ∈ es, T.fits x.cells ∧ zgO true x) → ∃ l : List α, es = l.map g
 | [], _ => ⟨[], rfl⟩
 | e :: es, h => by
  obtain ⟨h1, h2⟩ := h e (by simp)
  obtain ⟨cs, rfl⟩ := h2.1 rfl
  obtain ⟨a, ha⟩ := hg cs h1
  obtain ⟨l, hl⟩ := zfL hg es fun x hx => h x (by simp [hx])
  exact ⟨a :: l, by rw [ha, hl]; rfl⟩
theorem zlY {α : Type} {T : TS} {g : α → AV} {Q : α → Prop} (hg : ∀ cs, T.fits cs → ∃ a, AV.agg cs = g a ∧ Q a) : ∀ es : List AV, (∀ x ∈ es, T.fits x.cells ∧ zgO true x) → ∃ l : List α, es = l.map g ∧ ∀ a ∈ l, Q a
 | [], _ => ⟨[], rfl, by simp⟩
 | e :: es, h => by
  obtain ⟨h1, h2⟩ := h e (by simp)
  obtain ⟨cs, rfl⟩ := h2.1 rfl
  obtain ⟨a, ha, hq⟩ := hg cs h1
  obtain ⟨l, hl, hq2⟩ := zlY hg es fun x hx => h x (by simp [hx])
  refine ⟨a :: l, by rw [ha, hl]; rfl, fun b hb => ?_⟩
  rcases List.mem_cons.1 hb with rfl | hb
  ·exact hq
  ·exact hq2 b hb
@[simp] theorem i64_min : IntKind.i64.min = -9223372036854775808 := by decide +kernel
@[simp] theorem i64_max : IntKind.i64.max = 9223372036854775807 := by decide +kernel
@[simp] theorem u8_min : IntKind.u8.min = 0 := by decide +kernel
@[simp] theorem u8_max : IntKind.u8.max = 255 := by decide +kernel
end Go.Lb
namespace Go.Lb
open Go.RowKit Go.ChangeShapes
@[simp] theorem mm_max (a b : Int) (k : IntKind) : zeR true a (.int k b) = max a b := by
 simp only [zeR]; split <;> omega
@[simp] theorem mm_min (a b : Int) (k : IntKind) : zeR false a (.int k b) = min a b := by
 simp only [zeR]; split <;> omega
@[simp] theorem zqU (z off n : Nat) (g : Bool) (es : List AV) (k : IntKind) (i : Int) : pok (.rowget z off n g) [.sl es, .int k i] = (0 ≤ i ∧ i < es.length ∧ (es.getD i.toNat .undef).cells.length = z ∧ AV.cutOk (es.getD i.toNat .undef).cells off n g) := rfl
@[simp] theorem ziA (l : List Int) : (ints l).pure = true := by simp [AV.pure, zog]
theorem zac (xs ys : List AV) : AV.pureAll (xs ++ ys) = (AV.pureAll xs && AV.pureAll ys) := by
 induction xs with
 | nil => simp [AV.pureAll]
 | cons x xs ih => simp [AV.pureAll, ih, Bool.and_assoc]
theorem zbB {n : Int} (h1 : -9223372036854775808 ≤ n) (h2 : n ≤ 9223372036854775807) : IntKind.i64.wrap n = n := by
 simp [IntKind.wrap, IntKind.signed, IntKind.bits]; split <;> omega
theorem zab {i : Nat} (h : i ≤ 4294967296) : IntKind.i64.wrap ((i : Int) + 1) = ((i + 1 : Nat) : Int) := by rw [zbB] <;> omega
theorem zaV {α : Type} (f : α → AV) (h : ∀ x, (f x).pure = true) (l : List α) : AV.pureAll (l.map f) = true := by
 induction l with
 | nil => rfl
 | cons x l ih => simp [AV.pureAll, h, ih]
section
variable {H : Type}
def zfx (f : DataW H → Option (List Value)) : List (DataW H) → Option (List Value)
 | [] => some []
 | d :: ds => match f d, zfx f ds with
  | some a, some b => some (a ++ b)
  | _, _ => none
def zfy : Nat → DataW H → Option (List Value)
 | 0, _ => none
 | _ + 1, .lit (.bool b) => some [.bool b]
 | _ + 1, .lit (.int k m) => some [.int k m]
 | n + 1, .agg parts => zfx (zfy n) parts
 | _ + 1, _ => none
variable {enc : TypeId × Value → H} {P : Program} {w : World} {base : Nat} {spare : Nat → Bool} {held : Bool}
theorem zhE {f : DataW H → Option (List Value)} {d : DataW H} {ds : List (DataW H)} {vs : List Value} (h : zfx f (d :: ds) = some vs) : ∃ a b, f d = some a ∧ zfx f ds = some b ∧ vs = a ++ b := by
 simp only [zfx] at h
 split at h
 ·rename_i a b h1 h2
  simp only [Option.some.injEq] at h
  exact ⟨a, b, h1, h2, h.symm⟩
 ·cases h
theorem zhF {n fuel zcn : Nat} {cs : List Value} (ih : ∀ (t : TypeId) (cs : List Value) (y : DataW H × List MemPlace) (vs : List Value), zbl P n t = true → DataW.trod enc P w base spare held fuel t cs = some y → zfy n y.1 = some vs → cs = vs)
  (hl : cs.length = zcn) : ∀ (fs : List Field) (off : Nat) (xs : List (DataW H × List MemPlace)) (vs : List Value), zk9 P fs off zcn = true → (fs.all fun f => zbl P n f.type) = true →
   fs.mapM (fun f => DataW.trod enc P w base spare held fuel f.type ((cs.drop f.offset).take (P.cellsOf f.type))) = some xs → zfx (zfy n) (xs.map (·.1)) = some vs → cs.drop off = vs
 | [], off, xs, vs, ht, hp, h, hv => by
  simp only [zk9, decide_eq_true_eq] at ht
  simp at h; subst h
  simp [zfx] at hv; subst hv
  exact List.drop_of_length_le (by omega)
 | f :: fs, off, xs, vs, ht, hp, h, hv => by
  simp only [zk9, Bool.and_eq_true, decide_eq_true_eq] at ht
  simp only [List.all_cons, Bool.and_eq_true] at hp
  rw [List.mapM_cons] at h
  simp only [Option.bind_eq_bind, Option.pure_def] at h
  obtain ⟨y, h1, h2⟩ := Option.bind_eq_some_iff.1 h
  obtain ⟨ys, h3, h4⟩ := Option.bind_eq_some_iff.1 h2
  simp only [Option.some.injEq] at h4; subst h4
  rw [List.map_cons] at hv
  obtain ⟨a, b, v1, v2, rfl⟩ := zhE hv
  have e1 := ih _ _ y a hp.1 h1 v1
  have e2 := zhF ih hl fs _ ys b ht.2 hp.2 h3 v2
  rw [← e1, ← e2, ht.1, ← List.drop_drop, List.take_append_drop]
theorem zkI {n fuel sz : Nat} {e : TypeId} {cs : List Value} (ih : ∀ (cs : List Value) (y : DataW H × List MemPlace) (vs : List Value), DataW.trod enc P w base spare held fuel e cs = some y → zfy n y.1 = some vs → cs = vs) :
  ∀ (k i : Nat) (xs : List (DataW H × List MemPlace)) (vs : List Value), cs.length = (i + k) * sz →
   (List.range' i k).mapM (fun i => DataW.trod enc P w base spare held fuel e ((cs.drop (i * sz)).take sz)) = some xs → zfx (zfy n) (xs.map (·.1)) = some vs → cs.drop (i * sz) = vs
 | 0, i, xs, vs, hl, h, hv => by
  simp at h; subst h
  simp [zfx] at hv; subst hv
  exact List.drop_of_length_le (by rw [hl]; simp)
 | k + 1, i, xs, vs, hl, h, hv => by
  rw [List.range'_succ, List.mapM_cons] at h
  simp only [Option.bind_eq_bind, Option.pure_def] at h
  obtain ⟨y, h1, h2⟩ := Option.bind_eq_some_iff.1 h
  obtain ⟨ys, h3, h4⟩ := Option.bind_eq_some_iff.1 h2
  simp only [Option.some.injEq] at h4; subst h4
  rw [List.map_cons] at hv
  obtain ⟨a, b, v1, v2, rfl⟩ := zhE hv
  have e1 := ih _ y a h1 v1
  have e2 := zkI ih k (i + 1) ys b (by rw [hl]; congr 1; omega) h3 v2
  rw [← e1, ← e2, Nat.succ_mul, ← List.drop_drop, List.take_append_drop]
theorem zoL : ∀ (n fuel : Nat) (t : TypeId) (cs : List Value) (y : DataW H × List MemPlace) (vs : List Value), zbl P n t = true →
  DataW.trod enc P w base spare held fuel t cs = some y → zfy n y.1 = some vs → cs = vs := by
 intro n
 induction n with
 | zero => intro fuel t cs y vs h; simp [zbl] at h
 | succ n ih =>
  intro fuel t cs y vs hp h hv
  simp only [zbl] at hp
  split at hp
  ·rename_i ht
   obtain ⟨b, rfl, rfl⟩ := DataW.trod_bool ht h
   simpa [zfy] using hv
  ·rename_i k ht
   obtain ⟨m, rfl, rfl, _⟩ := DataW.trod_int ht h
   simpa [zfy] using hv
  ·rename_i e ht
   cases fuel with
   | zero => simp [DataW.trod] at h
   | succ fuel =>
    unfold DataW.trod at h
    rw [ht] at h
    split at h <;> try (simp_all; done)
    ·simp only [Option.some.injEq] at h; subst h; simp [zfy] at hv
    ·dsimp only at h
     split at h
     ·obtain ⟨elems, h3, h4⟩ := Option.bind_eq_some_iff.1 h
      obtain ⟨rest, h5, h6⟩ := Option.map_eq_some_iff.1 h4
      subst h6
      simp [zfy] at hv
     ·cases h
  ·rename_i fs ht
   cases fuel with
   | zero => simp [DataW.trod] at h
   | succ fuel =>
    unfold DataW.trod at h
    rw [ht] at h
    split at h <;> try (simp_all; done)
    rename_i fs' h1
    cases h1
    split at h
    ·rename_i hc
     obtain ⟨xs, h3, h4⟩ := Option.map_eq_some_iff.1 h
     subst h4
     simp only [Bool.and_eq_true] at hp
     have := zhF (n := n) (fun t cs y vs hy h hv => ih fuel t cs y vs hy h hv) hc fs.toList 0 xs vs hp.1 hp.2 h3 (by simpa only [zfy] using hv)
     simpa using this
    ·cases h
  ·rename_i k e ht
   cases fuel with
   | zero => simp [DataW.trod] at h
   | succ fuel =>
    unfold DataW.trod at h
    rw [ht] at h
    split at h <;> try (simp_all; done)
    rename_i k' e' h1
    cases h1
    split at h
    ·rename_i hc
     obtain ⟨xs, h3, h4⟩ := Option.map_eq_some_iff.1 h
     subst h4
     simp only [Bool.and_eq_true, decide_eq_true_eq] at hp
     rw [List.range_eq_range'] at h3
     have := zkI (n := n) (sz := P.cellsOf e) (fun cs y vs h hv => ih fuel e cs y vs hp.2 h hv) k 0 xs vs (by rw [hc, ← hp.1]; simp) h3 (by simpa only [zfy] using hv)
     simpa using this
    ·cases h
  ·cases hp
theorem zd0 {c : Cx} {b : Nat} : ∀ (as : List AV) (vs : List Value) (o : Nat), Rvs c as vs → (∀ j, j < vs.length → c.I b (o + j) = vs[j]?) → Rcells c b o as
 | [], _, o, _, _ => .nil _ _
 | a :: as, _, o, h, hc => by
  cases h with
  | cons _ v _ vs h1 h2 =>
   have hv := hc 0 (by simp)
   simp only [Nat.add_zero, List.getElem?_cons_zero] at hv
   refine .cons _ _ _ v _ hv h1 (zd0 as vs (o + 1) h2 fun j hj => ?_)
   have := hc (j + 1) (by simpa using hj)
   rw [show o + 1 + j = o + (j + 1) from by omega, this]; simp
end
def lit1 : SE → Option Value
 | .bool b => some (.bool b)
 | .int k n => some (.int k n)
 | _ => none
def litL : List SE → Option (List Value)
 | [] => some []
 | e :: es => match lit1 e, litL es with
  | some v, some vs => some (v :: vs)
  | _, _ => none
theorem ziG {c : Cx} {ρ : Nat → AV} : ∀ (es : List SE) (vs : List Value), litL es = some vs → Rvs c (dens ρ es) vs
 | [], vs, h => by simp only [litL, Option.some.injEq] at h; subst h; exact .nil
 | e :: es, vs, h => by
  simp only [litL] at h
  split at h
  ·rename_i v vs' h1 h2
   simp only [Option.some.injEq] at h; subst h
   refine .cons _ _ _ _ ?_ (ziG es vs' h2)
   cases e <;> simp [lit1] at h1
   ·subst h1; exact .bool _
   ·subst h1; exact .int _ _
  ·cases h
def vsEq : List Value → List Value → Bool
 | [], [] => true
 | .bool a :: x, .bool b :: y => (a == b) && vsEq x y
 | .int k a :: x, .int k' b :: y => decide (k = k') && decide (a = b) && vsEq x y
 | _, _ => false
theorem zl3 : ∀ (a b : List Value), vsEq a b = true → a = b
 | [], [], _ => rfl
 | .bool a :: x, .bool b :: y, h => by
  simp only [vsEq, Bool.and_eq_true, beq_iff_eq] at h
  rw [h.1, zl3 x y h.2]
 | .int k a :: x, .int k' b :: y, h => by
  simp only [vsEq, Bool.and_eq_true, decide_eq_true_eq] at h
  rw [h.1.1, h.1.2, zl3 x y h.2]
theorem ziD {P : Program} {w : World} {n : Nat} : ∀ {laid : List (String × DataW Unit)} {ps : List MemPlace}, DataW.LaidVars P w laid ps → ∀ (x : String) (d : DataW Unit), (x, d) ∈ laid → ∀ (g : Nat) (t : TypeId) (vs : List Value), P.globalNamed x = some g → (P.globals[g]?).map (·.type) = some t →
  zbl P n t = true → zfy n d = some vs → ∀ j, w.cell? ⟨g, j, none⟩ = vs[j]?
 | [], _, _, x, d, h => by cases h
 | (x', d') :: r, ps, h, x, d, hx => by
  intro g t vs hg ht hp hv j
  obtain ⟨g', t', cs, fuel, p, q, h1, h2, h3, h4, h5, _⟩ := h
  rcases List.mem_cons.1 hx with he | hx
  ·cases he
   obtain rfl := Option.some.inj (hg.symm.trans h1)
   obtain rfl := Option.some.inj (ht.symm.trans h2)
   have := zoL n fuel t cs.toList (_, p) vs hp h4 hv
   have hc := World.var?_cell hg h3 j
   rw [hc, ← this]; simp
  ·exact ziD h5 x d hx g t vs hg ht hp hv j
theorem zeP {P : Program} {laid : List (String × DataW Unit)} {G : Glob} (n : Nat) (hpl : (laid.all fun x => x.2.handleName?.isNone) = true)
  (hG : (List.range G.length).all (fun g => match G[g]? with
   | some [] => true
   | some es => (match litL es with
    | some vs => laid.any fun x => decide (P.globalNamed x.1 = some g) && (match (P.globals[g]?).map (·.type) with
     | some t => zbl P n t && (match zfy n x.2 with
      | some us => vsEq us vs
      | none => false)
     | none => false)
    | none => false)
   | none => true) = true) {w : World} (h : laidMetH P laid w) : zb8 G (Cx.all w) := by
 rw [MakeChecks.laidMetH_plain _ _ _ hpl] at h
 obtain ⟨ps, h1, _⟩ := h
 intro g es hg
 have hlt : g < G.length := (List.getElem?_eq_some_iff.1 hg).1
 have hx := List.all_eq_true.1 hG g (List.mem_range.2 hlt)
 rw [hg] at hx
 cases es with
 | nil => exact .nil _ _
 | cons e es =>
  simp only at hx
  split at hx
  ·rename_i vs hvs
   obtain ⟨⟨x, d⟩, hm, hx⟩ := List.any_eq_true.1 hx
   simp only [Bool.and_eq_true, decide_eq_true_eq] at hx
   obtain ⟨hn, hx⟩ := hx
   split at hx
   ·rename_i t ht
    simp only [Bool.and_eq_true] at hx
    obtain ⟨hp, hx⟩ := hx
    split at hx
    ·rename_i us hus
     have hx := zl3 _ _ hx; subst hx
     refine zd0 _ us 0 (ziG _ _ hvs) fun j hj => ?_
     have := ziD h1 x d hm g t us hn ht hp hus j
     simpa [Cx.all] using this
    ·cases hx
   ·cases hx
  ·cases hx
theorem zmp {C : Checked} (os : Os) (started : os.Started) {f : FuncId} {fn : Func} {s : ChangeSpec} {tb : TypeId} (n : Nat) (H : Type) (enc : TypeId × Value → H) {laid : List (String × DataW Unit)} {G : Glob}
  (hpl : (laid.all fun x => x.2.handleName?.isNone) = true) (own : ownKnob C.prog.godebug = none) (hl : laidOutB C.prog = true) (noInit : C.prog.inits.idxOf? f = none) (hfn : C.prog.funcs[f]? = some fn)
  (witness : ∃ (w : World) (tape : Tape) (i : Input), w.os = os ∧ (w.forCall tape i).Shaped C.prog ∧ i.vars = [] ∧ Input.okWide C.prog (w.forCall tape i) .any w.heap.size f i ∧
   ((s.pre enc C.prog fn [] false (w.forCall tape i).memory i.args ∧ laidMetH C.prog laid (w.forCall tape i).memory) ∧ sizedMet enc C.prog fn (OpenSpec.ofChange s) false (w.forCall tape i).memory i.args) ∧ ({} : Assume).holds C.prog (lone (Frame.enter C.prog f i.args .normal) [] (w.forCall tape i)))
  (hvars : s.vars = []) (hres : fn.resultTypes = #[tb]) (htb : C.prog.underlying tb = some .bool) (hpar : fn.params.toList.all (fun t => zbl C.prog n t && C.prog.readableRec t && decide (t < C.prog.types.size)) = true)
  (hfnr : ∀ ds : List (DataW H), ds.length = fn.params.size → (s.fn H ds).results = [.lit (.bool true)] ∧ (s.fn H ds).args = ds ∧ (s.fn H ds).vars = [])
  (hG : ∀ w, laidMetH C.prog laid w → zb8 G (Cx.all w))
  (hC : ∀ avs, zie C.prog n fn.params.toList avs → zbC C.prog G f avs (.bool true)) :
  ReturnsInHanded {} C os f .any (fun w args => (s.pre enc C.prog fn [] false w args ∧ laidMetH C.prog laid w) ∧ sizedMet enc C.prog fn (OpenSpec.ofChange s) false w args) (s.post enc C.prog fn false true false false) := by
 refine returnsInHanded_of_change_and (X := fun w _ => laidMetH C.prog laid w) (fun _ _ _ hh h => by simp only [MakeChecks.laidMetH_plain _ _ _ hpl] at h ⊢; exact h.of_heap hh) own started noInit hfn witness ?_
 intro W base args ds gs before hval hW _ _ hL _
 have hW' := hW
 obtain ⟨p, q, hA, hV, rfl, hfz, hnd⟩ := hW
 rw [hvars] at hV
 obtain ⟨rfl, rfl⟩ := trodVars_none hV
 have hpar : ∀ t ∈ fn.params.toList, (zbl C.prog n t = true ∧ C.prog.readableRec t = true) ∧ t < C.prog.types.size := by
  simpa only [List.all_eq_true, Bool.and_eq_true, decide_eq_true_eq] using hpar
 obtain ⟨avs, h1, h2, _⟩ := zkR (base := base) fn.params.toList args.toList ds p (fun t ht => (hpar t ht).1.1)
  (fun j t v h3 h4 => hval j t v (by simpa using h3) (by simpa using h4)) hA
 have hlen : ds.length = fn.params.size := by
  have : ∀ (ts : List TypeId) (vs : List Value) (ds : List (DataW H)) (ps : List MemPlace), DataW.TrodAll enc C.prog W 0 (fun _ => true) true ts vs ds ps → ds.length = ts.length := by
   intro ts
   induction ts with
   | nil => intro vs ds ps h; obtain ⟨rfl, rfl, rfl⟩ := trodAll_nil h; rfl
   | cons t ts ih =>
    intro vs ds ps h
    obtain ⟨v, vs1, d, ds1, a, b, rfl, rfl, rfl, h1, h2⟩ := trodAll_cons h
    simp [ih _ _ _ h2]
  simpa using this _ _ _ _ hA
 obtain ⟨e1, e2, e3⟩ := hfnr (ds ++ []) (by simpa using hlen)
 refine ((hC avs h2).2 W (Cx.all W) args.toList (zpS W) (zq9 W) (hG W hL) h1).mono fun e W' ⟨v, c', he, _, _, _, _, hv, hb⟩ => ?_
 subst he
 cases hv
 refine ⟨_, rfl, ds, [], p ++ [], [], p, [], hW', ?_, ?_, ?_, ?_, fun h => by cases h⟩
 ·rw [e1, hres]
  exact ⟨[], [], shut_bool htb true, rfl, rfl⟩
 ·rw [e2, List.append_nil]
  exact zk4 hl hb _ _ _ _ (fun t ht => ⟨(hpar t ht).1.2, (hpar t ht).2⟩) (fun x hx => by simpa using hW'.lt x (by simpa using hx)) hA
 ·rw [e3, hvars]; rfl
 ·exact hb.frame _
end Go.Lb
namespace Go.Lb
open Go.RowKit Go.ChangeShapes
end Go.Lb
namespace Go.Lb
def ips : Nat → Nat → List SE
 | _, 0 => []
 | a, n + 1 => .inp a :: ips (a + 1) n
def ipx : Nat → Nat → List SE
 | _, 0 => []
 | a, n + 1 => .inp a :: ipx (a + 1) n
def pts (x : SE) : Nat → Nat → List SE
 | _, 0 => []
 | j, n + 1 => .app (.part j 1 false) [x] :: pts x (j + 1) n
def ptx (x : SE) : Nat → Nat → List SE
 | _, 0 => []
 | j, n + 1 => .app (.part j 1 false) [x] :: ptx x (j + 1) n
def zms : Nat → List SE
 | 0 => []
 | n + 1 => .int .i64 0 :: .int .i64 0 :: .bool false :: zms n
def ap {α : Type} (a b : List α) : List α := a ++ b
@[simp] theorem ap_eq {α : Type} (a b : List α) : ap a b = a ++ b := rfl
def csB (b : Nat) (x m : SE) : Nat → Nat → List SE → List Nd
 | _, _, [] => []
 | n, c, o :: os => .bind n (.app (.cellset b 24 3 0 3 c) [x, o, m]) :: csB b x m (n + 1) (c + 1) os
abbrev sL (k : Nat) (e : SE) : Nat × Ent := (k, ⟨[], e⟩)
abbrev zi (n : Int) : SE := .int .i64 n
abbrev bF : SE := .bool false
abbrev bT : SE := .bool true
abbrev bi (o : BinOp) (a b : SE) : SE := .app (.bin o) [a, b]
abbrev ln (a : SE) : SE := .app .len [a]
abbrev nt (a : SE) : SE := .app (.un .not) [a]
abbrev pk (a b c : SE) : SE := .app .pick [a, b, c]
abbrev tp (i : Nat) (a : SE) : SE := .app (.tproj i) [a]
abbrev pt (i : Nat) (a : SE) : SE := .app (.part i 1 false) [a]
abbrev ei (n : Nat) (a b : SE) : SE := .app (.eidx n) [a, b]
abbrev el (n : Nat) (a : SE) : SE := .app (.eload n true) [a]
abbrev e1 (a : SE) : SE := .app (.eload 1 false) [a]
abbrev ck (o : PF) (args : List SE) (k : RT) : RT := .seg [.chk [] o args] k
abbrev ckg (c : SE) (b : Bool) (o : PF) (args : List SE) (k : RT) : RT := .seg [.chk [(c, b)] o args] k
@[simp] theorem ipx_zero (a : Nat) : ipx a 0 = [] := rfl
@[simp] theorem ipx_succ (a n : Nat) : ipx a (n + 1) = .inp a :: ipx (a + 1) n := rfl
@[simp] theorem ptx_zero (x : SE) (a : Nat) : ptx x a 0 = [] := rfl
@[simp] theorem ptx_succ (x : SE) (a n : Nat) : ptx x a (n + 1) = .app (.part a 1 false) [x] :: ptx x (a + 1) n := rfl
theorem zad : ∀ (n a : Nat) (V : List AV), a + n ≤ V.length → dens (zaL V) (ips a n) = (V.drop a).take n
 | 0, a, V, _ => by simp [ips]
 | n + 1, a, V, h => by
  have ih := zad n (a + 1) V (by omega)
  rw [ips, dens, ih, List.drop_eq_getElem_cons (show a < V.length by omega), List.take_succ_cons]
  simp [zaL, List.getD_eq_getElem?_getD, List.getElem?_eq_getElem (show a < V.length by omega)]
theorem zmf {ρ : Nat → AV} {x : SE} {cs : List AV} (hx : den ρ x = .agg cs) : ∀ (n j : Nat), j + n ≤ cs.length → dens ρ (pts x j n) = (cs.drop j).take n
 | 0, j, _ => by simp [pts]
 | n + 1, j, h => by
  have ih := zmf hx n (j + 1) (by omega)
  rw [pts, dens, ih, List.drop_eq_getElem_cons (show j < cs.length by omega), List.take_succ_cons]
  simp [den, hx, AV.cut, show j < cs.length by omega]
def csV (b : Nat) (x m : AV) : Nat → List AV → List AV
 | _, [] => []
 | c, o :: os => pv (.cellset b 24 3 0 3 c) [x, o, m] :: csV b x m (c + 1) os
theorem zlH (V T : List AV) : zar V.length (zaL V) (zaL (V ++ T)) := by
 intro i hi
 simp only [zaL, List.getD_eq_getElem?_getD]
 rw [List.getElem?_append_left hi]
theorem zj1 {P : Program} {G : Glob} {R : AV → Prop} {L : Nat → List AV → Prop} {b : Nat} {x m : SE} {V : List AV} {N : Nat} (hN : V.length = N) (hx : x.wf N (fun _ => false) = true) (hm : m.wf N (fun _ => false) = true) {ns : List Nd} {k : RT} : ∀ (os : List SE) (T : List AV) (n c : Nat), V.length + T.length = n → SE.wfs N (fun _ => false) os = true →
  (RTwp P G R (.seg (csB b x m n c os ++ ns) k) L (zaL (V ++ T)) ↔ RTwp P G R (.seg ns k) L (zaL (V ++ (T ++ csV b (den (zaL V) x) (den (zaL V) m) c (dens (zaL V) os)))))
 | [], T, n, c, _, _ => by simp [csB, csV]
 | o :: os, T, n, c, hn, ho => by
  subst hN
  simp only [SE.wfs, Bool.and_eq_true] at ho
  have hA := zlH V T
  rw [csB, List.cons_append, znp, znZ (by simp; omega), List.append_assoc]
  rw [zj1 rfl hx hm os (T ++ [_]) (n + 1) (c + 1) (by simp; omega) ho.2]
  simp only [den, dens, csV, zay hA x hx, zay hA m hm, zay hA o ho.1, List.append_assoc, List.cons_append, List.nil_append]
theorem zoT {P : Program} {G : Glob} {R : AV → Prop} {L : Nat → List AV → Prop} {b : Nat} {x m : SE} {V : List AV} {n c : Nat} {os : List SE} {ns : List Nd} {k : RT} (hN : V.length = n) (hx : SE.wfs n (fun _ => false) (x :: m :: os) = true) (xv mv : AV) (ov : List AV) (h1 : den (zaL V) x = xv) (h2 : den (zaL V) m = mv) (h3 : dens (zaL V) os = ov) :
  RTwp P G R (.seg (csB b x m n c os ++ ns) k) L (zaL V) ↔ RTwp P G R (.seg ns k) L (zaL (V ++ csV b xv mv c ov)) := by
 simp only [SE.wfs, Bool.and_eq_true] at hx
 have := zj1 (P := P) (G := G) (R := R) (L := L) (b := b) hN hx.1 hx.2.1 (ns := ns) (k := k) os [] n c (by simpa using hN) hx.2.2
 rw [List.append_nil, h1, h2, h3] at this
 exact this
end Go.Lb
