/- Pure values, how they lie in memory, and that such a reading stays when memory grows. -/
import Derived.RangeFuncLeaves
import Derived.RangeFuncRecord
import Derived.OrdersIn
import Derived.Laws.Sem
import Derived.Laws.Cells
import Derived.Laws.Rows
import Derived.Laws.StructEq
import Derived.Below
set_option linter.unusedSimpArgs false
set_option linter.unusedVariables false
namespace Go.Lb
open Go.RowKit
inductive AV where
 | undef
 | bool (b : Bool)
 | int (k : IntKind) (n : Int)
 | nilp
 | nilf
 | nsl
 | agg (cs : List AV)
 | tup (cs : List AV)
 | sl (es : List AV)
 | eptr (es : List AV) (i off : Nat)
 | ref (cs : List AV) (off : Nat)
 | clo (f : Nat) (first caps : List AV)
 | mp (k : IntKind) (ks : List Int) (vs : List AV)
 | ptr (i off : Nat)
 | row (i : Nat)
 | rptr (i k sz off : Nat)
 | yield (i : Nat)
 | mref (i : Nat)
 deriving Inhabited
@[simp] def AV.cells : AV → List AV
 | .agg cs => cs
 | v => [v]
def AV.flat (es : List AV) : List AV := es.flatMap AV.cells
structure Cx where
 I : Nat → Nat → Option Value
 M : Nat → Option Obj
 β : Nat → Nat
 h : Nat → Value
 L : Nat → Loop
mutual
inductive Rv (c : Cx) : AV → Value → Prop
 | undef (v : Value) : (∀ b, v ≠ .bool b) → Rv c .undef v
 | bool (b : Bool) : Rv c (.bool b) (.bool b)
 | int (k : IntKind) (n : Int) : Rv c (.int k n) (.int k n)
 | nilp : Rv c .nilp (.pointer none)
 | nilf : Rv c .nilf .nilFunc
 | nsl : Rv c .nsl (.slice none 0 0)
 | agg (cs : List AV) (vs : List Value) : Rvs c cs vs → Rv c (.agg cs) (.agg ⟨vs⟩)
 | tup (cs : List AV) (vs : List Value) : Rvs c cs vs → Rv c (.tup cs) (.tuple ⟨vs⟩)
 | slnil : Rv c (.sl []) (.slice none 0 0)
 | sl0 (a : Addr) : Rv c (.sl []) (.slice (some a) 0 0)
 | sl (es : List AV) (sz b o cap : Nat) : es.length ≤ cap → (∀ e ∈ es, e.cells.length = sz) → Rcells c b o (AV.flat es) →
   Rv c (.sl es) (.slice (some ⟨b, o, none⟩) es.length cap)
 | eptr (es : List AV) (sz b o i off : Nat) : (∀ e ∈ es, e.cells.length = sz) → Rcells c b o (AV.flat es) → i < es.length →
   Rv c (.eptr es i off) (.pointer (some ⟨b, o + i * sz + off, none⟩))
 | ref (cs : List AV) (b o off : Nat) : Rcells c b o cs → Rv c (.ref cs off) (.pointer (some ⟨b, o + off, none⟩))
 | clo (f : Nat) (fs cs : List AV) (vf vc : List Value) : Rvs c fs vf → Rvs c cs vc → Rv c (.clo f fs cs) (.func (.func f) ⟨vf⟩ ⟨vc⟩)
 | mp (k : IntKind) (ks : List Int) (vs : List AV) (b clk : Nat) (es : List MapEntry) : c.M b = some (.map ⟨es⟩ clk) → es.map (·.key) = ks.map (Value.int k) →
   Rvs c vs (es.map (·.val)) → Rv c (.mp k ks vs) (.map (some b))
 | ptr (i off : Nat) : Rv c (.ptr i off) (.pointer (some ⟨c.β i, off, none⟩))
 | row (i : Nat) (a : Option Addr) (n cap : Nat) : c.h i = .slice a n cap → Rv c (.row i) (.slice a n cap)
 | rptr (i k sz off b o n cap : Nat) : c.h i = .slice (some ⟨b, o, none⟩) n cap → Rv c (.rptr i k sz off) (.pointer (some ⟨b, o + k * sz + off, none⟩))
 | yield (i : Nat) : Rv c (.yield i) (.func (.yield (c.β i)) #[] #[])
 | mref (i : Nat) : Rv c (.mref i) (.map (some (c.β i)))
inductive Rvs (c : Cx) : List AV → List Value → Prop
 | nil : Rvs c [] []
 | cons (a : AV) (v : Value) (as : List AV) (vs : List Value) : Rv c a v → Rvs c as vs → Rvs c (a :: as) (v :: vs)
inductive Rcells (c : Cx) : Nat → Nat → List AV → Prop
 | nil (b o : Nat) : Rcells c b o []
 | cons (b o : Nat) (a : AV) (v : Value) (as : List AV) : c.I b o = some v → Rv c a v → Rcells c b (o + 1) as → Rcells c b o (a :: as)
end
mutual
def AV.pure : AV → Bool
 | .agg cs | .tup cs | .sl cs | .eptr cs _ _ | .ref cs _ | .mp _ _ cs => AV.pureAll cs
 | .clo _ fs cs => AV.pureAll fs && AV.pureAll cs
 | .ptr _ _ | .row _ | .rptr _ _ _ _ | .yield _ | .mref _ => false
 | _ => true
def AV.pureAll : List AV → Bool
 | [] => true
 | a :: as => AV.pure a && AV.pureAll as
end
structure Cx.Le (c c' : Cx) : Prop where
 I : ∀ b o v, c.I b o = some v → c'.I b o = some v
 M : ∀ b o, c.M b = some o → c'.M b = some o
structure Cx.Keeps (n : Nat → Bool) (c c' : Cx) : Prop extends Cx.Le c c' where
 β : ∀ i, n i = true → c'.β i = c.β i
 h : ∀ i, n i = true → c'.h i = c.h i
 L : ∀ i, n i = true → c'.L i = c.L i
mutual
def AV.under (n : Nat → Bool) : AV → Bool
 | .agg cs | .tup cs | .sl cs | .eptr cs _ _ | .ref cs _ | .mp _ _ cs => AV.underAll n cs
 | .clo _ fs cs => AV.underAll n fs && AV.underAll n cs
 | .ptr i _ => n i
 | .row i => n i
 | .rptr i _ _ _ => n i
 | .yield i => n i
 | .mref i => n i
 | _ => true
def AV.underAll (n : Nat → Bool) : List AV → Bool
 | [] => true
 | a :: as => AV.under n a && AV.underAll n as
end
theorem Cx.Le.refl (c : Cx) : c.Le c := ⟨fun _ _ _ h => h, fun _ _ h => h⟩
theorem Cx.Le.trans {a b c : Cx} (h : a.Le b) (k : b.Le c) : a.Le c := ⟨fun _ _ _ x => k.I _ _ _ (h.I _ _ _ x), fun _ _ x => k.M _ _ (h.M _ _ x)⟩
theorem Cx.Keeps.refl (n : Nat → Bool) (c : Cx) : c.Keeps n c := ⟨Cx.Le.refl c, fun _ _ => rfl, fun _ _ => rfl, fun _ _ => rfl⟩
theorem Cx.Keeps.trans {n : Nat → Bool} {a b c : Cx} (h : a.Keeps n b) (k : b.Keeps n c) : a.Keeps n c :=
 ⟨h.toLe.trans k.toLe, fun i hi => (k.β i hi).trans (h.β i hi), fun i hi => (k.h i hi).trans (h.h i hi), fun i hi => (k.L i hi).trans (h.L i hi)⟩
theorem Cx.Keeps.mono {n m : Nat → Bool} {a b : Cx} (h : a.Keeps n b) (hm : ∀ i, m i = true → n i = true) : a.Keeps m b :=
 ⟨h.toLe, fun i hi => h.β i (hm i hi), fun i hi => h.h i (hm i hi), fun i hi => h.L i (hm i hi)⟩
theorem AV.under_cons {n : Nat → Bool} {a : AV} {as : List AV} : AV.underAll n (a :: as) = (AV.under n a && AV.underAll n as) := by
 simp [AV.underAll]
theorem AV.under_append {n : Nat → Bool} (as bs : List AV) : AV.underAll n (as ++ bs) = (AV.underAll n as && AV.underAll n bs) := by
 induction as with
 | nil => simp [AV.underAll]
 | cons a as ih => rw [List.cons_append, AV.under_cons, AV.under_cons, ih, Bool.and_assoc]
theorem AV.under_cells {n : Nat → Bool} (a : AV) : AV.underAll n a.cells = AV.under n a := by
 cases a <;> simp [AV.under, AV.underAll]
theorem AV.under_flat {n : Nat → Bool} (es : List AV) : AV.underAll n (AV.flat es) = AV.underAll n es := by
 induction es with
 | nil => rfl
 | cons a as ih =>
  show AV.underAll n (a.cells ++ AV.flat as) = _
  rw [AV.under_append, AV.under_cells, ih, AV.under_cons]
theorem zch {n : Nat → Bool} {c c' : Cx} (hc : c.Keeps n c') :
  ∀ {a : AV} {v : Value}, Rv c a v → AV.under n a = true → Rv c' a v := by
 intro a v h
 refine Rv.rec (motive_1 := fun a v _ => AV.under n a = true → Rv c' a v) (motive_2 := fun as vs _ => AV.underAll n as = true → Rvs c' as vs)
  (motive_3 := fun b o as _ => AV.underAll n as = true → Rcells c' b o as)
  ?_ ?_ ?_ ?_ ?_ ?_ ?_ ?_ ?_ ?_ ?_ ?_ ?_ ?_ ?_ ?_ ?_ ?_ ?_ ?_ ?_ ?_ ?_ ?_ h
 ·intro v h _; exact .undef v h
 ·intro b _; exact .bool b
 ·intro k m _; exact .int k m
 ·intro _; exact .nilp
 ·intro _; exact .nilf
 ·intro _; exact .nsl
 ·intro cs vs _ ih hu; exact .agg cs vs (ih (by simpa [AV.under, AV.underAll] using hu))
 ·intro cs vs _ ih hu; exact .tup cs vs (ih (by simpa [AV.under, AV.underAll] using hu))
 ·intro _; exact .slnil
 ·intro a _; exact .sl0 a
 ·intro es sz b o cap h1 h2 _ ih hu
  exact .sl es sz b o cap h1 h2 (ih (by rw [AV.under_flat]; simpa [AV.under, AV.underAll] using hu))
 ·intro es sz b o i off h2 _ hi ih hu
  exact .eptr es sz b o i off h2 (ih (by rw [AV.under_flat]; simpa [AV.under, AV.underAll] using hu)) hi
 ·intro cs b o off _ ih hu; exact .ref cs b o off (ih (by simpa [AV.under, AV.underAll] using hu))
 ·intro f fs cs vf vc _ _ ih1 ih2 hu
  have hu' : AV.underAll n fs = true ∧ AV.underAll n cs = true := by simpa [AV.under, AV.underAll] using hu
  exact .clo f fs cs vf vc (ih1 hu'.1) (ih2 hu'.2)
 ·intro k ks vs b clk es h1 h2 _ ih hu
  exact .mp k ks vs b clk es (hc.M _ _ h1) h2 (ih (by simpa [AV.under, AV.underAll] using hu))
 ·intro i off hu
  have hi : n i = true := by simpa [AV.under, AV.underAll] using hu
  have := Rv.ptr (c := c') i off
  rwa [hc.β i hi] at this
 ·intro i a m cap he hu
  have hi : n i = true := by simpa [AV.under, AV.underAll] using hu
  exact .row i a m cap ((hc.h i hi).trans he)
 ·intro i k sz off b o m cap he hu
  have hi : n i = true := by simpa [AV.under, AV.underAll] using hu
  exact .rptr i k sz off b o m cap ((hc.h i hi).trans he)
 ·intro i hu
  have hi : n i = true := by simpa [AV.under, AV.underAll] using hu
  have := Rv.yield (c := c') i
  rwa [hc.β i hi] at this
 ·intro i hu
  have hi : n i = true := by simpa [AV.under, AV.underAll] using hu
  have := Rv.mref (c := c') i
  rwa [hc.β i hi] at this
 ·intro _; exact .nil
 ·intro a v as vs _ _ ih1 ih2 hu
  rw [AV.under_cons, Bool.and_eq_true] at hu
  exact .cons a v as vs (ih1 hu.1) (ih2 hu.2)
 ·intro b o _; exact .nil b o
 ·intro b o a v as h1 _ _ ih1 ih2 hu
  rw [AV.under_cons, Bool.and_eq_true] at hu
  exact .cons b o a v as (hc.I _ _ _ h1) (ih1 hu.1) (ih2 hu.2)
mutual
theorem AV.under_zero_of_pure : ∀ (a : AV), AV.pure a = AV.under (fun _ => false) a
 | .agg cs | .tup cs | .sl cs | .eptr cs _ _ | .ref cs _ | .mp _ _ cs => by
  simp only [AV.pure, AV.under]; exact AV.under_zero_of_pureAll cs
 | .clo _ fs cs => by simp only [AV.pure, AV.under]; rw [AV.under_zero_of_pureAll fs, AV.under_zero_of_pureAll cs]
 | .ptr _ _ | .row _ | .rptr _ _ _ _ | .yield _ | .mref _ => by simp [AV.pure, AV.under]
 | .undef | .bool _ | .int _ _ | .nilp | .nilf | .nsl => by simp [AV.pure, AV.under]
theorem AV.under_zero_of_pureAll : ∀ (as : List AV), AV.pureAll as = AV.underAll (fun _ => false) as
 | [] => by simp [AV.pureAll, AV.underAll]
 | a :: as => by simp only [AV.pureAll, AV.underAll]; rw [AV.under_zero_of_pure a, AV.under_zero_of_pureAll as]
end
theorem zgX {c c' : Cx} (hc : c.Le c') {a : AV} {v : Value} (h : Rv c a v) (hp : AV.pure a = true) : Rv c' a v :=
 zch (n := fun _ => false) ⟨hc, fun _ h => Bool.noConfusion h, fun _ h => Bool.noConfusion h, fun _ h => Bool.noConfusion h⟩ h (by
  rw [← AV.under_zero_of_pure]; exact hp)
end Go.Lb
namespace Go.Lb
open Go.RowKit
inductive PF where
 | bin (op : BinOp)
 | eqb (neg : Bool)
 | eqf (neg : Bool)
 | eqa (ks : List (Option IntKind)) (neg : Bool)
 | un (op : UnOp)
 | len
 | mm (isMax : Bool)
 | conv (k : IntKind)
 | pick
 | eidx (sz : Nat)
 | eaidx (len sz : Nat)
 | eoff (k : Nat)
 | eload (n : Nat) (agg : Bool)
 | part (off n : Nat) (agg : Bool)
 | aidx (len sz off n : Nat) (agg : Bool)
 | rep
 | lst
 | inr (len : Nat)
 | isAgg (n : Nat)
 | tproj (i : Nat)
 | slice (lo hi : Bool)
 | rowset (sz off n : Nat)
 | rowget (sz off n : Nat) (agg : Bool)
 | cellset (base len sz off n j : Nat)
 | app
 | snoc
 | take (lo : Nat)
 | szs (sz : Nat)
 | isOne
 deriving DecidableEq, Inhabited, Repr
@[simp] def binI (op : BinOp) (k : IntKind) (a b : Int) : AV :=
 match op with
 | .add => .int k (k.wrap (a + b))
 | .sub => .int k (k.wrap (a - b))
 | .mul => .int k (k.wrap (a * b))
 | .quo => .int k (k.wrap (a.tdiv b))
 | .rem => .int k (a.tmod b)
 | .and => .int k (k.wrap (BitVec.ofInt k.bits a &&& BitVec.ofInt k.bits b).toNat)
 | .or => .int k (k.wrap (BitVec.ofInt k.bits a ||| BitVec.ofInt k.bits b).toNat)
 | .xor => .int k (k.wrap (BitVec.ofInt k.bits a ^^^ BitVec.ofInt k.bits b).toNat)
 | .andNot => .int k (k.wrap (BitVec.ofInt k.bits a &&& ~~~ BitVec.ofInt k.bits b).toNat)
 | .shl => .int k (k.wrap (a * 2 ^ (min b.toNat k.bits)))
 | .shr => .int k (a.fdiv (2 ^ (min b.toNat k.bits)))
 | .eql => .bool (a == b)
 | .neq => .bool (a != b)
 | .lss => .bool (decide (a < b))
 | .leq => .bool (decide (a ≤ b))
 | .gtr => .bool (decide (a > b))
 | .geq => .bool (decide (a ≥ b))
@[simp] def zf3 (op : BinOp) (k k' : IntKind) (b : Int) : Prop :=
 match op with
 | .quo | .rem => k = k' ∧ b ≠ 0
 | .shl | .shr => 0 ≤ b
 | _ => k = k'
@[simp] def AV.eq1 : AV → AV → Bool
 | .bool a, .bool b => a == b
 | .int _ a, .int _ b => a == b
 | _, _ => false
@[simp] def AV.eqs : List AV → List AV → Bool
 | [], [] => true
 | a :: as, b :: bs => AV.eq1 a b && AV.eqs as bs
 | _, _ => false
@[simp] def AV.kind1 : Option IntKind → AV → Prop
 | none, .bool _ => True
 | some k, .int k' _ => k = k'
 | _, _ => False
@[simp] def AV.kinds : List (Option IntKind) → List AV → Prop
 | [], [] => True
 | k :: ks, a :: as => AV.kind1 k a ∧ AV.kinds ks as
 | _, _ => False
@[simp] def AV.cut (cs : List AV) (off n : Nat) (agg : Bool) : AV :=
 match agg with
 | true => .agg ((cs.drop off).take n)
 | false => cs.getD off .undef
@[simp] def AV.cutOk (cs : List AV) (off n : Nat) (agg : Bool) : Prop :=
 match agg with
 | true => off + n ≤ cs.length
 | false => off < cs.length ∧ n = 1
def AV.put (cs : List AV) (off : Nat) (v : List AV) : List AV := cs.take off ++ v ++ cs.drop (off + v.length)
def AV.ofCells (like : AV) (cs : List AV) : AV :=
 match like with
 | .agg _ => .agg cs
 | _ => cs.getD 0 .undef
def zds (isMax : Bool) (x : Int) (y : AV) : Int :=
 match isMax, y with
 | true, .int _ b => if b > x then b else x
 | false, .int _ b => if b < x then b else x
 | _, _ => x
def pv : PF → List AV → AV
 | .bin op, [.int k a, .int _ b] => binI op k a b
 | .eqb neg, [.bool a, .bool b] => .bool ((a == b) != neg)
 | .eqf neg, [.nilf, .nilf] => .bool (!neg)
 | .eqf neg, [.clo _ _ _, .nilf] => .bool neg
 | .eqa _ neg, [.agg xs, .agg ys] => .bool (AV.eqs xs ys != neg)
 | .un .not, [.bool b] => .bool (!b)
 | .un .neg, [.int k n] => .int k (k.wrap (0 - n))
 | .un .xor, [.int k n] => .int k (k.wrap (BitVec.ofInt k.bits (if k.signed then -1 else k.max) ^^^ BitVec.ofInt k.bits n).toNat)
 | .len, [.sl es] => .int .i64 es.length
 | .mm m, .int k a :: rest => .int k (rest.foldl (zds m) a)
 | .conv k, [.int _ n] => .int k (k.wrap n)
 | .pick, [.bool c, a, b] => if c then a else b
 | .eidx _, [.sl es, .int _ i] => .eptr es i.toNat 0
 | .eaidx _ sz, [.eptr es j off, .int _ i] => .eptr es j (off + i.toNat * sz)
 | .eaidx _ sz, [.ref cs off, .int _ i] => .ref cs (off + i.toNat * sz)
 | .eoff k, [.eptr es j off] => .eptr es j (off + k)
 | .eoff k, [.ref cs off] => .ref cs (off + k)
 | .eload n agg, [.eptr es j off] => AV.cut (es.getD j .undef).cells off n agg
 | .eload n agg, [.ref cs off] => AV.cut cs off n agg
 | .part off n agg, [.agg cs] => AV.cut cs off n agg
 | .aidx _ sz off n agg, [.agg cs, .int _ i] => AV.cut cs (i.toNat * sz + off) n agg
 | .rep, [.int _ n, v] => .sl (List.replicate n.toNat v)
 | .lst, es => .sl es
 | .inr _, [v] => v
 | .isAgg _, [.agg cs] => .agg cs
 | .tproj i, [.tup vs] => vs.getD i .undef
 | .slice false false, [.sl es] => .sl es
 | .slice true false, [.sl es, .int _ l] => .sl (es.drop l.toNat)
 | .slice false true, [.sl es, .int _ h] => .sl (es.take h.toNat)
 | .slice true true, [.sl es, .int _ l, .int _ h] => .sl ((es.take h.toNat).drop l.toNat)
 | .rowset _ off _, [.sl es, .int _ i, v] => .sl (es.set i.toNat (AV.ofCells (es.getD i.toNat .undef) (AV.put (es.getD i.toNat .undef).cells off v.cells)))
 | .rowget _ off n agg, [.sl es, .int _ i] => AV.cut (es.getD i.toNat .undef).cells off n agg
 | .cellset base _ sz off n j, [.int _ i, old, v] => if base + i.toNat * sz + off ≤ j ∧ j < base + i.toNat * sz + off + n then v.cells.getD (j - (base + i.toNat * sz + off)) .undef else old
 | .app, [.sl es, .sl fs] => .sl (es ++ fs)
 | .snoc, [.sl es, v] => .sl (es ++ [v])
 | .take lo, [.sl es] => .sl (es.drop lo)
 | .szs _, [.sl es] => .sl es
 | .isOne, [v] => v
 | _, _ => .undef
@[simp] def AV.one : AV → Bool
 | .undef | .agg _ | .tup _ => false
 | _ => true
@[simp] def AV.ones : List AV → Bool
 | [] => true
 | a :: as => AV.one a && AV.ones as
@[simp] theorem zmV (es : List AV) : pv .lst es = .sl es := by
 match es with
 | [] => rfl
 | [_] => rfl
 | [_, _] => rfl
 | [_, _, _] => rfl
 | _ :: _ :: _ :: _ :: _ => rfl
def pok : PF → List AV → Prop
 | .bin op, [.int k _, .int k' b] => zf3 op k k' b
 | .eqb _, [.bool _, .bool _] => True
 | .eqf _, [.nilf, .nilf] => True
 | .eqf _, [.clo _ _ _, .nilf] => True
 | .eqa ks _, [.agg xs, .agg ys] => AV.kinds ks xs ∧ AV.kinds ks ys
 | .un .not, [.bool _] => True
 | .un .neg, [.int _ _] => True
 | .un .xor, [.int _ _] => True
 | .len, [.sl _] => True
 | .mm _, .int k _ :: rest => ∀ y ∈ rest, ∃ b, y = .int k b
 | .conv _, [.int _ _] => True
 | .pick, [.bool _, _, _] => True
 | .eidx sz, [.sl es, .int _ i] => 0 ≤ i ∧ i < es.length ∧ (es.getD i.toNat .undef).cells.length = sz
 | .eaidx len _, [.eptr _ _ _, .int _ i] => 0 ≤ i ∧ i < len
 | .eaidx len _, [.ref _ _, .int _ i] => 0 ≤ i ∧ i < len
 | .eoff _, [.eptr _ _ _] => True
 | .eoff _, [.ref _ _] => True
 | .eload n agg, [.eptr es j off] => AV.cutOk (es.getD j .undef).cells off n agg
 | .eload n agg, [.ref cs off] => AV.cutOk cs off n agg
 | .part off n agg, [.agg cs] => AV.cutOk cs off n agg
 | .aidx len sz off n agg, [.agg cs, .int _ i] => 0 ≤ i ∧ i < len ∧ AV.cutOk cs (i.toNat * sz + off) n agg
 | .rep, [.int _ n, v] => 0 ≤ n ∧ n ≤ 4294967296 ∧ AV.ones v.cells = true
 | .inr len, [.int _ i] => 0 ≤ i ∧ i < len
 | .isAgg n, [.agg cs] => cs.length = n ∧ AV.ones cs = true
 | .tproj i, [.tup vs] => i < vs.length
 | .slice false false, [.sl _] => True
 | .slice true false, [.sl es, .int _ l] => 0 ≤ l ∧ l ≤ es.length
 | .slice false true, [.sl es, .int _ h] => 0 ≤ h ∧ h ≤ es.length
 | .slice true true, [.sl es, .int _ l, .int _ h] => 0 ≤ l ∧ l ≤ h ∧ h ≤ es.length
 | .rowset sz off n, [.sl es, .int _ i, v] => 0 ≤ i ∧ i < es.length ∧ (es.getD i.toNat .undef).cells.length = sz ∧ v.cells.length = n ∧ AV.ones v.cells = true ∧ off + n ≤ sz
 | .rowget sz off n agg, [.sl es, .int _ i] => 0 ≤ i ∧ i < es.length ∧ (es.getD i.toNat .undef).cells.length = sz ∧ AV.cutOk (es.getD i.toNat .undef).cells off n agg
 | .cellset base len sz off n j, [.int _ i, _, v] => 0 ≤ i ∧ i < len ∧ v.cells.length = n ∧ AV.ones v.cells = true ∧ j < base + len * sz ∧ off + n ≤ sz
 | .app, [.sl es, .sl fs] => es.length + fs.length ≤ 8796093022208
 | .snoc, [.sl es, v] => es.length + 1 ≤ 4294967296 ∧ (∀ e ∈ es, e.cells.length = v.cells.length) ∧ AV.ones v.cells = true
 | .take lo, [.sl es] => lo ≤ es.length
 | .szs sz, [.sl es] => ∀ e ∈ es, e.cells.length = sz ∧ AV.ones e.cells = true
 | .isOne, [v] => AV.one v = true
 | _, _ => False
inductive SE where
 | inp (i : Nat)
 | undef
 | bool (b : Bool)
 | int (k : IntKind) (n : Int)
 | nilp | nilf | nils | enil
 | agg (cs : List SE)
 | tup (cs : List SE)
 | clo (f : Nat) (first caps : List SE)
 | mp (k : IntKind) (ks : List Int) (vs : List SE)
 | ref (cs : List SE) (off : Nat)
 | ptr (i off : Nat)
 | ptrx (i base : Nat) (idx : SE) (len sz off : Nat)
 | row (i : Nat)
 | rptr (i : Nat) (idx : SE) (sz off : Nat)
 | yield (i : Nat)
 | mref (i : Nat)
 | app (o : PF) (args : List SE)
 deriving Inhabited, Repr
@[simp] def zcU (v : AV) (f : Nat → AV) : AV :=
 match v with
 | .int _ k => f k.toNat
 | _ => .undef
mutual
@[simp] def den (ρ : Nat → AV) : SE → AV
 | .inp i => ρ i
 | .undef => .undef
 | .bool b => .bool b
 | .int k n => .int k n
 | .nilp => .nilp
 | .nilf => .nilf
 | .nils => .sl []
 | .enil => .nsl
 | .agg cs => .agg (dens ρ cs)
 | .tup cs => .tup (dens ρ cs)
 | .clo f fs cs => .clo f (dens ρ fs) (dens ρ cs)
 | .mp k ks vs => .mp k ks (dens ρ vs)
 | .ref cs off => .ref (dens ρ cs) off
 | .ptr i off => .ptr i off
 | .row i => .row i
 | .ptrx i base idx _ sz off => zcU (den ρ idx) fun k => .ptr i (base + k * sz + off)
 | .rptr i idx sz off => zcU (den ρ idx) fun k => .rptr i k sz off
 | .yield i => .yield i
 | .mref i => .mref i
 | .app o args => pv o (dens ρ args)
@[simp] def dens (ρ : Nat → AV) : List SE → List AV
 | [] => []
 | e :: es => den ρ e :: dens ρ es
end
mutual
def SE.wf (n : Nat) (m : Nat → Bool) : SE → Bool
 | .inp i => Nat.blt i n
 | .agg cs | .tup cs | .mp _ _ cs | .ref cs _ | .app _ cs => SE.wfs n m cs
 | .clo _ fs cs => SE.wfs n m fs && SE.wfs n m cs
 | .ptr i _ | .row i | .yield i | .mref i => m i
 | .ptrx i _ idx _ _ _ => m i && SE.wf n m idx
 | .rptr i idx _ _ => m i && SE.wf n m idx
 | _ => true
def SE.wfs (n : Nat) (m : Nat → Bool) : List SE → Bool
 | [] => true
 | e :: es => SE.wf n m e && SE.wfs n m es
end
def PF.key : PF → Nat
 | .cellset _ _ _ _ _ j => 64 + j
 | .part off _ _ => 10000 + off
 | .bin _ => 1
 | .eqb _ => 2
 | .un _ => 3
 | .len => 4
 | .pick => 5
 | .eidx _ => 6
 | .eaidx _ _ => 7
 | .eoff _ => 8
 | .eload _ _ => 9
 | .aidx _ _ off _ _ => 20000 + off
 | .tproj i => 30000 + i
 | .rowset _ _ _ => 10
 | .rowget _ off _ _ => 40000 + off
 | _ => 0
mutual
def SE.beq : SE → SE → Bool
 | .inp i, .inp j => Nat.beq i j
 | .undef, .undef => true
 | .bool a, .bool b => a == b
 | .int k a, .int k' b => decide (k = k') && decide (a = b)
 | .nilp, .nilp => true
 | .nilf, .nilf => true
 | .nils, .nils => true
 | .enil, .enil => true
 | .agg a, .agg b => SE.beqs a b
 | .tup a, .tup b => SE.beqs a b
 | .clo f a b, .clo g c d => Nat.beq f g && SE.beqs a c && SE.beqs b d
 | .mp k ks a, .mp k' ks' b => decide (k = k') && decide (ks = ks') && SE.beqs a b
 | .ref a n, .ref b m => SE.beqs a b && Nat.beq n m
 | .ptr i a, .ptr j b => Nat.beq i j && Nat.beq a b
 | .row i, .row j => Nat.beq i j
 | .ptrx i a e b c d, .ptrx i' a' e' b' c' d' => Nat.beq i i' && Nat.beq a a' && SE.beq e e' && Nat.beq b b' && Nat.beq c c' && Nat.beq d d'
 | .rptr i e a b, .rptr i' e' a' b' => Nat.beq i i' && SE.beq e e' && Nat.beq a a' && Nat.beq b b'
 | .yield i, .yield j => Nat.beq i j
 | .mref i, .mref j => Nat.beq i j
 | .app o a, .app p b => Nat.beq o.key p.key && SE.beqs a b && decide (o = p)
 | _, _ => false
def SE.beqs : List SE → List SE → Bool
 | [], [] => true
 | a :: as, b :: bs => SE.beq a b && SE.beqs as bs
 | _, _ => false
end
mutual
theorem SE.beq_eq : ∀ (a b : SE), SE.beq a b = true → a = b
 | .inp i, .inp j, h => by rw [Nat.eq_of_beq_eq_true h]
 | .undef, .undef, _ => rfl
 | .bool a, .bool b, h => by simp only [SE.beq, beq_iff_eq] at h; rw [h]
 | .int k a, .int k' b, h => by simp only [SE.beq, Bool.and_eq_true, decide_eq_true_eq] at h; rw [h.1, h.2]
 | .nilp, .nilp, _ => rfl
 | .nilf, .nilf, _ => rfl
 | .nils, .nils, _ => rfl
 | .enil, .enil, _ => rfl
 | .agg a, .agg b, h => by rw [SE.beqs_eq a b h]
 | .tup a, .tup b, h => by rw [SE.beqs_eq a b h]
 | .clo f a b, .clo g c d, h => by
  simp only [SE.beq, Bool.and_eq_true] at h
  rw [Nat.eq_of_beq_eq_true h.1.1, SE.beqs_eq a c h.1.2, SE.beqs_eq b d h.2]
 | .mp k ks a, .mp k' ks' b, h => by
  simp only [SE.beq, Bool.and_eq_true, decide_eq_true_eq] at h
  rw [h.1.1, h.1.2, SE.beqs_eq a b h.2]
 | .ref a n, .ref b m, h => by
  simp only [SE.beq, Bool.and_eq_true] at h
  rw [SE.beqs_eq a b h.1, Nat.eq_of_beq_eq_true h.2]
 | .ptr i a, .ptr j b, h => by
  simp only [SE.beq, Bool.and_eq_true] at h
  rw [Nat.eq_of_beq_eq_true h.1, Nat.eq_of_beq_eq_true h.2]
 | .row i, .row j, h => by rw [Nat.eq_of_beq_eq_true h]
 | .ptrx i a e b c d, .ptrx i' a' e' b' c' d', h => by
  simp only [SE.beq, Bool.and_eq_true] at h
  rw [Nat.eq_of_beq_eq_true h.1.1.1.1.1, Nat.eq_of_beq_eq_true h.1.1.1.1.2, SE.beq_eq e e' h.1.1.1.2, Nat.eq_of_beq_eq_true h.1.1.2, Nat.eq_of_beq_eq_true h.1.2, Nat.eq_of_beq_eq_true h.2]
 | .rptr i e a b, .rptr i' e' a' b', h => by
  simp only [SE.beq, Bool.and_eq_true] at h
  rw [Nat.eq_of_beq_eq_true h.1.1.1, SE.beq_eq e e' h.1.1.2, Nat.eq_of_beq_eq_true h.1.2, Nat.eq_of_beq_eq_true h.2]
 | .yield i, .yield j, h => by rw [Nat.eq_of_beq_eq_true h]
 | .mref i, .mref j, h => by rw [Nat.eq_of_beq_eq_true h]
 | .app o a, .app p b, h => by
  simp only [SE.beq, Bool.and_eq_true, decide_eq_true_eq] at h
  rw [h.2, SE.beqs_eq a b h.1.2]
theorem SE.beqs_eq : ∀ (a b : List SE), SE.beqs a b = true → a = b
 | [], [], _ => rfl
 | a :: as, b :: bs, h => by
  simp only [SE.beqs, Bool.and_eq_true] at h
  rw [SE.beq_eq a b h.1, SE.beqs_eq as bs h.2]
end
def zam (n : Nat) (ρ ρ' : Nat → AV) : Prop := ∀ i, i < n → ρ' i = ρ i
theorem zam.refl (n : Nat) (ρ : Nat → AV) : zam n ρ ρ := fun _ _ => rfl
theorem zam.trans {n : Nat} {a b c : Nat → AV} (h : zam n a b) (k : zam n b c) : zam n a c := fun i hi => (k i hi).trans (h i hi)
theorem zam.mono {n m : Nat} {a b : Nat → AV} (h : zam n a b) (hm : m ≤ n) : zam m a b := fun i hi => h i (by omega)
mutual
theorem zat {n : Nat} {m : Nat → Bool} {ρ ρ' : Nat → AV} (h : zam n ρ ρ') : ∀ (e : SE), e.wf n m = true → den ρ' e = den ρ e
 | .inp i, hw => h i (by simpa [SE.wf] using hw)
 | .undef, _ | .bool _, _ | .int _ _, _ | .nilp, _ | .nilf, _ | .nils, _ | .enil, _ | .ptr _ _, _ | .row _, _ | .yield _, _ | .mref _, _ => by simp
 | .ptrx _ _ e _ _ _, hw | .rptr _ e _ _, hw => by
  simp only [SE.wf, Bool.and_eq_true] at hw
  simp only [den]; rw [zat h e hw.2]
 | .agg cs, hw => by simp only [den]; rw [zau h cs hw]
 | .tup cs, hw => by simp only [den]; rw [zau h cs hw]
 | .mp _ _ cs, hw => by simp only [den]; rw [zau h cs hw]
 | .ref cs _, hw => by simp only [den]; rw [zau h cs hw]
 | .app _ cs, hw => by simp only [den]; rw [zau h cs hw]
 | .clo _ fs cs, hw => by
  simp only [SE.wf, Bool.and_eq_true] at hw
  simp only [den]; rw [zau h fs hw.1, zau h cs hw.2]
theorem zau {n : Nat} {m : Nat → Bool} {ρ ρ' : Nat → AV} (h : zam n ρ ρ') : ∀ (es : List SE), SE.wfs n m es = true → dens ρ' es = dens ρ es
 | [], _ => rfl
 | e :: es, hw => by
  simp only [SE.wfs, Bool.and_eq_true] at hw
  simp only [dens]; rw [zat h e hw.1, zau h es hw.2]
end
theorem zab (ρ : Nat → AV) (es : List SE) : (dens ρ es).length = es.length := by
 induction es with
 | nil => rfl
 | cons e es ih => simp [ih]
theorem zaE (ρ : Nat → AV) (as bs : List SE) : dens ρ (as ++ bs) = dens ρ as ++ dens ρ bs := by
 induction as with
 | nil => rfl
 | cons e es ih => simp [ih]
theorem zaq? (ρ : Nat → AV) (es : List SE) (i : Nat) : (dens ρ es)[i]? = (es[i]?).map (den ρ) := by
 induction es generalizing i with
 | nil => simp
 | cons e es ih => cases i <;> simp [ih]
theorem zbx (ρ : Nat → AV) (es : List SE) : dens ρ es = es.map (den ρ) := by
 induction es with
 | nil => rfl
 | cons e es ih => simp [ih]
end Go.Lb
namespace Go.Lb
open Go.RowKit
structure Imm (c : Cx) (w : World) : Prop where
 I : ∀ b o v, c.I b o = some v → w.cell? ⟨b, o, none⟩ = some v
 M : ∀ b o, c.M b = some o → w.heap[b]? = some o
theorem Rvs.length {c : Cx} {as : List AV} {vs : List Value} (h : Rvs c as vs) : vs.length = as.length := by
 induction as generalizing vs with
 | nil => cases h; rfl
 | cons a as ih => cases h with | cons _ v _ vs h1 h2 => simp [ih h2]
theorem Rvs.get {c : Cx} {as : List AV} {vs : List Value} (h : Rvs c as vs) {i : Nat} {a : AV} (ha : as[i]? = some a) : ∃ v, vs[i]? = some v ∧ Rv c a v := by
 induction as generalizing vs i with
 | nil => simp at ha
 | cons b as ih =>
  cases h with
  | cons _ v _ vs h1 h2 =>
   cases i with
   | zero => simp at ha; subst ha; exact ⟨v, rfl, h1⟩
   | succ i => simp at ha; obtain ⟨u, hu, hr⟩ := ih h2 ha; exact ⟨u, by simpa using hu, hr⟩
theorem Rvs.append {c : Cx} {as bs : List AV} {vs us : List Value} (h : Rvs c as vs) (k : Rvs c bs us) : Rvs c (as ++ bs) (vs ++ us) := by
 induction as generalizing vs with
 | nil => cases h; exact k
 | cons a as ih => cases h with | cons _ v _ vs h1 h2 => exact .cons a v _ _ h1 (ih h2)
theorem Rvs.take {c : Cx} {as : List AV} {vs : List Value} (h : Rvs c as vs) (n : Nat) : Rvs c (as.take n) (vs.take n) := by
 induction as generalizing vs n with
 | nil => cases h; simp; exact .nil
 | cons a as ih =>
  cases h with
  | cons _ v _ vs h1 h2 =>
   cases n with
   | zero => simp; exact .nil
   | succ n => simp; exact .cons a v _ _ h1 (ih h2 n)
theorem Rvs.drop {c : Cx} {as : List AV} {vs : List Value} (h : Rvs c as vs) (n : Nat) : Rvs c (as.drop n) (vs.drop n) := by
 induction as generalizing vs n with
 | nil => cases h; simp; exact .nil
 | cons a as ih =>
  cases h with
  | cons _ v _ vs h1 h2 =>
   cases n with
   | zero => simp; exact .cons a v _ _ h1 h2
   | succ n => simp; exact ih h2 n
theorem Rvs.split {c : Cx} {as bs : List AV} {vs : List Value} (h : Rvs c (as ++ bs) vs) : ∃ v1 v2, vs = v1 ++ v2 ∧ Rvs c as v1 ∧ Rvs c bs v2 := by
 induction as generalizing vs with
 | nil => exact ⟨[], vs, rfl, .nil, h⟩
 | cons a as ih =>
  cases h with
  | cons _ v _ vs h1 h2 =>
   obtain ⟨v1, v2, e, r1, r2⟩ := ih h2
   exact ⟨v :: v1, v2, by rw [e]; rfl, .cons a v _ _ h1 r1, r2⟩
theorem Rv.cells {c : Cx} {a : AV} {v : Value} (h : Rv c a v) (hu : a ≠ .undef) (ht : ∀ vs, a ≠ .tup vs) : Rvs c a.cells v.cells.toList := by
 cases h
 case undef => exact absurd rfl hu
 case tup cs vs h => exact absurd rfl (ht _)
 case agg cs vs h => exact h
 case bool b => exact .cons _ _ _ _ (.bool b) .nil
 case int k n => exact .cons _ _ _ _ (.int k n) .nil
 case nilp => exact .cons _ _ _ _ .nilp .nil
 case nilf => exact .cons _ _ _ _ .nilf .nil
 case nsl => exact .cons _ _ _ _ .nsl .nil
 case slnil => exact .cons _ _ _ _ .slnil .nil
 case sl0 a => exact .cons _ _ _ _ (.sl0 a) .nil
 case sl es sz b o cap h1 h2 h3 => exact .cons _ _ _ _ (.sl es sz b o cap h1 h2 h3) .nil
 case eptr es sz b o i off h2 hi h3 => exact .cons _ _ _ _ (.eptr es sz b o i off h2 hi h3) .nil
 case ref cs b o off h => exact .cons _ _ _ _ (.ref cs b o off h) .nil
 case clo f fs cs vf vc h1 h2 => exact .cons _ _ _ _ (.clo f fs cs vf vc h1 h2) .nil
 case mp k ks vs b clk es h1 h2 h3 => exact .cons _ _ _ _ (.mp k ks vs b clk es h1 h2 h3) .nil
 case ptr i off => exact .cons _ _ _ _ (.ptr i off) .nil
 case row i a n cap h => exact .cons _ _ _ _ (.row i a n cap h) .nil
 case rptr i k sz off b o n cap h => exact .cons _ _ _ _ (.rptr i k sz off b o n cap h) .nil
 case yield i => exact .cons _ _ _ _ (.yield i) .nil
 case mref i => exact .cons _ _ _ _ (.mref i) .nil
theorem Rv.cells_of_one {c : Cx} {a : AV} {v : Value} (h : Rv c a v) (h1 : a.one = true) : v.oneCell' = true ∧ v.cells = #[v] := by
 cases h <;> simp_all [Value.oneCell', Value.cells]
theorem Rvs.ones {c : Cx} {as : List AV} {vs : List Value} (h : Rvs c as vs) (h1 : AV.ones as = true) : ∀ v ∈ vs, v.oneCell' = true := by
 induction as generalizing vs with
 | nil => cases h; simp
 | cons a as ih =>
  cases h with
  | cons _ v _ vs h2 h3 =>
   simp at h1
   intro u hu
   rcases List.mem_cons.1 hu with rfl | hu
   ·exact (h2.cells_of_one h1.1).1
   ·exact ih h3 h1.2 u hu
theorem Rcells.get {c : Cx} {b o : Nat} {as : List AV} (h : Rcells c b o as) {i : Nat} {a : AV} (ha : as[i]? = some a) : ∃ v, c.I b (o + i) = some v ∧ Rv c a v := by
 induction as generalizing o i with
 | nil => simp at ha
 | cons x as ih =>
  cases h with
  | cons _ _ _ v _ h1 h2 h3 =>
   cases i with
   | zero => simp at ha; subst ha; exact ⟨v, h1, h2⟩
   | succ i =>
    simp at ha
    obtain ⟨u, hu, hr⟩ := ih h3 ha
    exact ⟨u, by rw [← hu]; congr 1; omega, hr⟩
theorem Rcells.drop {c : Cx} {b o : Nat} {as : List AV} (h : Rcells c b o as) (n : Nat) : Rcells c b (o + n) (as.drop n) := by
 induction as generalizing o n with
 | nil => simp; exact .nil _ _
 | cons x as ih =>
  cases h with
  | cons _ _ _ v _ h1 h2 h3 =>
   cases n with
   | zero => simp; exact .cons _ _ _ v _ h1 h2 h3
   | succ n =>
    simp
    have := ih h3 n
    rwa [show o + 1 + n = o + (n + 1) from by omega] at this
theorem Rcells.take {c : Cx} {b o : Nat} {as : List AV} (h : Rcells c b o as) (n : Nat) : Rcells c b o (as.take n) := by
 induction as generalizing o n with
 | nil => simp; exact .nil _ _
 | cons x as ih =>
  cases h with
  | cons _ _ _ v _ h1 h2 h3 =>
   cases n with
   | zero => simp; exact .nil _ _
   | succ n => simp; exact .cons _ _ _ v _ h1 h2 (ih h3 n)
theorem Rcells.append {c : Cx} {b o : Nat} {as bs : List AV} (h : Rcells c b o as) (k : Rcells c b (o + as.length) bs) : Rcells c b o (as ++ bs) := by
 induction as generalizing o with
 | nil => simpa using k
 | cons x as ih =>
  cases h with
  | cons _ _ _ v _ h1 h2 h3 =>
   exact .cons _ _ _ v _ h1 h2 (ih h3 (by rw [show o + 1 + as.length = o + (x :: as).length from by simp; omega]; exact k))
theorem Addr.add_eq (b o i : Nat) : (⟨b, o, none⟩ : Addr).add i = ⟨b, o + i, none⟩ := by
 unfold Addr.add; split
 ·subst_vars; rfl
 ·rfl
theorem Rcells.values {c : Cx} {b o : Nat} {as : List AV} (h : Rcells c b o as) {w : World} (hi : Imm c w) :
  ∃ vs, Rvs c as vs ∧ ∀ j v, vs[j]? = some v → w.cell? (Addr.add ⟨b, o, none⟩ j) = some v := by
 induction as generalizing o with
 | nil => exact ⟨[], .nil, by simp⟩
 | cons x as ih =>
  cases h with
  | cons _ _ _ v _ h1 h2 h3 =>
   obtain ⟨vs, hv, hc⟩ := ih h3
   refine ⟨v :: vs, .cons _ _ _ _ h2 hv, fun j u hu => ?_⟩
   cases j with
   | zero => simp at hu; subst hu; rw [Addr.add_eq]; exact hi.I _ _ _ h1
   | succ j =>
    simp at hu
    have := hc j u hu
    rw [Addr.add_eq] at this ⊢
    rwa [show o + 1 + j = o + (j + 1) from by omega] at this
theorem zaH {es : List AV} {sz : Nat} (h : ∀ e ∈ es, e.cells.length = sz) : (AV.flat es).length = es.length * sz := by
 induction es with
 | nil => simp [AV.flat]
 | cons e es ih =>
  show (e.cells ++ AV.flat es).length = _
  rw [List.length_append, h e (by simp), ih (fun x hx => h x (by simp [hx]))]
  simp [Nat.add_mul]; omega
theorem zcX {es : List AV} {sz : Nat} (h : ∀ e ∈ es, e.cells.length = sz) (i : Nat) : (AV.flat es).drop (i * sz) = AV.flat (es.drop i) := by
 induction es generalizing i with
 | nil => simp [AV.flat]
 | cons e es ih =>
  cases i with
  | zero => simp
  | succ i =>
   show (e.cells ++ AV.flat es).drop _ = _
   have he := h e (by simp)
   rw [List.drop_append, List.drop_eq_nil_of_le (by rw [he, Nat.add_mul]; omega)]
   simp only [List.nil_append, he, List.drop_succ_cons]
   rw [show (i + 1) * sz - sz = i * sz from by rw [Nat.add_mul]; omega]
   exact ih (fun x hx => h x (by simp [hx])) i
theorem zaY (e : AV) (es : List AV) : AV.flat (e :: es) = e.cells ++ AV.flat es := rfl
theorem zbq (as bs : List AV) : AV.flat (as ++ bs) = AV.flat as ++ AV.flat bs := by simp [AV.flat]
theorem Rcells.elem {c : Cx} {b o : Nat} {es : List AV} {sz : Nat} (h : Rcells c b o (AV.flat es)) (hs : ∀ e ∈ es, e.cells.length = sz) {i : Nat} (hi : i < es.length) :
  Rcells c b (o + i * sz) (es.getD i .undef).cells := by
 have h1 := h.drop (i * sz)
 rw [zcX hs, List.drop_eq_getElem_cons hi, zaY] at h1
 have h2 := h1.take (es[i].cells).length
 rw [List.take_left] at h2
 simpa [List.getD_eq_getElem?_getD, List.getElem?_eq_getElem hi] using h2
end Go.Lb
namespace Go.Lb
open Go.RowKit
def tsz (P : Program) (t : TypeId) : Option (Nat × Bool) :=
 match P.info? t, P.underlying t with
 | some i, some (.struct _) => some (i.size, true)
 | some i, some (.array _ _) => some (i.size, true)
 | some i, some _ => some (i.size, false)
 | _, _ => none
theorem run_typeInfo {P : Program} {t : TypeId} {i : TypeInfo} (h : P.info? t = some i) (w : World) : (typeInfo t).run P w = .ok i w := by
 simp [typeInfo, h]
theorem zar {P : Program} {t : TypeId} {n : Nat} {g : Bool} (h : tsz P t = some (n, g)) (w : World) :
  (sizeOf t).run P w = .ok n w ∧ (isAgg t).run P w = .ok g w := by
 unfold tsz at h
 split at h
 ·rename_i i fs h1 h2
  simp only [Option.some.injEq, Prod.mk.injEq] at h; obtain ⟨rfl, rfl⟩ := h
  simp [sizeOf, run_typeInfo h1, isAgg, run_underlying h2]
 ·rename_i i a e h1 h2
  simp only [Option.some.injEq, Prod.mk.injEq] at h; obtain ⟨rfl, rfl⟩ := h
  simp [sizeOf, run_typeInfo h1, isAgg, run_underlying h2]
 ·rename_i i d h0 h00 h1 h2
  simp only [Option.some.injEq, Prod.mk.injEq] at h; obtain ⟨rfl, rfl⟩ := h
  refine ⟨by simp [sizeOf, run_typeInfo h1], ?_⟩
  simp only [isAgg, Sem.run_bind, run_underlying h2, Result.andThen_ok]
  rfl
 ·cases h
theorem run_loadVar {P : Program} {t : TypeId} {n : Nat} {g : Bool} (ht : tsz P t = some (n, g)) {c : Cx} {w : World} {a : Addr} {as : List AV} {vs : List Value}
  (hr : Rvs c as vs) (hc : ∀ j v, vs[j]? = some v → w.cell? (a.add j) = some v) (ha : a.spot = none) (off : Nat) (hok : AV.cutOk as off n g) :
  ∃ v, (loadVar t ⟨a.block, a.off + off, none⟩).run P w = .ok v w ∧ Rv c (AV.cut as off n g) v := by
 obtain ⟨h1, h2⟩ := zar ht w
 have hadd : ∀ k, a.add k = ⟨a.block, a.off + k, none⟩ := fun k => by
  obtain ⟨b, o, s⟩ := a; simp at ha; subst ha; exact Addr.add_eq b o k
 cases g with
 | true =>
  simp at hok
  have hr2 := (hr.drop off).take n
  refine ⟨.agg ⟨(vs.drop off).take n⟩, ?_, .agg _ _ hr2⟩
  have hl : ((vs.drop off).take n).length = n := by simp [List.length_take, List.length_drop, hr.length]; omega
  have := run_loadCells_list (P := P) (w := w) ⟨a.block, a.off + off, none⟩ ((vs.drop off).take n) (fun j v hv => by
   rw [Addr.add_eq]
   rw [List.getElem?_take] at hv
   split at hv
   ·rw [List.getElem?_drop] at hv
    have := hc _ _ hv
    rw [hadd] at this
    rwa [show a.off + off + j = a.off + (off + j) from by omega]
   ·cases hv)
  rw [hl] at this
  simp only [loadVar, Sem.run_bind, h2, Result.andThen_ok, if_true, h1, this, Sem.run_pure]
 | false =>
  simp at hok
  obtain ⟨hlt, rfl⟩ := hok
  obtain ⟨v, hv, hrv⟩ := hr.get (i := off) (a := as[off]) (by simp [hlt])
  refine ⟨v, ?_, ?_⟩
  ·have := hc _ _ hv
   rw [hadd] at this
   simp [loadVar, h2, run_load, this]
  ·simpa [AV.cut, hlt] using hrv
theorem run_loadVar_I {P : Program} {t : TypeId} {n : Nat} {g : Bool} (ht : tsz P t = some (n, g)) {c : Cx} {w : World} (hi : Imm c w) {b o : Nat} {as : List AV}
  (h : Rcells c b o as) (off : Nat) (hok : AV.cutOk as off n g) :
  ∃ v, (loadVar t ⟨b, o + off, none⟩).run P w = .ok v w ∧ Rv c (AV.cut as off n g) v := by
 obtain ⟨vs, hr, hc⟩ := h.values hi
 exact run_loadVar ht hr hc rfl off hok
def zbd (P : Program) : (d : Nat) → TypeId → Option (List (Option IntKind))
 | 0, _ => none
 | d + 1, t =>
  match P.underlying t with
  | some .bool => some [none]
  | some (.int k) => some [some k]
  | some (.struct fs) =>
   if P.stoodInHeld t then none else
   fieldsKinds (zbd P d) 0 fs.toList
  | some (.array n e) =>
   match zbd P d e, tsz P e with
   | some ks, some (sz, _) => if ks.length = sz then some ((List.replicate n ks).flatten) else none
   | _, _ => none
  | _ => none
where
 fieldsKinds (rec : TypeId → Option (List (Option IntKind))) (off : Nat) : List Field → Option (List (Option IntKind))
  | [] => some []
  | f :: fs =>
   match rec f.type, tsz P f.type with
   | some ks, some (sz, _) =>
    if f.name ≠ "_" ∧ f.offset = off ∧ ks.length = sz ∧ sz ≠ 0 then (fieldsKinds rec (off + sz) fs).map (ks ++ ·) else none
   | _, _ => none
def eqV : Value → Value → Bool
 | .bool a, .bool b => a == b
 | .int _ a, .int _ b => a == b
 | _, _ => false
def eqVs : List Value → List Value → Bool
 | [], [] => true
 | a :: as, b :: bs => eqV a b && eqVs as bs
 | _, _ => false
def zop : Option IntKind → Value → Prop
 | none, .bool _ => True
 | some k, .int k' _ => k = k'
 | _, _ => False
def zcb : List (Option IntKind) → List Value → Prop
 | [], [] => True
 | k :: ks, a :: as => zop k a ∧ zcb ks as
 | _, _ => False
theorem zcb.length {ks : List (Option IntKind)} {vs : List Value} (h : zcb ks vs) : vs.length = ks.length := by
 induction ks generalizing vs with
 | nil => cases vs with
  | nil => rfl
  | cons v vs => exact h.elim
 | cons k ks ih => cases vs with
  | nil => exact h.elim
  | cons v vs => simp [ih h.2]
theorem zcb.split {k1 k2 : List (Option IntKind)} {vs : List Value} (h : zcb (k1 ++ k2) vs) :
  zcb k1 (vs.take k1.length) ∧ zcb k2 (vs.drop k1.length) := by
 induction k1 generalizing vs with
 | nil => exact ⟨trivial, h⟩
 | cons k ks ih => cases vs with
  | nil => exact h.elim
  | cons v vs => exact ⟨⟨h.1, (ih h.2).1⟩, (ih h.2).2⟩
theorem zgu (n : Nat) : ∀ (as bs : List Value), as.length = bs.length → eqVs as bs = (eqVs (as.take n) (bs.take n) && eqVs (as.drop n) (bs.drop n)) := by
 induction n with
 | zero => intro as bs _; simp [eqVs]
 | succ n ih =>
  intro as bs h
  cases as with
  | nil => cases bs with
   | nil => rfl
   | cons b bs => simp at h
  | cons a as =>
   cases bs with
   | nil => simp at h
   | cons b bs =>
    simp only [List.take_succ_cons, List.drop_succ_cons, eqVs]
    rw [ih as bs (by simpa using h), Bool.and_assoc]
def zdT (g : Bool) (vs : List Value) : Value :=
 match g with
 | true => .agg ⟨vs⟩
 | false => vs.getD 0 undef
theorem run_part {P : Program} {t : TypeId} {n : Nat} {g : Bool} (ht : tsz P t = some (n, g)) (xs : List Value) (off : Nat) (h : off + n ≤ xs.length) (hn : g = false → n = 1) (w : World) :
  (part t ⟨xs⟩ off).run P w = .ok (zdT g ((xs.drop off).take n)) w := by
 obtain ⟨h1, h2⟩ := zar ht w
 cases g with
 | true => simp [part, h2, h1, zdT, List.extract_eq_take_drop]
 | false =>
  have := hn rfl; subst this
  have hlt : off < xs.length := by omega
  simp [part, h2, zdT, hlt, List.getD_eq_getElem?_getD]
theorem zh2 {P : Program} : ∀ (d D : Nat) (t : TypeId) (ks : List (Option IntKind)), d ≤ D → zbd P d t = some ks →
  ∃ g n, tsz P t = some (n, g) ∧ (g = false → ks.length = 1) ∧ ∀ (xs ys : List Value) (w : World), zcb ks xs → zcb ks ys →
   (Op.equalIn D t (zdT g xs) (zdT g ys)).run P w = .ok (eqVs xs ys) w := by
 intro d
 induction d with
 | zero => intro D t ks _ h; simp [zbd] at h
 | succ d ih =>
  intro D t ks hD h
  obtain ⟨D, rfl⟩ : ∃ D', D = D' + 1 := ⟨D - 1, by omega⟩
  unfold zbd at h
  have hinfo : ∀ u, P.underlying t = some u → ∃ i, P.info? t = some i := by
   intro u hu
   unfold Program.underlying at hu
   cases hp : P.info? t with
   | none => simp [hp] at hu
   | some i => exact ⟨i, rfl⟩
  split at h
  ·rename_i hu
   obtain ⟨i, hi⟩ := hinfo _ hu
   simp only [Option.some.injEq] at h; subst h
   refine ⟨false, i.size, by simp [tsz, hi, hu], fun _ => rfl, fun xs ys w hx hy => ?_⟩
   match xs, ys, hx, hy with
   | [.bool a], [.bool b], _, _ => simp [zdT, run_equalIn_bool' w D t a b hu, eqVs, eqV]
  ·rename_i k hu
   obtain ⟨i, hi⟩ := hinfo _ hu
   simp only [Option.some.injEq] at h; subst h
   refine ⟨false, i.size, by simp [tsz, hi, hu], fun _ => rfl, fun xs ys w hx hy => ?_⟩
   match xs, ys, hx, hy with
   | [.int k1 a], [.int k2 b], hx, hy =>
    simp [zcb, zop] at hx hy; subst hx; subst hy
    simp [zdT, run_equalIn_int w D t k k a b hu, eqVs, eqV]
  ·rename_i fs hu
   obtain ⟨i, hi⟩ := hinfo _ hu
   split at h
   ·cases h
   ·rename_i hs
    refine ⟨true, i.size, by simp [tsz, hi, hu], by simp, fun xs ys w hx hy => ?_⟩
    have hfs : P.fieldsOf t = fs := by simp [Program.fieldsOf, hu]
    have hrun := run_equalIn_struct (P := P) w D t ⟨xs⟩ ⟨ys⟩ (by rw [hfs]; exact hu) (by simpa using hs)
    simp only [zdT]
    rw [hrun, hfs]
    clear hrun hfs hs hu
    generalize fs.toList = l at h
    have key : ∀ (l : List Field) (off : Nat) (kk : List (Option IntKind)), zbd.fieldsKinds P (zbd P d) off l = some kk →
      ∀ (xs ys : List Value), zcb kk (xs.drop off) → zcb kk (ys.drop off) →
      (Op.eqFields D ⟨xs⟩ ⟨ys⟩ l).run P w = .ok (eqVs (xs.drop off) (ys.drop off)) w := by
     intro l
     induction l with
     | nil =>
      intro off kk hk xs ys hx hy
      simp [zbd.fieldsKinds] at hk; subst hk
      have e1 := hx.length; have e2 := hy.length
      simp only [List.length_nil] at e1 e2
      rw [List.length_eq_zero_iff.1 e1, List.length_eq_zero_iff.1 e2]
      simp [Op.eqFields, eqVs]
     | cons f l ihl =>
      intro off kk hk xs ys hx hy
      unfold zbd.fieldsKinds at hk
      split at hk
      ·rename_i k1 sz g1 hk1 ht1
       split at hk
       ·rename_i hc
        obtain ⟨hname, hoff, hlen, hz⟩ := hc
        subst hoff
        obtain ⟨k2, hk2, rfl⟩ := Option.map_eq_some_iff.1 hk
        obtain ⟨g, n, htg, hg1, hrec⟩ := ih D f.type k1 (by omega) hk1
        rw [ht1] at htg
        simp only [Option.some.injEq, Prod.mk.injEq] at htg
        obtain ⟨rfl, rfl⟩ := htg
        have sx := hx.split; have sy := hy.split
        have lx := hx.length; have ly := hy.length
        simp only [List.length_drop, List.length_append] at lx ly
        rw [hlen] at sx sy lx ly
        simp only [Op.eqFields, hname, ne_eq, not_false_eq_true, if_true]
        have hn1 : g1 = false → sz = 1 := fun e => by rw [← hlen]; exact hg1 e
        have p1 := run_part ht1 xs f.offset (by omega) hn1 w
        have p2 := run_part ht1 ys f.offset (by omega) hn1 w
        have hr := hrec _ _ w sx.1 sy.1
        have hrest := ihl (f.offset + sz) k2 hk2 xs ys (by simpa [List.drop_drop] using sx.2) (by simpa [List.drop_drop] using sy.2)
        simp only [Sem.run_bind, p1, p2, Result.andThen_ok, hr]
        rw [zgu sz (xs.drop f.offset) (ys.drop f.offset) (by simp; omega)]
        cases eqVs ((xs.drop f.offset).take sz) ((ys.drop f.offset).take sz) with
        | false => simp
        | true => simp [hrest, List.drop_drop]
       ·cases hk
      ·cases hk
    exact key l 0 ks h xs ys (by simpa using hx) (by simpa using hy)
  ·rename_i len e hu
   obtain ⟨i, hi⟩ := hinfo _ hu
   split at h
   ·rename_i k1 sz g1 hk1 ht1
    split at h
    ·rename_i hlen
     simp only [Option.some.injEq] at h; subst h
     obtain ⟨g, n, htg, hg1, hrec⟩ := ih D e k1 (by omega) hk1
     rw [ht1] at htg
     simp only [Option.some.injEq, Prod.mk.injEq] at htg
     obtain ⟨rfl, rfl⟩ := htg
     refine ⟨true, i.size, by simp [tsz, hi, hu], by simp, fun xs ys w hx hy => ?_⟩
     simp only [zdT, Op.equalIn, Sem.run_bind, run_underlying hu, Result.andThen_ok, (zar ht1 w).1]
     rw [Std.Legacy.Range.forIn_eq_forIn_range']
     have hn1 : g1 = false → sz = 1 := fun e => by rw [← hlen]; exact hg1 e
     have key : ∀ (m off : Nat), zcb (List.replicate m k1).flatten (xs.drop (off * sz)) → zcb (List.replicate m k1).flatten (ys.drop (off * sz)) →
       (Sem.run P (forIn (List.range' off m 1) ((none, ()) : Option Bool × Unit) fun i __s => do
        let __do_lift ← part e ⟨xs⟩ (i * sz)
        let __do_lift_1 ← part e ⟨ys⟩ (i * sz)
        let __do_lift ← Op.equalIn D e __do_lift __do_lift_1
        if (!__do_lift) = true then pure (ForInStep.done (some false, ())) else pure (ForInStep.yield (none, ()))) w) =
       .ok (if eqVs (xs.drop (off * sz)) (ys.drop (off * sz)) then none else some false, ()) w := by
      intro m
      induction m with
      | zero =>
       intro off hx hy
       have e1 := hx.length; have e2 := hy.length
       simp only [List.replicate_zero, List.flatten_nil, List.length_nil] at e1 e2
       rw [List.length_eq_zero_iff.1 e1, List.length_eq_zero_iff.1 e2]
       simp [eqVs]
      | succ m ihm =>
       intro off hx hy
       rw [List.replicate_succ, List.flatten_cons] at hx hy
       have sx := hx.split; have sy := hy.split
       have lx := hx.length; have ly := hy.length
       simp only [List.length_drop, List.length_append] at lx ly
       rw [hlen] at sx sy lx ly
       have hrest := ihm (off + 1) (by simpa [List.drop_drop, Nat.add_mul] using sx.2) (by simpa [List.drop_drop, Nat.add_mul] using sy.2)
       have p1 : (part e ⟨xs⟩ (off * sz)).run P w = .ok (zdT g1 ((xs.drop (off * sz)).take sz)) w ∧ (part e ⟨ys⟩ (off * sz)).run P w = .ok (zdT g1 ((ys.drop (off * sz)).take sz)) w := by
        by_cases hz : sz = 0
        ·subst hz
         have hg : g1 = true := by cases g1 <;> simp_all
         subst hg
         obtain ⟨h1, h2⟩ := zar ht1 w
         simp [part, h2, h1, zdT, List.extract_eq_take_drop]
        ·exact ⟨run_part ht1 xs _ (by omega) hn1 w, run_part ht1 ys _ (by omega) hn1 w⟩
       have hr := hrec _ _ w sx.1 sy.1
       rw [List.range'_succ, List.forIn_cons]
       simp only [Sem.run_bind, p1.1, p1.2, Result.andThen_ok, hr]
       rw [zgu sz (xs.drop (off * sz)) (ys.drop (off * sz)) (by simp; omega)]
       cases eqVs ((xs.drop (off * sz)).take sz) ((ys.drop (off * sz)).take sz) with
       | false => simp
       | true =>
        simp only [Bool.not_true, Bool.false_eq_true, if_false, Sem.run_pure, Result.andThen_ok, hrest, Bool.true_and, List.drop_drop, Nat.add_mul, Nat.one_mul]
     have hk := key len 0 (by simpa using hx) (by simpa using hy)
     have hsz : ([:len] : Std.Legacy.Range).size = len := by simp [Std.Legacy.Range.size]
     simp only [hsz]
     rw [hk]
     simp only [Nat.zero_mul, List.drop_zero, Result.andThen_ok]
     cases eqVs xs ys <;> rfl
    ·cases h
   ·cases h
  ·cases h
end Go.Lb
namespace Go.Lb
open Go.RowKit
mutual
def seOf : Value → Option SE
 | .bool b => some (.bool b)
 | .int k n => some (.int k n)
 | .nilFunc => some .nilf
 | .pointer none => some .nilp
 | .slice none 0 0 => some .enil
 | .func (.func f) ⟨[]⟩ ⟨[]⟩ => some (.clo f [] [])
 | .agg ⟨vs⟩ => (zfc vs).map .agg
 | .map none => some .undef
 | _ => none
def zfc : List Value → Option (List SE)
 | [] => some []
 | v :: vs => match seOf v, zfc vs with
  | some e, some es => some (e :: es)
  | _, _ => none
end
mutual
theorem zeJ (c : Cx) (ρ : Nat → AV) : ∀ (v : Value) (e : SE), seOf v = some e → Rv c (den ρ e) v
 | .bool b, e, h => by simp only [seOf, Option.some.injEq] at h; subst h; exact .bool b
 | .int k n, e, h => by simp only [seOf, Option.some.injEq] at h; subst h; exact .int k n
 | .nilFunc, e, h => by simp only [seOf, Option.some.injEq] at h; subst h; exact .nilf
 | .pointer none, e, h => by simp only [seOf, Option.some.injEq] at h; subst h; exact .nilp
 | .slice none 0 0, e, h => by simp only [seOf, Option.some.injEq] at h; subst h; exact .nsl
 | .func (.func f) ⟨[]⟩ ⟨[]⟩, e, h => by simp only [seOf, Option.some.injEq] at h; subst h; exact .clo f [] [] [] [] .nil .nil
 | .agg ⟨vs⟩, e, h => by
  simp only [seOf, Option.map_eq_some_iff] at h
  obtain ⟨es, h1, rfl⟩ := h
  exact .agg _ _ (zdQ c ρ vs es h1)
 | .map none, e, h => by simp only [seOf, Option.some.injEq] at h; subst h; exact .undef _ (fun _ h => by cases h)
 | .pointer (some _), _, h | .slice (some _) _ _, _, h | .slice none (_ + 1) _, _, h | .slice none 0 (_ + 1), _, h => by simp [seOf] at h
 | .float _ _, _, h | .complex _ _ _, _, h | .string _, _, h | .map (some _), _, h | .chan _, _, h | .iface _ _, _, h | .nilIface, _, h | .tuple _, _, h => by simp [seOf] at h
 | .func (.method _) _ _, _, h | .func (.methodOf _ _) _ _, _, h | .func (.via _ _ _ _) _ _, _, h | .func (.yield _) _ _, _, h => by simp [seOf] at h
 | .func (.func _) ⟨_ :: _⟩ _, _, h | .func (.func _) ⟨[]⟩ ⟨_ :: _⟩, _, h => by simp [seOf] at h
theorem zdQ (c : Cx) (ρ : Nat → AV) : ∀ (vs : List Value) (es : List SE), zfc vs = some es → Rvs c (dens ρ es) vs
 | [], es, h => by simp only [zfc, Option.some.injEq] at h; subst h; exact .nil
 | v :: vs, es, h => by
  simp only [zfc] at h
  split at h
  ·rename_i e es' h1 h2
   simp only [Option.some.injEq] at h; subst h
   exact .cons _ _ _ _ (zeJ c ρ v e h1) (zdQ c ρ vs es' h2)
  ·cases h
end
def SE.sure1 : SE → Bool
 | .bool _ | .int _ _ | .nilp | .nilf | .nils | .enil | .clo _ _ _ | .mp _ _ _ | .ref _ _ | .ptr _ _ | .row _ | .yield _ | .mref _ => true
 | _ => false
theorem SE.sure1_one {ρ : Nat → AV} {e : SE} (h : e.sure1 = true) : (den ρ e).one = true := by
 cases e <;> simp_all [SE.sure1]
abbrev Chk := PF × List SE
def zan (n : Nat) (agg : Bool) (e : SE) : List SE × List Chk :=
 if agg then
  (match e with
   | .agg cs => if cs.length = n then (cs, if cs.all SE.sure1 then [] else [(.isAgg n, [e])]) else ((List.range n).map fun k => .app (.part k 1 false) [e], [(.isAgg n, [e])])
   | _ => ((List.range n).map fun k => .app (.part k 1 false) [e], [(.isAgg n, [e])]))
 else ([e], if e.sure1 then [] else [(.isOne, [e])])
def Chks (ρ : Nat → AV) (l : List Chk) : Prop := ∀ x ∈ l, pok x.1 (dens ρ x.2)
theorem Chks.append {ρ : Nat → AV} {a b : List Chk} : Chks ρ (a ++ b) ↔ Chks ρ a ∧ Chks ρ b :=
 ⟨fun h => ⟨fun x hx => h x (by simp [hx]), fun x hx => h x (by simp [hx])⟩, fun h x hx => (List.mem_append.1 hx).elim (h.1 x) (h.2 x)⟩
theorem Chks.cons {ρ : Nat → AV} {a : Chk} {b : List Chk} : Chks ρ (a :: b) ↔ pok a.1 (dens ρ a.2) ∧ Chks ρ b := by
 simp [Chks]
theorem zf7 (cs : List AV) : (List.range cs.length).map (fun k => cs.getD k .undef) = cs := by
 apply List.ext_getElem
 ·simp
 ·intro i h1 h2; simp at h1 ⊢; simp [h1]
theorem zgt {ρ : Nat → AV} : ∀ {cs : List SE}, cs.all SE.sure1 = true → AV.ones (dens ρ cs) = true
 | [], _ => rfl
 | c :: cs, h => by
  simp only [List.all_cons, Bool.and_eq_true] at h
  simp only [dens, AV.ones, Bool.and_eq_true]; exact ⟨SE.sure1_one h.1, zgt h.2⟩
theorem zhY {ρ : Nat → AV} {n : Nat} {e : SE} {cs : List AV} (hd : den ρ e = .agg cs) (hl : cs.length = n) :
  dens ρ ((List.range n).map fun k => .app (.part k 1 false) [e]) = cs := by
 rw [zbx, List.map_map]
 have : (den ρ ∘ fun k => SE.app (.part k 1 false) [e]) = fun k => cs.getD k .undef := by
  funext k; simp [den, dens, hd, pv, AV.cut]
 rw [this, ← hl]; exact zf7 cs
theorem zbM {c : Cx} {ρ : Nat → AV} {n : Nat} {agg : Bool} {e : SE} {v : Value} (h : Rv c (den ρ e) v) (hn : agg = false → n = 1) (hk : Chks ρ (zan n agg e).2) :
  Rvs c (dens ρ (zan n agg e).1) v.cells.toList ∧ v.cells.size = n ∧ (∀ u ∈ v.cells.toList, u.oneCell' = true) ∧ (den ρ e).cells = dens ρ (zan n agg e).1 ∧
  AV.ones (dens ρ (zan n agg e).1) = true := by
 have main : ∀ cs, den ρ e = .agg cs → cs.length = n → AV.ones cs = true → Rvs c cs v.cells.toList ∧ v.cells.size = n ∧ (∀ u ∈ v.cells.toList, u.oneCell' = true) := by
  intro cs hd hl ho
  rw [hd] at h
  cases h with
  | agg _ vs h => exact ⟨h, by simp [Value.cells, h.length, hl], h.ones ho⟩
 unfold zan at hk ⊢
 cases agg with
 | true =>
  simp only [if_true] at hk ⊢
  have parts : Chks ρ [(.isAgg n, [e])] → Rvs c (dens ρ ((List.range n).map fun k => .app (.part k 1 false) [e])) v.cells.toList ∧ v.cells.size = n ∧ (∀ u ∈ v.cells.toList, u.oneCell' = true) ∧
    (den ρ e).cells = dens ρ ((List.range n).map fun k => .app (.part k 1 false) [e]) ∧ AV.ones (dens ρ ((List.range n).map fun k => .app (.part k 1 false) [e])) = true := by
   intro hk
   have h1 := hk _ (by simp : (PF.isAgg n, [e]) ∈ [(PF.isAgg n, [e])])
   simp only [dens] at h1
   cases hd : den ρ e with
   | agg cs =>
    rw [hd] at h1; simp only [pok] at h1
    rw [zhY hd h1.1]
    obtain ⟨m1, m2, m3⟩ := main cs hd h1.1 h1.2
    exact ⟨m1, m2, m3, rfl, h1.2⟩
   | _ => rw [hd] at h1; simp [pok] at h1
  split at hk
  ·rename_i cs
   split at hk
   ·rename_i hc
    simp only [hc, if_true]
    have hone : AV.ones (dens ρ cs) = true := by
     by_cases hs : cs.all SE.sure1 = true
     ·exact zgt hs
     ·rw [if_neg hs] at hk
      have h1 := hk _ (by simp : (PF.isAgg n, [SE.agg cs]) ∈ [(PF.isAgg n, [SE.agg cs])])
      simp only [dens, den, pok] at h1
      exact h1.2
    obtain ⟨m1, m2, m3⟩ := main (dens ρ cs) (by simp) (by rw [zab]; exact hc) hone
    exact ⟨m1, m2, m3, by simp, hone⟩
   ·rename_i hc
    rw [if_neg hc]
    exact parts hk
  ·exact parts hk
 | false =>
  have := hn rfl; subst this
  simp only [Bool.false_eq_true, if_false] at hk ⊢
  have h1 : (den ρ e).one = true := by
   by_cases hs : e.sure1 = true
   ·exact SE.sure1_one hs
   ·simp only [hs, Bool.false_eq_true, if_false] at hk
    have := hk _ (by simp : (PF.isOne, [e]) ∈ [(PF.isOne, [e])])
    simpa [pok] using this
  obtain ⟨o1, o2⟩ := h.cells_of_one h1
  rw [o2]
  refine ⟨.cons _ _ _ _ h .nil, rfl, by simpa using o1, ?_, by simpa using h1⟩
  cases hd : den ρ e <;> simp_all
end Go.Lb
namespace Go.Lb
open Go.RowKit
variable {P : Program} {c : Cx} {ρ : Nat → AV} {w : World}
def Runs (P : Program) (w : World) (c : Cx) (a : AV) (s : Sem Value) : Prop := ∃ v, s.run P w = .ok v w ∧ Rv c a v
theorem run_asBool (b : Bool) : (asBool (.bool b)).run P w = .ok b w := rfl
theorem Rv.bool_inv {b : Bool} {v : Value} (h : Rv c (.bool b) v) : v = .bool b := by cases h; rfl
theorem run_bin {op : BinOp} {t : TypeId} {x y : Operand} {k k' : IntKind} {m n : Int} (hok : zf3 op k k' n) :
  Runs P w c (binI op k m n) (do eqGuard op t x y (.int k m) (.int k' n); binOp op t (.int k m) (.int k' n)) := by
 have hg : (eqGuard op t x y (.int k m) (.int k' n)).run P w = .ok () w := by
  cases op <;> simp [eqGuard]
 unfold Runs
 rw [Sem.run_bind, hg, Result.andThen_ok]
 cases op
 case quo => simp [zf3] at hok; simp [binOp, hok, Op.intDiv, binI]; exact .int _ _
 case rem => simp [zf3] at hok; simp [binOp, hok, Op.intDiv, binI]; exact .int _ _
 case shl => simp [zf3] at hok; simp [binOp, Op.shift, binI, show ¬ n < 0 from by omega]; exact .int _ _
 case shr => simp [zf3] at hok; simp [binOp, Op.shift, binI, show ¬ n < 0 from by omega]; exact .int _ _
 all_goals
  simp [zf3] at hok
  simp [binOp, hok, Op.intArith, Op.intBits, Op.intCmp, binI]
  first | exact .int _ _ | exact .bool _
theorem run_eqb {t : TypeId} {x y : Operand} {a b : Bool} (neg : Bool) (h : P.underlying t = some .bool) :
  Runs P w c (.bool ((a == b) != neg)) (do eqGuard (if neg then .neq else .eql) t x y (.bool a) (.bool b); binOp (if neg then .neq else .eql) t (.bool a) (.bool b)) := by
 refine ⟨_, ?_, .bool _⟩
 cases neg <;> simp [eqGuard, binOp, run_equal_bool w t a b h]
theorem run_equalIn_nilf {t : TypeId} {ps rs : Array TypeId} {vr : Bool} (h : P.underlying t = some (.func ps rs vr)) (d : Nat) : (Op.equalIn (d + 1) t .nilFunc .nilFunc).run P w = .ok true w := by
 simp only [Op.equalIn, Sem.run_bind, run_underlying h, Result.andThen_ok, Sem.run_pure]
theorem run_equalIn_func {t : TypeId} {ps rs : Array TypeId} {vr : Bool} (h : P.underlying t = some (.func ps rs vr)) (d : Nat) (f : Fn) (x y : Array Value) : (Op.equalIn (d + 1) t (.func f x y) .nilFunc).run P w = .ok false w := by
 simp only [Op.equalIn, Sem.run_bind, run_underlying h, Result.andThen_ok, Sem.run_pure]
theorem run_eqf {t : TypeId} {x y : Operand} {va vb : Value} {a : AV} (neg : Bool) {ps rs : Array TypeId} {vr : Bool} (h : P.underlying t = some (.func ps rs vr)) (ha : Rv c a va) (hb : Rv c .nilf vb)
  (hok : pok (.eqf neg) [a, .nilf]) :
  Runs P w c (pv (.eqf neg) [a, .nilf]) (do eqGuard (if neg then .neq else .eql) t x y va vb; binOp (if neg then .neq else .eql) t va vb) := by
 cases hb
 cases a <;> simp [pok] at hok
 case nilf =>
  cases ha
  refine ⟨_, ?_, .bool _⟩
  have e : (Op.equal t .nilFunc .nilFunc).run P w = .ok true w := run_equalIn_nilf h 9999
  cases neg <;> simp [eqGuard, binOp, e]
 case clo f fs cs =>
  cases ha
  rename_i vf vc _ _
  refine ⟨_, ?_, .bool _⟩
  have e : (Op.equal t (.func (.func f) ⟨vf⟩ ⟨vc⟩) .nilFunc).run P w = .ok false w := run_equalIn_func h 9999 _ _ _
  cases neg <;> simp [eqGuard, binOp, e]
theorem zgA {ks : List (Option IntKind)} {as : List AV} {vs : List Value} (h : Rvs c as vs) (hk : AV.kinds ks as) : zcb ks vs := by
 induction as generalizing ks vs with
 | nil => cases h; cases ks with
  | nil => trivial
  | cons k ks => simp at hk
 | cons a as ih =>
  cases h with
  | cons _ v _ vs h1 h2 =>
   cases ks with
   | nil => simp at hk
   | cons k ks =>
    simp at hk
    refine ⟨?_, ih h2 hk.2⟩
    cases k <;> cases a <;> simp at hk
    ·cases h1; trivial
    ·cases h1; exact hk.1
theorem zmg {ks : List (Option IntKind)} {as bs : List AV} {vs us : List Value} (h : Rvs c as vs) (h' : Rvs c bs us) (hk : AV.kinds ks as) (hk' : AV.kinds ks bs) : eqVs vs us = AV.eqs as bs := by
 induction as generalizing ks vs bs us with
 | nil => cases h; cases ks with
  | nil => cases bs with
   | nil => cases h'; rfl
   | cons b bs => simp at hk'
  | cons k ks => simp at hk
 | cons a as ih =>
  cases h with
  | cons _ v _ vs h1 h2 =>
   cases ks with
   | nil => simp at hk
   | cons k ks =>
    cases bs with
    | nil => simp at hk'
    | cons b bs =>
     cases h' with
     | cons _ u _ us h3 h4 =>
      simp at hk hk'
      simp only [eqVs, AV.eqs, ih h2 h4 hk.2 hk'.2]
      congr 1
      cases k <;> cases a <;> simp at hk <;> cases b <;> simp at hk'
      ·cases h1; cases h3; rfl
      ·cases h1; cases h3; rfl
theorem run_eqa {t : TypeId} {x y : Operand} {xs ys : List AV} {va vb : Value} (neg : Bool) {ks : List (Option IntKind)} {n : Nat} (ht : tsz P t = some (n, true)) (hf : zbd P 64 t = some ks)
  (hg : P.eqGuardType P.depth t = false) (ha : Rv c (.agg xs) va) (hb : Rv c (.agg ys) vb) (hx : AV.kinds ks xs) (hy : AV.kinds ks ys) :
  Runs P w c (.bool (AV.eqs xs ys != neg)) (do eqGuard (if neg then .neq else .eql) t x y va vb; binOp (if neg then .neq else .eql) t va vb) := by
 cases ha with
 | agg _ vs h1 =>
  cases hb with
  | agg _ us h2 =>
   obtain ⟨g, m, hg1, _, hrun⟩ := zh2 (P := P) 64 10000 t ks (by omega) hf
   rw [ht] at hg1; simp only [Option.some.injEq, Prod.mk.injEq] at hg1
   obtain ⟨rfl, rfl⟩ := hg1
   have hr := hrun vs us w (zgA h1 hx) (zgA h2 hy)
   simp only [zdT] at hr
   refine ⟨.bool (eqVs vs us != neg), ?_, by rw [zmg h1 h2 hx hy]; exact .bool _⟩
   rw [Sem.run_bind, run_eqGuard_agg _ _ _ _ _ _ _ hg, Result.andThen_ok]
   cases neg
   ·simp only [Bool.false_eq_true, if_false]; rw [run_eql_struct, hr]; simp
   ·simp only [if_true]; rw [run_neq_struct, hr]; simp
theorem run_un {op : UnOp} {a : AV} {v : Value} (h : Rv c a v) (hok : pok (.un op) [a]) : Runs P w c (pv (.un op) [a]) (Op.unary op v) := by
 cases a <;> cases op <;> simp [pok] at hok
 ·cases h; exact ⟨_, rfl, .bool _⟩
 ·cases h; exact ⟨_, rfl, .int _ _⟩
 ·cases h; exact ⟨_, rfl, .int _ _⟩
theorem run_conv {src dst : TypeId} {k k0 : IntKind} {a : AV} {v : Value} (h : Rv c a v) (hs : P.underlying src = some (.int k0)) (hd : P.underlying dst = some (.int k)) (hok : pok (.conv k) [a]) :
  Runs P w c (pv (.conv k) [a]) (convert src dst v) := by
 cases a <;> simp [pok] at hok
 cases h
 refine ⟨_, ?_, .int _ _⟩
 simp [convert, run_underlying hs, run_underlying hd, Conv.intToInt]
theorem run_len_slice {t e : TypeId} {ty : TypeId} {a : AV} {v : Value} (h : Rv c a v) (ht : P.underlying t = some (.slice e)) (hok : pok .len [a]) :
  Runs P w c (pv .len [a]) (Builtin.len_ #[t] ty #[v]) := by
 cases a <;> simp [pok] at hok
 refine ⟨.int .i64 _, ?_, .int _ _⟩
 cases h <;> simp [Builtin.len_, run_underlying ht, goInt]
theorem run_len_array {t e : TypeId} {ty : TypeId} {n : Nat} (v : Value) (ht : P.underlying t = some (.array n e)) :
  Runs P w c (.int .i64 n) (Builtin.len_ #[t] ty #[v]) := by
 refine ⟨.int .i64 _, ?_, .int _ _⟩
 simp [Builtin.len_, run_underlying ht, goInt]
theorem run_mm {ts : Array TypeId} {ty : TypeId} (isMax : Bool) {as : List AV} {vs : List Value} (h : Rvs c as vs) (hok : pok (.mm isMax) as) :
  Runs P w c (pv (.mm isMax) as) (if isMax then Builtin.max_ ts ty ⟨vs⟩ else Builtin.min_ ts ty ⟨vs⟩) := by
 cases as with
 | nil => cases isMax <;> simp [pok] at hok
 | cons a as =>
  cases a <;> simp [pok] at hok
  rename_i k n
  cases h with
  | cons _ v _ vs h1 h2 =>
   cases h1
   cases isMax
   ·simp only [Bool.false_eq_true, if_false]
    have key : ∀ (as : List AV) (vs : List Value) (n : Int), Rvs c as vs → (∀ y ∈ as, ∃ b, y = .int k b) →
      (vs.foldlM Builtin.min2 (.int k n)).run P w = .ok (.int k (as.foldl (zds false) n)) w := by
     intro as
     induction as with
     | nil => intro vs n h _; cases h; rfl
     | cons a as ih =>
      intro vs n h hk
      cases h with
      | cons _ v _ vs h1 h2 =>
       obtain ⟨b, rfl⟩ := hk a (by simp)
       cases h1
       simp only [List.foldlM_cons, Sem.run_bind, Builtin.min2, Sem.run_pure, Result.andThen_ok, List.foldl_cons, zds]
       exact ih vs _ h2 (fun y hy => hk y (by simp [hy]))
    exact ⟨_, key as vs n h2 hok, .int _ _⟩
   ·simp only [if_true]
    have key : ∀ (as : List AV) (vs : List Value) (n : Int), Rvs c as vs → (∀ y ∈ as, ∃ b, y = .int k b) →
      (vs.foldlM Builtin.max2 (.int k n)).run P w = .ok (.int k (as.foldl (zds true) n)) w := by
     intro as
     induction as with
     | nil => intro vs n h _; cases h; rfl
     | cons a as ih =>
      intro vs n h hk
      cases h with
      | cons _ v _ vs h1 h2 =>
       obtain ⟨b, rfl⟩ := hk a (by simp)
       cases h1
       simp only [List.foldlM_cons, Sem.run_bind, Builtin.max2, Sem.run_pure, Result.andThen_ok, List.foldl_cons, zds]
       exact ih vs _ h2 (fun y hy => hk y (by simp [hy]))
    exact ⟨_, key as vs n h2 hok, .int _ _⟩
end Go.Lb
namespace Go.Lb
open Go.RowKit
variable {P : Program} {c : Cx} {ρ : Nat → AV} {w : World}
theorem run_fieldAt {s : TypeId} {fs : Array Field} {f : Field} {i n : Nat} {g : Bool} (hs : P.underlying s = some (.struct fs)) (hf : fs[i]? = some f) (ht : tsz P f.type = some (n, g)) (hn : n ≠ 0) (b o : Nat) :
  (Instr.fieldAt s (.pointer (some ⟨b, o, none⟩)) i).run P w = .ok (.pointer (some ⟨b, o + f.offset, none⟩)) w := by
 simp [Instr.fieldAt, run_underlying hs, hf, Instr.sureAddr, fieldPlace, (zar ht w).1, hn, Addr.add_eq]
theorem run_fieldAt_pv {s : TypeId} {fs : Array Field} {f : Field} {i n : Nat} {g : Bool} (hs : P.underlying s = some (.struct fs)) (hf : fs[i]? = some f) (ht : tsz P f.type = some (n, g)) (hn : n ≠ 0)
  {a : AV} {v : Value} (h : Rv c a v) (hok : pok (.eoff f.offset) [a]) : Runs P w c (pv (.eoff f.offset) [a]) (Instr.fieldAt s v i) := by
 cases a <;> simp [pok] at hok
 ·rename_i es j off
  cases h with
  | eptr _ sz b o _ _ h1 h2 h3 =>
   refine ⟨_, run_fieldAt hs hf ht hn _ _, ?_⟩
   have := Rv.eptr es sz b o j (off + f.offset) h1 h2 h3
   rwa [← Nat.add_assoc] at this
 ·rename_i cs off
  cases h with
  | ref _ b o _ h1 =>
   refine ⟨_, run_fieldAt hs hf ht hn _ _, ?_⟩
   have := Rv.ref cs b o (off + f.offset) h1
   rwa [← Nat.add_assoc] at this
theorem run_indexAt_array {t e : TypeId} {len sz : Nat} {g : Bool} (ht : P.underlying t = some (.array len e)) (hs : tsz P e = some (sz, g)) (b o : Nat) {k : IntKind} {i : Int} (h0 : 0 ≤ i) (h1 : i < len) :
  (Instr.indexAt t (.pointer (some ⟨b, o, none⟩)) (.int k i)).run P w = .ok (.pointer (some ⟨b, o + i.toNat * sz, none⟩)) w := by
 simp [Instr.indexAt, asIntOf, run_underlying ht, Instr.sureAddr, h0, h1, (zar hs w).1, Addr.add_eq]
theorem run_indexAt_array_pv {t e : TypeId} {len sz : Nat} {g : Bool} (ht : P.underlying t = some (.array len e)) (hs : tsz P e = some (sz, g)) {a b : AV} {v u : Value} (h : Rv c a v) (hb : Rv c b u)
  (hok : pok (.eaidx len sz) [a, b]) : Runs P w c (pv (.eaidx len sz) [a, b]) (Instr.indexAt t v u) := by
 cases b <;> cases a <;> simp [pok] at hok
 ·rename_i k i es j off
  cases hb
  cases h with
  | eptr _ s2 bb o _ _ h1 h2 h3 =>
   refine ⟨_, run_indexAt_array ht hs _ _ hok.1 hok.2, ?_⟩
   have := Rv.eptr es s2 bb o j (off + i.toNat * sz) h1 h2 h3
   rwa [← Nat.add_assoc] at this
 ·rename_i k i cs off
  cases hb
  cases h with
  | ref _ bb o _ h1 =>
   refine ⟨_, run_indexAt_array ht hs _ _ hok.1 hok.2, ?_⟩
   have := Rv.ref cs bb o (off + i.toNat * sz) h1
   rwa [← Nat.add_assoc] at this
theorem run_indexAt_slice {t e : TypeId} {sz : Nat} {g : Bool} (ht : P.underlying t = some (.slice e)) (hs : tsz P e = some (sz, g)) (b o len cap : Nat) {k : IntKind} {i : Int} (h0 : 0 ≤ i) (h1 : i < len) :
  (Instr.indexAt t (.slice (some ⟨b, o, none⟩) len cap) (.int k i)).run P w = .ok (.pointer (some ⟨b, o + i.toNat * sz, none⟩)) w := by
 simp [Instr.indexAt, asIntOf, run_underlying ht, h0, h1, (zar hs w).1, Addr.add_eq]
theorem run_indexAt_slice_pv {t e : TypeId} {sz : Nat} {g : Bool} (ht : P.underlying t = some (.slice e)) (hs : tsz P e = some (sz, g)) {a b : AV} {v u : Value} (h : Rv c a v) (hb : Rv c b u)
  (hok : pok (.eidx sz) [a, b]) : Runs P w c (pv (.eidx sz) [a, b]) (Instr.indexAt t v u) := by
 cases a <;> cases b <;> simp only [pok] at hok
 rename_i es k i
 obtain ⟨h0, h1, h2⟩ := hok
 cases hb
 cases h with
 | slnil => simp at h1; omega
 | sl0 _ => simp at h1; omega
 | sl es s2 bb o cap k1 k2 k3 =>
  have hlt : i.toNat < es.length := by omega
  have he : s2 = sz := by
   rw [← h2, ← k2 (es[i.toNat]) (by simp)]; simp [List.getD_eq_getElem?_getD, hlt]
  subst he
  exact ⟨_, run_indexAt_slice ht hs _ _ _ _ h0 h1, .eptr es s2 bb o i.toNat 0 k2 k3 hlt⟩
theorem run_eload {t : TypeId} {n : Nat} {g : Bool} (ht : tsz P t = some (n, g)) (hi : Imm c w) {a : AV} {v : Value} (h : Rv c a v) (hok : pok (.eload n g) [a]) :
  Runs P w c (pv (.eload n g) [a]) (Instr.loadAt t v) := by
 cases a <;> simp only [pok] at hok
 ·rename_i es i off
  cases h with
  | eptr _ sz b o _ _ h1 h2 h3 =>
   obtain ⟨u, hu, hr⟩ := run_loadVar_I ht hi (h2.elem h1 h3) off hok
   exact ⟨u, by simpa [Instr.loadAt, Instr.sureAddr] using hu, hr⟩
 ·rename_i cs off
  cases h with
  | ref _ b o _ h1 =>
   obtain ⟨u, hu, hr⟩ := run_loadVar_I ht hi h1 off hok
   exact ⟨u, by simpa [Instr.loadAt, Instr.sureAddr] using hu, hr⟩
theorem znb {cs : List AV} {vs : List Value} (h : Rvs c cs vs) {off n : Nat} {g : Bool} (hok : AV.cutOk cs off n g) : Rv c (AV.cut cs off n g) (zdT g ((vs.drop off).take n)) := by
 cases g with
 | true => exact .agg _ _ ((h.drop off).take n)
 | false =>
  simp at hok
  obtain ⟨hlt, rfl⟩ := hok
  obtain ⟨v, hv, hr⟩ := h.get (i := off) (a := cs[off]) (by simp [hlt])
  simp [AV.cut, zdT, List.getD_eq_getElem?_getD, hlt, hv]
  exact hr
theorem run_part_pv {t : TypeId} {n : Nat} {g : Bool} (ht : tsz P t = some (n, g)) {off : Nat} {cs : List AV} {vs : List Value} (h : Rvs c cs vs) (hok : AV.cutOk cs off n g) :
  Runs P w c (AV.cut cs off n g) (part t ⟨vs⟩ off) := by
 refine ⟨_, run_part ht vs off ?_ ?_ w, znb h hok⟩
 ·cases g <;> simp at hok
  ·rw [h.length]; omega
  ·rw [h.length]; exact hok
 ·intro hg; subst hg; exact hok.2
theorem run_field_pv {s : TypeId} {fs : Array Field} {f : Field} {i n : Nat} {g : Bool} (hs : P.underlying s = some (.struct fs)) (hf : fs[i]? = some f) (ht : tsz P f.type = some (n, g)) {a : AV} {v : Value} (h : Rv c a v)
  (hok : pok (.part f.offset n g) [a]) : Runs P w c (pv (.part f.offset n g) [a]) (Instr.field s v i) := by
 cases a <;> simp only [pok] at hok
 cases h with
 | agg cs vs h =>
  obtain ⟨u, hu, hr⟩ := run_part_pv (w := w) ht h hok
  exact ⟨u, by simpa [Instr.field, run_underlying hs, hf, asAgg] using hu, hr⟩
theorem run_index_pv {t e : TypeId} {len sz : Nat} {g : Bool} (ht : P.underlying t = some (.array len e)) (hs : tsz P e = some (sz, g)) {a b : AV} {v u : Value} (h : Rv c a v) (hb : Rv c b u)
  (hok : pok (.aidx len sz 0 sz g) [a, b]) : Runs P w c (pv (.aidx len sz 0 sz g) [a, b]) (Instr.index t v u) := by
 cases a <;> cases b <;> simp only [pok] at hok
 obtain ⟨h0, h1, h2⟩ := hok
 cases hb
 cases h with
 | agg cs vs h =>
  obtain ⟨u, hu, hr⟩ := run_part_pv (w := w) hs h h2
  exact ⟨u, by simpa [Instr.index, asIntOf, run_underlying ht, h0, h1, (zar hs w).1] using hu, hr⟩
theorem run_extract_pv {i : Nat} {a : AV} {v : Value} (h : Rv c a v) (hok : pok (.tproj i) [a]) : Runs P w c (pv (.tproj i) [a]) (Instr.extract v i) := by
 cases a <;> simp only [pok] at hok
 rename_i cs
 cases h with
 | tup _ vs h =>
  obtain ⟨u, hu, hr⟩ := h.get (i := i) (a := cs[i]) (by simp [hok])
  refine ⟨u, by simp [Instr.extract, hu], ?_⟩
  simp only [pv, List.getD_eq_getElem?_getD, List.getElem?_eq_getElem hok]; exact hr
theorem run_sliceBound {k : IntKind} {i : Int} {y : Nat} {code : BoundsCode} (h0 : 0 ≤ i) (h1 : i ≤ y) : (Instr.sliceBound (.int k i) y code).run P w = .ok i.toNat w := by
 simp [Instr.sliceBound, asIntOf, h0, h1]
theorem zeM {es : List AV} {sz b o cap : Nat} (h1 : es.length ≤ cap) (h2 : ∀ e ∈ es, e.cells.length = sz) (h3 : Rcells c b o (AV.flat es)) {l h : Nat} (hl : l ≤ h) (hh : h ≤ es.length) :
  Rv c (.sl ((es.take h).drop l)) (.slice (if cap = l then some ⟨b, o, none⟩ else some ⟨b, o + l * sz, none⟩) (h - l) (cap - l)) := by
 have hlen : ((es.take h).drop l).length = h - l := by simp; omega
 have hs : ∀ e ∈ (es.take h).drop l, e.cells.length = sz := fun e he => h2 e (List.mem_of_mem_take (List.mem_of_mem_drop he))
 have hc : Rcells c b (o + l * sz) (AV.flat ((es.take h).drop l)) := by
  have := (h3.drop (l * sz)).take ((h - l) * sz)
  rw [zcX h2] at this
  have e : (AV.flat (es.drop l)).take ((h - l) * sz) = AV.flat ((es.take h).drop l) := by
   rw [List.drop_take]
   have hx : es.drop l = (es.drop l).take (h - l) ++ (es.drop l).drop (h - l) := (List.take_append_drop _ _).symm
   conv => lhs; rw [hx, zbq]
   have hl2 : (AV.flat ((es.drop l).take (h - l))).length = (h - l) * sz := by
    rw [zaH (fun e he => h2 e (List.mem_of_mem_drop (List.mem_of_mem_take he)))]
    congr 1; simp; omega
   rw [← hl2, List.take_left]
  rwa [e] at this
 by_cases hcap : cap = l
 ·have : (es.take h).drop l = [] := by apply List.eq_nil_of_length_eq_zero; omega
  rw [if_pos hcap, this]
  have := Rv.sl (c := c) [] sz b o (cap - l) (by simp) (by simp) (.nil _ _)
  rwa [show ([] : List AV).length = h - l from by simp; omega] at this
 ·rw [if_neg hcap]
  have := Rv.sl _ sz b (o + l * sz) (cap - l) (by omega) hs hc
  rwa [hlen] at this
theorem run_slice_pv {t e : TypeId} {sz : Nat} {g : Bool} (ht : P.underlying t = some (.slice e)) (hs : tsz P e = some (sz, g)) {a : AV} {v : Value} (h : Rv c a v) {lo hi : Option AV} {vl vh : Option Value}
  (hl : ∀ x, lo = some x → ∃ y, vl = some y ∧ Rv c x y) (hl0 : lo = none → vl = none) (hh : ∀ x, hi = some x → ∃ y, vh = some y ∧ Rv c x y) (hh0 : hi = none → vh = none)
  (hsz : ∀ es, a = .sl es → ∀ x ∈ es, x.cells.length = sz) (hok : pok (.slice lo.isSome hi.isSome) (a :: (lo.toList ++ hi.toList))) :
  Runs P w c (pv (.slice lo.isSome hi.isSome) (a :: (lo.toList ++ hi.toList))) (Instr.slice t v vl vh none) := by
 have main : ∀ (es : List AV) (l h' : Nat), a = .sl es → l ≤ h' → h' ≤ es.length → ∀ vl vh, (∀ y, vl = some y → ∃ k, y = .int k l) → (vl = none → l = 0) → (∀ y, vh = some y → ∃ k, y = .int k h') → (vh = none → h' = es.length) →
   Runs P w c (.sl ((es.take h').drop l)) (Instr.slice t v vl vh none) := by
  intro es l h' ha hle hlen vl vh e1 e2 e3 e4
  subst ha
  have hb : ∀ (len cap : Nat), len = es.length → es.length ≤ cap → (Instr.sliceBounds true len cap vl vh none).run P w = .ok (l, h', cap) w := by
   intro len cap hlen' hcap
   cases vh with
   | none =>
    have := e4 rfl; subst this
    cases vl with
    | none => have := e2 rfl; subst this; simp [Instr.sliceBounds, hlen']
    | some y => obtain ⟨k, rfl⟩ := e1 y rfl; simp [Instr.sliceBounds, hlen', run_sliceBound, hle]
   | some y =>
    obtain ⟨k, rfl⟩ := e3 y rfl
    have hx : ((h' : Nat) : Int) ≤ cap := by omega
    cases vl with
    | none => have := e2 rfl; subst this; simp [Instr.sliceBounds, run_sliceBound, hx]
    | some y => obtain ⟨k, rfl⟩ := e1 y rfl; simp [Instr.sliceBounds, run_sliceBound, hx, hle]
  cases h with
  | slnil =>
   have h0 : h' = 0 := by simpa using hlen
   have l0 : l = 0 := by omega
   subst h0; subst l0
   refine ⟨.slice none 0 0, ?_, by simpa using .slnil⟩
   simp [Instr.slice, run_underlying ht, hb 0 0 rfl (by simp), (zar hs w).1]
  | sl0 ad =>
   have h0 : h' = 0 := by simpa using hlen
   have l0 : l = 0 := by omega
   subst h0; subst l0
   refine ⟨.slice (some ad) 0 0, ?_, by simpa using Rv.sl0 (c := c) ad⟩
   simp [Instr.slice, run_underlying ht, hb 0 0 rfl (by simp), (zar hs w).1, Addr.add]
  | sl _ s2 b o cap k1 k2 k3 =>
   by_cases hz : es = []
   ·subst hz
    have h0 : h' = 0 := by simpa using hlen
    have l0 : l = 0 := by omega
    subst h0; subst l0
    refine ⟨.slice (some ⟨b, o, none⟩) 0 cap, ?_, by simpa using Rv.sl (c := c) [] sz b o cap (by simp) (by simp) (.nil _ _)⟩
    have := hb 0 cap rfl (by simp)
    simp [Instr.slice, run_underlying ht, this, (zar hs w).1, Addr.add_eq]
   ·obtain ⟨x, xs, rfl⟩ := List.exists_cons_of_ne_nil hz
    have he : s2 = sz := by rw [← k2 x (by simp), hsz _ rfl x (by simp)]
    subst he
    refine ⟨_, ?_, zeM k1 k2 k3 hle hlen⟩
    have := hb _ cap rfl k1
    simp only [Instr.slice, Sem.run_bind, run_underlying ht, Result.andThen_ok, this, (zar hs w).1, Sem.run_pure, Option.map, Addr.add_eq]
 cases a <;> try (cases lo <;> cases hi <;> simp [pok] at hok; done)
 rename_i es
 have nat : ∀ (i : Int), 0 ≤ i → ∃ n : Nat, i = n := fun i h => ⟨i.toNat, by omega⟩
 cases lo with
 | none =>
  have v1 := hl0 rfl; subst v1
  cases hi with
  | none =>
   have v2 := hh0 rfl; subst v2
   simpa [pv] using main es 0 es.length rfl (by omega) (by omega) none none (by simp) (by simp) (by simp) (by simp)
  | some x =>
   cases x <;> simp [pok] at hok
   rename_i k i
   obtain ⟨n, rfl⟩ := nat i hok.1
   obtain ⟨y, rfl, hy⟩ := hh _ rfl
   cases hy
   simpa [pv] using main es 0 n rfl (by omega) (by omega) none (some (.int k n)) (by simp) (by simp) (fun y hy => ⟨k, by simpa using hy.symm⟩) (by simp)
 | some x =>
  cases hi with
  | none =>
   have v2 := hh0 rfl; subst v2
   cases x <;> simp [pok] at hok
   rename_i k i
   obtain ⟨n, rfl⟩ := nat i hok.1
   obtain ⟨y, rfl, hy⟩ := hl _ rfl
   cases hy
   simpa [pv] using main es n es.length rfl (by omega) (by omega) (some (.int k n)) none (fun y hy => ⟨k, by simpa using hy.symm⟩) (by simp) (by simp) (by simp)
  | some z =>
   cases x <;> cases z <;> simp [pok] at hok
   rename_i k i k' j
   obtain ⟨n, rfl⟩ := nat i hok.1
   obtain ⟨m, rfl⟩ := nat j (by omega)
   obtain ⟨y, rfl, hy⟩ := hl _ rfl
   obtain ⟨y', rfl, hy'⟩ := hh _ rfl
   cases hy; cases hy'
   simpa [pv] using main es n m rfl (by omega) (by omega) (some (.int k n)) (some (.int k' m)) (fun y hy => ⟨k, by simpa using hy.symm⟩) (by simp) (fun y hy => ⟨k', by simpa using hy.symm⟩) (by simp)
end Go.Lb
