/- Layouts, images, kernels in an environment, each as a block. -/
import Derived.Test.YtahohjgfkabacaaGreatDoorCh7
import Derived.Test.YtahohjgfkabacaaGreatDoorFw11
import Derived.Test.YtahohjgfkabacaaGreatDoorCh1
import Derived.Test.YtahohjgfkabacaaGreatDoorCh5
import Derived.Test.YtahohjgfkabacaaGreatDoorCh4
import Derived.Test.YtahohjgfkabacaaGreatDoorCh6
set_option linter.unusedSimpArgs false
set_option linter.unusedVariables false
namespace Go.Lb.LK
open Go Go.Lb Go.Proofs Go.RowKit
theorem zdX {α : Type} {X t : List α} {n k : Nat} (hX : X.length = n) (h : n ≤ k) : (X ++ t).drop k = t.drop (k - n) := by
 subst hX
 rw [List.drop_append, List.drop_eq_nil_of_le h, List.nil_append]
theorem zfW {α : Type} {X t : List α} {n k : Nat} (hX : X.length = n) (h : n ≤ k) : (X ++ t).take k = X ++ t.take (k - n) := by
 subst hX
 rw [List.take_append, List.take_of_length_le h]
theorem zjU {X t : List AV} {n k : Nat} (hX : X.length = n) (h : n ≤ k) : zaH (X ++ t) k = zaH t (k - n) := by
 subst hX
 simp only [zaH, List.getD_eq_getElem?_getD]
 rw [List.getElem?_append_right h]
@[simp] theorem lay_len (l : Lay) : l.cells.length = 11 := rfl
@[simp] theorem img_len (m : Img) : m.cells.length = 29 := rfl
@[simp] theorem zhg (k : Kern) : k.cells.length = 74 := rfl
@[simp] theorem zs7 (k : Kern) : AV.ones k.cells = true := rfl
@[simp] theorem hd_len (h : Hd) : h.cells.length = 23 := rfl
@[simp] theorem need_len (x : Need) : x.cells.length = 3 := rfl
@[simp] theorem mach_len (m : Mach) : m.cells.length = 3 := rfl
@[simp] theorem zss (w r : Nat → Int) (f : Nat → Bool) : (zau w r f).length = 72 := by simp [zau]
@[simp] theorem lay_drop (l : Lay) (t : List AV) (k : Nat) (h : 11 ≤ k) : (l.cells ++ t).drop k = t.drop (k - 11) := zdX rfl h
@[simp] theorem img_drop (l : Img) (t : List AV) (k : Nat) (h : 29 ≤ k) : (l.cells ++ t).drop k = t.drop (k - 29) := zdX rfl h
@[simp] theorem hd_drop (l : Hd) (t : List AV) (k : Nat) (h : 23 ≤ k) : (l.cells ++ t).drop k = t.drop (k - 23) := zdX rfl h
@[simp] theorem mc_drop (w r : Nat → Int) (f : Nat → Bool) (t : List AV) (k : Nat) (h : 72 ≤ k) : (zau w r f ++ t).drop k = t.drop (k - 72) := zdX rfl h
@[simp] theorem lay_take (l : Lay) (t : List AV) (k : Nat) (h : 11 ≤ k) : (l.cells ++ t).take k = l.cells ++ t.take (k - 11) := zfW rfl h
@[simp] theorem img_take (l : Img) (t : List AV) (k : Nat) (h : 29 ≤ k) : (l.cells ++ t).take k = l.cells ++ t.take (k - 29) := zfW rfl h
@[simp] theorem hd_take (l : Hd) (t : List AV) (k : Nat) (h : 23 ≤ k) : (l.cells ++ t).take k = l.cells ++ t.take (k - 23) := zfW rfl h
@[simp] theorem mc_take (w r : Nat → Int) (f : Nat → Bool) (t : List AV) (k : Nat) (h : 72 ≤ k) : (zau w r f ++ t).take k = zau w r f ++ t.take (k - 72) := zfW rfl h
@[simp] theorem lay_env (l : Lay) (t : List AV) (k : Nat) (h : 11 ≤ k) : zaH (l.cells ++ t) k = zaH t (k - 11) := zjU rfl h
@[simp] theorem img_env (l : Img) (t : List AV) (k : Nat) (h : 29 ≤ k) : zaH (l.cells ++ t) k = zaH t (k - 29) := zjU rfl h
@[simp] theorem hd_env (l : Hd) (t : List AV) (k : Nat) (h : 23 ≤ k) : zaH (l.cells ++ t) k = zaH t (k - 23) := zjU rfl h
@[simp] theorem mc_env (w r : Nat → Int) (f : Nat → Bool) (t : List AV) (k : Nat) (h : 72 ≤ k) : zaH (zau w r f ++ t) k = zaH t (k - 72) := zjU rfl h
@[simp] theorem zsZ (l : Lay) : l.cells.take 11 = l.cells := rfl
@[simp] theorem zta (l : Img) : l.cells.take 29 = l.cells := rfl
@[simp] theorem hd_takeS (l : Hd) : l.cells.take 23 = l.cells := rfl
@[simp] theorem mc_takeS (w r : Nat → Int) (f : Nat → Bool) : (zau w r f).take 72 = zau w r f := rfl
@[simp] theorem lay_env0 (l : Lay) (t : List AV) : zaH (l.cells ++ t) 0 = .sl (l.secs.map Sec.av) := rfl
@[simp] theorem lay_env5 (l : Lay) (t : List AV) : zaH (l.cells ++ t) 5 = I l.drive := rfl
@[simp] theorem lay_ones (l : Lay) : AV.ones l.cells = true := rfl
@[simp] theorem img_ones (l : Img) : AV.ones l.cells = true := rfl
@[simp] theorem hd_ones (l : Hd) : AV.ones l.cells = true := rfl
@[simp] theorem zs1 (l : Mach) : AV.ones l.cells = true := rfl
@[simp] theorem ztg (l : Need) : AV.ones l.cells = true := rfl
@[simp] theorem mc_ones (w r : Nat → Int) (f : Nat → Bool) : AV.ones (zau w r f) = true := rfl
theorem zlW (a b : List AV) : AV.ones (a ++ b) = (AV.ones a && AV.ones b) := by
 induction a with
 | nil => rfl
 | cons x a ih => simp [ih, Bool.and_assoc]
def prts (v : AV) (j n : Nat) : List AV := dens (zaH [v]) (pts (.inp 0) j n)
theorem zae (ρ : Nat → AV) (x : SE) (n : Nat) : ∀ j, dens ρ (pts x j n) = prts (den ρ x) j n := by
 unfold prts
 induction n with
 | zero => intro j; rfl
 | succ n ih =>
  intro j
  simp only [pts, dens, den, ih (j + 1), zof]
@[simp] theorem zfZ (cs : List AV) (j n : Nat) (h : j + n ≤ cs.length) : prts (.agg cs) j n = (cs.drop j).take n := by
 unfold prts
 exact znC rfl n j h
@[simp] theorem prts_hd (h : Hd) : prts h.av 0 23 = h.cells := by rw [zfZ _ _ _ (by simp)]; simp
@[simp] theorem zsO (k : Kern) : prts k.av 0 74 = k.cells := by rw [zfZ _ _ _ (by simp [zam])]; simp [zam]
@[simp] theorem zsi (k : Kern) : prts k.av 2 72 = zau k.want k.run k.fail := by rw [zfZ _ _ _ (by simp [zam])]; simp [zam]
theorem zsD (b q r n : Nat) (k : IntKind) (u x0 x1 x2 : AV) (hr : r < 3) : pv (.cellset b 24 3 0 3 (b + q * 3 + r)) [.int k (n : Nat), u, .agg [x0, x1, x2]] = if q = n then [x0, x1, x2].getD r .undef else u := by
 simp only [pv, AV.cells, Int.toNat_natCast, Nat.add_zero]
 by_cases h : q = n
 ·subst h
  rw [if_pos (by omega), if_pos rfl]
  congr 1; omega
 ·rw [if_neg (by omega), if_neg h]
def mrow (w r : Nat → Int) (f : Nat → Bool) : Nat → Nat → List AV
 | _, 0 => []
 | q, n + 1 => I (w q) :: I (r q) :: .bool (f q) :: mrow w r f (q + 1) n
theorem zmz (b p : Nat) (w r : Nat → Int) (f : Nat → Bool) (m : Mach) : ∀ n q, csV b (I p) m.av (b + q * 3) (mrow w r f q n) = mrow (upd w p m.want) (upd r p m.run) (upd f p m.fail) q n
 | 0, q => rfl
 | n + 1, q => by
  have ih := zmz b p w r f m n (q + 1)
  have e : ∀ u j, j < 3 → pv (.cellset b 24 3 0 3 (b + q * 3 + j)) [I p, u, m.av] = if q = p then [I m.want, I m.run, .bool m.fail].getD j .undef else u := fun u j hj => zsD b q j p .i64 u _ _ _ hj
  have e0 := e (I (w q)) 0 (by omega)
  have e1 := e (I (r q)) 1 (by omega)
  have e2 := e (.bool (f q)) 2 (by omega)
  simp only [mrow, csV]
  rw [show b + q * 3 + 1 + 1 + 1 = b + (q + 1) * 3 by omega, ih]
  rw [Nat.add_zero] at e0
  rw [e0, e1, show b + q * 3 + 1 + 1 = b + q * 3 + 2 from rfl, e2]
  by_cases h : q = p <;> simp [upd, h]
theorem zrA (w r : Nat → Int) (f : Nat → Bool) (p : Nat) (m : Mach) : csV 0 (I p) m.av 0 (zau w r f) = zau (upd w p m.want) (upd r p m.run) (upd f p m.fail) := zmz 0 p w r f m 24 0
theorem zr7 (w r : Nat → Int) (f : Nat → Bool) (p : Nat) (m : Mach) : csV 2 (I p) m.av 2 (zau w r f) = zau (upd w p m.want) (upd r p m.run) (upd f p m.fail) := zmz 2 p w r f m 24 0
theorem zdy {R : AV → Prop} {L : Nat → List AV → Prop} {b : Nat} (hb : b = 0 ∨ b = 2) {x m : SE} {V : List AV} {n : Nat} {os : List SE} {k : RT} (p : Int) (M : Mach) (w r : Nat → Int) (f : Nat → Bool) (h0 : 0 ≤ p) (hN : V.length = n) (hx : SE.wfs n (fun _ => false) (x :: m :: os) = true) (h1 : den (zaH V) x = I p) (h2 : den (zaH V) m = M.av) (h3 : dens (zaH V) os = zau w r f)
  (h : RTwp PR GL R k L (zaH (V ++ zau (upd w p.toNat M.want) (upd r p.toNat M.run) (upd f p.toNat M.fail)))) : RTwp PR GL R (.seg (csB b x m n b os) k) L (zaH V) := by
 have h4 := zqR (P := PR) (G := GL) (R := R) (L := L) (b := b) (c := b) (ns := []) (k := k) hN hx (I p) M.av (zau w r f) h1 h2 h3
 rw [List.append_nil] at h4
 refine h4.2 ?_
 rw [show I p = I (p.toNat : Int) by rw [Int.toNat_of_nonneg h0]]
 rcases hb with rfl | rfl
 ·rw [zrA]; exact h
 ·rw [zr7]; exact h
theorem zrd (w r : Nat → Int) (f : Nat → Bool) {p : Nat} (h : p < 24) : AV.cut (zau w r f) (p * 3) 3 true = Mach.av ⟨w p, r p, f p⟩ := by
 match p, h with
 | 0, _ => rfl
 | 1, _ => rfl
 | 2, _ => rfl
 | 3, _ => rfl
 | 4, _ => rfl
 | 5, _ => rfl
 | 6, _ => rfl
 | 7, _ => rfl
 | 8, _ => rfl
 | 9, _ => rfl
 | 10, _ => rfl
 | 11, _ => rfl
 | 12, _ => rfl
 | 13, _ => rfl
 | 14, _ => rfl
 | 15, _ => rfl
 | 16, _ => rfl
 | 17, _ => rfl
 | 18, _ => rfl
 | 19, _ => rfl
 | 20, _ => rfl
 | 21, _ => rfl
 | 22, _ => rfl
 | 23, _ => rfl
 | n + 24, h => exact absurd h (by omega)
theorem zrS (a b : AV) (w r : Nat → Int) (f : Nat → Bool) {p : Nat} (h : p < 24) : AV.cut (a :: b :: zau w r f) (p * 3 + 2) 3 true = Mach.av ⟨w p, r p, f p⟩ := by
 rw [← zrd w r f h]
 simp [AV.cut]
end Go.Lb.LK
namespace Go.Lb.LK
open Go Go.Lb Go.Proofs
noncomputable section
def rt_kernel_away : RT :=
 ck (.isAgg 11) [.agg (ips 0 11)] <|
 ck (.isAgg 29) [.agg (ips 11 29)] <|
 ck .isOne [.inp 40] <|
.ret (.clo 101 [] [.ref [.inp 40] 0, .ref (ips 0 11) 0, .ref (ips 11 29) 0])
theorem run_kernel_away : runF E 47 [.agg (ips 0 11), .agg (ips 11 29), .inp 40] 41 = rt_kernel_away := by kernel_rfl
end
end Go.Lb.LK
namespace Go.Lb.LK
open Go Go.Lb Go.Proofs Go.RowKit
theorem zmc {m : Nat} (h : m < 18446744073709551616) (hw : IntKind.i64.wrap (m : Int) = 0) : m = 0 := by
 by_cases h2 : m ≤ 9223372036854775807
 ·rw [zaI (by omega) (by omega)] at hw; omega
 ·have e : IntKind.i64.wrap (m : Int) = (m : Int) - 18446744073709551616 := by
   unfold IntKind.wrap
   simp [IntKind.bits, IntKind.signed]
   omega
  omega
theorem zoc (x : BitVec 64) : (x &&& ~~~ (1#64)).toNat = 0 ↔ x.toNat < 2 := by
 constructor
 ·intro h
  have hz : x &&& ~~~ (1#64) = 0#64 := BitVec.eq_of_toNat_eq (by simpa using h)
  have hs : x >>> 1 = 0#64 := by
   apply BitVec.eq_of_getLsbD_eq
   intro i hi
   have := congrArg (fun y => y.getLsbD (1 + i)) hz
   simp only [BitVec.getLsbD_and, BitVec.getLsbD_not, BitVec.getLsbD_zero] at this
   rw [BitVec.getLsbD_ushiftRight, BitVec.getLsbD_zero]
   by_cases h3 : 1 + i < 64
   ·have h1 : (1#64).getLsbD (1 + i) = false := by
     simp [BitVec.getLsbD_one]
    simp [h3] at this
    exact this
   ·exact BitVec.getLsbD_of_ge x _ (by omega)
  have := congrArg BitVec.toNat hs
  simp [BitVec.toNat_ushiftRight, Nat.shiftRight_eq_div_pow] at this
  omega
 ·intro h
  have : x = 0#64 ∨ x = 1#64 := by
   by_cases h0 : x.toNat = 0
   ·exact .inl (BitVec.eq_of_toNat_eq (by simpa using h0))
   ·exact .inr (BitVec.eq_of_toNat_eq (by simp; omega))
  rcases this with rfl | rfl <;> decide
theorem zq7 {n : Int} (h1 : -9223372036854775808 ≤ n) (h2 : n ≤ 9223372036854775807) : (IntKind.i64.wrap ((BitVec.ofInt 64 n &&& ~~~ BitVec.ofInt 64 1).toNat : Int) = 0) ↔ (n = 0 ∨ n = 1) := by
 have hlt : (BitVec.ofInt 64 n &&& ~~~ BitVec.ofInt 64 1).toNat < 18446744073709551616 := (BitVec.ofInt 64 n &&& ~~~ BitVec.ofInt 64 1).isLt
 have e1 : BitVec.ofInt 64 1 = 1#64 := by decide
 have en : (BitVec.ofInt 64 n).toNat = (n % 18446744073709551616).toNat := by simp [BitVec.toNat_ofInt]
 constructor
 ·intro h
  have := zmc hlt h
  rw [e1, zoc, en] at this
  omega
 ·rintro (rfl | rfl) <;> decide
theorem or32 {a b : Nat} (ha : a < 16777216) (hb : b < 16777216) : IntKind.u32.wrap ((BitVec.ofInt 32 (a : Int) ||| BitVec.ofInt 32 (b : Int)).toNat : Int) = ((a ||| b : Nat) : Int) := by
 have h1 : (BitVec.ofInt 32 (a : Int)).toNat = a := by simp [BitVec.toNat_ofInt]; omega
 have h2 : (BitVec.ofInt 32 (b : Int)).toNat = b := by simp [BitVec.toNat_ofInt]; omega
 have h3 : a ||| b < 2 ^ 24 := Nat.or_lt_two_pow (by omega) (by omega)
 rw [BitVec.toNat_or, h1, h2]
 unfold IntKind.wrap
 simp [IntKind.bits, IntKind.signed]
 omega
theorem shl32 {i : Nat} (h : i < 24) : IntKind.u32.wrap (1 * 2 ^ (min (i : Int).toNat 32)) = ((1 <<< i : Nat) : Int) := by
 have : (i : Int).toNat = i := by omega
 rw [this, Nat.min_eq_left (by omega), Nat.one_shiftLeft]
 have h2 : 2 ^ i < 2 ^ 24 := Nat.pow_lt_pow_right (by omega) h
 have h3 : (2 : Int) ^ i = ((2 ^ i : Nat) : Int) := by simp
 unfold IntKind.wrap
 rw [h3]
 generalize 2 ^ i = m at h2
 simp [IntKind.bits, IntKind.signed]
 omega
theorem znF {i : Nat} (h : i < 24) : 1 <<< i < 16777216 := by
 rw [Nat.one_shiftLeft]
 exact Nat.pow_lt_pow_right (by omega : 1 < 2) h
def tab (g : Nat → Int) : List Int := (List.range 24).map g
@[simp] theorem tab_len (g : Nat → Int) : (tab g).length = 24 := by simp [tab]
theorem zcu (g : Nat → Int) {i : Nat} (h : i < (tab g).length) : (tab g)[i] = g i := by simp [tab]
theorem zr9 (g : Nat → Int) (i : Nat) (v : Int) : (tab g).set i v = tab (upd g i v) := by
 apply List.ext_getElem (by simp [tab])
 intro j h1 h2
 rw [List.getElem_set, zcu]
 simp only [zcu, upd]
 by_cases h : i = j
 ·subst h; simp
 ·rw [if_neg h, if_neg (by omega)]
theorem zfX {g h : Nat → Int} (e : ∀ i, i < 24 → g i = h i) : tab g = tab h := by
 unfold tab
 exact List.map_congr_left fun i hi => e i (List.mem_range.1 hi)
theorem zcu? (g : Nat → Int) {i : Nat} (h : i < 24) : (tab g)[i]? = some (g i) := by
 rw [List.getElem?_eq_getElem (by simpa using h), zcu]
theorem zph (k k' : IntKind) (a b : Int) : pv (.bin .lss) [.int k a, .int k' b] = .bool (decide (a < b)) := rfl
theorem zq6 (k k' : IntKind) (a b : Int) : pv (.bin .eql) [.int k a, .int k' b] = .bool (a == b) := rfl
theorem zq0 (k k' : IntKind) (a b : Int) : pv (.bin .add) [.int k a, .int k' b] = .int k (k.wrap (a + b)) := rfl
theorem pvOr {a b : Nat} (ha : a < 16777216) (hb : b < 16777216) : pv (.bin .or) [W a, W b] = W ((a ||| b : Nat) : Int) := by
 rw [zep]; unfold binI; simp only []; rw [show IntKind.u32.bits = 32 from rfl, or32 ha hb]
theorem zrT {i : Nat} (k : IntKind) (h : i < 24) : pv (.bin .shl) [W 1, .int k (i : Int)] = W ((1 <<< i : Nat) : Int) := by
 rw [zep]; unfold binI; simp only []; rw [show IntKind.u32.bits = 32 from rfl, shl32 h]
theorem zm8 {i : Nat} (h : i < 24) : IntKind.u64.wrap (i : Int) = i := by
 unfold IntKind.wrap
 simp [IntKind.bits, IntKind.signed]
 omega
end Go.Lb.LK
namespace Go.Lb.LK
open Go Go.Lb Go.Proofs Go.RowKit
theorem zeL (g : Nat → Int) (n : Int) {i : Nat} (h : i ≤ 24) : zcI g n i < 16777216 := by
 have := znw g n i
 have h2 : 2 ^ i ≤ 2 ^ 24 := Nat.pow_le_pow_right (by omega) h
 omega
theorem zeY (g : Nat → Int) (n : Int) (i : Nat) : zcI g n (i + 1) = if g i = n then zcI g n i ||| 1 <<< i else zcI g n i := rfl
theorem zkR (g : Nat → Int) : C f_point_Bits [ints (tab g)] (.tup [W (zcI g 0 24), W (zcI g 1 24)]) := by
 refine ctr [ints (tab g)] run_point_Bits rfl (by simp [AV.pureAll, AV.pure, zdN]) rfl ?_ rfl
 unfold rt_point_Bits
 have ht : (tab g).take 24 = tab g := List.take_of_length_le (by simp)
 simp [zco]
 refine zac rfl (fun vs => ∃ i : Nat, i ≤ 24 ∧ vs = [I i, W (zcI g 0 i)]) (fun vs => match vs with | [.int _ j, _] => 24 - j.toNat | _ => 0) ⟨0, by omega, by simp [zcI]⟩ ?_
 rintro vs - ⟨i, hi, rfl⟩
 by_cases hlt : i < 24
 ·have hw := zad (i := i) (by omega)
  have hS := zrT .i64 hlt
  have hO := pvOr (zeL g 0 (i := i) (by omega)) (znF hlt)
  have hs := zeY g 0 i
  generalize 1 <<< i = B at hS hO hs
  simp [zco, ← List.map_take, ht, hlt, zcu? g hlt, zcu, hw, hS, hO, zph, zq6, zq0, -zep]
  refine ⟨fun _ => ⟨by omega, fun hg => ⟨⟨i + 1, by omega, by omega, by rw [hs, if_pos hg]⟩, by omega⟩, fun hg => ⟨⟨i + 1, by omega, by omega, by rw [hs, if_neg hg]⟩, by omega⟩⟩, by omega⟩
 ·have : i = 24 := by omega
  subst this
  simp [zco, ← List.map_take, ht]
  refine zac rfl (fun vs => ∃ i : Nat, i ≤ 24 ∧ vs = [I i, W (zcI g 1 i)]) (fun vs => match vs with | [.int _ j, _] => 24 - j.toNat | _ => 0) ⟨0, by omega, by simp [zcI]⟩ ?_
  rintro vs - ⟨i, hi, rfl⟩
  by_cases hlt : i < 24
  ·have hw := zad (i := i) (by omega)
   have hS := zrT .i64 hlt
   have hO := pvOr (zeL g 1 (i := i) (by omega)) (znF hlt)
   have hs := zeY g 1 i
   generalize 1 <<< i = B at hS hO hs
   simp [zco, ← List.map_take, ht, hlt, zcu? g hlt, zcu, hw, hS, hO, zph, zq6, zq0, -zep]
   refine ⟨fun _ => ⟨by omega, fun hg => ⟨⟨i + 1, by omega, by omega, by rw [hs, if_pos hg]⟩, by omega⟩, fun hg => ⟨⟨i + 1, by omega, by omega, by rw [hs, if_neg hg]⟩, by omega⟩⟩, by omega⟩
  ·have : i = 24 := by omega
   subst this
   simp [zco, ← List.map_take, ht]
end Go.Lb.LK
namespace Go.Lb.LK
open Go Go.Lb Go.Proofs Go.RowKit
theorem zcy : ∀ (xs : List Need) (k : Kern), (xs.foldl za8 k).held = k.held ∧ (xs.foldl za8 k).next = k.next
 | [], _ => ⟨rfl, rfl⟩
 | x :: xs, k => by
  have := zcy xs (za8 k x)
  exact this
theorem ze5 : ∀ (xs : List Need) (k : Kern), zbU k = true → zbU (xs.foldl za8 k) = true
 | [], _, h => h
 | x :: xs, k, h => ze5 xs (za8 k x) (zfr h zhw)
theorem zor (l : Lay) (im : Img) (h : Hd) : Less (zgm l im h).1 h := by
 unfold zgm
 split
 ·exact znO l im h
 ·exact zn8 l im h
theorem zmU {l : Lay} {im : Img} {h : Hd} (hr : zay h = true) : zay (zgm l im h).1 = true := by
 unfold zgm
 split
 ·exact zmI hr
 ·exact zmK hr
theorem ziO {l : Lay} {im : Img} {k : Kern} {h o : Hd} (he : zbi l im k h = some o) : o = (zgm l im h).1 ∧ za0 l im k h = false ∧ (zgm l im h).2 = false ∧ zfB o = false := by
 unfold zbi at he
 split at he
 ·cases he
 ·rename_i h1
  split at he
  ·cases he
  ·rename_i h2
   simp only [Bool.not_eq_true, Bool.or_eq_false_iff, Option.some.injEq] at h1 h2 he
   exact ⟨he.symm, h1, h2.1, by rw [← he]; exact h2.2⟩
theorem zhK {l : Lay} {im : Img} {k : Kern} {nx : Int} {hs : List Hd} (hg : GoodL nx hs) : GoodL nx (hs.filterMap (zbi l im k)) :=
 hg.fmap fun h hh o ho => by
  obtain ⟨rfl, _⟩ := ziO ho
  exact ⟨zor l im h, zmU (hg.right h hh)⟩
def zlR (l : Lay) (im : Img) (k : Kern) : Kern := (zbr l im (k.held.filterMap (zbi l im (zbX l im k)))).foldl za8 { zbX l im k with held := k.held.filterMap (zbi l im (zbX l im k)) }
theorem zdO {l : Lay} {im : Img} {k : Kern} (hr : zas k = true) (hs : stale l im = false) : zc1 l im k = (zlR l im k, (k.held.filter (za0 l im (zbX l im k))).map (·.id)) := by
 have h1 : (zbX l im k).held = k.held := (zby l im k 24).1
 unfold zc1 zlR
 rw [hr, hs, h1]; rfl
theorem zb6 {l : Lay} {im : Img} {k : Kern} (hs : zas k = false ∨ stale l im = true) : zc1 l im k = (k, []) := by
 unfold zc1
 rcases hs with h | h <;> simp [h]
theorem zje (l : Lay) (im : Img) (k : Kern) : (zlR l im k).held = k.held.filterMap (zbi l im (zbX l im k)) ∧ (zlR l im k).next = k.next := by
 obtain ⟨a, b⟩ := zcy (zbr l im (k.held.filterMap (zbi l im (zbX l im k)))) { zbX l im k with held := k.held.filterMap (zbi l im (zbX l im k)) }
 exact ⟨a, b.trans (zby l im k 24).2⟩
theorem zl4 {l : Lay} {im : Img} {k : Kern} (hr : zas k = true) : zas (zlR l im k) = true := by
 obtain ⟨h1, h2, h3, h4⟩ := zmp hr
 obtain ⟨e1, e2⟩ := zje l im k
 refine znv ?_ (by rw [e2]; exact h2) (by rw [e2]; exact h3) ?_ ?_
 ·rw [e1]
  have := List.length_filterMap_le (zbi l im (zbX l im k)) k.held
  omega
 ·rw [e1, e2]; exact zhK (zga hr)
 ·exact ze5 _ _ (show zbU (zbX l im k) = true from zd1 h4 24)
theorem zmZ {l : Lay} {im : Img} {k : Kern} (hr : zas k = true) : zas (zc1 l im k).1 = true := by
 cases hs : stale l im
 ·rw [zdO hr hs]; exact zl4 hr
 ·rw [zb6 (.inr hs)]; exact hr
theorem zoE {k : Kern} (hr : zas k = true) {p : Nat} {m : Mach} (hm : zaZ m = true) : zas (k.put p m) = true := by
 obtain ⟨h1, h2, h3, h4⟩ := zmp hr
 refine znv h1 h2 h3 ?_ (zfr h4 hm)
 have := zga hr
 exact this
theorem zoa {l : Lay} {im : Img} {k : Kern} {p pos : Int} (hr : zas k = true) : zas (keyK l im k p pos).1 = true := by
 unfold keyK
 split
 ·exact zoE hr zhw
 ·exact hr
theorem zmg (l : Lay) (im : Img) (k : Kern) (p : Nat) : toN l im k p = -1 ∨ ((toN l im k p = 0 ∨ toN l im k p = 1) ∧ zag l im p = false ∧ zaA k p = false) := by
 unfold toN
 split
 ·rcases zi5 (m := k.mach p) (a := atP l im p) (o := zag l im p) (l := zaA k p) with h | h
  ·exact .inl h
  ·exact .inr ⟨h.1, h.2.1, h.2.2.1⟩
 ·exact .inl rfl
def norN (l : Lay) (im : Img) (k : Kern) : Nat := zcI (toN l im k) 0 24
def revN (l : Lay) (im : Img) (k : Kern) : Nat := zcI (toN l im k) 1 24
theorem zrq (l : Lay) (im : Img) (k : Kern) : norN l im k &&& revN l im k = 0 := by
 apply Nat.eq_of_testBit_eq
 intro s
 rw [Nat.testBit_and, norN, revN, zex, zex, Nat.zero_testBit]
 by_cases h : toN l im k s = 0
 ·simp [h]
 ·simp [h]
theorem zi4 (l : Lay) (im : Img) (k : Kern) (s : Nat) : (norN l im k ||| revN l im k).testBit s = (decide (s < 24) && decide (toN l im k s = 0 ∨ toN l im k s = 1)) := by
 rw [Nat.testBit_or, norN, revN, zex, zex]
 by_cases h : s < 24 <;> simp [h]
theorem zqZ {l : Lay} {im : Img} (k : Kern) (h : stale l im = true) : norN l im k ||| revN l im k = 0 := by
 apply Nat.eq_of_testBit_eq
 intro s
 rw [zi4, Nat.zero_testBit]
 rcases zmg l im k s with h1 | h1
 ·simp [h1]
 ·have := h1.2.1
  simp [zag, h] at this
theorem ziJ (l : Lay) (im : Img) (k : Kern) (p : Nat) : ¬ (0 ≤ toN l im k p ∧ (zag l im p = true ∨ zaA k p = true)) := by
 rintro ⟨h1, h2⟩
 rcases zmg l im k p with h | h
 ·omega
 ·rw [h.2.1, h.2.2] at h2
  simp at h2
end Go.Lb.LK
namespace Go.Lb.LK
open Go Go.Lb Go.Proofs Go.RowKit
def ztn (hs : List Hd) (n : Int) : Option Hd := hs.find? fun x => decide (x.id = n)
theorem zto {nx : Int} : ∀ {hs : List Hd}, GoodL nx hs → ∀ {h : Hd}, h ∈ hs → ztn hs h.id = some h
 | x :: hs, hg, h, hh => by
  unfold ztn
  rcases List.mem_cons.1 hh with rfl | hh
  ·rw [List.find?_cons_of_pos (by simp)]
  ·have := ((List.pairwise_cons.1 hg.pw).1 h hh).1
   rw [List.find?_cons_of_neg (by simp; omega)]
   exact zto (hg.sub (List.sublist_cons_self x hs)) hh
theorem ztC {hs : List Hd} {n : Int} (h : ∀ x ∈ hs, x.id ≠ n) : ztn hs n = none := by
 unfold ztn
 rw [List.find?_eq_none]
 intro x hx
 simpa using h x hx
theorem ztv {nx : Int} {f : Hd → Option Hd} (hid : ∀ h o, f h = some o → o.id = h.id) : ∀ {hs : List Hd}, GoodL nx hs → ∀ {h : Hd}, h ∈ hs → ztn (hs.filterMap f) h.id = f h
 | x :: hs, hg, h, hh => by
  have hp := (List.pairwise_cons.1 hg.pw).1
  have hg2 := hg.sub (List.sublist_cons_self x hs)
  rcases List.mem_cons.1 hh with rfl | hh
  ·cases e : f h with
   | none =>
    rw [List.filterMap_cons_none e]
    refine ztC fun y hy => ?_
    obtain ⟨z, hz, hz2⟩ := List.mem_filterMap.1 hy
    have := (hp z hz).1
    rw [hid z y hz2]; omega
   | some o =>
    rw [List.filterMap_cons_some e]
    unfold ztn
    rw [List.find?_cons_of_pos (by simp [hid h o e])]
  ·have hlt := (hp h hh).1
   have ih := ztv hid hg2 hh
   cases e : f x with
   | none => rw [List.filterMap_cons_none e]; exact ih
   | some o =>
    rw [List.filterMap_cons_some e]
    unfold ztn
    rw [List.find?_cons_of_neg (by simp [hid x o e]; omega)]
    exact ih
theorem ztU {nx : Int} {q : Hd → Bool} : ∀ {hs : List Hd}, GoodL nx hs → ∀ {h : Hd}, h ∈ hs → (((hs.filter q).map (·.id)).any fun n => decide (n = h.id)) = q h
 | x :: hs, hg, h, hh => by
  have hp := (List.pairwise_cons.1 hg.pw).1
  have hg2 := hg.sub (List.sublist_cons_self x hs)
  rcases List.mem_cons.1 hh with rfl | hh
  ·have hno : (((hs.filter q).map (·.id)).any fun n => decide (n = h.id)) = false := by
    refine List.any_eq_false.2 fun y hy => ?_
    obtain ⟨z, hz, rfl⟩ := List.mem_map.1 hy
    have := (hp z (List.mem_filter.1 hz).1).1
    simp; omega
   cases e : q h
   ·rw [List.filter_cons_of_neg (by simp [e])]; exact hno
   ·rw [List.filter_cons_of_pos e]; simp
  ·have hlt := (hp h hh).1
   have ih := ztU (q := q) hg2 hh
   cases e : q x
   ·rw [List.filter_cons_of_neg (by simp [e])]; exact ih
   ·rw [List.filter_cons_of_pos e]
    simp only [List.map_cons, List.any_cons, ih, show decide (x.id = h.id) = false by simp; omega, Bool.false_or]
theorem ztS {l : Lay} {im : Img} {k : Kern} (h o : Hd) (he : zbi l im k h = some o) : o.id = h.id := by
 obtain ⟨rfl, _⟩ := ziO he
 exact (zor l im h).id
theorem ztz {l : Lay} {im : Img} {h : Hd} (hr : zay h = true) (k : Nat) (hk : k < h.path.steps.length) (h1 : h.gone ≤ k) (h2 : (k : Int) < (runS l im h).gone) : zag l im h.path.steps[k].s = false := by
 cases ha : zbz l im h
 ·rw [zdB ha] at h2
  have hg : goX l im h h.gone.toNat = goF l im h (h.n - h.gone.toNat) h.gone.toNat := rfl
  have h2 : (k : Int) < ((goX l im h h.gone.toNat : Nat) : Int) := h2
  obtain ⟨_, ⟨_, _, d3, _⟩, _⟩ := zaM hr
  have hc := ztI (l := l) (im := im) (h := h) (f := h.n - h.gone.toNat) (g := h.gone.toNat) (k := k) (by omega) (by rw [← hg]; omega)
  unfold zbk at hc
  simp only [Bool.and_eq_true, Bool.not_eq_true'] at hc
  have := hc.2.2.2
  rw [zbt hk] at this
  exact this
 ·rw [zfe ha] at h2
  omega
theorem ztD {l : Lay} {im : Img} {h : Hd} (hr : zay h = true) (k : Nat) (hk : k < h.path.steps.length) (h1 : h.gone ≤ k) (h2 : (k : Int) < (zbW l im h).gone) : zag l im h.path.steps[k].s = false ∧ h.stage ≠ 1 := by
 unfold zbW at h2
 split at h2
 ·omega
 ·split at h2
  ·split at h2 <;> (have h2 : (k : Int) < h.gone := h2; omega)
  ·rename_i h3
   split at h2
   ·split at h2
    ·exact ⟨ztz (h := { h with stage := 3, timer := 0 }) (zeV hr (by omega) (by omega)) k hk h1 h2, h3⟩
    ·omega
   ·split at h2
    ·exact ⟨ztz hr k hk h1 h2, h3⟩
    ·omega
theorem ztN {h : Hd} (ho : zfB h = true) (hr : zay h = true) : h.gone = h.path.steps.length := by
 obtain ⟨_, ⟨_, _, d3, d4⟩, _⟩ := zaM hr
 simp only [zfB, Bool.and_eq_true, decide_eq_true_eq] at ho
 omega
theorem ztt {p : Int} {pos : Int} (hpos : pos = 0 ∨ pos = 1) : ∀ (xs : List Need) (k : Kern), zbU k = true → 0 ≤ p → p < 24 → (∀ x ∈ xs, 0 ≤ x.p) → (∀ x ∈ xs, x.p = p → x.pos = pos) → ((∃ x ∈ xs, x.p = p) ∨ ((k.mach p.toNat).want = pos ∧ (k.mach p.toNat).fail = false)) →
  ((xs.foldl za8 k).mach p.toNat).want = pos ∧ ((xs.foldl za8 k).mach p.toNat).fail = false
 | [], k, _, _, _, _, _, h => by
  rcases h with ⟨x, hx, _⟩ | h
  ·simp at hx
  ·exact h
 | x :: xs, k, hm, h0, h24, hnn, hall, h => by
  have hm2 : zbU (za8 k x) = true := zfr hm zhw
  refine ztt hpos xs (za8 k x) hm2 h0 h24 (fun y hy => hnn y (List.mem_cons_of_mem _ hy)) (fun y hy => hall y (List.mem_cons_of_mem _ hy)) ?_
  by_cases hx : x.p = p
  ·right
   have hxp := hall x (by simp) hx
   have hmk := (zmu k).1 hm p.toNat (by omega)
   unfold za8
   rw [znr, hx, if_pos rfl, hxp]
   unfold zbS
   rw [if_pos ⟨hmk, hpos⟩]
   split
   ·rename_i h1; exact h1
   ·exact ⟨rfl, rfl⟩
  ·have hne : ¬ p.toNat = x.p.toNat := by
    have := hnn x (by simp); omega
   rcases h with ⟨y, hy, hy2⟩ | h
   ·rcases List.mem_cons.1 hy with rfl | hy
    ·exact absurd hy2 hx
    ·exact .inl ⟨y, hy, hy2⟩
   ·right
    unfold za8
    rw [znr, if_neg hne]; exact h
end Go.Lb.LK
namespace Go.Lb.LK
open Go Go.Lb Go.Proofs Go.RowKit
theorem zts {a b : List Need} (h : ze6 a b = false) {x y : Need} (hx : x ∈ a) (hy : y ∈ b) (hp : x.p = y.p) : x.pos = y.pos := by
 by_cases he : x.pos = y.pos
 ·exact he
 ·exfalso
  have h1 := List.any_eq_false.1 h x hx
  rw [Bool.not_eq_true] at h1
  have h2 := List.any_eq_false.1 h1 y hy
  simp [both, hp, he] at h2
theorem znK {h : Hd} {x : Need} (hx : x ∈ zai h) : x ∈ h.needs := (List.mem_filter.1 hx).1
theorem ztp {a b : Hd} (h : zbm a b = true) : ze6 (zai a) (zai b) = false := by
 simp only [zbm, Bool.and_eq_true, Bool.not_eq_true'] at h
 exact h.2
theorem ztJ {nx : Int} {hs : List Hd} (hg : GoodL nx hs) {a b : Hd} (ha : a ∈ hs) (hb : b ∈ hs) {x y : Need} (hx : x ∈ zai a) (hy : y ∈ zai b) (hp : x.p = y.p) : x.pos = y.pos := by
 obtain ⟨i, hi, rfl⟩ := List.mem_iff_getElem.1 ha
 obtain ⟨j, hj, rfl⟩ := List.mem_iff_getElem.1 hb
 have hpw := List.pairwise_iff_getElem.1 hg.pw
 rcases Nat.lt_trichotomy i j with h | h | h
 ·exact (zts (ztp (hpw i j hi hj h).2) hy hx hp.symm).symm
 ·subst h
  exact zts (zaM (hg.right _ ha)).2.2.1 (znK hx) (znK hy) hp
 ·exact zts (ztp (hpw j i hj hi h).2) hx hy hp
theorem zhm {h : Hd} (hr : zay h = true) {x : Need} (hx : x ∈ zai h) : 0 ≤ x.p ∧ x.p < 24 ∧ (x.pos = 0 ∨ x.pos = 1) := by
 have := List.all_eq_true.1 (zaM hr).2.2.2.2.2 x (znK hx)
 simp only [zdP, decide_eq_true_eq] at this
 omega
theorem ztr {l : Lay} {im : Img} {hs : List Hd} {x : Need} : x ∈ zbr l im hs ↔ ∃ h ∈ hs, h.stage = 1 ∧ x ∈ zkZ l im h := by
 unfold zbr
 rw [List.mem_flatMap]
 constructor
 ·rintro ⟨h, hh, hx⟩
  split at hx
  ·exact ⟨h, hh, by assumption, hx⟩
  ·simp at hx
 ·rintro ⟨h, hh, h1, hx⟩
  exact ⟨h, hh, by rw [if_pos h1]; exact hx⟩
theorem ztw {l : Lay} {im : Img} {h : Hd} {x : Need} : x ∈ zkZ l im h ↔ x ∈ zai h ∧ ¬ atP l im x.p = x.pos := by
 unfold zkZ
 rw [List.mem_filter]
 simp
theorem ztA {l : Lay} {im : Img} {k : Kern} (hr : zas k = true) {h : Hd} (hh : h ∈ (zlR l im k).held) (h1 : h.stage = 1) {x : Need} (hx : x ∈ zai h) (ha : ¬ atP l im x.p = x.pos) :
  ((zlR l im k).mach x.p.toNat).want = x.pos ∧ ((zlR l im k).mach x.p.toNat).fail = false := by
 have hg : GoodL k.next (k.held.filterMap (zbi l im (zbX l im k))) := zhK (zga hr)
 rw [(zje l im k).1] at hh
 obtain ⟨b1, b2, b3⟩ := zhm (hg.right h hh) hx
 unfold zlR
 refine ztt (p := x.p) (pos := x.pos) b3 _ _ (show zbU (zbX l im k) = true from zd1 (zmp hr).2.2.2 24) b1 b2 (fun y hy => ?_) (fun y hy hp => ?_) (.inl ⟨x, ?_, rfl⟩)
 ·obtain ⟨g, hg1, _, hg2⟩ := ztr.1 hy
  exact (zhm (hg.right g hg1) (ztw.1 hg2).1).1
 ·obtain ⟨g, hg1, _, hg2⟩ := ztr.1 hy
  exact ztJ hg hg1 hh (ztw.1 hg2).1 hx hp
 ·exact ztr.2 ⟨h, hh, h1, ztw.2 ⟨hx, ha⟩⟩
theorem ztT {l : Lay} {im : Img} {h : Hd} (h1 : h.stage = 1) (h2 : (zgm l im h).1.stage = 2) {x : Need} (hx : x ∈ zai (zgm l im h).1) : atP l im x.p = x.pos := by
 have e : (zgm l im h).1 = zbW l im h := by simp [zgm, h1]
 rw [e] at h2 hx
 cases ha : zbz l im h
 ·cases hs : zce l im h
  ·have : zbW l im h = h := by simp [zbW, ha, h1, hs]
   rw [this, h1] at h2; omega
  ·have : zbW l im h = { h with stage := 2 } := by simp [zbW, ha, h1, hs]
   rw [this] at hx
   have := List.all_eq_true.1 hs x hx
   simpa using this
 ·have : zbW l im h = h := by simp [zbW, ha]
  rw [this, h1] at h2; omega
end Go.Lb.LK
namespace Go.Lb.LK
open Go Go.Lb Go.Proofs Go.RowKit
theorem zfO (l : Lay) (im : Img) (xs : List Need) : C f_kernel_away [l.av, im.av, needs xs] (.clo f_kernel_away_1 [] [.ref [needs xs] 0, .ref l.cells 0, .ref im.cells 0]) := by
 refine ctr (l.cells ++ im.cells ++ [needs xs]) run_kernel_away rfl (by simp [zaf, AV.pureAll, AV.pure]) (by simp [AV.pure, AV.pureAll]) ?_ rfl
 unfold rt_kernel_away
 simp [zaa]
theorem likh (l : Lay) (im : Img) (k : Kern) (h : Hd) : AV.pureAll (l.cells ++ im.cells ++ k.cells ++ h.cells) = true := by simp [zaf]
theorem zk3 (a b : AV) (w r : Nat → Int) (f : Nat → Bool) {z : Int} (h0 : 0 ≤ z) (h1 : z < 24) : pv (.aidx 24 3 4 1 false) [.agg (a :: b :: zau w r f), I z] = .bool (f z.toNat) := by
 show (zau w r f).getD (z.toNat * 3 + 2) .undef = _
 exact zlu w r f (by omega) .undef
theorem zaN (a b : AV) (w r : Nat → Int) (f : Nat → Bool) {z : Int} (h0 : 0 ≤ z) (h1 : z < 24) : pv (.aidx 24 3 2 3 true) [.agg (a :: b :: zau w r f), I z] = Mach.av ⟨w z.toNat, r z.toNat, f z.toNat⟩ := zrS a b w r f (by omega)
theorem zoy (w r : Nat → Int) (f : Nat → Bool) {z : Int} (h0 : 0 ≤ z) (h1 : z < 24) : pv (.aidx 24 3 0 3 true) [.agg (zau w r f), I z] = Mach.av ⟨w z.toNat, r z.toNat, f z.toNat⟩ := zrd w r f (by omega)
def ziz (l : Lay) (im : Img) (k : Kern) (x : Need) : Bool := !decide (atP l im x.p = x.pos) && k.fail x.p.toNat
theorem zm5 (l : Lay) (im : Img) (k : Kern) (h : Hd) : ((zkZ l im h).any fun x => k.fail x.p.toNat) = (zai h).any (ziz l im k) := by
 unfold zkZ ziz
 rw [List.any_filter]
theorem ziy (l : Lay) (im : Img) (hi : im.ok) (k : Kern) (h : Hd) (hl : h.len) (hr : zay h = true) : C f_kernel_fails [l.av, im.av, k.av, h.av] (.bool ((zkZ l im h).any fun x => k.fail x.p.toNat)) := by
 have hnn := zbb h
 have hl3 := hl.2.2
 rw [zm5]
 refine ctr (l.cells ++ im.cells ++ k.cells ++ h.cells) run_kernel_fails rfl (likh l im k h) rfl ?_ rfl
 unfold rt_kernel_fails
 simp [zam, zaa]
 refine call (zb8 h hl) (by simp [zaa]) (by simp) ?_
 simp [zaa]
 refine call (zfO l im (zai h)) (by simp [zaa]) (by simp) ?_
 simp [zaa]
 refine zac rfl (fun vs => ∃ i : Nat, i ≤ (zai h).length ∧ vs = [I i] ∧ zar (ziz l im k) ((zai h).take i)) (fun vs => match vs with | [.int _ j] => (zai h).length - j.toNat | _ => 0) ⟨0, by omega, by simp, rfl⟩ ?_
 rintro vs - ⟨i, hi2, rfl, hq⟩
 simp
 refine ⟨fun hlt => ?_, fun hge => ?_⟩
 ·have hw := zad (i := i) (by omega)
  obtain ⟨b1, b2, b3⟩ := zhm hr (List.getElem_mem hlt)
  simp [hlt, Need.cells, zaa]
  refine call (zc5 l im hi (zai h)[i].p) (by simp [hlt, Need.cells, zaa]) (by simp) ?_
  simp [hlt, Need.cells, zaa, zk3, b1, b2, -zab]
  refine ⟨fun ha => ⟨by omega, fun hf => ⟨_, List.getElem_mem hlt, by simp [ziz, ha, hf]⟩, fun hf => ⟨⟨i + 1, by omega, hw, zao hlt hq (by simp [ziz, hf])⟩, by omega⟩⟩, fun ha => ⟨⟨i + 1, by omega, hw, zao hlt hq (by simp [ziz, ha])⟩, by omega⟩⟩
 ·have : (zai h).take i = zai h := List.take_of_length_le (by omega)
  rw [this] at hq
  simpa [zar] using hq
end Go.Lb.LK
namespace Go.Lb.LK
open Go Go.Lb Go.Proofs Go.RowKit
theorem zdY (h : Hd) : C f_held_Over [h.av] (.bool (zfB h)) := by
 refine ctr h.cells run_held_Over rfl (by simp) rfl ?_ rfl
 unfold rt_held_Over
 have e : (if h.gone < 0 then 0 else h.gone) = max h.gone 0 := by split <;> omega
 simp [Hd.cells, zfB, zco, e, Bool.and_comm]
theorem lik3 (l : Lay) (im : Img) (k : Kern) : AV.pureAll (l.cells ++ im.cells ++ k.cells) = true := by simp [zaf]
theorem zcG (l : Lay) (im : Img) (hi : im.ok) (k : Kern) (hk : k.len) (hko : k.ok) (p pos : Int) (hp1 : -9223372036854775808 ≤ pos) (hp2 : pos ≤ 9223372036854775807) : C f_kernel_Key [l.av, im.av, k.av, I p, I pos] (.tup [(keyK l im k p pos).1.av, .bool (keyK l im k p pos).2]) := by
 have h1 := hk.1
 refine ctr (l.cells ++ im.cells ++ k.cells ++ [I p, I pos]) run_kernel_Key rfl (by simp [zaf, AV.pureAll, AV.pure]) (by simp [AV.pure, AV.pureAll]) ?_ rfl
 unfold rt_kernel_Key
 have hpb := zq7 hp1 hp2
 have hAN : pv (.bin .andNot) [I pos, I 1] = I (IntKind.i64.wrap ((BitVec.ofInt 64 pos &&& ~~~ BitVec.ofInt 64 1).toNat : Int)) := rfl
 generalize IntKind.i64.wrap ((BitVec.ofInt 64 pos &&& ~~~ BitVec.ofInt 64 1).toNat : Int) = B at hpb hAN
 have pvGeq : ∀ a b : Int, pv (.bin .geq) [I a, I b] = .bool (decide (a ≥ b)) := fun _ _ => rfl
 have pvNeq : ∀ a b : Int, pv (.bin .neq) [I a, I b] = .bool (a != b) := fun _ _ => rfl
 simp [zam, zaa]
 refine call (zgu k hk) (by simp [zaa, zam]) (by simp) ?_
 simp [hAN, zph, pvGeq, pvNeq, hpb, zco, zae, -zep]
 refine ⟨fun hb => ?_, fun h0 hlt hpos => ?_⟩
 ·have e : keyK l im k p pos = (k, false) := by
   unfold keyK
   rw [if_neg]
   intro hc
   simp [zhf] at hc
   obtain ⟨⟨c1, c2⟩, c3, c4, _⟩ := hc
   have : p.toNat < l.secs.length := by
    by_cases hx : p.toNat < l.secs.length
    ·exact hx
    ·simp [isPt, List.getElem?_eq_none (Nat.le_of_not_lt hx)] at c3
   rcases hb with hb | hb
   ·rcases hb with hb | hb
    ·omega
    ·split at hb <;> omega
   ·omega
  rw [e]; exact ⟨rfl, rfl⟩
 ·have h24 : p < 24 := by split at hlt <;> omega
  have hsl : p.toNat < l.secs.length := by split at hlt <;> omega
  have hsi : p < (l.secs.length : Int) := by omega
  have hpt : isPt l p.toNat = decide (l.secs[p.toNat].kind = 2) := by simp [isPt, hsl]
  refine call (zj1 k hk p) (by simp [zaa, zam]) (by simp [optP]) ?_
  by_cases hok : l.secs[p.toNat].kind = 2 ∧ zas k = true ∧ zcF l im k p = true ∧ zbB k p = none
  ·obtain ⟨o1, o2, o3, o4⟩ := hok
   have e : keyK l im k p pos = (k.put p.toNat (zbS (k.mach p.toNat) pos), true) := by simp [keyK, zhf, o1, o2, o3, o4, h0, h24, hpt, hpos]
   rw [e]
   simp [optP, o4, hsl, hsi, h0, Sec.cells, o1]
   refine zak (avs := [k.av]) (.bool true) rfl (fun _ => ⟨by simp [zaa, zam], o2 ▸ zdm k hk hko⟩) (by simp) ?_
   simp [hsl, Sec.cells, o1]
   refine zak (avs := [l.av, im.av, k.av, I p]) (.bool true) rfl (fun _ => ⟨by simp [zaa, zam], o3 ▸ zin l im hi k hk p⟩) (by simp) ?_
   simp [hsl, Sec.cells, o1, zae, h0, h24]
   refine ⟨by omega, ?_⟩
   refine call (zgY (k.mach p.toNat) pos) (by simp [zae, zam, zaN, h0, h24, -zab, Kern.mach]) (by simp) ?_
   simp [h0, h24]
   refine zdy (.inr rfl) p (zbS (k.mach p.toNat) pos) k.want k.run k.fail h0 rfl rfl (by simp) (by simp [Mach.cells]) (by simp [zae]) ?_
   simp [zaa, zam, Kern.put]
  ·have e : keyK l im k p pos = (k, false) := by
    unfold keyK
    rw [if_neg]
    intro hc
    simp [zhf, hpt] at hc
    exact hok ⟨hc.2.1, hc.2.2.2.1, hc.2.2.2.2.1, hc.2.2.2.2.2⟩
   rw [e]
   have hRt := zdm k hk hko
   have hFr := zin l im hi k hk p
   cases hm : zbB k p with
   | some b =>
    simp [optP, hsl, hsi, h0, Sec.cells]
    refine zak (avs := [k.av]) (.bool (zas k)) rfl (fun _ => ⟨by simp [zaa, zam], hRt⟩) (by simp) ?_
    simp [hsl, Sec.cells]
    refine zak (avs := [l.av, im.av, k.av, I p]) (.bool (zcF l im k p)) rfl (fun _ => ⟨by simp [zaa, zam], hFr⟩) (by simp) ?_
    simp [zae]
   | none =>
    simp [optP, hsl, hsi, h0, Sec.cells]
    refine zak (avs := [k.av]) (.bool (zas k)) rfl (fun _ => ⟨by simp [zaa, zam], hRt⟩) (by simp) ?_
    simp [hsl, Sec.cells]
    refine zak (avs := [l.av, im.av, k.av, I p]) (.bool (zcF l im k p)) rfl (fun _ => ⟨by simp [zaa, zam], hFr⟩) (by simp) ?_
    simp [hsl, Sec.cells, zae]
    exact fun a1 a2 a3 => absurd ⟨a1, a2, a3, hm⟩ hok
theorem zji (g : Nat → Int) {i : Nat} (h : i < 24) (v : Int) : pv (.rowset 1 0 1) [ints (tab g), I i, .agg [I v]] = ints (tab (upd g i v)) := by
 have e : ((tab g).map I).getD i .undef = I (g i) := by rw [zoG (by simpa using h), zcu]
 rw [zf5, Int.toNat_natCast, e, ← zr9]
 show AV.sl (((tab g).map I).set i (I v)) = AV.sl (((tab g).set i v).map I)
 rw [List.map_set]
theorem zmP {l : Lay} {p : Nat} (h : isPt l p = true) : p < l.secs.length := by
 by_cases hx : p < l.secs.length
 ·exact hx
 ·simp [isPt, List.getElem?_eq_none (Nat.le_of_not_lt hx)] at h
theorem zrU {l : Lay} (im : Img) (k : Kern) {p : Nat} (h : ¬ isPt l p = true) : toN l im k p = -1 := by
 unfold toN; rw [if_neg h]
theorem zck (l : Lay) (im : Img) (hi : im.ok) (k : Kern) (hk : k.len) : C f_kernel_Drives [l.av, im.av, k.av] (.tup [W (norN l im k), W (revN l im k)]) := by
 refine ctr (l.cells ++ im.cells ++ k.cells) run_kernel_Drives rfl (lik3 l im k) rfl ?_ rfl
 unfold rt_kernel_Drives
 simp [zam, zaa]
 refine zac rfl (fun vs => ∃ p : Nat, p ≤ 24 ∧ vs = [I p, ints (tab fun j => if j < p then -1 else 0)]) (fun vs => match vs with | [.int _ j, _] => 24 - j.toNat | _ => 0) ⟨0, by omega, rfl⟩ ?_
 rintro vs - ⟨p, hp, rfl⟩
 by_cases hlt : p < 24
 ·have hw := zad (i := p) (by omega)
  have hpi : (p : Int) < 24 := by omega
  have hr := zji (fun j => if j < p then -1 else 0) hlt (-1)
  simp [hpi, hlt, zcu? _ hlt, hr, hw, -zf5]
  refine ⟨⟨p + 1, by omega, by omega, ?_⟩, by omega⟩
  congr 1
  refine zfX fun j _ => ?_
  by_cases h : j = p
  ·subst h; simp [upd]
  ·by_cases h2 : j < p
   ·simp [upd, h, h2, show j < p + 1 by omega]
   ·simp [upd, h, h2, show ¬ j < p + 1 by omega]
 ·have : p = 24 := by omega
  subst this
  simp [zaa]
  refine ⟨fun a _ => ⟨rfl, rfl⟩, by omega, ?_⟩
  obtain ⟨N, hN⟩ : ∃ N, N = min l.secs.length 24 := ⟨_, rfl⟩
  have hmin : min (l.secs.length : Int) 24 = (N : Int) := by omega
  have hNl : min N l.secs.length = N := by omega
  refine zac rfl (fun vs => ∃ p : Nat, p ≤ N ∧ vs = [I p, ints (tab fun j => if j < p then toN l im k j else -1)]) (fun vs => match vs with | [.int _ j, _] => 24 - j.toNat | _ => 0) ⟨0, by omega, rfl⟩ ?_
  rintro vs - ⟨p, hp, rfl⟩
  by_cases hlt : p < N
  ·have hw := zad (i := p) (by omega)
   have hl1 : p < l.secs.length := by omega
   have hl2 : p < 24 := by omega
   have hpi : (p : Int) < 24 := by omega
   have hT : ((l.secs.map Sec.av).take N)[p]? = some l.secs[p].av := by rw [List.getElem?_take, if_pos hlt]; simp [hl1]
   simp [hmin, hNl, hT, hlt, Sec.cells]
   refine zak (avs := [l.av, im.av, I p]) (I (atP l im p)) rfl (fun _ => ⟨by simp [zaa], zc5 l im hi p⟩) (by simp) ?_
   simp
   refine zak (avs := [l.av, im.av, I p]) (.bool (zag l im p)) rfl (fun _ => ⟨by simp [zaa], zaq l im hi p⟩) (by simp) ?_
   simp
   refine zak (avs := [k.av, I p]) (.bool (zaA k p)) rfl (fun _ => ⟨by simp [zaa, zam], zd3 k hk p⟩) (by simp) ?_
   have hpt : isPt l p = decide (l.secs[p].kind = 2) := by simp [isPt, hl1]
   have hgo : ∀ v : Int, v = toN l im k p → ∃ p_1, p_1 ≤ N ∧ IntKind.i64.wrap ((p : Int) + 1) = (p_1 : Int) ∧ List.map I (tab (upd (fun j => if j < p then toN l im k j else -1) p v)) = List.map I (tab fun j => if j < p_1 then toN l im k j else -1) := by
    rintro v rfl
    refine ⟨p + 1, by omega, hw, ?_⟩
    congr 1
    refine zfX fun j _ => ?_
    by_cases h : j = p
    ·subst h; simp [upd]
    ·by_cases h2 : j < p
     ·simp [upd, h, h2, show j < p + 1 by omega]
     ·simp [upd, h, h2, show ¬ j < p + 1 by omega]
   by_cases h2 : l.secs[p].kind = 2
   ·have hto : toN l im k p = zbO (k.mach p) (atP l im p) (zag l im p) (zaA k p) := by simp [toN, hpt, h2]
    simp [h2, hpi, zaa, -zab, -zf5]
    refine ⟨by omega, ?_⟩
    refine call (zdw (k.mach p) (atP l im p) (zag l im p) (zaA k p)) (by simp [zaa, zaN, hpi, -zab, Kern.mach]) (by simp) ?_
    have hr := zji (fun j => if j < p then toN l im k j else -1) hl2 (toN l im k p)
    rw [← hto]
    simp [hr, hl2, hpi, zcu? _ hl2, hw, -zf5]
    have := hgo _ rfl
    rw [hw] at this
    exact ⟨by simpa using this, by omega⟩
   ·have hto : toN l im k p = -1 := by simp [toN, hpt, h2]
    simp [h2, hw]
    refine ⟨⟨p + 1, by omega, by omega, ?_⟩, by omega⟩
    congr 1
    refine zfX fun j _ => ?_
    by_cases h : j = p
    ·subst h; simp [hto]
    ·by_cases h3 : j < p
     ·simp [h3, show j < p + 1 by omega]
     ·simp [h3, show ¬ j < p + 1 by omega]
  ·have : p = N := by omega
   subst this
   simp [hmin, hNl]
   have ht : (tab fun j => if j < p then toN l im k j else -1) = tab (toN l im k) := by
    refine zfX fun j hj => ?_
    by_cases h : j < p
    ·simp [h]
    ·rw [if_neg h, zrU]
     intro hc
     have := zmP hc
     omega
   rw [ht]
   refine call (zkR (toN l im k)) (by simp) (fun _ => rfl) ?_
   simp [norN, revN]
theorem zc3 (l : Lay) (im : Img) (hi : im.ok) (k : Kern) (hk : k.len) (hko : k.ok) : C f_kernel_Safe [l.av, im.av, k.av] (.bool (zas k)) := by
 refine ctr (l.cells ++ im.cells ++ k.cells) run_kernel_Safe rfl (lik3 l im k) rfl ?_ rfl
 unfold rt_kernel_Safe
 simp [zam, zaa]
 refine ⟨fun a _ => ⟨rfl, rfl⟩, by omega, ?_⟩
 obtain ⟨N, hN⟩ : ∃ N, N = min l.secs.length 24 := ⟨_, rfl⟩
 have hmin : min (l.secs.length : Int) 24 = (N : Int) := by omega
 have hNl : min N l.secs.length = N := by omega
 refine zac rfl (fun vs => ∃ p : Nat, p ≤ N ∧ vs = [I p]) (fun vs => match vs with | [.int _ j] => 24 - j.toNat | _ => 0) ⟨0, by omega, rfl⟩ ?_
 rintro vs - ⟨p, hp, rfl⟩
 by_cases hlt : p < N
 ·have hw := zad (i := p) (by omega)
  have hl1 : p < l.secs.length := by omega
  have hl2 : p < 24 := by omega
  have hpi : (p : Int) < 24 := by omega
  have hT : ((l.secs.map Sec.av).take N)[p]? = some l.secs[p].av := by rw [List.getElem?_take, if_pos hlt]; simp [hl1]
  simp [hmin, hNl, hT, hlt, Sec.cells]
  refine zak (avs := [l.av, im.av, I p]) (I (atP l im p)) rfl (fun _ => ⟨by simp [zaa], zc5 l im hi p⟩) (by simp) ?_
  simp
  refine zak (avs := [l.av, im.av, I p]) (.bool (zag l im p)) rfl (fun _ => ⟨by simp [zaa], zaq l im hi p⟩) (by simp) ?_
  simp
  refine zak (avs := [k.av, I p]) (.bool (zaA k p)) rfl (fun _ => ⟨by simp [zaa, zam], zd3 k hk p⟩) (by simp) ?_
  have hpt : isPt l p = decide (l.secs[p].kind = 2) := by simp [isPt, hl1]
  have hs := ziJ l im k p
  by_cases h2 : l.secs[p].kind = 2
  ·have hto : toN l im k p = zbO (k.mach p) (atP l im p) (zag l im p) (zaA k p) := by simp [toN, hpt, h2]
   simp [h2, hpi, zaa, -zab]
   refine ⟨by omega, ?_⟩
   refine call (zdw (k.mach p) (atP l im p) (zag l im p) (zaA k p)) (by simp [zaa, zaN, hpi, -zab, Kern.mach]) (by simp) ?_
   rw [← hto]
   by_cases hd : 0 ≤ toN l im k p
   ·have hn := not_or.1 (fun hc => hs ⟨hd, hc⟩)
    simp only [Bool.not_eq_true] at hn
    simp [hd, hn.1, hn.2, hw]
    exact ⟨⟨p + 1, by omega, by omega⟩, by omega⟩
   ·simp [hd, hw]
    exact ⟨⟨p + 1, by omega, by omega⟩, by omega⟩
  ·simp [h2, hw]
   exact ⟨⟨p + 1, by omega, by omega⟩, by omega⟩
 ·have : p = N := by omega
  subst this
  simp [hmin, hNl]
  refine call (zdm k hk hko) (by simp [zaa, zam]) (by simp) ?_
  simp
end Go.Lb.LK
namespace Go.Lb.LK
open Go Go.Lb Go.Proofs Go.RowKit
def mayP (p : Port) : Bool := decide (p = noP) || (decide (0 ≤ p.s) && (decide (p.s < 24) && (decide (0 ≤ p.p) && decide (p.p < 4))))
theorem zp5 (a b : Int) : ((⟨a, b⟩ : Port) = noP) ↔ a = -1 ∧ b = 0 := by simp [noP]
theorem zpH (p : Port) : C f_lockbarref05_May [p.av] (.bool (mayP p)) := by
 refine ctr p.cells run_lockbarref05_May rfl (by simp) rfl ?_ rfl
 unfold rt_lockbarref05_May
 obtain ⟨a, b⟩ := p
 simp [Port.cells, mayP, zp5]
 by_cases h1 : a = -1 <;> by_cases h2 : b = 0 <;> by_cases h3 : 0 ≤ a <;> by_cases h4 : a < 24 <;> by_cases h5 : 0 ≤ b <;> by_cases h6 : b < 4 <;> simp [h1, h2, h3, h4, h5, h6, AV.eqs, AV.eq1]
def zhN (s : Sec) (i : Nat) : Bool := if (i : Int) < zbf s.kind then mayP (s.join i) else decide (s.join i = noP)
def zoY (s : Sec) (i : Nat) : Bool := (decide (0 ≤ s.cls i) && decide (s.cls i ≤ 3)) && (decide ((i : Int) < ways s.kind) || decide (s.cls i = 0))
def zkl (s : Sec) : Bool := (List.range 4).all (zhN s) && ((List.range 2).all (zoY s) && decide (0 < zbf s.kind))
theorem zih (s : Sec) : C f_lockbarref05_Right [s.av] (.bool (zkl s)) := by
 refine ctr s.cells run_lockbarref05_Right rfl (by simp) rfl ?_ rfl
 unfold rt_lockbarref05_Right
 simp [Sec.cells, -zab]
 refine zac rfl (fun vs => ∃ i : Nat, i ≤ 4 ∧ vs = [I i] ∧ ∀ j, j < i → zhN s j = true) (fun vs => match vs with | [.int _ j] => 4 - j.toNat | _ => 0) ⟨0, by omega, by simp, fun j hj => by omega⟩ ?_
 rintro vs - ⟨i, hi, rfl, hq⟩
 simp [-zab]
 refine ⟨fun hlt => ?_, fun hge => ?_⟩
 ·have hw := zad (i := i) (by omega)
  have hi4 : i < 4 := by omega
  have hJ := zrh s (i := i) (z := (i : Int)) rfl hi4
  simp only [Sec.cells] at hJ
  refine call (zct s.kind) (by simp) (fun _ => rfl) ?_
  simp [hJ, -zab]
  repeat refine And.intro (by intros; omega) ?_
  refine zak (avs := [(s.join i).av]) (.bool (mayP (s.join i))) rfl (fun _ => ⟨by simp [hJ, -zab], zpH _⟩) (fun _ => rfl) ?_
  simp [hJ, -zab]
  refine zak (avs := [U s.kind]) (I (zbf s.kind)) rfl (fun _ => ⟨by simp, zct _⟩) (fun _ => rfl) ?_
  have hje : zhN s i = if (i : Int) < zbf s.kind then mayP (s.join i) else decide (s.join i = noP) := rfl
  have hbad : zhN s i = false → zkl s = false := fun hk => by simp [zkl, zbv hi4 hk]
  have hgood : zhN s i = true → ∀ j, j < i + 1 → zhN s j = true := fun hk j hj => by
   by_cases hji : j = i
   ·subst hji; exact hk
   ·exact hq j (by omega)
  by_cases hp : (i : Int) < zbf s.kind
  ·rw [if_pos hp] at hje
   have hp2 : ¬ zbf s.kind ≤ (i : Int) := by omega
   cases hm : mayP (s.join i)
   ·have := hbad (by rw [hje, hm])
    simp [hp, hp2, hm, hJ, this, -zab]
   ·have := hgood (by rw [hje, hm])
    simp [hp, hp2, hm, hJ, hw, -zab]
    exact ⟨⟨i + 1, by omega, by omega, this⟩, by omega⟩
  ·rw [if_neg hp] at hje
   have hp2 : zbf s.kind ≤ (i : Int) := by omega
   have hpe := zeU (s.join i) noP
   by_cases hj : s.join i = noP
   ·have := hgood (by rw [hje]; simpa using hj)
    simp [hj, Port.cells, noP, AV.eqs, AV.eq1] at hpe
    simp [hp, hp2, hJ, hj, hw, noP, Port.cells, AV.eqs, AV.eq1, -zab]
    repeat refine And.intro (by intros; omega) ?_
    exact ⟨⟨i + 1, by omega, by omega, this⟩, by omega⟩
   ·have := hbad (by rw [hje]; simpa using hj)
    have hj2 : ¬ ((s.join i).s = -1 ∧ (s.join i).p = 0) := fun h => hj (by rw [← zp5] at h; exact h)
    simp [hp, hp2, hJ, hw, this, Port.cells, AV.eqs, AV.eq1, -zab]
    repeat refine And.intro (by intros; omega) ?_
    exact fun h1 h2 => absurd ⟨h1, h2⟩ hj2
 ·have h4 : (List.range 4).all (zhN s) = true := za6 fun j hj => hq j (by omega)
  refine zac rfl (fun vs => ∃ i : Nat, i ≤ 2 ∧ vs = [I i] ∧ ∀ j, j < i → zoY s j = true) (fun vs => match vs with | [.int _ j] => 2 - j.toNat | _ => 0) ⟨0, by omega, by simp, fun j hj => by omega⟩ ?_
  rintro vs - ⟨m, hm, rfl, hqm⟩
  simp [-zab]
  refine ⟨fun hlt => ?_, fun hge => ?_⟩
  ·have hw := zad (i := m) (by omega)
   have hm2 : m < 2 := by omega
   have hC := aidxC s (i := m) (z := (m : Int)) rfl hm2
   simp only [Sec.cells] at hC
   simp [hC, -zab]
   repeat refine And.intro (by intros; omega) ?_
   refine zak (avs := [U s.kind]) (I (ways s.kind)) rfl (fun _ => ⟨by simp, zeR _⟩) (fun _ => rfl) ?_
   simp [hC, -zab]
   repeat refine And.intro (by intros; omega) ?_
   have hce : zoY s m = ((decide (0 ≤ s.cls m) && decide (s.cls m ≤ 3)) && (decide ((m : Int) < ways s.kind) || decide (s.cls m = 0))) := rfl
   refine ⟨fun hb => ?_, fun h1 h2 h3 => ⟨⟨m + 1, by omega, hw, fun j hj => ?_⟩, by omega⟩⟩
   ·have hk : zoY s m = false := by
     rw [hce]
     rcases hb with (hb | hb) | ⟨hb, hb2⟩
     ·simp [show ¬ 0 ≤ s.cls m by omega]
     ·simp [show ¬ s.cls m ≤ 3 by omega]
     ·simp [show ¬ (m : Int) < ways s.kind by omega, hb2]
    simp [zkl, h4, zbv hm2 hk]
   ·by_cases hjm : j = m
    ·subst hjm
     rw [hce]
     by_cases hw2 : (j : Int) < ways s.kind
     ·simp [h1, h2, hw2]
     ·simp [h1, h2, h3 (by omega)]
    ·exact hqm j (by omega)
  ·have h2 : (List.range 2).all (zoY s) = true := za6 fun j hj => hqm j (by omega)
   refine call (zct s.kind) (by simp) (fun _ => rfl) ?_
   simp [zkl, h4, h2]
end Go.Lb.LK
namespace Go.Lb.LK
open Go Go.Lb Go.Proofs Go.RowKit
def zoq : Sec := ⟨0, ⟨0, 0⟩, ⟨0, 0⟩, ⟨0, 0⟩, ⟨0, 0⟩, 0, 0⟩
def zjm (l : Lay) (p : Port) : Sec := if hasP l p = true then (l.secs[p.s.toNat]?).getD zoq else zoq
theorem zpN (l : Lay) (p : Port) : C f_lockbarref06_At [l.av, p.av] (.tup [(zjm l p).av, .bool (hasP l p)]) := by
 refine ctr (l.cells ++ p.cells) run_lockbarref06_At rfl (by simp [zaf]) (by simp [AV.pure, AV.pureAll]) ?_ rfl
 unfold rt_lockbarref06_At
 simp [Lay.cells, Port.cells]
 by_cases hc : 0 ≤ p.s ∧ p.s < l.secs.length
 ·obtain ⟨n, hn, hlt, he⟩ := zch hc.1 hc.2
  have hls : hasP l p = (decide (0 ≤ p.p) && decide (p.p < zbf l.secs[n].kind)) := by simp [hasP, he]
  have h1 : ¬ ((n : Int) < 0) := by omega
  have h2 : ¬ (l.secs.length ≤ n) := by omega
  simp [hn, hlt, h1, h2, Sec.cells]
  refine zak (avs := [U l.secs[n].kind]) (I (zbf l.secs[n].kind)) rfl (fun _ => ⟨by simp [hlt, Sec.cells], zct _⟩) (fun _ => rfl) ?_
  by_cases h0 : p.p < 0
  ·have hx : hasP l p = false := by rw [hls]; simp [show ¬ 0 ≤ p.p by omega]
   simp [h0, hlt, hx, zjm, zoq, Sec.cells]
  ·by_cases h3 : zbf l.secs[n].kind ≤ p.p
   ·have hx : hasP l p = false := by rw [hls]; simp [show ¬ p.p < zbf l.secs[n].kind by omega]
    simp [h0, h3, hlt, hx, zjm, zoq, Sec.cells]
   ·have hx : hasP l p = true := by rw [hls]; simp [show 0 ≤ p.p by omega, show p.p < zbf l.secs[n].kind by omega]
    simp [h0, h3, hlt, hx, zjm, hn, Sec.cells]
 ·have hls : hasP l p = false := by simp [hasP, zdf hc]
  have hbad : p.s < 0 ∨ (l.secs.length : Int) ≤ p.s := by omega
  refine ⟨fun a b => absurd ⟨a, b⟩ hc, fun a b => absurd ⟨a, b⟩ hc, ?_⟩
  refine zak (avs := []) (I 0) rfl (fun hh => ?_) (fun _ => rfl) ?_
  ·simp at hh; omega
  ·by_cases h0 : p.s < 0
   ·simp [h0, hls, zjm, zoq, Sec.cells]
   ·have h1 := hbad.resolve_left h0
    simp [h0, h1, hls, zjm, zoq, Sec.cells]
theorem zfm (l : Lay) (p : Port) : C f_lockbarref06_there [l.av, p.av] (.bool (hasP l p)) := by
 refine ctr (l.cells ++ p.cells) run_lockbarref06_there rfl (by simp [zaf]) rfl ?_ rfl
 unfold rt_lockbarref06_there
 simp [Lay.cells, Port.cells]
 refine call (zpN l p) (by simp [Lay.cells, Port.cells]) (by simp) ?_
 simp [Sec.cells]
def zkF (l : Lay) (s : Sec) (j : Nat) : Bool := !decide (0 ≤ (s.join j).s) || hasP l (s.join j)
def zoi (l : Lay) (s : Sec) : Bool := (List.range 4).all (zkF l s) && zkl s
theorem zjS (l : Lay) (s : Sec) : C f_lockbarref06_section [l.av, s.av] (.bool (zoi l s)) := by
 refine ctr (l.cells ++ s.cells) run_lockbarref06_section rfl (by simp [zaf]) rfl ?_ rfl
 unfold rt_lockbarref06_section
 simp [Lay.cells, Sec.cells, -zab]
 refine zac rfl (fun vs => ∃ i : Nat, i ≤ 4 ∧ vs = [I i] ∧ ∀ j, j < i → zkF l s j = true) (fun vs => match vs with | [.int _ j] => 4 - j.toNat | _ => 0) ⟨0, by omega, by simp, fun j hj => by omega⟩ ?_
 rintro vs - ⟨i, hi, rfl, hq⟩
 simp [-zab]
 refine ⟨fun hlt => ?_, fun hge => ?_⟩
 ·have hw := zad (i := i) (by omega)
  have hi4 : i < 4 := by omega
  have hJ := zrh s (i := i) (z := (i : Int)) rfl hi4
  have hJs := zsB s (i := i) (z := (i : Int)) rfl hi4
  simp only [Sec.cells] at hJ hJs
  simp [hJ, hJs, -zab]
  repeat refine And.intro (by intros; omega) ?_
  refine zak (avs := [l.av, (s.join i).av]) (.bool (hasP l (s.join i))) rfl (fun _ => ⟨by simp [hJ, Lay.cells, -zab], zfm _ _⟩) (fun _ => rfl) ?_
  simp [hJ, hJs, -zab]
  repeat refine And.intro (by intros; omega) ?_
  have hje : zkF l s i = (!decide (0 ≤ (s.join i).s) || hasP l (s.join i)) := rfl
  refine ⟨fun h1 h2 => ?_, fun h1 => ⟨⟨i + 1, by omega, hw, fun j hj => ?_⟩, by omega⟩⟩
  ·have : zkF l s i = false := by rw [hje]; simp [h1, h2]
   simp [zoi, zbv hi4 this]
  ·by_cases hji : j = i
   ·subst hji
    rw [hje]
    by_cases h0 : 0 ≤ (s.join j).s
    ·simp [h1 h0]
    ·simp [h0]
   ·exact hq j (by omega)
 ·have h4 : (List.range 4).all (zkF l s) = true := za6 fun j hj => hq j (by omega)
  refine call (zih s) (by simp [Sec.cells]) (fun _ => rfl) ?_
  simp [zoi, h4]
def ziL (l : Lay) (x : Exi) : Bool := x.over.all (fun t => (zcN l t).2) && (hasP l x.a && decide (x.over.length ≤ 2))
theorem znH (l : Lay) (x : Exi) (hx : x.over.length ≤ 1000) : C f_lockbarref06_exit [l.av, x.av] (.bool (ziL l x)) := by
 refine ctr (l.cells ++ x.cells) run_lockbarref06_exit rfl (by simp [zaf]) rfl ?_ rfl
 unfold rt_lockbarref06_exit
 simp [Lay.cells, Exi.cells]
 refine zac rfl (fun vs => ∃ i : Nat, i ≤ x.over.length ∧ vs = [I i] ∧ zar (fun t => !(zcN l t).2) (x.over.take i)) (fun vs => match vs with | [.int _ j] => x.over.length - j.toNat | _ => 0) ⟨0, by omega, by simp, rfl⟩ ?_
 rintro vs - ⟨i, hi, rfl, hq⟩
 simp
 refine ⟨fun hlt => ?_, fun hge => ?_⟩
 ·have hw := zad (i := i) (by omega)
  simp [hlt, Step.cells]
  refine call (zdE l x.over[i]) (by simp [Lay.cells, hlt, Step.cells]) (by simp) ?_
  cases hs : (zcN l x.over[i]).2
  ·have : x.over.all (fun t => (zcN l t).2) = false := by
    rw [List.all_eq_false]
    exact ⟨x.over[i], List.getElem_mem hlt, by rw [hs]; simp⟩
   simp [hs, ziL, this]
  ·simp [hs, hw]
   exact ⟨⟨i + 1, by omega, by omega, zao hlt hq (by simp [hs])⟩, by omega⟩
 ·have ht : x.over.take i = x.over := List.take_of_length_le (by omega)
  rw [ht] at hq
  have hall : x.over.all (fun t => (zcN l t).2) = true := by
   rw [List.all_eq_true]
   intro t ht
   have := List.any_eq_false.1 hq t ht
   simpa using this
  refine call (zfm l x.a) (by simp [Lay.cells, Port.cells]) (fun _ => rfl) ?_
  simp [ziL, hall]
  have e : decide ((x.over.length : Int) ≤ 2) = decide (x.over.length ≤ 2) := decide_eq_decide.2 (by omega)
  simp [e]
def zd7 (l : Lay) (f : Flank) : Bool := match zis l f.s, zis l f.point with
 | some a, some b => (!decide (f.s = f.point) && decide (0 ≤ f.pos ∧ f.pos ≤ 1)) && (decide (0 ≤ f.way) && (decide (f.way < ways a.kind) && decide (b.kind = 2)))
 | _, _ => false
theorem zl9 (l : Lay) (f : Flank) : C f_lockbarref06_flank [l.av, f.av] (.bool (zd7 l f)) := by
 refine ctr (l.cells ++ f.cells) run_lockbarref06_flank rfl (by simp [zaf]) rfl ?_ rfl
 unfold rt_lockbarref06_flank
 simp [Lay.cells, Flank.cells]
 have hout : ¬ ((0 ≤ f.s ∧ f.s < l.secs.length) ∧ (0 ≤ f.point ∧ f.point < l.secs.length)) → zd7 l f = false := fun h => by
  unfold zd7
  by_cases h1 : 0 ≤ f.s ∧ f.s < l.secs.length
  ·have h2 : zis l f.point = none := zdf fun h2 => h ⟨h1, h2⟩
   rw [h2]
   split
   ·rename_i hb; cases hb
   ·rfl
  ·rw [zdf h1]
 refine ⟨fun hb => ?_, fun h1 h2 h3 h4 h5 h6 h7 => ?_⟩
 ·by_cases hin : (0 ≤ f.s ∧ f.s < l.secs.length) ∧ (0 ≤ f.point ∧ f.point < l.secs.length)
  ·obtain ⟨n, hn, hlt, he⟩ := zch hin.1.1 hin.1.2
   obtain ⟨m, hm, hlm, hf⟩ := zch hin.2.1 hin.2.2
   have hx : f.s = f.point ∨ ¬ (0 ≤ f.pos ∧ f.pos ≤ 1) := by omega
   unfold zd7
   rw [he, hf]
   rcases hx with hx | hx
   ·simp [hx]
   ·simp [hx]
  ·exact hout hin
 ·obtain ⟨n, hn, hlt, he⟩ := zch h1 h2
  obtain ⟨m, hm, hlm, hf⟩ := zch h3 h4
  have hval : zd7 l f = (decide (0 ≤ f.way) && (decide (f.way < ways l.secs[n].kind) && decide (l.secs[m].kind = 2))) := by
   unfold zd7
   rw [he, hf]
   simp [h5, h6, h7]
  simp [hn, hm, hlt, hlm, Sec.cells]
  refine zak (avs := [U l.secs[n].kind]) (I (ways l.secs[n].kind)) rfl (fun _ => ⟨by simp [hlt, Sec.cells], zeR _⟩) (fun _ => rfl) ?_
  simp [hlm, Sec.cells, hval, Bool.and_assoc]
  by_cases hk : l.secs[m].kind = 2 <;> simp [hk]
def Lay.time (l : Lay) (i : Nat) : Int := if i = 0 then l.clear else if i = 1 then l.drive else if i = 2 then l.stale else if i = 3 then l.approach else if i = 4 then l.over else if i = 5 then l.press else l.link
def znj (l : Lay) (i : Nat) : Bool := decide (1 ≤ l.time i) && decide (l.time i ≤ 1000)
def zmf (l : Lay) : Bool := (List.range 7).all (znj l)
def zb9 (l : Lay) : List AV := [I l.clear, I l.drive, I l.stale, I l.approach, I l.over, I l.press, I l.link]
theorem aidxT (l : Lay) {i : Nat} {z : Int} (hz : z = i) (h : i < 7) : pv (.aidx 7 1 0 1 false) [.agg (zb9 l), I z] = I (l.time i) := by
 subst hz
 match i, h with
 | 0, _ => rfl
 | 1, _ => rfl
 | 2, _ => rfl
 | 3, _ => rfl
 | 4, _ => rfl
 | 5, _ => rfl
 | 6, _ => rfl
theorem zma (l : Lay) : C f_lockbarref06_times [.agg (zb9 l)] (.bool (zmf l)) := by
 refine ctr (zb9 l) run_lockbarref06_times rfl (by simp [zb9, AV.pureAll, AV.pure]) rfl ?_ rfl
 unfold rt_lockbarref06_times
 simp [zb9, -zab]
 refine zac rfl (fun vs => ∃ i : Nat, i ≤ 7 ∧ vs = [I i] ∧ ∀ j, j < i → znj l j = true) (fun vs => match vs with | [.int _ j] => 7 - j.toNat | _ => 0) ⟨0, by omega, by simp, fun j hj => by omega⟩ ?_
 rintro vs - ⟨i, hi, rfl, hq⟩
 simp [-zab]
 refine ⟨fun hlt => ?_, fun hge => ?_⟩
 ·have hw := zad (i := i) (by omega)
  have hi7 : i < 7 := by omega
  have hT := aidxT l (i := i) (z := (i : Int)) rfl hi7
  simp only [zb9] at hT
  simp [hT, -zab]
  repeat refine And.intro (by intros; omega) ?_
  have hte : znj l i = (decide (1 ≤ l.time i) && decide (l.time i ≤ 1000)) := rfl
  by_cases hb : 1 ≤ l.time i ∧ l.time i ≤ 1000
  ·left
   refine ⟨hb, ⟨i + 1, by omega, hw, fun j hj => ?_⟩, by omega⟩
   by_cases hji : j = i
   ·subst hji; rw [hte]; simp [hb.1, hb.2]
   ·exact hq j (by omega)
  ·right
   refine ⟨by omega, ?_⟩
   have : znj l i = false := by
    rw [hte]
    by_cases h1 : 1 ≤ l.time i
    ·simp [show ¬ l.time i ≤ 1000 by omega]
    ·simp [h1]
   exact zbv hi7 this
 ·exact za6 fun j hj => hq j (by omega)
structure Lay.lens (l : Lay) : Prop where
 secs : l.secs.length ≤ 1000
 sigs : l.sigs.length ≤ 1000
 exits : l.exits.length ≤ 1000
 flanks : l.flanks.length ≤ 1000
 over : ∀ e ∈ l.exits, e.over.length ≤ 1000
def ziq (l : Lay) : Bool := l.secs.all (zoi l) && (l.sigs.all (hasP l) && (l.exits.all (ziL l) && (l.flanks.all (zd7 l) &&
 (decide (l.secs.length ≤ 24) && (decide (l.sigs.length ≤ 12) && (decide (l.exits.length ≤ 12) && (decide (l.flanks.length ≤ 16) && zmf l)))))))
theorem zjB {α : Type} {q : α → Bool} {l : List α} {i : Nat} (hi : i < l.length) (hq : q l[i] = false) : l.all q = false := by
 rw [List.all_eq_false]
 exact ⟨l[i], List.getElem_mem hi, by rw [hq]; simp⟩
theorem zhr {α : Type} {q : α → Bool} {l : List α} (h : zar (fun x => !q x) l) : l.all q = true := by
 rw [List.all_eq_true]
 intro x hx
 have := List.any_eq_false.1 h x hx
 simpa using this
theorem zh9 (l : Lay) (hl : l.lens) : C f_lockbarref06_Right [l.av] (.bool (ziq l)) := by
 obtain ⟨b1, b2, b3, b4, b5⟩ := hl
 refine ctr l.cells run_lockbarref06_Right rfl (by simp) rfl ?_ rfl
 unfold rt_lockbarref06_Right
 simp [Lay.cells]
 refine zac rfl (fun vs => ∃ i : Nat, i ≤ l.secs.length ∧ vs = [I i] ∧ zar (fun t => !zoi l t) (l.secs.take i)) (fun vs => match vs with | [.int _ j] => l.secs.length - j.toNat | _ => 0) ⟨0, by omega, by simp, rfl⟩ ?_
 rintro vs - ⟨i, hi, rfl, hq1⟩
 simp
 refine ⟨fun hlt => ?_, fun hge => ?_⟩
 ·have hw := zad (i := i) (by omega)
  simp [hlt, Sec.cells]
  refine call (zjS l l.secs[i]) (by simp [Lay.cells, hlt, Sec.cells]) (fun _ => rfl) ?_
  cases hs : zoi l l.secs[i]
  ·simp [ziq, zjB hlt hs]
  ·simp [hw]
   exact ⟨⟨i + 1, by omega, by omega, zao hlt hq1 (by simp [hs])⟩, by omega⟩
 rw [List.take_of_length_le (by omega)] at hq1
 refine zac rfl (fun vs => ∃ i : Nat, i ≤ l.sigs.length ∧ vs = [I i] ∧ zar (fun t => !hasP l t) (l.sigs.take i)) (fun vs => match vs with | [.int _ j] => l.sigs.length - j.toNat | _ => 0) ⟨0, by omega, by simp, rfl⟩ ?_
 rintro vs - ⟨i, hi, rfl, hq2⟩
 simp
 refine ⟨fun hlt => ?_, fun hge => ?_⟩
 ·have hw := zad (i := i) (by omega)
  simp [hlt, Port.cells]
  refine call (zfm l l.sigs[i]) (by simp [Lay.cells, hlt, Port.cells]) (fun _ => rfl) ?_
  cases hs : hasP l l.sigs[i]
  ·simp [ziq, zjB hlt hs]
  ·simp [hw]
   exact ⟨⟨i + 1, by omega, by omega, zao hlt hq2 (by simp [hs])⟩, by omega⟩
 rw [List.take_of_length_le (by omega)] at hq2
 refine zac rfl (fun vs => ∃ i : Nat, i ≤ l.exits.length ∧ vs = [I i] ∧ zar (fun t => !ziL l t) (l.exits.take i)) (fun vs => match vs with | [.int _ j] => l.exits.length - j.toNat | _ => 0) ⟨0, by omega, by simp, rfl⟩ ?_
 rintro vs - ⟨i, hi, rfl, hq3⟩
 simp
 refine ⟨fun hlt => ?_, fun hge => ?_⟩
 ·have hw := zad (i := i) (by omega)
  simp [hlt, Exi.cells]
  refine call (znH l l.exits[i] (b5 _ (List.getElem_mem hlt))) (by simp [Lay.cells, hlt, Exi.cells]) (fun _ => rfl) ?_
  cases hs : ziL l l.exits[i]
  ·simp [ziq, zjB hlt hs]
  ·simp [hw]
   exact ⟨⟨i + 1, by omega, by omega, zao hlt hq3 (by simp [hs])⟩, by omega⟩
 rw [List.take_of_length_le (by omega)] at hq3
 refine zac rfl (fun vs => ∃ i : Nat, i ≤ l.flanks.length ∧ vs = [I i] ∧ zar (fun t => !zd7 l t) (l.flanks.take i)) (fun vs => match vs with | [.int _ j] => l.flanks.length - j.toNat | _ => 0) ⟨0, by omega, by simp, rfl⟩ ?_
 rintro vs - ⟨i, hi, rfl, hq4⟩
 simp
 refine ⟨fun hlt => ?_, fun hge => ?_⟩
 ·have hw := zad (i := i) (by omega)
  simp [hlt, Flank.cells]
  refine call (zl9 l l.flanks[i]) (by simp [Lay.cells, hlt, Flank.cells]) (fun _ => rfl) ?_
  cases hs : zd7 l l.flanks[i]
  ·simp [ziq, zjB hlt hs]
  ·simp [hw]
   exact ⟨⟨i + 1, by omega, by omega, zao hlt hq4 (by simp [hs])⟩, by omega⟩
 rw [List.take_of_length_le (by omega)] at hq4
 have e1 : decide ((l.secs.length : Int) ≤ 24) = decide (l.secs.length ≤ 24) := decide_eq_decide.2 (by omega)
 have e2 : decide ((l.sigs.length : Int) ≤ 12) = decide (l.sigs.length ≤ 12) := decide_eq_decide.2 (by omega)
 have e3 : decide ((l.exits.length : Int) ≤ 12) = decide (l.exits.length ≤ 12) := decide_eq_decide.2 (by omega)
 have e4 : decide ((l.flanks.length : Int) ≤ 16) = decide (l.flanks.length ≤ 16) := decide_eq_decide.2 (by omega)
 refine zak (avs := [.agg (zb9 l)]) (.bool (zmf l)) rfl (fun _ => ⟨by simp [zb9], zma l⟩) (fun _ => rfl) ?_
 have a1 := zhr hq1
 have a2 := zhr hq2
 have a3 := zhr hq3
 have a4 := zhr hq4
 simp only [ziq, a1, a2, a3, a4, Bool.true_and]
 simp [e1, e2, e3, e4, Bool.and_assoc]
end Go.Lb.LK
namespace Go.Lb.LK
open Go Go.Lb Go.Proofs Go.RowKit
def zdp (l : Lay) (i : Nat) (s : Sec) (m : Nat) : Bool := decide (s.join m = noP) || (hasP l (s.join m) && (!decide ((s.join m).s = i) && decide (za5 l (s.join m) = ⟨i, m⟩)))
def zdi (l : Lay) (i : Nat) : Bool := match l.secs[i]? with
 | some s => zkl s && (List.range (zbf s.kind).toNat).all (zdp l i s)
 | none => true
def zd6 (l : Lay) : Bool := (List.range (min l.secs.length 24)).all (zdi l) && decide (l.secs.length ≤ 24)
theorem zla {l : Lay} {i : Nat} (h : i < l.secs.length) : zdi l i = (zkl l.secs[i] && (List.range (zbf l.secs[i].kind).toNat).all (zdp l i l.secs[i])) := by
 simp [zdi, List.getElem?_eq_getElem h]
theorem zhp {a b : Port} (h1 : a.s = b.s) (h2 : a.p = b.p) : a = b := by cases a; cases b; simp_all
set_option maxHeartbeats 2000000 in
theorem zlJ (l : Lay) (hl : l.secs.length ≤ 1000) : C f_lockbarref07_Joined [l.av] (.bool (zd6 l)) := by
 refine ctr l.cells run_lockbarref07_Joined rfl (by simp) rfl ?_ rfl
 unfold rt_lockbarref07_Joined
 simp [Lay.cells, -zab]
 refine zac rfl (fun vs => ∃ i : Nat, i ≤ l.secs.length ∧ i ≤ 24 ∧ vs = [I i] ∧ ∀ j, j < i → zdi l j = true) (fun vs => match vs with | [.int _ j] => l.secs.length - j.toNat | _ => 0) ⟨0, by omega, by omega, by simp, fun j hj => by omega⟩ ?_
 rintro vs - ⟨i, hi, hi24, rfl, hq⟩
 simp [-zab]
 refine ⟨fun hlt h24 => ?_, fun hge => ?_⟩
 ·have hw := zad (i := i) (by omega)
  have hsj := zla hlt
  have hbad : zdi l i = false → zd6 l = false := fun hk => by
   have : (List.range (min l.secs.length 24)).all (zdi l) = false := zbv (i := i) (by omega) hk
   simp [zd6, this]
  simp [hlt, Sec.cells, -zab]
  refine call (zih l.secs[i]) (by simp [hlt, Sec.cells]) (fun _ => rfl) ?_
  cases hs : zkl l.secs[i]
  ·have := hbad (by rw [hsj, hs]; rfl)
   simp [this, -zab]
  have hpk := zkU l.secs[i].kind
  simp [-zab]
  refine zac rfl (fun vs => ∃ m : Nat, m ≤ (zbf l.secs[i].kind).toNat ∧ vs = [I m] ∧ ∀ j, j < m → zdp l i l.secs[i] j = true) (fun vs => match vs with | [.int _ j] => (zbf l.secs[i].kind).toNat - j.toNat | _ => 0) ⟨0, by omega, by simp, fun j hj => by omega⟩ ?_
  rintro vs - ⟨m, hm, rfl, hqm⟩
  simp [hlt, Sec.cells, -zab]
  refine call (zct l.secs[i].kind) (by simp [hlt, Sec.cells]) (fun _ => rfl) ?_
  simp [-zab]
  refine ⟨fun hlm => ?_, fun hgm => ?_⟩
  ·have hwm := zad (i := m) (by omega)
   have hm4 : m < 4 := by omega
   have hJ := zrh l.secs[i] (i := m) (z := (m : Int)) rfl hm4
   simp only [Sec.cells] at hJ
   simp [hlt, Sec.cells, hJ, -zab]
   refine ⟨by omega, ⟨by omega, by omega⟩, ⟨by simp [Port.cells], by simp [Port.cells]⟩, ?_⟩
   have hje : zdp l i l.secs[i] m = (decide (l.secs[i].join m = noP) || (hasP l (l.secs[i].join m) && (!decide ((l.secs[i].join m).s = i) && decide (za5 l (l.secs[i].join m) = ⟨i, m⟩)))) := rfl
   have hgood : zdp l i l.secs[i] m = true → ∀ j, j < m + 1 → zdp l i l.secs[i] j = true := fun hk j hj => by
    by_cases hjm : j = m
    ·subst hjm; exact hk
    ·exact hqm j (by omega)
   have hbad2 : zdp l i l.secs[i] m = false → zd6 l = false := fun hk => hbad (by rw [hsj, zbv (i := m) (by omega) hk]; simp)
   refine call zjj rfl (by simp) ?_
   generalize l.secs[i].join m = q at hje hJ ⊢
   simp [Port.cells, hlt, Sec.cells, hJ, -zab]
   refine zak (avs := [l.av, q.av]) (.bool (hasP l q)) rfl (fun _ => ⟨by simp [Lay.cells, Port.cells, hlt, Sec.cells, hJ, -zab], zkE l q⟩) (fun _ => rfl) ?_
   simp [Port.cells, hlt, Sec.cells, hJ, -zab]
   refine zak (avs := [l.av, q.av]) (za5 l q).av (by simp [AV.pure]) (fun _ => ⟨by simp [Lay.cells, Port.cells, hlt, Sec.cells, hJ, -zab], zet l q⟩) (by simp) ?_
   simp [Port.cells, hlt, Sec.cells, hJ, -zab]
   have hne : ¬ q = noP ↔ (¬ q.s = noP.s ∨ ¬ q.p = noP.p) := by
    constructor
    ·intro h
     by_cases h1 : q.s = noP.s
     ·exact .inr fun h2 => h (zhp h1 h2)
     ·exact .inl h1
    ·rintro (h | h) rfl <;> exact h rfl
   have hbe : za5 l q = ⟨(i : Int), (m : Int)⟩ ↔ (za5 l q).s = i ∧ (za5 l q).p = m := by
    constructor
    ·intro h; rw [h]; exact ⟨rfl, rfl⟩
    ·rintro ⟨h1, h2⟩; exact zhp h1 h2
   rw [← hne]
   refine ⟨fun h1 h2 => hbad2 ?_, fun h1 => ⟨⟨m + 1, by omega, hwm, hgood ?_⟩, by rw [hwm]; omega⟩⟩
   ·rw [hje]
    rcases h2 with (h2 | h2) | h2
    ·simp [h1, h2]
    ·simp [h1, h2]
    ·have : ¬ za5 l q = ⟨(i : Int), (m : Int)⟩ := fun h => by
      rw [hbe] at h
      rcases h2 with h2 | h2
      ·exact h2 h.1
      ·exact h2 h.2
     simp [h1, this]
   ·rw [hje]
    by_cases hq0 : q = noP
    ·simp [hq0]
    ·obtain ⟨⟨h2, h3⟩, h4⟩ := h1 hq0
     rw [decide_eq_true (hbe.2 h4)]
     simp [h2, h3]
  ·have hall : (List.range (zbf l.secs[i].kind).toNat).all (zdp l i l.secs[i]) = true := za6 fun j hj => hqm j (by omega)
   simp [hw, -zab]
   refine ⟨⟨i + 1, by omega, by omega, by omega, fun j hj => ?_⟩, by omega⟩
   by_cases hji : j = i
   ·subst hji; rw [hsj, hs, hall]; rfl
   ·exact hq j (by omega)
 ·have e : decide ((l.secs.length : Int) ≤ 24) = decide (l.secs.length ≤ 24) := decide_eq_decide.2 (by omega)
  have hall : (List.range (min l.secs.length 24)).all (zdi l) = true := za6 fun j hj => hq j (by
   by_cases h : i < l.secs.length
   ·have := hge h; omega
   ·omega)
  simp [zd6, hall, e]
end Go.Lb.LK
namespace Go.Lb.LK
open Go Go.Lb Go.Proofs Go.RowKit
def zeF {α : Type} (same : α → α → Bool) (l : List α) (k : Nat) : Bool := match l[k]? with
 | some x => (l.take k).any fun y => same y x
 | none => false
def zax {α : Type} (same : α → α → Bool) (l : List α) : Int := match (List.range l.length).find? (zeF same l) with
 | some k => k
 | none => -1
theorem zjC {α : Type} {same : α → α → Bool} {l : List α} {k : Nat} (h : k < l.length) : zeF same l k = (l.take k).any fun y => same y l[k] := by
 simp [zeF, List.getElem?_eq_getElem h]
theorem zek {α : Type} {same : α → α → Bool} {l : List α} {k : Nat} (h : k < l.length) (hq : ∀ j, j < k → zeF same l j = false) (hk : zeF same l k = true) : zax same l = k := by
 have hr : k < (List.range l.length).length := by simpa using h
 have : (List.range l.length).find? (zeF same l) = some ((List.range l.length)[k]) := zdn hr (by
  refine List.any_eq_false.2 fun x hx => ?_
  obtain ⟨j, hj, rfl⟩ := List.mem_take_iff_getElem.1 hx
  simp only [List.getElem_range]
  rw [hq j (by omega)]; simp) (by simpa using hk)
 simp [zax, this]
theorem zd5 {α : Type} {same : α → α → Bool} {l : List α} (hq : ∀ j, j < l.length → zeF same l j = false) : zax same l = -1 := by
 have : (List.range l.length).find? (zeF same l) = none := by
  rw [List.find?_eq_none]
  intro x hx
  rw [hq x (List.mem_range.1 hx)]; simp
 simp [zax, this]
def zcC (a b : Port) : Bool := decide (a = b)
def zes (a b : Exi) : Bool := decide (a.a = b.a)
def zeq (a b : Flank) : Bool := decide (a.s = b.s ∧ a.way = b.way ∧ a.point = b.point)
theorem zkq (l : Lay) (hl : l.sigs.length ≤ 1000) : C f_lockbarref09_signals [l.av] (I (zax zcC l.sigs)) := by
 refine ctr l.cells run_lockbarref09_signals rfl (by simp) rfl ?_ rfl
 unfold rt_lockbarref09_signals
 simp [Lay.cells]
 refine zac rfl (fun vs => ∃ i : Nat, i ≤ l.sigs.length ∧ vs = [I i] ∧ ∀ j, j < i → zeF zcC l.sigs j = false) (fun vs => match vs with | [.int _ j] => l.sigs.length - j.toNat | _ => 0) ⟨0, by omega, by simp, fun j hj => by omega⟩ ?_
 rintro vs - ⟨i, hi, rfl, hq⟩
 simp
 refine ⟨fun hlt => ?_, fun hge => ?_⟩
 ·have hw := zad (i := i) (by omega)
  have hdl := zjC (same := zcC) hlt
  refine zac rfl (fun vs => ∃ m : Nat, m ≤ i ∧ vs = [I m] ∧ zar (fun y => zcC y l.sigs[i]) (l.sigs.take m)) (fun vs => match vs with | [.int _ j] => i - j.toNat | _ => 0) ⟨0, by omega, by simp, rfl⟩ ?_
  rintro vs - ⟨m, hm, rfl, hp⟩
  simp
  refine ⟨fun hlm => ?_, fun hgm => ?_⟩
  ·have hml : m < l.sigs.length := by omega
   have hwm := zad (i := m) (by omega)
   have hpe := zeU l.sigs[m] l.sigs[i]
   simp only [Port.cells] at hpe
   simp [hlt, hml, Port.cells, hpe, hwm]
   cases hs : zcC l.sigs[m] l.sigs[i]
   ·have hs2 : ¬ (l.sigs[m] = l.sigs[i]) := by simpa [zcC] using hs
    have hx := zao hml hp hs
    simp [hs2]
    try exact ⟨⟨m + 1, by omega, by omega, hx⟩, by omega⟩
   ·have hs2 : l.sigs[m] = l.sigs[i] := by simpa [zcC] using hs
    have hd : zeF zcC l.sigs i = true := by rw [hdl]; exact zcc (i := m) (by rw [List.length_take]; omega) (by simpa using hs)
    simp [hs2, zek hlt hq hd]
  ·have hmi : m = i := by omega
   subst hmi
   have hd : zeF zcC l.sigs m = false := by rw [hdl]; exact hp
   simp [hw]
   refine ⟨⟨m + 1, by omega, by omega, fun j hj => ?_⟩, by omega⟩
   by_cases hjm : j = m
   ·subst hjm; exact hd
   ·exact hq j (by omega)
 ·rw [zd5 fun j hj => hq j (by omega)]
theorem zmT (l : Lay) (hl : l.exits.length ≤ 1000) : C f_lockbarref09_exits [l.av] (I (zax zes l.exits)) := by
 refine ctr l.cells run_lockbarref09_exits rfl (by simp) rfl ?_ rfl
 unfold rt_lockbarref09_exits
 simp [Lay.cells]
 refine zac rfl (fun vs => ∃ i : Nat, i ≤ l.exits.length ∧ vs = [I i] ∧ ∀ j, j < i → zeF zes l.exits j = false) (fun vs => match vs with | [.int _ j] => l.exits.length - j.toNat | _ => 0) ⟨0, by omega, by simp, fun j hj => by omega⟩ ?_
 rintro vs - ⟨i, hi, rfl, hq⟩
 simp
 refine ⟨fun hlt => ?_, fun hge => ?_⟩
 ·have hw := zad (i := i) (by omega)
  have hdl := zjC (same := zes) hlt
  refine zac rfl (fun vs => ∃ m : Nat, m ≤ i ∧ vs = [I m] ∧ zar (fun y => zes y l.exits[i]) (l.exits.take m)) (fun vs => match vs with | [.int _ j] => i - j.toNat | _ => 0) ⟨0, by omega, by simp, rfl⟩ ?_
  rintro vs - ⟨m, hm, rfl, hp⟩
  simp
  refine ⟨fun hlm => ?_, fun hgm => ?_⟩
  ·have hml : m < l.exits.length := by omega
   have hwm := zad (i := m) (by omega)
   have hpe := zeU l.exits[m].a l.exits[i].a
   simp only [Port.cells] at hpe
   simp [hlt, hml, Exi.cells, hpe, hwm]
   cases hs : zes l.exits[m] l.exits[i]
   ·have hs2 : ¬ (l.exits[m].a = l.exits[i].a) := by simpa [zes] using hs
    have hx := zao hml hp hs
    simp [hs2]
    try exact ⟨⟨m + 1, by omega, by omega, hx⟩, by omega⟩
   ·have hs2 : l.exits[m].a = l.exits[i].a := by simpa [zes] using hs
    have hd : zeF zes l.exits i = true := by rw [hdl]; exact zcc (i := m) (by rw [List.length_take]; omega) (by simpa using hs)
    simp [hs2, zek hlt hq hd]
  ·have hmi : m = i := by omega
   subst hmi
   have hd : zeF zes l.exits m = false := by rw [hdl]; exact hp
   simp [hw]
   refine ⟨⟨m + 1, by omega, by omega, fun j hj => ?_⟩, by omega⟩
   by_cases hjm : j = m
   ·subst hjm; exact hd
   ·exact hq j (by omega)
 ·rw [zd5 fun j hj => hq j (by omega)]
theorem zld (l : Lay) (hl : l.flanks.length ≤ 1000) : C f_lockbarref09_flanks [l.av] (I (zax zeq l.flanks)) := by
 refine ctr l.cells run_lockbarref09_flanks rfl (by simp) rfl ?_ rfl
 unfold rt_lockbarref09_flanks
 simp [Lay.cells]
 refine zac rfl (fun vs => ∃ i : Nat, i ≤ l.flanks.length ∧ vs = [I i] ∧ ∀ j, j < i → zeF zeq l.flanks j = false) (fun vs => match vs with | [.int _ j] => l.flanks.length - j.toNat | _ => 0) ⟨0, by omega, by simp, fun j hj => by omega⟩ ?_
 rintro vs - ⟨i, hi, rfl, hq⟩
 simp
 refine ⟨fun hlt => ?_, fun hge => ?_⟩
 ·have hw := zad (i := i) (by omega)
  have hdl := zjC (same := zeq) hlt
  refine zac rfl (fun vs => ∃ m : Nat, m ≤ i ∧ vs = [I m] ∧ zar (fun y => zeq y l.flanks[i]) (l.flanks.take m)) (fun vs => match vs with | [.int _ j] => i - j.toNat | _ => 0) ⟨0, by omega, by simp, rfl⟩ ?_
  rintro vs - ⟨m, hm, rfl, hp⟩
  simp
  refine ⟨fun hlm => ?_, fun hgm => ?_⟩
  ·have hml : m < l.flanks.length := by omega
   have hwm := zad (i := m) (by omega)
   simp [hlt, hml, Flank.cells, hwm]
   cases hs : zeq l.flanks[m] l.flanks[i]
   ·have hs2 : ¬ (l.flanks[m].s = l.flanks[i].s ∧ l.flanks[m].way = l.flanks[i].way ∧ l.flanks[m].point = l.flanks[i].point) := by simpa [zeq] using hs
    have hx := zao hml hp hs
    exact .inl ⟨fun h1 h2 h3 => hs2 ⟨h1, h2, h3⟩, ⟨m + 1, by omega, by omega, hx⟩, by omega⟩
   ·have hs2 : l.flanks[m].s = l.flanks[i].s ∧ l.flanks[m].way = l.flanks[i].way ∧ l.flanks[m].point = l.flanks[i].point := by simpa [zeq] using hs
    have hd : zeF zeq l.flanks i = true := by rw [hdl]; exact zcc (i := m) (by rw [List.length_take]; omega) (by simpa using hs)
    simp [hs2, zek hlt hq hd]
  ·have hmi : m = i := by omega
   subst hmi
   have hd : zeF zeq l.flanks m = false := by rw [hdl]; exact hp
   simp [hw]
   refine ⟨⟨m + 1, by omega, by omega, fun j hj => ?_⟩, by omega⟩
   by_cases hjm : j = m
   ·subst hjm; exact hd
   ·exact hq j (by omega)
 ·rw [zd5 fun j hj => hq j (by omega)]
end Go.Lb.LK
