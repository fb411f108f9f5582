/- Chapter 25: contracts of small functions. -/
/- Chapter 25: which desks may be. -/
/- Chapter 25: Down, both. -/
/- Chapter 25: ticks, what counts, what is too great. -/
import Derived.Test.YtcidpfilgicfcaaCh2
import Derived.Test.YtcidpfilgicfcaaCh1
set_option linter.unusedSimpArgs false
set_option linter.unusedVariables false
namespace Go.Lb.C25
open Go Go.Lb Go.Proofs Go.RowKit

/-- A contract over this program. -/
abbrev C (f : Nat) (avs : List AV) (r : AV) : Prop := Contract Try.prog [] f avs r
theorem ctr {f n : Nat} {args : List SE} (vs : List AV) {rt : RT} (hrun : runF E f args n = rt) (hw : SE.wfs n (fun _ => false) args = true)
    (hp : AV.pureAll vs = true) {r : AV} (hr : r.pure = true) (h : RTwp Try.prog [] (fun x => x = r) rt (fun _ _ => False) (envOf vs)) {avs : List AV} (ha : dens (envOf vs) args = avs) : C f avs r :=
  contract_of EOk Emix vs hrun hw hp hr h ha

/-! ### Data -/
structure Desk where
  sig : Int
  vias : List Int
  tim : Int
  mode : Int
  left : Int
  deriving DecidableEq
def Desk.cells (d : Desk) : List AV := [I d.sig, ints d.vias, I d.tim, U d.mode, I d.left]
abbrev Desk.av (d : Desk) : AV := .agg d.cells

structure Sec where
  kind : Int
  rest : List AV
abbrev Sec.av (s : Sec) : AV := .agg (U s.kind :: s.rest)
structure Exi where
  a : Int
  b : Int
  over : List AV
abbrev Exi.av (e : Exi) : AV := .agg [I e.a, I e.b, .sl e.over]
structure Lay where
  secs : List Sec
  sigs : List AV
  exits : List Exi
  flanks : List AV
  clear : Int
  drive : Int
  stale : Int
  approach : Int
  over : Int
  press : Int
  link : Int
def Lay.cells (l : Lay) : List AV := [.sl (l.secs.map Sec.av), .sl l.sigs, .sl (l.exits.map Exi.av), .sl l.flanks, I l.clear, I l.drive, I l.stale, I l.approach, I l.over, I l.press, I l.link]
abbrev Lay.av (l : Lay) : AV := .agg l.cells
def Lay.ok (l : Lay) : Prop := AV.pureAll l.cells = true ∧ ∀ s ∈ l.secs, s.rest.length = 10

structure Pr where
  kind : Int
  n : Int
  pos : Int
def Pr.cells (p : Pr) : List AV := [U p.kind, I p.n, I p.pos]
abbrev Pr.av (p : Pr) : AV := .agg p.cells

structure Deed where
  kind : Int
  n : Int
  pos : Int
  sig : Int
  exit : Int
  vias : List Int
  deriving DecidableEq
def Deed.cells (d : Deed) : List AV := [U d.kind, I d.n, I d.pos, I d.sig, I d.exit, ints d.vias]
abbrev Deed.av (d : Deed) : AV := .agg d.cells

@[simp] theorem ints_pure' (l : List Int) : (ints l).pure = true := by simp [AV.pure, ints_pure]
@[simp] theorem Desk.pure (d : Desk) : AV.pureAll d.cells = true := by simp [Desk.cells, AV.pureAll, AV.pure, ints_pure]
@[simp] theorem Pr.pure (d : Pr) : AV.pureAll d.cells = true := by simp [Pr.cells, AV.pureAll, AV.pure]
@[simp] theorem Deed.pure (d : Deed) : AV.pureAll d.cells = true := by simp [Deed.cells, AV.pureAll, AV.pure, ints_pure]

theorem pureAll_append (xs ys : List AV) : AV.pureAll (xs ++ ys) = (AV.pureAll xs && AV.pureAll ys) := by
  induction xs with
  | nil => simp [AV.pureAll]
  | cons x xs ih => simp [AV.pureAll, ih, Bool.and_assoc]

theorem wrap_i {n : Int} (h1 : -9223372036854775808 ≤ n) (h2 : n ≤ 9223372036854775807) : IntKind.i64.wrap n = n := by
  simp [IntKind.wrap, IntKind.signed, IntKind.bits]; split <;> omega

/-! ### Lists of numbers -/
theorem c39 (a b : List Int) (ha : a.length ≤ 4294967296) : C 39 [ints a, ints b] (.bool (a == b)) := by
  refine ctr [ints a, ints b] run39 rfl (by simp [AV.pureAll]) rfl ?_ rfl
  unfold rt39
  simp
  refine ⟨fun h hab => h (by rw [hab]), fun h => ?_⟩
  refine RTwp_loop rfl (fun vs => ∃ i : Nat, vs = [I i] ∧ i ≤ a.length ∧ a.take i = b.take i) (fun vs => match vs with | [.int _ i] => a.length - i.toNat | _ => 0) ⟨0, by simp⟩ ?_
  rintro vs - ⟨i, rfl, hi, htk⟩
  simp
  refine ⟨fun hlt => ?_, fun hge => ?_⟩
  · have hlb : i < b.length := by omega
    have hw : IntKind.i64.wrap ((i : Int) + 1) = ((i + 1 : Nat) : Int) := by rw [wrap_i] <;> omega
    simp [List.getElem?_eq_getElem hlt, List.getElem?_eq_getElem hlb, hw, hlt, hlb]
    by_cases hne : a[i] = b[i]
    · left
      refine ⟨hne, ⟨i + 1, by simp, by omega, ?_⟩, by omega⟩
      rw [List.take_add_one, List.take_add_one, htk, List.getElem?_eq_getElem hlt, List.getElem?_eq_getElem hlb, hne]
    · right
      exact ⟨hne, fun hab => hne (by subst hab; rfl)⟩
  · have h1 : a.take i = a := List.take_of_length_le (by omega)
    have h2 : b.take i = b := List.take_of_length_le (by omega)
    rw [← h1, ← h2, htk]

theorem c31 (a b : List Int) (ha : a.length ≤ 4294967296) : C 31 [ints a, ints b] (.bool (a == b)) := by
  refine ctr [ints a, ints b] run31 rfl (by simp [AV.pureAll]) rfl ?_ rfl
  unfold rt31
  simp
  refine ⟨fun h hab => h (by rw [hab]), fun h => ?_⟩
  refine RTwp_loop rfl (fun vs => ∃ i : Nat, vs = [I i] ∧ i ≤ a.length ∧ a.take i = b.take i) (fun vs => match vs with | [.int _ i] => a.length - i.toNat | _ => 0) ⟨0, by simp⟩ ?_
  rintro vs - ⟨i, rfl, hi, htk⟩
  simp
  refine ⟨fun hlt => ?_, fun hge => ?_⟩
  · have hlb : i < b.length := by omega
    have hw : IntKind.i64.wrap ((i : Int) + 1) = ((i + 1 : Nat) : Int) := by rw [wrap_i] <;> omega
    simp [List.getElem?_eq_getElem hlt, List.getElem?_eq_getElem hlb, hw, hlt, hlb]
    by_cases hne : a[i] = b[i]
    · left
      refine ⟨hne, ⟨i + 1, by simp, by omega, ?_⟩, by omega⟩
      rw [List.take_add_one, List.take_add_one, htk, List.getElem?_eq_getElem hlt, List.getElem?_eq_getElem hlb, hne]
    · right
      exact ⟨hne, fun hab => hne (by subst hab; rfl)⟩
  · have h1 : a.take i = a := List.take_of_length_le (by omega)
    have h2 : b.take i = b := List.take_of_length_le (by omega)
    rw [← h1, ← h2, htk]

/-! ### Desks -/
def newDesk : Desk := ⟨-1, [], 0, 0, 0⟩
theorem c22 : C 22 [] newDesk.av := by
  refine ctr [] run22 rfl rfl rfl ?_ rfl
  unfold rt22
  simp [newDesk, Desk.cells]
theorem c23 : C 23 [] newDesk.av := by
  refine ctr [] run23 rfl rfl rfl ?_ rfl
  unfold rt23
  simp [newDesk, Desk.cells]

theorem c21 (d : Desk) (hd : d.vias.length ≤ 4294967296) : C 21 [d.av] d.av := by
  refine ctr d.cells run21 rfl (by simp) (by simp [AV.pure]) ?_ rfl
  unfold rt21
  simp [Desk.cells]
  exact hd

theorem c30 (l : Lay) (hl : l.ok) : C 30 [l.av] (.bool (decide (1 ≤ l.press) && decide (l.press ≤ 1000))) := by
  refine ctr l.cells run30 rfl hl.1 rfl ?_ rfl
  unfold rt30
  simp [Lay.cells]

theorem c38 (n : Int) : C 38 [I n] (.bool (decide (0 ≤ n) && decide (n ≤ 1000))) := by
  refine ctr [I n] run38 rfl rfl rfl ?_ rfl
  unfold rt38
  simp

theorem c20 (a b : Desk) (ha : a.vias.length ≤ 4294967296) : C 20 [a.av, b.av] (.bool (decide (a = b))) := by
  refine ctr (a.cells ++ b.cells) run20 rfl (by simp [pureAll_append]) rfl ?_ rfl
  unfold rt20
  simp [Desk.cells]
  refine RTwp_call (.bool (a.vias == b.vias)) rfl (fun _ => ⟨c39 _ _ ha, by simp⟩) ?_
  simp
  obtain ⟨a1, a2, a3, a4, a5⟩ := a
  obtain ⟨b1, b2, b3, b4, b5⟩ := b
  simp
  grind

theorem c12 (a b : Desk) (ha : a.vias.length ≤ 4294967296) : C 12 [a.av, b.av] (.bool (decide (a = b))) := by
  refine ctr (a.cells ++ b.cells) run12 rfl (by simp [pureAll_append]) rfl ?_ rfl
  unfold rt12
  simp [Desk.cells]
  refine RTwp_call (.bool (a.vias == b.vias)) rfl (fun _ => ⟨c31 _ _ ha, by simp⟩) ?_
  simp
  obtain ⟨a1, a2, a3, a4, a5⟩ := a
  obtain ⟨b1, b2, b3, b4, b5⟩ := b
  simp
  grind

theorem c29 (d : Desk) (hd : d.vias.length ≤ 4294967296) : C 29 [d.av] d.av := by
  refine ctr d.cells run29 rfl (by simp) (by simp [AV.pure]) ?_ rfl
  unfold rt29
  simp [Desk.cells]
  exact hd
end Go.Lb.C25

namespace Go.Lb.C25
open Go Go.Lb Go.Proofs Go.RowKit

def tm (n : Int) : Bool := decide (0 ≤ n) && decide (n ≤ 1000)
def inR (n m : Int) : Bool := decide (0 ≤ n) && decide (n < m)
def right (l : Lay) (d : Desk) : Bool :=
  decide (-1 ≤ d.sig) && decide (d.sig < l.sigs.length) && decide (d.vias.length ≤ 2) && d.vias.all (fun v => inR v l.secs.length) && tm d.tim && tm d.left &&
    (decide (d.mode = 0) || decide (d.mode = 1) || decide (d.mode = 2)) && (decide (d.tim = 0) == decide (d.sig = -1)) && (decide (d.left = 0) == decide (d.mode = 0)) &&
    (decide (0 ≤ d.sig) && decide (d.mode = 0) || decide (d.sig = -1) && decide (d.vias = []))

theorem right_iff {l : Lay} {d : Desk} : right l d = true ↔ -1 ≤ d.sig ∧ d.sig < l.sigs.length ∧ d.vias.length ≤ 2 ∧ (∀ v ∈ d.vias, inR v l.secs.length = true) ∧ tm d.tim = true ∧ tm d.left = true ∧
    (d.mode = 0 ∨ d.mode = 1 ∨ d.mode = 2) ∧ (d.tim = 0 ↔ d.sig = -1) ∧ (d.left = 0 ↔ d.mode = 0) ∧ (0 ≤ d.sig ∧ d.mode = 0 ∨ d.sig = -1 ∧ d.vias = []) := by
  simp only [right, Bool.and_eq_true, Bool.or_eq_true, decide_eq_true_eq, beq_iff_eq, List.all_eq_true, decide_eq_decide]
  grind
theorem right_not {l : Lay} {d : Desk} (h : ¬ (right l d = true)) : right l d = false := by simpa using h

theorem c19 (l : Lay) (hl : l.ok) (d : Desk) (hd : d.vias.length ≤ 4294967296) : C 19 [l.av, d.av] (.bool (right l d)) := by
  refine ctr (l.cells ++ d.cells) run19 rfl (by simp [pureAll_append, hl.1]) rfl ?_ rfl
  unfold rt19
  simp [Lay.cells, Desk.cells]
  refine RTwp_call (.bool (tm d.tim)) rfl (fun _ => ⟨c38 _, by simp⟩) ?_
  simp
  refine RTwp_call (.bool (tm d.left)) rfl (fun _ => ⟨c38 _, by simp⟩) ?_
  simp
  refine ⟨fun h => ?_, fun h1 h2 h3 h4 h5 => ?_⟩
  · refine right_not fun hr => ?_
    have := right_iff.1 hr
    grind
  refine RTwp_loop rfl (fun vs => ∃ i : Nat, vs = [I i] ∧ i ≤ d.vias.length ∧ (d.vias.take i).all (fun v => inR v l.secs.length) = true) (fun vs => match vs with | [.int _ i] => d.vias.length - i.toNat | _ => 0) ⟨0, by simp⟩ ?_
  rintro vs - ⟨i, rfl, hi, htk⟩
  simp
  refine ⟨fun hlt => ?_, fun hge => ?_⟩
  · have hw : IntKind.i64.wrap ((i : Int) + 1) = ((i + 1 : Nat) : Int) := by rw [wrap_i] <;> omega
    simp [List.getElem?_eq_getElem hlt, hw, hlt]
    by_cases hv : 0 ≤ d.vias[i] ∧ d.vias[i] < ↑l.secs.length
    · left
      refine ⟨hv, ⟨i + 1, by simp, by omega, fun x hx => ?_⟩, by omega⟩
      rw [List.take_add_one, List.getElem?_eq_getElem hlt, List.mem_append] at hx
      rcases hx with hx | hx
      · exact List.all_eq_true.1 htk x hx
      · simp at hx; subst hx; simp [inR, hv]
    · right
      refine ⟨by omega, right_not fun hr => ?_⟩
      have := (right_iff.1 hr).2.2.2.1 (d.vias[i]) (List.getElem_mem hlt)
      simp [inR] at this
      exact hv this
  · have hall : ∀ v ∈ d.vias, inR v l.secs.length = true := by
      have : d.vias.take i = d.vias := List.take_of_length_le hge
      rw [this] at htk
      exact fun v hv => List.all_eq_true.1 htk v hv
    refine ⟨fun h => right_not fun hr => ?_, fun h6 h7 h8 => ?_⟩
    · have := right_iff.1 hr
      grind
    · rw [Bool.eq_iff_iff, right_iff]
      have hvn : ((d.vias.length : Int) = 0) ↔ d.vias = [] := by simp
      simp only [Bool.or_eq_true, Bool.and_eq_true, decide_eq_true_eq, beq_iff_eq, hvn]
      grind

theorem c18 (l : Lay) (hl : l.ok) (d : Desk) (hd : d.vias.length ≤ 4294967296) (hm : 0 ≤ d.mode) : C 18 [l.av, d.av] (.bool (right l d)) := by
  refine ctr (l.cells ++ d.cells) run18 rfl (by simp [pureAll_append, hl.1]) rfl ?_ rfl
  unfold rt18
  simp [Lay.cells, Desk.cells]
  refine ⟨fun h0 => ⟨fun h => right_not fun hr => ?_, fun a1 a2 a3 => ?_⟩, fun h0 => ⟨fun h => right_not fun hr => ?_, fun a3 => ?_⟩⟩
  · have := right_iff.1 hr
    grind
  rotate_left
  · have := right_iff.1 hr
    grind
  all_goals
    refine RTwp_loop rfl (fun vs => ∃ i : Nat, vs = [I i] ∧ i ≤ d.vias.length ∧ (d.vias.take i).all (fun v => inR v l.secs.length) = true) (fun vs => match vs with | [.int _ i] => d.vias.length - i.toNat | _ => 0) ⟨0, by simp⟩ ?_
    rintro vs - ⟨i, rfl, hi, htk⟩
    simp
    refine ⟨fun hlt => ?_, fun hge => ?_⟩
    · have hw : IntKind.i64.wrap ((i : Int) + 1) = ((i + 1 : Nat) : Int) := by rw [wrap_i] <;> omega
      simp [List.getElem?_eq_getElem hlt, hw, hlt]
      by_cases hv : 0 ≤ d.vias[i] ∧ d.vias[i] < ↑l.secs.length
      · right
        refine ⟨hv, ⟨i + 1, by simp, by omega, fun x hx => ?_⟩, by omega⟩
        rw [List.take_add_one, List.getElem?_eq_getElem hlt, List.mem_append] at hx
        rcases hx with hx | hx
        · exact List.all_eq_true.1 htk x hx
        · simp at hx; subst hx; simp [inR, hv]
      · left
        refine ⟨by omega, right_not fun hr => ?_⟩
        have := (right_iff.1 hr).2.2.2.1 (d.vias[i]) (List.getElem_mem hlt)
        simp [inR] at this
        exact hv this
    · have hall : ∀ v ∈ d.vias, inR v l.secs.length = true := by
        have : d.vias.take i = d.vias := List.take_of_length_le hge
        rw [this] at htk
        exact fun v hv => List.all_eq_true.1 htk v hv
      have hvn : ((d.vias.length : Int) = 0) ↔ d.vias = [] := by simp
      refine ⟨fun t1 t2 => ⟨fun h => right_not fun hr => ?_, fun l1 l2 t3 hml => ?_⟩, fun h => right_not fun hr => ?_⟩
      · have := right_iff.1 hr
        simp only [tm, Bool.and_eq_true, decide_eq_true_eq] at this
        grind
      · rw [Bool.eq_iff_iff, right_iff]
        simp only [tm, Bool.and_eq_true, decide_eq_true_eq, beq_iff_eq, hvn]
        grind
      · have := right_iff.1 hr
        simp only [tm, Bool.and_eq_true, decide_eq_true_eq] at this
        grind
end Go.Lb.C25

namespace Go.Lb.C25
open Go Go.Lb Go.Proofs
noncomputable def rt33 : RT :=
 .seg [.chk [] (.mm true) [.inp 0, .int .i64 1]] <|
 .seg [.chk [] (.bin .sub) [.app (.mm true) [.inp 0, .int .i64 1], .int .i64 1]] <|
 .ret (.app (.bin .sub) [.app (.mm true) [.inp 0, .int .i64 1], .int .i64 1])
theorem run33 : runF E 33 [.inp 0] 1 = rt33 := by kernel_rfl

noncomputable def rt34 : RT :=
 .seg [.chk [] (.bin .leq) [.inp 0, .int .i64 0]] <|
 .cond (.app (.bin .leq) [.inp 0, .int .i64 0])
 (.ret (.int .i64 0))
 (.seg [.chk [] (.bin .sub) [.inp 0, .int .i64 1]] <|
  .ret (.app (.bin .sub) [.inp 0, .int .i64 1]))
theorem run34 : runF E 34 [.inp 0] 1 = rt34 := by kernel_rfl


end Go.Lb.C25

namespace Go.Lb.C25
open Go Go.Lb Go.Proofs Go.RowKit

def may (l : Lay) (d : Desk) : Bool := decide (1 ≤ l.press) && decide (l.press ≤ 1000) && right l d
theorem c28 (l : Lay) (hl : l.ok) (d : Desk) (hd : d.vias.length ≤ 4294967296) (hm : 0 ≤ d.mode) : C 28 [l.av, d.av] (.bool (may l d)) := by
  refine ctr (l.cells ++ d.cells) run28 rfl (by simp [pureAll_append, hl.1]) rfl ?_ rfl
  unfold rt28
  simp [Lay.cells, Desk.cells]
  refine RTwp_call (.bool (right l d)) rfl (fun _ => ⟨c18 l hl d hd hm, by simp⟩) ?_
  simp [may]
  grind

/-- The kind of a section. -/
def Lay.kindAt (l : Lay) (n : Int) : Int := match l.secs[n.toNat]? with
  | some s => s.kind
  | none => 0
def counts (l : Lay) (p : Pr) : Bool :=
  if p.kind = 1 ∨ p.kind = 2 then true else if p.kind = 3 then inR p.n l.sigs.length else if p.kind = 4 then inR p.n l.secs.length else if p.kind = 5 then inR p.n l.exits.length
  else if p.kind = 6 then inR p.n l.secs.length && decide (l.kindAt p.n = 2) && (decide (p.pos = 0) || decide (p.pos = 1)) else false

theorem c25 (l : Lay) (hl : l.ok) (p : Pr) : C 25 [l.av, p.av] (.bool (counts l p)) := by
  refine ctr (l.cells ++ p.cells) run25 rfl (by simp [pureAll_append, hl.1]) rfl ?_ rfl
  unfold rt25
  simp [Lay.cells, Pr.cells]
  refine ⟨fun h => by simp [counts, h], fun h1 => ⟨fun h => by simp [counts, h], fun h2 => ⟨fun h => by simp [counts, h, inR], fun h3 => ⟨fun h => by simp [counts, h, inR], fun h4 => ⟨fun h => by simp [counts, h, inR], fun h5 => ⟨fun h => ?_, fun h => by simp [counts, h, h1, h2, h3, h4, h5]⟩⟩⟩⟩⟩⟩
  by_cases hr : 0 ≤ p.n ∧ p.n < ↑l.secs.length
  · have hlt : p.n.toNat < l.secs.length := by omega
    have hlen := hl.2 _ (List.getElem_mem hlt)
    simp [List.getElem?_eq_getElem hlt, hr, hlen, counts, h, inR, Lay.kindAt]
    grind
  · have hn : ∀ (h1 : 0 ≤ p.n) (h2 : p.n < ↑l.secs.length), False := fun h1 h2 => hr ⟨h1, h2⟩
    refine ⟨fun h1 h2 => (hn h1 h2).elim, fun h1 h2 => (hn h1 h2).elim, fun h1 h2 => (hn h1 h2).elim, ?_⟩
    simp only [if_neg hr]
    have : ¬ (0 ≤ p.n) ∨ ¬ (p.n < ↑l.secs.length) := by omega
    rcases this with h6 | h6 <;> simp [counts, h, inR, h6]

def great7 (l : Lay) : Bool := decide (30 < l.secs.length) || decide (20 < l.sigs.length) || decide (20 < l.exits.length) || decide (30 < l.flanks.length) || l.exits.any fun e => decide (20 < e.over.length)

theorem c24 (l : Lay) (hl : l.ok) : C 24 [l.av] (.bool (great7 l)) := by
  refine ctr l.cells run24 rfl hl.1 rfl ?_ rfl
  unfold rt24
  simp [Lay.cells]
  refine RTwp_loop rfl (fun vs => ∃ i : Nat, vs = [I i] ∧ i ≤ l.exits.length ∧ i ≤ 21 ∧ (l.exits.take i).all (fun e => decide (e.over.length ≤ 20)) = true) (fun vs => match vs with | [.int _ i] => l.exits.length - i.toNat | _ => 0) ⟨0, by simp⟩ ?_
  rintro vs - ⟨i, rfl, hi, hi2, htk⟩
  simp
  have great_iff : great7 l = true ↔ 30 < l.secs.length ∨ 20 < l.sigs.length ∨ 20 < l.exits.length ∨ 30 < l.flanks.length ∨ ∃ e ∈ l.exits, 20 < e.over.length := by
    simp [great7]; grind
  refine ⟨fun hlt h20 => ?_, fun hge => ?_⟩
  · have hw : IntKind.i64.wrap ((i : Int) + 1) = ((i + 1 : Nat) : Int) := by rw [wrap_i] <;> omega
    simp [List.getElem?_eq_getElem hlt, hw, hlt]
    by_cases hv : (l.exits[i]).over.length ≤ 20
    · left
      refine ⟨by omega, ⟨i + 1, by simp, by omega, by omega, fun x hx => ?_⟩, by omega⟩
      rw [List.take_add_one, List.getElem?_eq_getElem hlt, List.mem_append] at hx
      rcases hx with hx | hx
      · simpa using List.all_eq_true.1 htk x hx
      · simp at hx; subst hx; exact hv
    · right
      exact ⟨by omega, great_iff.2 (.inr (.inr (.inr (.inr ⟨_, List.getElem_mem hlt, by omega⟩))))⟩
  · rw [Bool.eq_iff_iff, great_iff]
    simp
    by_cases h21 : 20 < l.exits.length
    · simp [h21]; omega
    · have hall : ∀ e ∈ l.exits, e.over.length ≤ 20 := by
        have : l.exits.take i = l.exits := List.take_of_length_le (by omega)
        rw [this] at htk
        exact fun e he => by simpa using List.all_eq_true.1 htk e he
      have : ¬ ∃ e ∈ l.exits, 20 < e.over.length := fun ⟨e, he, h⟩ => by have := hall e he; omega
      simp [this]; omega

def down (n : Int) : Int := if n ≤ 0 then 0 else n - 1
theorem c33 (n : Int) (h1 : -9223372036854775808 < n) (h2 : n ≤ 9223372036854775807) : C 33 [I n] (I (down n)) := by
  refine ctr [I n] run33 rfl rfl rfl ?_ rfl
  unfold rt33
  simp
  unfold mmStep down
  simp only
  split <;> rename_i hx <;> rw [wrap_i] <;> (try omega) <;> split <;> omega
theorem c34 (n : Int) (h1 : -9223372036854775808 < n) (h2 : n ≤ 9223372036854775807) : C 34 [I n] (I (down n)) := by
  refine ctr [I n] run34 rfl rfl rfl ?_ rfl
  unfold rt34
  simp
  refine ⟨fun h => by simp [down, h], fun h => ?_⟩
  rw [wrap_i (by omega) (by omega)]
  unfold down
  rw [if_neg (by omega)]
def tick (l : Lay) (d : Desk) : Desk × Bool :=
  if may l d = true then (if d.tim = 1 ∨ d.left = 1 then (newDesk, decide (d.tim = 1)) else (⟨d.sig, d.vias, down d.tim, d.mode, down d.left⟩, decide (d.tim = 1))) else (d, false)
def tickAv (x : Desk × Bool) : AV := .tup [x.1.av, .bool x.2]

theorem may_iff {l : Lay} {d : Desk} : may l d = true ↔ 1 ≤ l.press ∧ l.press ≤ 1000 ∧ right l d = true := by
  simp [may]; grind
theorem tm_iff {n : Int} : tm n = true ↔ 0 ≤ n ∧ n ≤ 1000 := by simp [tm]

theorem c16 (l : Lay) (hl : l.ok) (d : Desk) (hd : d.vias.length ≤ 4294967296) (hm : 0 ≤ d.mode) : C 16 [l.av, d.av] (tickAv (tick l d)) := by
  refine ctr (l.cells ++ d.cells) run16 rfl (by simp [pureAll_append, hl.1]) (by simp [tickAv, AV.pure, AV.pureAll]) ?_ rfl
  unfold rt16
  simp [Lay.cells, Desk.cells]
  refine RTwp_call0 (c21 d hd) (by simp) ?_
  simp [Desk.cells]
  refine RTwp_call0 (c28 l hl d hd hm) (by simp) ?_
  simp
  refine ⟨fun hmay => ?_, fun hmay => ?_⟩
  · have hr := right_iff.1 (may_iff.1 hmay).2.2
    have ht := tm_iff.1 hr.2.2.2.2.1
    have hlf := tm_iff.1 hr.2.2.2.2.2.1
    refine RTwp_call0 (c33 d.tim (by omega) (by omega)) (by simp) ?_
    refine RTwp_call0 (c33 d.left (by omega) (by omega)) (by simp) ?_
    simp [Desk.cells]
    refine ⟨fun h => ?_, fun h1 h2 => ?_⟩
    · refine RTwp_call0 c22 (by simp) ?_
      simp [tickAv, tick, hmay, h, newDesk, Desk.cells]
      rfl
    · simp [tickAv, tick, hmay, h1, h2, Desk.cells]
  · simp [Desk.cells, tickAv, tick, hmay]

theorem c17 (l : Lay) (hl : l.ok) (d : Desk) (hd : d.vias.length ≤ 4294967296) : C 17 [l.av, d.av] (tickAv (tick l d)) := by
  refine ctr (l.cells ++ d.cells) run17 rfl (by simp [pureAll_append, hl.1]) (by simp [tickAv, AV.pure, AV.pureAll]) ?_ rfl
  unfold rt17
  simp [Lay.cells, Desk.cells]
  refine RTwp_call0 (c29 d hd) (by simp) ?_
  simp [Desk.cells]
  refine RTwp_call0 (c30 l hl) (by simp) ?_
  simp
  refine RTwp_call (.bool (right l d)) rfl (fun _ => ⟨c19 l hl d hd, by simp⟩) ?_
  simp [Desk.cells]
  refine ⟨fun h => ?_, fun p1 p2 hrt => ?_⟩
  · have hmay : may l d = false := by
      cases hx : may l d
      · rfl
      · have := may_iff.1 hx
        rcases h with (h | h) | h
        · omega
        · omega
        · rw [h] at this; cases this.2.2
    simp [tickAv, tick, hmay, Desk.cells]
  · have hmay : may l d = true := may_iff.2 ⟨by omega, by omega, hrt⟩
    have hr := right_iff.1 hrt
    have ht := tm_iff.1 hr.2.2.2.2.1
    have hlf := tm_iff.1 hr.2.2.2.2.2.1
    obtain ⟨-, -, -, -, -, -, hmd, htim, hleft, hcase⟩ := hr
    have hw1 : ∀ n : Int, 0 < n → n ≤ 1000 → IntKind.i64.wrap (n - 1) = n - 1 := fun n h1 h2 => wrap_i (by omega) (by omega)
    have fin : ∀ (b : Bool) (env : List AV) , env.length = 19 → ∀ x, tickAv (tick l d) = tickAv (newDesk, b) → x = AV.bool b → RTwp Try.prog [] (fun x => x = tickAv (tick l d)) (RT.seg [Nd.call 19 [] 23 [] false] (RT.seg [Nd.chk [] (PF.isAgg 5) [SE.inp 19]]
        (RT.ret (SE.tup [SE.agg [SE.app (PF.part 0 1 false) [SE.inp 19], SE.app (PF.part 1 1 false) [SE.inp 19], SE.app (PF.part 2 1 false) [SE.inp 19], SE.app (PF.part 3 1 false) [SE.inp 19], SE.app (PF.part 4 1 false) [SE.inp 19]], SE.bool b])))) (fun _ _ => False) (envOf env) := by
      intro b env he x hx _
      refine RTwp_call0 c23 (by simp) ?_
      rw [envOf_set he, hx]
      have hg : envOf (env ++ [newDesk.av]) 19 = newDesk.av := by
        unfold envOf; rw [List.getD_eq_getElem?_getD, List.getElem?_append_right (by omega), he]; rfl
      simp only [RTwp_chk, RTwp_nil, RTwp_ret, Holds_nil, true_implies, den, dens, hg, tickAv]
      simp [newDesk, Desk.cells]
    rcases hcase with ⟨hs, hm0⟩ | ⟨hs, hv⟩
    · have htp : d.tim ≠ 0 := fun h => by have := htim.1 h; omega
      have hl0 : d.left = 0 := hleft.2 hm0
      refine ⟨fun _ => ⟨fun h => absurd h (by omega), fun _ => ⟨fun h1 => ?_, fun h1 => ⟨fun h => absurd hm0 h, fun _ => ?_⟩⟩⟩, fun h => absurd h (by omega)⟩
      · rw [hw1 _ (by omega) (by omega)] at h1
        have h2 : d.tim = 1 := by omega
        exact fin true _ rfl _ (by simp [tick, hmay, h2]) rfl
      · rw [hw1 _ (by omega) (by omega)] at h1 ⊢
        have h2 : ¬ d.tim = 1 := by omega
        simp [tickAv, tick, hmay, h2, hl0, Desk.cells, down]
        omega
    · have ht0 : d.tim = 0 := htim.2 hs
      refine ⟨fun h => absurd h (by omega), fun _ => ⟨fun hm => ⟨fun h => ?_, fun hlp => ⟨fun h1 => ?_, fun h1 => ?_⟩⟩, fun hm => ?_⟩⟩
      · have : d.left = 0 := by omega
        exact absurd (hleft.1 this) hm
      · rw [hw1 _ (by omega) (by omega)] at h1
        have h2 : d.left = 1 := by omega
        exact fin false _ rfl _ (by simp [tick, hmay, h2, ht0]) rfl
      · rw [hw1 _ (by omega) (by omega)] at h1 ⊢
        have h2 : ¬ d.left = 1 := by omega
        simp [tickAv, tick, hmay, h2, ht0, Desk.cells, down]
        omega
      · have hl0 : d.left = 0 := hleft.2 hm
        simp [tickAv, tick, hmay, hl0, ht0, Desk.cells, down]
end Go.Lb.C25
