/- Splits; choices; what is frozen. -/
import Derived.Test.YtkcpgfjlmicnnaaGreatDoorFw6
import Derived.RangeFuncRecord
set_option linter.unusedSimpArgs false
set_option linter.unusedVariables false
namespace Go.Lb
open Go.RowKit
variable {Y : List (Nat × Rnd)} {G : Glob} {n0 : Nat} {w0 : Base} {c c' : Cx} {ρ ρ' : Nat → AV} {st st' : St} {a : Act} {w : World} {P : Program} {ro : Option Nat}
theorem SE.assume_den {cs : SE} {b : Bool} (hc : den ρ cs = .bool b) : ∀ (n : Nat) (e : SE), den ρ (SE.assume cs b n e) = den ρ e := by
 intro n
 induction n with
 | zero => intro e; rfl
 | succ n ih =>
  intro e
  unfold SE.assume
  split
  ·rename_i h
   rw [SE.beq_eq _ _ h, hc]; rfl
  ·split
   ·rename_i x y z _
    have hx := ih x
    split
    ·rename_i h; rw [h] at hx
     simp only [den, dens, ← hx, pv, if_true]; exact ih y
    ·rename_i h; rw [h] at hx
     simp only [den, dens, ← hx, pv]; exact ih z
    ·simp only [den, dens, ih]
   ·rename_i x _
    have hx := ih x
    split
    ·rename_i v h; rw [h] at hx
     simp only [den, dens, ← hx, pv]
    ·simp only [den, dens, ih]
   ·rfl
theorem SE.assume_wf {cs : SE} {b : Bool} {m : Nat} {D : Nat → Bool} : ∀ (n : Nat) (e : SE), e.wf m D = true → (SE.assume cs b n e).wf m D = true := by
 intro n
 induction n with
 | zero => intro e h; exact h
 | succ n ih =>
  intro e h
  unfold SE.assume
  split
  ·rfl
  ·split
   ·rename_i x y z _
    simp only [SE.wf, SE.wfs, Bool.and_eq_true] at h
    split
    ·exact ih y h.2.1
    ·exact ih z h.2.2.1
    ·simp only [SE.wf, SE.wfs, ih x h.1, ih y h.2.1, ih z h.2.2.1, Bool.and_self]
   ·rename_i x _
    simp only [SE.wf, SE.wfs, Bool.and_eq_true] at h
    split
    ·rfl
    ·simp only [SE.wf, SE.wfs, ih x h.1, Bool.and_self]
   ·exact h
theorem zcQ {cs : SE} {b : Bool} (hc : den ρ cs = .bool b) {m : Nat} {D : Nat → Bool} : ∀ (pcs : List (SE × Bool)), zco m D pcs = true →
  match zcP cs b pcs with
  | none => ¬ Holds ρ pcs
  | some pcs' => (Holds ρ pcs' ↔ Holds ρ pcs) ∧ zco m D pcs' = true
 | [], _ => ⟨Iff.rfl, rfl⟩
 | (p, v) :: r, hw => by
  have hw' : p.wf m D = true ∧ zco m D r = true := by simpa [zco] using hw
  have ih := zcQ hc r hw'.2
  simp only [zcP]
  cases h : zcP cs b r with
  | none =>
   rw [h] at ih
   intro hh; exact ih (Holds.cons.1 hh).2
  | some r' =>
   rw [h] at ih
   have hd := SE.assume_den hc 20 p
   have hpw := SE.assume_wf (cs := cs) (b := b) 20 p hw'.1
   simp only []
   cases hx : SE.assume cs b 20 p with
   | bool x =>
    rw [hx] at hd
    simp only [den] at hd
    by_cases hxv : x = v
    ·simp only [hxv, if_true]
     refine ⟨?_, ih.2⟩
     rw [ih.1, Holds.cons]
     simp [← hd, hxv]
    ·simp only [hxv, if_false]
     intro hh
     have := (Holds.cons.1 hh).1
     rw [← hd] at this
     exact hxv (by simpa using this)
   | _ =>
    rw [hx] at hd hpw
    simp only []
    refine ⟨?_, ?_⟩
    ·rw [Holds.cons, Holds.cons, ih.1, hd]
    ·simp only [zco, List.all_cons, Bool.and_eq_true]
     exact ⟨hpw, ih.2⟩
theorem zk4 (f : Ent → Ent) (s : List (Nat × Ent)) (d : Nat) : zaM (s.map fun x => (x.1, f x.2)) d = (zaM s d).map f := by
 induction s with
 | nil => rfl
 | cons x s ih =>
  obtain ⟨j, e⟩ := x
  simp only [List.map_cons, zaM]
  split
  ·rfl
  ·exact ih
theorem SlotOk.assume {cs : SE} {b : Bool} (hc : den ρ cs = .bool b) {nenv : Nat} {D : Nat → Bool} {t : Array Value} {d : Nat} {e : Ent} (h : SlotOk c ρ nenv D t d e) : SlotOk c ρ nenv D t d (e.assume cs b) := by
 have hs := zcQ hc e.pcs h.wf.2
 unfold Ent.assume
 split
 ·rename_i hn
  rw [hn] at hs
  have := h.no hs
  exact ⟨fun _ => ⟨undef, this, .undef _ (fun _ h => by cases h)⟩, fun hh => absurd (Holds.nil ρ) hh, rfl, rfl⟩
 ·rename_i pcs hn
  rw [hn] at hs
  refine ⟨fun hp => ?_, fun hp => h.no fun h' => hp (hs.1.2 h'), SE.assume_wf 20 _ h.wf.1, hs.2⟩
  obtain ⟨v, h1, h2⟩ := h.yes (hs.1.1 hp)
  exact ⟨v, h1, by simp only [SE.assume_den hc]; exact h2⟩
theorem MatchSt.assume {cs : SE} {b : Bool} (hm : MatchSt G n0 w0 Y c ρ st a w) (hc : den ρ cs = .bool b) : MatchSt G n0 w0 Y c ρ (st.assume cs b) a w := by
 refine ⟨hm.mem, hm.glob, hm.sz, ?_, hm.dfr, hm.mdom, hm.rnds⟩
 intro d e hf
 simp only [St.assume, zk4] at hf
 obtain ⟨e', h1, rfl⟩ := Option.map_eq_some_iff.1 hf
 exact (hm.slots d e' h1).assume hc
theorem ziJ (e : SE) : ∀ (b : Bool), den ρ (zdh e).1 = .bool b → den ρ e = .bool (b != (zdh e).2) := by
 fun_induction zdh e with
 | case1 x r ih =>
  intro b h
  have := ih b h
  simp only [den, dens, this, pv]
  cases b <;> cases (zdh x).2 <;> rfl
 | case2 e _ =>
  intro b h
  simp only [] at h ⊢
  rw [h]; cases b <;> rfl
structure St.Same (st st' : St) : Prop where
 sz : st'.sz = st.sz
 own : st'.own = st.own
 nenv : st'.nenv = st.nenv
 nid : st'.nid = st.nid
theorem St.Same.refl (st : St) : St.Same st st := ⟨rfl, rfl, rfl, rfl⟩
theorem St.Same.trans {a b c : St} (h : St.Same a b) (k : St.Same b c) : St.Same a c := ⟨k.sz.trans h.sz, k.own.trans h.own, k.nenv.trans h.nenv, k.nid.trans h.nid⟩
theorem St.Same.D {a b : St} (h : St.Same a b) : b.D = a.D := by unfold St.D; rw [h.own]
theorem zb4 {R : AV → Prop} {Lp : Nat → List AV → Prop} {cs : SE} {yes no : St → RT} (hm : MatchSt G n0 w0 Y c ρ st a w) (h : RTwp P G R (zeK cs st yes no) Lp ρ) :
  ∃ b st', den ρ cs = .bool b ∧ MatchSt G n0 w0 Y c ρ st' a w ∧ St.Same st st' ∧ RTwp P G R (if b then yes st' else no st') Lp ρ := by
 have hsn := ziJ (ρ := ρ) cs
 unfold zeK at h
 split at h
 ·rename_i x y hr
  rw [hr] at hsn
  refine ⟨x != y, st, hsn x rfl, hm, St.Same.refl _, ?_⟩
  cases hxy : (x != y) <;> simpa [hxy] using h
 ·rename_i e y _ hr
  rw [hr] at hsn
  simp only [RTwp] at h
  obtain ⟨b, hb, h1, h2⟩ := h
  refine ⟨b != y, st.assume e b, hsn b hb, hm.assume hb, ⟨rfl, rfl, rfl, rfl⟩, ?_⟩
  cases b
  ·have := h2 rfl
   cases y <;> simpa using this
  ·have := h1 rfl
   cases y <;> simpa using this
theorem zhD {R : AV → Prop} {Lp : Nat → List AV → Prop} {no : St → RT} : ∀ (pcs : List (SE × Bool)) (yes : St → RT) (st : St), MatchSt G n0 w0 Y c ρ st a w → RTwp P G R (zhC pcs st yes no) Lp ρ →
  ∃ st', MatchSt G n0 w0 Y c ρ st' a w ∧ St.Same st st' ∧ ((Holds ρ pcs ∧ RTwp P G R (yes st') Lp ρ) ∨ (¬ Holds ρ pcs ∧ RTwp P G R (no st') Lp ρ)) := by
 intro pcs
 induction pcs with
 | nil => intro yes st hm h; exact ⟨st, hm, St.Same.refl _, .inl ⟨Holds.nil ρ, h⟩⟩
 | cons x rest ih =>
  obtain ⟨cs, b⟩ := x
  intro yes st hm h
  simp only [zhC] at h
  obtain ⟨st1, hm1, hs1, h1⟩ := ih _ _ hm h
  rcases h1 with ⟨hh, h1⟩ | ⟨hh, h1⟩
  ·cases b with
   | true =>
    simp only [if_true] at h1
    obtain ⟨b', st2, hb, hm2, hs2, h2⟩ := zb4 hm1 h1
    refine ⟨st2, hm2, hs1.trans hs2, ?_⟩
    cases b' with
    | true => exact .inl ⟨Holds.cons.2 ⟨hb, hh⟩, h2⟩
    | false => exact .inr ⟨fun hx => by (have := (Holds.cons.1 hx).1; simp only at this; rw [hb] at this; cases this), h2⟩
   | false =>
    obtain ⟨b', st2, hb, hm2, hs2, h2⟩ := zb4 hm1 h1
    refine ⟨st2, hm2, hs1.trans hs2, ?_⟩
    cases b' with
    | true => exact .inr ⟨fun hx => by (have := (Holds.cons.1 hx).1; simp only at this; rw [hb] at this; cases this), h2⟩
    | false => exact .inl ⟨Holds.cons.2 ⟨hb, hh⟩, h2⟩
  ·exact ⟨st1, hm1, hs1, .inr ⟨fun hx => hh (Holds.cons.1 hx).2, h1⟩⟩
theorem zfS {E : Env} (hE : EnvOk E) {o : Oper} {x y z : Operand} {pcs : List (SE × Bool)} {e : SE} {ns : List Nd} (hm : MatchSt E.G n0 w0 Y c ρ st a w) (ho : o.op = .pick x y z) (h : zlE E st.slots pcs x y z = some (e, ns))
  (hp : Holds ρ pcs) {K : (Nat → AV) → Prop} (hs : zaZ P E.G ρ ns K) : K ρ ∧ ∃ v, Rv c (den ρ e) v ∧ ∀ (n : Nat) (next : Act → World → Prop) (Q : Exit → Act → World → Prop), next (a.put o.dst v) w → o.wpIn (FW ro) n P a w next Q := by
 have hev : ∀ {pcs} (hp : Holds ρ pcs) {x e}, evS E.G st.slots pcs x = some e → Rv c (den ρ e) (a.eval x) := fun {_} hp {_ _} hx => (zb8 hm.slots hm.glob hE.G hp hx).1
 have run : ∀ b, a.eval x = .bool b → (execOp a.eval o).run P w = .ok (.value (if b then a.eval y else a.eval z)) w := by
  intro b hb
  simp only [execOp, ho, Sem.run_bind, hb, run_asBool, Result.andThen_ok, Sem.run_pure]
 have fin : ∀ (v : Value), (execOp a.eval o).run P w = .ok (.value v) w → ∀ (n : Nat) (next : Act → World → Prop) (Q : Exit → Act → World → Prop), next (a.put o.dst v) w → o.wpIn (FW ro) n P a w next Q :=
  fun v hr n next Q hn => zas (by rw [ho]; intro c h; cases h) hr hn
 unfold zlE at h
 split at h
 ·rename_i h1
  obtain ⟨e', h2, h3⟩ := Option.map_eq_some_iff.1 h
  simp only [Prod.mk.injEq] at h3
  obtain ⟨rfl, rfl⟩ := h3
  have hx := hev hp h1
  refine ⟨hs, a.eval y, hev hp h2, fin _ ?_⟩
  exact run true (Rv.bool_inv hx)
 ·rename_i h1
  obtain ⟨e', h2, h3⟩ := Option.map_eq_some_iff.1 h
  simp only [Prod.mk.injEq] at h3
  obtain ⟨rfl, rfl⟩ := h3
  have hx := hev hp h1
  refine ⟨hs, a.eval z, hev hp h2, fin _ ?_⟩
  exact run false (Rv.bool_inv hx)
 ·rename_i ec _ _ h1
  split at h
  ·rename_i ea eb h2 h3
   simp only [Option.some.injEq, Prod.mk.injEq] at h
   obtain ⟨rfl, rfl⟩ := h
   obtain ⟨hk1, hk2⟩ := hs
   have hok := hk1 hp
   have hx := hev hp h1
   have hb : ∃ b, den ρ ec = .bool b := by
    simp only [dens] at hok
    generalize den ρ ec = v at hok
    unfold pok at hok
    split at hok <;> first | exact ⟨_, rfl⟩ | cases hok | skip
    all_goals simp_all
   obtain ⟨b, hb⟩ := hb
   rw [hb] at hx
   refine ⟨hk2, if b then a.eval y else a.eval z, ?_, fin _ (run b (Rv.bool_inv hx))⟩
   simp only [den, dens, hb, pv]
   cases b
   ·exact zbJ _ (hev (Holds.cons.2 ⟨hb, hp⟩) h3)
   ·exact zbJ _ (hev (Holds.cons.2 ⟨hb, hp⟩) h2)
  ·cases h
 ·cases h
end Go.Lb
namespace Go.Lb
open Go.RowKit
variable {Y : List (Nat × Rnd)} {G : Glob} {n0 : Nat} {w0 : Base} {c c' c2 : Cx} {ρ ρ' : Nat → AV} {st st' : St} {a : Act} {w : World} {P : Program} {ro : Option Nat}
theorem nbeq {i j : Nat} (h : i ≠ j) : (!Nat.beq i j) = true := by
 cases hb : Nat.beq i j
 ·rfl
 ·exact absurd (Nat.eq_of_beq_eq_true hb) h
mutual
theorem zjF {n j : Nat} {e : SE} (hρ : ∀ i, (ρ i).pure = true) (hk : c.Keeps (fun i => !Nat.beq i j) c2) (hj : e.isRef = false → ∀ v, Rv c (.row j) v → Rv c2 (den ρ e) v) (hp : ∀ cs, e = .ref cs 0 → ∀ k v, Rv c (.ptr j k) v → Rv c2 (.ref (dens ρ cs) k) v) : ∀ (x y : SE) (v : Value), SE.fz n j e x = some y → Rv c (den ρ x) v → Rv c2 (den ρ y) v
 | .row i, y, v, h, hr => by
  simp only [SE.fz] at h
  split at h
  ·rename_i hi
   split at h
   ·cases h
   ·rename_i hf
    simp only [Option.some.injEq] at h; subst h
    simp only [den] at hr; rw [hi] at hr; exact hj hf v hr
  ·rename_i hi
   simp only [Option.some.injEq] at h; subst h
   exact zch hk hr (by simp only [den, AV.under]; exact nbeq hi)
 | .ptr i k, y, v, h, hr => by
  simp only [SE.fz] at h
  split at h
  ·rename_i hi
   split at h
   ·rename_i cs
    simp only [Option.some.injEq] at h; subst h
    simp only [den] at hr ⊢; rw [hi] at hr; exact hp cs rfl k v hr
   ·cases h
  ·rename_i hi
   simp only [Option.some.injEq] at h; subst h
   exact zch hk hr (by simp only [den, AV.under]; exact nbeq hi)
 | .agg cs, y, v, h, hr => by
  simp only [SE.fz] at h
  obtain ⟨ys, h1, rfl⟩ := Option.map_eq_some_iff.1 h
  simp only [den] at hr ⊢
  cases hr with
  | agg _ vs h2 => exact .agg _ _ (zcu hρ hk hj hp cs ys vs h1 h2)
 | .tup cs, y, v, h, hr => by
  simp only [SE.fz] at h
  obtain ⟨ys, h1, rfl⟩ := Option.map_eq_some_iff.1 h
  simp only [den] at hr ⊢
  cases hr with
  | tup _ vs h2 => exact .tup _ _ (zcu hρ hk hj hp cs ys vs h1 h2)
 | .clo f p q, y, v, h, hr => by
  simp only [SE.fz] at h
  split at h
  ·rename_i p' q' h1 h2
   simp only [Option.some.injEq] at h; subst h
   simp only [den] at hr ⊢
   cases hr with
   | clo _ _ _ vf vc h3 h4 => exact .clo _ _ _ _ _ (zcu hρ hk hj hp p p' vf h1 h3) (zcu hρ hk hj hp q q' vc h2 h4)
  ·cases h
 | .inp _, y, v, h, hr | .undef, y, v, h, hr | .bool _, y, v, h, hr | .int _ _, y, v, h, hr | .nilp, y, v, h, hr | .nilf, y, v, h, hr | .nils, y, v, h, hr | .enil, y, v, h, hr | .mp _ _ _, y, v, h, hr | .ref _ _, y, v, h, hr | .ptrx _ _ _ _ _ _, y, v, h, hr | .rptr _ _ _ _, y, v, h, hr | .yield _, y, v, h, hr | .mref _, y, v, h, hr | .app _ _, y, v, h, hr => by
  simp only [SE.fz] at h
  split at h
  ·rename_i hw
   simp only [Option.some.injEq] at h; subst h
   exact zch hk hr (zbb hρ _ hw)
  ·cases h
theorem zcu {n j : Nat} {e : SE} (hρ : ∀ i, (ρ i).pure = true) (hk : c.Keeps (fun i => !Nat.beq i j) c2) (hj : e.isRef = false → ∀ v, Rv c (.row j) v → Rv c2 (den ρ e) v) (hp : ∀ cs, e = .ref cs 0 → ∀ k v, Rv c (.ptr j k) v → Rv c2 (.ref (dens ρ cs) k) v) : ∀ (xs ys : List SE) (vs : List Value), SE.fzs n j e xs = some ys → Rvs c (dens ρ xs) vs → Rvs c2 (dens ρ ys) vs
 | [], ys, vs, h, hr => by
  simp only [SE.fzs, Option.some.injEq] at h; subst h
  cases hr; exact .nil
 | x :: xs, ys, vs, h, hr => by
  simp only [SE.fzs] at h
  split at h
  ·rename_i y ys' h1 h2
   simp only [Option.some.injEq] at h; subst h
   simp only [dens] at hr ⊢
   cases hr with
   | cons _ v _ vs r1 r2 => exact .cons _ _ _ _ (zjF hρ hk hj hp x y v h1 r1) (zcu hρ hk hj hp xs ys' vs h2 r2)
  ·cases h
end
mutual
theorem zoe {n j : Nat} {D : Nat → Bool} {e : SE} (he : e.wf n D = true) : ∀ (x y : SE), SE.fz n j e x = some y → x.wf n D = true → y.wf n D = true
 | .row i, y, h, hw => by
  simp only [SE.fz] at h
  split at h
  ·split at h
   ·cases h
   ·simp only [Option.some.injEq] at h; subst h; exact he
  ·simp only [Option.some.injEq] at h; subst h; exact hw
 | .ptr i k, y, h, hw => by
  simp only [SE.fz] at h
  split at h
  ·split at h
   ·simp only [Option.some.injEq] at h; subst h; simpa only [SE.wf] using he
   ·cases h
  ·simp only [Option.some.injEq] at h; subst h; exact hw
 | .agg cs, y, h, hw => by
  simp only [SE.fz] at h
  obtain ⟨ys, h1, rfl⟩ := Option.map_eq_some_iff.1 h
  simp only [SE.wf] at hw ⊢; exact zgw he cs ys h1 hw
 | .tup cs, y, h, hw => by
  simp only [SE.fz] at h
  obtain ⟨ys, h1, rfl⟩ := Option.map_eq_some_iff.1 h
  simp only [SE.wf] at hw ⊢; exact zgw he cs ys h1 hw
 | .clo f p q, y, h, hw => by
  simp only [SE.fz] at h
  split at h
  ·rename_i p' q' h1 h2
   simp only [Option.some.injEq] at h; subst h
   simp only [SE.wf, Bool.and_eq_true] at hw ⊢
   exact ⟨zgw he p p' h1 hw.1, zgw he q q' h2 hw.2⟩
  ·cases h
 | .inp _, y, h, hw | .undef, y, h, hw | .bool _, y, h, hw | .int _ _, y, h, hw | .nilp, y, h, hw | .nilf, y, h, hw | .nils, y, h, hw | .enil, y, h, hw | .mp _ _ _, y, h, hw | .ref _ _, y, h, hw | .ptrx _ _ _ _ _ _, y, h, hw | .rptr _ _ _ _, y, h, hw | .yield _, y, h, hw | .mref _, y, h, hw | .app _ _, y, h, hw => by
  simp only [SE.fz] at h
  split at h
  ·simp only [Option.some.injEq] at h; subst h; exact hw
  ·cases h
theorem zgw {n j : Nat} {D : Nat → Bool} {e : SE} (he : e.wf n D = true) : ∀ (xs ys : List SE), SE.fzs n j e xs = some ys → SE.wfs n D xs = true → SE.wfs n D ys = true
 | [], ys, h, hw => by
  simp only [SE.fzs, Option.some.injEq] at h; subst h; rfl
 | x :: xs, ys, h, hw => by
  simp only [SE.fzs] at h
  split at h
  ·rename_i y ys' h1 h2
   simp only [Option.some.injEq] at h; subst h
   simp only [SE.wfs, Bool.and_eq_true] at hw ⊢
   exact ⟨zoe he x y h1 hw.1, zgw he xs ys' h2 hw.2⟩
  ·cases h
end
theorem zeA {n j : Nat} {e : SE} : ∀ (own own' : Own), zla n j e own = some own' → ∀ i, match look own i with
  | none => look own' i = none
  | some o => if i = j then look own' i = some .gone else ∃ o', look own' i = some o' ∧ OS.fz n j e o = some o'
 | [], own', h, i => by simp only [zla, Option.some.injEq] at h; subst h; rfl
 | (k, o) :: r, own', h, i => by
  simp only [zla] at h
  split at h
  ·cases h
  ·rename_i r' hr
   have ih := zeA r r' hr i
   split at h
   ·rename_i hk
    simp only [Option.some.injEq] at h; subst h
    simp only [look]
    by_cases hi : i = k
    ·simp [hi, hk]
    ·simp only [Nat.beq_eq, hi, if_false]; exact ih
   ·rename_i hk
    split at h
    ·rename_i o' ho
     simp only [Option.some.injEq] at h; subst h
     simp only [look]
     by_cases hi : i = k
     ·subst hi; simp [hk, ho]
     ·simp only [Nat.beq_eq, hi, if_false]; exact ih
    ·cases h
theorem zh4 (s : List (Nat × Ent)) (k d : Nat) : zaM (s.filter fun x => !Nat.beq x.1 k) d = if d = k then none else zaM s d := by
 induction s with
 | nil => simp [zaM]
 | cons x s ih =>
  obtain ⟨i, e⟩ := x
  simp only [List.filter_cons]
  by_cases hik : i = k
  ·subst hik
   simp only [Nat.beq_refl, Bool.not_true, Bool.false_eq_true, if_false, ih, zaM, Nat.beq_eq]
   by_cases hd : d = i <;> simp [hd]
  ·have : (!Nat.beq i k) = true := nbeq hik
   simp only [this, if_true, zaM, Nat.beq_eq, ih]
   by_cases hd : d = i
   ·subst hd; simp [hik]
   ·simp [hd]
theorem zcn {f : Ent → Option Ent} : ∀ (s : List (Nat × Ent)) (d : Nat) (e' : Ent), zaM (zdc f s) d = some e' → ∃ e, zaM s d = some e ∧ f e = some e'
 | [], d, e', h => by simp [zdc, zaM] at h
 | (k, e) :: r, d, e', h => by
  simp only [zdc] at h
  split at h
  ·rename_i y hy
   simp only [zaM, Nat.beq_eq] at h ⊢
   by_cases hd : d = k
   ·simp only [hd, if_true, Option.some.injEq] at h ⊢
    subst h; exact ⟨e, rfl, hy⟩
   ·simp only [hd, if_false] at h ⊢; exact zcn r d e' h
  ·rw [zh4] at h
   split at h
   ·cases h
   ·rename_i hd
    simp only [zaM, Nat.beq_eq, hd, if_false]
    exact zcn r d e' h
theorem zkL {c c2 : Cx} (hβ : ∀ i, c2.β i = c.β i) (hh : ∀ i, c2.h i = c.h i) (i : Nat) (o : OS) : bl c2 i o = bl c i o := by
 cases o <;> simp [bl, hβ, hh]
theorem OS.fz_bl {n j : Nat} {e : SE} {o o' : OS} (h : OS.fz n j e o = some o') (c : Cx) (i : Nat) : bl c i o' = bl c i o := by
 cases o <;> simp only [OS.fz] at h
 ·obtain ⟨ys, _, rfl⟩ := Option.map_eq_some_iff.1 h; rfl
 all_goals (split at h; (simp only [Option.some.injEq] at h; subst h; rfl); cases h)
theorem zng (hm : MatchSt G n0 w0 Y c ρ st a w) {j : Nat} {o0 : OS} (hl : look st.own j = some o0) {e : SE} (h : zkd (some o0) = some e) :
  e.wf st.nenv st.D = true ∧ ∃ c2 : Cx, (∀ i, c2.β i = c.β i) ∧ (∀ i, c2.h i = c.h i) ∧ (∀ i, c2.L i = c.L i) ∧ c.Le c2 ∧ Imm c2 w ∧ (e.isRef = false → ∀ v, Rv c (.row j) v → Rv c2 (den ρ e) v) ∧
   (∀ cs, e = .ref cs 0 → ∀ k v, Rv c (.ptr j k) v → Rv c2 (.ref (dens ρ cs) k) v) ∧ (∀ b, bl c j o0 ≠ some b → (∀ off v, c2.I b off = some v → c.I b off = some v) ∧ ∀ o, c2.M b = some o → c.M b = some o) := by
 have hblk : ∀ b, bl c j o0 = some b → ∃ c2 : Cx, c2 = { c with I := fun b' off => if b' = b then w.cell? ⟨b', off, none⟩ else c.I b' off } ∧ c.Le c2 ∧ Imm c2 w ∧ (∀ b', b' ≠ b → (∀ off v, c2.I b' off = some v → c.I b' off = some v) ∧ ∀ o, c2.M b' = some o → c.M b' = some o) := by
  intro b hbl
  have hdis := hm.mem.disj j _ b hl hbl
  refine ⟨_, rfl, ⟨fun b' o v hv => ?_, fun _ _ hv => hv⟩, ⟨fun b' o v hv => ?_, fun b' o hv => hm.mem.imm.M b' o hv⟩, fun b' hb => ⟨fun off v hv => by simpa only [hb, if_false] using hv, fun _ hv => hv⟩⟩
  ·show (if b' = b then w.cell? ⟨b', o, none⟩ else c.I b' o) = some v
   by_cases hb : b' = b
   ·subst hb; exact absurd hv (hdis.1 o v)
   ·rw [if_neg hb]; exact hv
  ·by_cases hb : b' = b
   ·simp only [hb, if_true] at hv; rw [hb]; exact hv
   ·simp only [hb, if_false] at hv; exact hm.mem.imm.I _ _ _ hv
 have hwf := hm.mem.wf j _ hl
 cases o0 with
 | row sz e0 =>
  simp only [zkd] at h
  split at h
  case isFalse => cases h
  rename_i hno
  simp only [Option.some.injEq] at h; subst h
  rw [Bool.and_eq_true] at hno
  have hp := SE.noOwn_pure hm.mem.pure e0 hno.1
  obtain ⟨xs, hx, hrow⟩ := hm.mem.ok j _ hl
  have hpa : AV.pureAll xs = true := by rw [hx] at hp; simpa [AV.pure] using hp
  refine ⟨hwf, ?_⟩
  have noref : ∀ cs, e0 = .ref cs 0 → ∀ k v, Rv c (.ptr j k) v → ∀ c2 : Cx, Rv c2 (.ref (dens ρ cs) k) v := by
   intro cs hcs
   subst hcs
   simp only [den] at hx; cases hx
  cases hh : c.h j with
  | slice aa nn cap =>
   rw [hh] at hrow
   have inv : ∀ v, Rv c (.row j) v → v = .slice aa nn cap := by
    intro v hv
    cases hv with
    | row _ a2 n2 cap2 h2 => rw [hh] at h2; rw [h2]
   cases hrow with
   | nil => exact ⟨c, fun _ => rfl, fun _ => rfl, fun _ => rfl, Cx.Le.refl c, hm.mem.imm, fun _ v hv => by rw [inv v hv, hx]; exact .slnil, fun cs h1 k v h2 => noref cs h1 k v h2 _, fun _ _ => ⟨fun _ _ h => h, fun _ h => h⟩⟩
   | zero ad => exact ⟨c, fun _ => rfl, fun _ => rfl, fun _ => rfl, Cx.Le.refl c, hm.mem.imm, fun _ v hv => by rw [inv v hv, hx]; exact .sl0 ad, fun cs h1 k v h2 => noref cs h1 k v h2 _, fun _ _ => ⟨fun _ _ h => h, fun _ h => h⟩⟩
   | row b oo _ vs T _ q0 q1 q2 q3 q4 q5 =>
    have hbl : bl c j (.row sz e0) = some b := by simp [bl, hh, zay]; omega
    obtain ⟨c2, hc2, hle, himm, hoth⟩ := hblk b hbl
    refine ⟨c2, fun _ => by rw [hc2], fun _ => by rw [hc2], fun _ => by rw [hc2], hle, himm, fun _ v hv => ?_, fun cs h1 k v h2 => noref cs h1 k v h2 _, fun b' hb' => ?_⟩
    ·rw [inv v hv, hx]
     have hcap : xs.length * sz ≤ cap * sz := Nat.mul_le_mul_right _ q2
     refine .sl xs sz b oo cap q2 q4 ?_
     have hk : c.Keeps (fun _ => false) c2 := ⟨hle, fun _ h => Bool.noConfusion h, fun _ h => Bool.noConfusion h, fun _ h => Bool.noConfusion h⟩
     have q6 := za4 hk q5 (by rw [AV.under_flat, ← AV.under_zero_of_pureAll]; exact hpa)
     refine zbX q1 (fun off v hv => by rw [hc2]; simp only [if_true]; exact hv) q6 oo (fun j hj => ?_)
     simp only [List.length_take, List.length_drop] at hj
     rw [List.getElem?_take, if_pos (by omega), List.getElem?_drop]
    ·exact hoth b' fun e' => hb' (by rw [hbl, e'])
  | _ => rw [hh] at hrow; cases hrow
 | box cs =>
  simp only [zkd] at h
  split at h
  case isFalse => cases h
  rename_i hno
  simp only [Option.some.injEq] at h; subst h
  obtain ⟨vs, T, q1, q5, _⟩ := hm.mem.ok j _ hl
  have hpa := SE.noOwns_pure hm.mem.pure cs hno
  have hbl : bl c j (.box cs) = some (c.β j) := rfl
  obtain ⟨c2, hc2, hle, himm, hoth⟩ := hblk _ hbl
  refine ⟨by simp only [SE.wf]; exact hwf, c2, fun _ => by rw [hc2], fun _ => by rw [hc2], fun _ => by rw [hc2], hle, himm, (fun h => by cases h), fun cs' h1 k v h2 => ?_, fun b' hb' => hoth b' fun e' => hb' (by rw [hbl, e'])⟩
  cases h1
  cases h2
  have hk : c.Keeps (fun _ => false) c2 := ⟨hle, fun _ h => Bool.noConfusion h, fun _ h => Bool.noConfusion h, fun _ h => Bool.noConfusion h⟩
  have q6 := za4 hk q5 (by rw [← AV.under_zero_of_pureAll]; exact hpa)
  have := Rv.ref (c := c2) (dens ρ cs) (c.β j) 0 k (zbX q1 (fun off v hv => by rw [hc2]; simp only [if_true]; exact hv) q6 0 (fun i hi => by rw [Nat.zero_add]))
  simpa using this
 | _ => simp [zkd] at h
theorem zib (hm : MatchSt G n0 w0 Y c ρ st a w) (hGw : ∀ (g : Nat) es, G[g]? = some es → SE.wfs 0 (fun _ => false) es = true) {j : Nat} (h : zk9 st j = some st') :
  ∃ c2, MatchSt G n0 w0 Y c2 ρ st' a w ∧ c.Keeps (fun _ => true) c2 ∧ st'.nenv = st.nenv ∧ st'.nid = st.nid ∧ st'.sz = st.sz ∧ st'.D = st.D := by
 unfold zk9 at h
 split at h
 case h_2 => cases h
 rename_i e hfe
 split at h
 case h_2 => cases h
 rename_i own' hown
 simp only [Option.some.injEq] at h
 obtain ⟨o0, hl⟩ : ∃ o0, look st.own j = some o0 := by
  cases hl : look st.own j with
  | none => rw [hl] at hfe; simp [zkd] at hfe
  | some o0 => exact ⟨o0, rfl⟩
 rw [hl] at hfe
 have hctx := zng hm hl hfe
 obtain ⟨hew, hctx⟩ := hctx
 obtain ⟨c2, hβ, hhd, hL, hle, himm, hj, hpt, hother⟩ := hctx
 have hkA : c.Keeps (fun _ => true) c2 := ⟨hle, fun i _ => hβ i, fun i _ => hhd i, fun i _ => hL i⟩
 have hkj : c.Keeps (fun i => !Nat.beq i j) c2 := hkA.mono fun _ _ => rfl
 have hdom : (look own').dom = st.D := by
  funext i
  have := zeA _ _ hown i
  simp only [St.D, Lk.dom]
  cases hli : look st.own i with
  | none => rw [hli] at this; simp only at this; rw [this]
  | some o =>
   rw [hli] at this
   simp only at this
   split at this
   ·rw [this]; rfl
   ·obtain ⟨o', h1, _⟩ := this; rw [h1]; rfl
 have hcase : ∀ i o', look own' i = some o' → (i = j ∧ o' = .gone) ∨ (i ≠ j ∧ ∃ o, look st.own i = some o ∧ OS.fz st.nenv j e o = some o') := by
  intro i o' hi
  have := zeA _ _ hown i
  cases hli : look st.own i with
  | none => rw [hli] at this; simp only at this; rw [this] at hi; cases hi
  | some o =>
   rw [hli] at this
   simp only at this
   split at this
   ·rename_i hij; rw [this] at hi; exact .inl ⟨hij, (Option.some.inj hi).symm⟩
   ·rename_i hij
    obtain ⟨o2, h1, h2⟩ := this
    rw [h1] at hi
    simp only [Option.some.injEq] at hi; subst hi
    exact .inr ⟨hij, o, rfl, h2⟩
 subst h
 refine ⟨c2, ⟨⟨himm, hm.mem.pure, ?_, ?_, ?_, ?_, ?_, ?_, hm.mem.below, ?_⟩, hm.glob.keeps hle hGw, hm.sz, ?_, ?_, ?_, ?_⟩, hkA, rfl, rfl, rfl, hdom⟩
 ·intro i o' hi
  show o'.wf st.nenv (look own').dom = true
  rw [hdom]
  rcases hcase i o' hi with ⟨_, rfl⟩ | ⟨_, o, h1, h2⟩
  ·rfl
  ·have hw := hm.mem.wf i o h1
   cases o <;> simp only [OS.fz] at h2
   ·obtain ⟨ys, h3, rfl⟩ := Option.map_eq_some_iff.1 h2
    exact zgw hew _ ys h3 hw
   all_goals (split at h2; (simp only [Option.some.injEq] at h2; subst h2; exact hw); cases h2)
 ·intro i o' hi
  rcases hcase i o' hi with ⟨_, rfl⟩ | ⟨hij, o, h1, h2⟩
  ·trivial
  ·have ho := hm.mem.ok i o h1
   have hij' : (!Nat.beq i j) = true := nbeq hij
   have keep : o.wf st.nenv (fun i => !Nat.beq i j) = true → zgV c2 ρ w i o := fun hw =>
    ho.keeps hkj hij' hm.mem.pure (zam.refl _ _) hw (fun _ _ => rfl)
   cases o <;> simp only [OS.fz] at h2
   ·rename_i cs
    obtain ⟨ys, h3, rfl⟩ := Option.map_eq_some_iff.1 h2
    obtain ⟨vs, T, h4, h5, h6⟩ := ho
    exact ⟨vs, T, by rw [hβ]; exact h4, zcu hm.mem.pure hkj hj hpt _ ys vs h3 h5, by rw [hβ, hhd]; exact h6⟩
   all_goals
    split at h2
    ·rename_i hw
     simp only [Option.some.injEq] at h2; subst h2
     exact keep hw
    ·cases h2
 ·intro i k oi ok b hi hk bi bk
  rw [zkL hβ hhd] at bi bk
  rcases hcase i oi hi with ⟨_, rfl⟩ | ⟨_, o, h1, h2⟩
  ·simp [bl] at bi
  ·rcases hcase k ok hk with ⟨_, rfl⟩ | ⟨_, o', h3, h4⟩
   ·simp [bl] at bk
   ·rw [OS.fz_bl h2] at bi; rw [OS.fz_bl h4] at bk
    exact hm.mem.dist i k o o' b h1 h3 bi bk
 ·intro i o' b hi bi
  rw [zkL hβ hhd] at bi
  rcases hcase i o' hi with ⟨_, rfl⟩ | ⟨_, o, h1, h2⟩
  ·simp [bl] at bi
  ·rw [OS.fz_bl h2] at bi; exact hm.mem.fresh i o b h1 bi
 ·intro i o' b hi bi
  rw [zkL hβ hhd] at bi
  rcases hcase i o' hi with ⟨_, rfl⟩ | ⟨hij, o, h1, h2⟩
  ·simp [bl] at bi
  ·rw [OS.fz_bl h2] at bi
   have hd := hm.mem.disj i o b h1 bi
   have hne : bl c j o0 ≠ some b := fun hb => hij (hm.mem.dist i j o _ b h1 hl bi hb)
   have ho := hother b hne
   exact ⟨fun off v hv => hd.1 off v (ho.1 off v hv), fun ob hv => hd.2 ob (ho.2 ob hv)⟩
 ·intro b hb
  have hd := hm.mem.immlt b hb
  have hne : bl c j o0 ≠ some b := fun hbl => by have := (hm.mem.fresh j _ b hl hbl).2; omega
  have ho := hother b hne
  exact ⟨fun off v hv => hd.1 off v (ho.1 off v hv), fun ob hv => hd.2 ob (ho.2 ob hv)⟩
 ·intro b hb
  have hd := hm.mem.old b hb
  have hne : bl c j o0 ≠ some b := fun hbl => by have := (hm.mem.fresh j _ b hl hbl).1; omega
  have ho := hother b hne
  exact ⟨fun off v hv => hd.1 off v (ho.1 off v hv), fun ob hv => hd.2 ob (ho.2 ob hv)⟩
 ·intro d en hf
  show SlotOk c2 ρ st.nenv (look own').dom a.tmps d en
  rw [hdom]
  obtain ⟨e0, h1, h2⟩ := zcn _ d en hf
  have hs := hm.slots d e0 h1
  unfold Ent.fz at h2
  split at h2
  ·split at h2
   ·rename_i se h3
    simp only [Option.some.injEq] at h2; subst h2
    refine ⟨fun hp => ?_, hs.no, zoe hew _ se h3 hs.wf.1, hs.wf.2⟩
    obtain ⟨v, h4, h5⟩ := hs.yes hp
    exact ⟨v, h4, zjF hm.mem.pure hkj hj hpt _ se v h3 h5⟩
   ·cases h2
  ·cases h2
 ·show ze5 n0 c2 st.marks a.defers
  exact hm.dfr.keeps hm.mdom (hkA.mono fun _ _ => rfl)
 ·show ∀ i ∈ st.marks, i ≠ zal → (look own').dom i = true
  rw [hdom]; exact hm.mdom
 ·show zbK Y c2 ρ st.nenv (look own').dom
  rw [hdom]; exact hm.rnds.keeps (hkA.mono fun _ _ => rfl) (zam.refl _ _) hm.mem.pure (Nat.le_refl _) (fun _ h => h)
theorem zca (hGw : ∀ (g : Nat) es, G[g]? = some es → SE.wfs 0 (fun _ => false) es = true) : ∀ (js : List Nat) (c : Cx) (st : St), MatchSt G n0 w0 Y c ρ st a w →
  ∃ c2, MatchSt G n0 w0 Y c2 ρ (frz js st) a w ∧ c.Keeps (fun _ => true) c2 ∧ (frz js st).nenv = st.nenv ∧ (frz js st).nid = st.nid ∧ (frz js st).sz = st.sz ∧ (frz js st).D = st.D
 | [], c, st, hm => ⟨c, hm, Cx.Keeps.refl _ _, rfl, rfl, rfl, rfl⟩
 | j :: js, c, st, hm => by
  simp only [frz]
  split
  ·rename_i st1 h1
   obtain ⟨c1, m1, k1, e1, e2, e3, e4⟩ := zib hm hGw h1
   obtain ⟨c2, m2, k2, f1, f2, f3, f4⟩ := zca hGw js c1 st1 m1
   exact ⟨c2, m2, k1.trans k2, f1.trans e1, f2.trans e2, f3.trans e3, f4.trans e4⟩
  ·exact zca hGw js c st hm
end Go.Lb
namespace Go.Lb
open Go.RowKit
variable {Y : List (Nat × Rnd)} {n0 : Nat} {w0 : Base} {c c' c2 : Cx} {ρ ρ' : Nat → AV} {st st' : St} {a : Act} {w : World} {ro : Option Nat} {E : Env}
def resM (tmps : Array Value) : ResultVar → Sem Value
 | .tmp t => pure (tmps.getD t undef)
 | .cell a t => do loadVar t (← asAddr (tmps.getD a undef))
theorem zgL (fn : Func) (tmps : Array Value) : results fn tmps = (do
  let vs ← fn.results.mapM (resM tmps)
  pure (if h : vs.size = 1 then vs[0] else .tuple vs)) := rfl
theorem zhm {P : Program} {T : TypeId} {v u : Value} (h : (Instr.loadAt T v).run P w = .ok u w) : (do loadVar T (← asAddr v) : Sem Value).run P w = .ok u w := by
 unfold Instr.loadAt at h
 cases v with
 | pointer x => cases x with
  | none => simp [Instr.sureAddr, Sem.run_bind, stuck, Result.andThen] at h
  | some ad => simpa [Instr.sureAddr, asAddr, Sem.run_bind] using h
 | _ => simp [Instr.sureAddr, Sem.run_bind, stuck, Result.andThen] at h
theorem zfO {P : Program} {G : Glob} (hP : P = E.P) (hG : G = E.G) (hE : EnvOk E) (hm : MatchSt G n0 w0 Y c ρ st a w) : ∀ (rs : List ResultVar) (es : List SE) (ns : List Nd), zlz E st rs = some (es, ns) → ∀ (K : (Nat → AV) → Prop), zaZ P G ρ ns K →
  K ρ ∧ ∃ vs, (rs.mapM (resM a.tmps)).run P w = .ok vs w ∧ Rvs c (dens ρ es) vs := by
 subst hP hG
 intro rs
 induction rs with
 | nil =>
  intro es ns h K hk
  simp only [zlz, Option.some.injEq, Prod.mk.injEq] at h
  obtain ⟨rfl, rfl⟩ := h
  exact ⟨hk, [], rfl, .nil⟩
 | cons r rs ih =>
  intro es ns h K hk
  have hev : ∀ {x e}, evS E.G st.slots [] x = some e → Rv c (den ρ e) (a.eval x) := fun hx => (zb8 hm.slots hm.glob hE.G (Holds.nil ρ) hx).1
  simp only [zlz] at h
  split at h
  ·rename_i e ns1 es1 ms h1 h2
   simp only [Option.some.injEq, Prod.mk.injEq] at h
   obtain ⟨rfl, rfl⟩ := h
   have head : zaZ E.P E.G ρ ms K ∧ ∃ v, (resM a.tmps r).run E.P w = .ok v w ∧ Rv c (den ρ e) v := by
    split at h1
    ·rename_i t
     obtain ⟨e', h3, h4⟩ := Option.map_eq_some_iff.1 h1
     simp only [Prod.mk.injEq] at h4
     obtain ⟨rfl, rfl⟩ := h4
     exact ⟨hk, a.eval (.tmp t), rfl, hev h3⟩
    ·rename_i t T
     split at h1
     ·rename_i e' h3
      obtain ⟨x, h4, h5⟩ := Option.map_eq_some_iff.1 h1
      simp only [Prod.mk.injEq] at h5
      obtain ⟨rfl, rfl⟩ := h5
      obtain ⟨q1, q2⟩ := hk.chks
      obtain ⟨v, r1, r2⟩ := zfR (P := E.P) hm.mem (hev h3) (e := x.1) (ck := x.2) h4 (q1 (Holds.nil ρ))
      refine ⟨q2, v, ?_, r2⟩
      exact zhm r1
     ·cases h1
   obtain ⟨hk2, v, hv1, hv2⟩ := head
   obtain ⟨hk3, vs, r1, r2⟩ := ih es1 ms h2 K hk2
   refine ⟨hk3, v :: vs, ?_, .cons _ _ _ _ hv2 r2⟩
   simp only [List.mapM_cons, Sem.run_bind, hv1, Result.andThen_ok, r1, Sem.run_pure]
  ·cases h
theorem zeZ (hE : EnvOk E) (hm : MatchSt E.G n0 w0 Y c ρ st a w) {fn : Func} {e : SE} {ns : List Nd} (h : zgK E st fn.results = some (e, ns)) {K : (Nat → AV) → Prop} (hs : zaZ E.P E.G ρ ns K) :
  K ρ ∧ ∃ v, (results fn a.tmps).run E.P w = .ok v w ∧ Rv c (den ρ e) v := by
 have hrun : ∀ vs : List Value, ((fn.results.toList.mapM (resM a.tmps)).run E.P w = .ok vs w) → (fn.results.mapM (resM a.tmps)).run E.P w = .ok ⟨vs⟩ w := by
  intro vs hv
  rw [Array.mapM_eq_mapM_toList, Sem.run_map, hv]; rfl
 unfold zgK at h
 split at h
 ·rename_i e' ns' h1
  simp only [Option.some.injEq, Prod.mk.injEq] at h
  obtain ⟨rfl, rfl⟩ := h
  obtain ⟨hk, vs, r1, r2⟩ := zfO rfl rfl hE hm _ _ _ h1 K hs
  refine ⟨hk, ?_⟩
  cases r2 with
  | cons _ v _ vs r3 r4 =>
   cases r4
   refine ⟨v, ?_, r3⟩
   rw [zgL, Sem.run_bind, hrun _ r1]; rfl
 ·rename_i es ns' hne h1
  simp only [Option.some.injEq, Prod.mk.injEq] at h
  obtain ⟨rfl, rfl⟩ := h
  obtain ⟨hk, vs, r1, r2⟩ := zfO rfl rfl hE hm _ _ _ h1 K hs
  refine ⟨hk, .tuple ⟨vs⟩, ?_, .tup _ _ r2⟩
  rw [zgL, Sem.run_bind, hrun _ r1]
  simp only [Result.andThen_ok, Sem.run_pure]
  have hlen : vs.length ≠ 1 := by
   rw [Rvs.length r2, zab]
   intro hl
   match es, hl with
   | [e], _ => exact hne e rfl
  have : ¬ (Array.mk vs).size = 1 := by simpa using hlen
  rw [dif_neg this]
 ·cases h
def KOk (E : Env) (R : AV → Prop) (n0 : Nat) (w0 : Base) (Y : List (Nat × Rnd)) (d : Nat) (Lp : Nat → List AV → Prop) (c : Cx) (ρ : Nat → AV) (nenv : Nat) (D : Nat → Bool) (k : St → RT) (next : Act → World → Prop) : Prop :=
 ∀ (st' : St) (c' : Cx) (ρ' : Nat → AV) (Lp' : Nat → List AV → Prop) (a' : Act) (w' : World), Ext c ρ nenv D c' ρ' st'.nenv st'.D → MatchSt E.G n0 w0 Y c' ρ' st' a' w' → (∀ j, j < d → Lp' j = Lp j) → RTwp E.P E.G R (k st') Lp' ρ' → next a' w'
def KE.toExit : KE → Exit
 | .normal => .normal
 | .exit id => .exit id
 | .goto l => .goto l
 | .ret => .ret
def zdl (E : Env) (R : AV → Prop) (n0 : Nat) (w0 : Base) (Y : List (Nat × Rnd)) (d : Nat) (Lp : Nat → List AV → Prop) (c : Cx) (ρ : Nat → AV) (nenv : Nat) (D : Nat → Bool) (k : Kont) (Q : Exit → Act → World → Prop) : Prop :=
 ∀ ke, KOk E R n0 w0 Y d Lp c ρ nenv D (k ke) (Q ke.toExit)
theorem KOk.mono {R : AV → Prop} {d : Nat} {Lp Lp' : Nat → List AV → Prop} {nenv nenv' : Nat} {D D' : Nat → Bool} {k : St → RT} {next : Act → World → Prop} (h : KOk E R n0 w0 Y d Lp c ρ nenv D k next)
  (hx : Ext c ρ nenv D c' ρ' nenv' D') (hL : ∀ j, j < d → Lp' j = Lp j) : KOk E R n0 w0 Y d Lp' c' ρ' nenv' D' k next :=
 fun st' c2 ρ2 Lp2 a' w' h1 h2 h3 h4 => h st' c2 ρ2 Lp2 a' w' (hx.trans h1) h2 (fun j hj => (h3 j hj).trans (hL j hj)) h4
theorem zdl.mono {R : AV → Prop} {d : Nat} {Lp Lp' : Nat → List AV → Prop} {nenv nenv' : Nat} {D D' : Nat → Bool} {k : Kont} {Q : Exit → Act → World → Prop} (h : zdl E R n0 w0 Y d Lp c ρ nenv D k Q)
  (hx : Ext c ρ nenv D c' ρ' nenv' D') (hL : ∀ j, j < d → Lp' j = Lp j) : zdl E R n0 w0 Y d Lp' c' ρ' nenv' D' k Q :=
 fun ke => (h ke).mono hx hL
theorem zbi {P : Program} {G : Glob} {R : AV → Prop} {Lp : Nat → List AV → Prop} {ns : List Nd} {k : RT} (h : RTwp P G R (seg ns k) Lp ρ) : zaZ P G ρ ns (RTwp P G R k Lp) := by
 unfold seg at h
 cases ns with
 | nil => exact h
 | cons n ns => exact h
def zhL (E : Env) (R : AV → Prop) (n0 : Nat) (w0 : Base) (Y : List (Nat × Rnd)) (d : Nat) (rec : Bool → Nat → Code → St → Kont → RT) : Prop :=
 ∀ (rd : Bool) (fn : Nat) (code : Code) (st : St) (k : Kont) (ro : Option Nat) (n : Nat) (Q : Exit → Act → World → Prop) (c : Cx) (ρ : Nat → AV) (Lp : Nat → List AV → Prop) (a : Act) (w : World),
  (rd = false → ro = none) → MatchSt E.G n0 w0 Y c ρ st a w → zdl E R n0 w0 Y d Lp c ρ st.nenv st.D k Q → RTwp E.P E.G R (rec rd fn code st k) Lp ρ → code.wpIn (FW ro) n E.P Q a w
theorem zjD {xv : Ev} {n : Nat} {D : Nat → Bool} (hx : ∀ x e, xv x = some e → e.wf n D = true) : ∀ (xs : List Operand) (es : List SE), zby xv xs = some es → SE.wfs n D es = true := by
 intro xs
 induction xs with
 | nil => intro es h; simp only [zby, Option.some.injEq] at h; subst h; rfl
 | cons x xs ih =>
  intro es h
  simp only [zby] at h
  split at h
  ·rename_i e es' h1 h2
   simp only [Option.some.injEq] at h; subst h
   simp only [SE.wfs, hx x e h1, ih es' h2, Bool.and_self]
  ·cases h
theorem zcw {n : Nat} {D : Nat → Bool} : ∀ (xs ys : List SE), SE.wfs n D (xs ++ ys) = (SE.wfs n D xs && SE.wfs n D ys)
 | [], ys => by simp [SE.wfs]
 | x :: xs, ys => by simp only [List.cons_append, SE.wfs, zcw xs ys, Bool.and_assoc]
theorem zdY : ∀ (es : List SE) (i d : Nat) (en : Ent), zaM (zci i es) d = some en → i ≤ d ∧ ∃ e, es[d - i]? = some e ∧ en = ⟨[], e⟩
 | [], i, d, en, h => by simp [zci, zaM] at h
 | e :: es, i, d, en, h => by
  simp only [zci, zaM, Nat.beq_eq] at h
  split at h
  ·rename_i hd
   simp only [Option.some.injEq] at h; subst h
   exact ⟨by omega, e, by simp [hd], rfl⟩
  ·rename_i hd
   obtain ⟨h1, e', h2, h3⟩ := zdY es (i + 1) d en h
   refine ⟨by omega, e', ?_, h3⟩
   rw [show d - i = (d - (i + 1)) + 1 from by omega, List.getElem?_cons_succ]; exact h2
theorem ziS {as : List AV} {vs : List Value} (h : Rvs c as vs) : ∀ {i : Nat} {x : AV}, as[i]? = some x → ∃ v, vs[i]? = some v ∧ Rv c x v := by
 induction as generalizing vs with
 | nil => intro i x hx; simp at hx
 | cons a as ih =>
  cases h with
  | cons _ v _ vs h1 h2 =>
   intro i x hx
   cases i with
   | zero => simp at hx; subst hx; exact ⟨v, by simp, h1⟩
   | succ i => simp at hx; obtain ⟨u, r1, r2⟩ := ih h2 hx; exact ⟨u, by simpa using r1, r2⟩
theorem zf0 {n : Nat} {D : Nat → Bool} : ∀ {es : List SE} {i : Nat} {e : SE}, SE.wfs n D es = true → es[i]? = some e → e.wf n D = true
 | x :: xs, i, e, hw, h => by
  simp only [SE.wfs, Bool.and_eq_true] at hw
  cases i with
  | zero => simp at h; subst h; exact hw.1
  | succ i => simp at h; exact zf0 hw.2 h
theorem zeC {G : Glob} {own : Own} {nenv nid : Nat} (hY : zbK Y c ρ nenv (look own).dom) (hmem : Mem n0 w0 c ρ (look own) nenv w) (hg : zbD G c) {es : List SE} {vs : List Value} (hr : Rvs c (dens ρ es) vs) (hw : SE.wfs nenv (look own).dom es = true) (nt : Nat) :
  MatchSt G n0 w0 Y c ρ ⟨es.length + (nt - es.length), zci 0 es, own, nenv, nid, []⟩ { tmps := Array.mk vs ++ Array.replicate (nt - (Array.mk vs).size) undef, defers := [] } w := by
 have hl : vs.length = es.length := by rw [Rvs.length hr, zab]
 refine ⟨hmem, hg, ?_, ?_, ze5.nil _ _, (fun _ h => by cases h), hY⟩
 ·simp only [Array.size_append, Array.size_replicate, List.size_toArray, hl]
 ·intro d en hf
  obtain ⟨_, e, h2, rfl⟩ := zdY es 0 d en hf
  have hd : (dens ρ es)[d]? = some (den ρ e) := by rw [zaq?]; simp only [Nat.sub_zero] at h2; rw [h2]; rfl
  obtain ⟨v, h3, h4⟩ := ziS hr hd
  have hlt : d < vs.length := (List.getElem?_eq_some_iff.1 h3).1
  refine ⟨fun _ => ⟨v, ?_, h4⟩, fun hh => absurd (Holds.nil ρ) hh, zf0 hw h2, rfl⟩
  rw [Array.getElem?_append_left (by simpa using hlt)]
  simpa using h3
theorem Mem.dropTurn {L : Lk} {nenv : Nat} {w w' : World} (hm : Mem n0 w0 c ρ L nenv w) {i : Nat} {o : OS} {b : Nat} (hl : L i = some o) (hb : bl c i o = some b)
  (hother : ∀ k, k ≠ b → w'.heap[k]? = w.heap[k]?) (hsize : w'.heap.size = w.heap.size) (hos : w'.os = w.os) (htape : w'.tape = w.tape) (hout : w'.output = w.output) :
  Mem n0 w0 c ρ (L.upd i .gone) nenv w' := by
 have hfr := hm.fresh i o b hl hb
 have hdj := hm.disj i o b hl hb
 refine hm.step i .gone (Nat.le_refl _) (Cx.Keeps.refl _ _) (zam.refl _ _) hm.pure ?_ ?_ (by omega) ?_ hm.old rfl trivial ?_ (fun b h => by simp [bl] at h) (fun j o b _ => hm.disj j o b)
 ·refine hm.imm.keeps rfl rfl (fun k hk => hother k ?_)
  rintro rfl
  rcases hk with ⟨off, v, h⟩ | ⟨ob, h⟩
  ·exact hdj.1 off v h
  ·exact hdj.2 ob h
 ·intro k hk; exact hm.immlt k (by omega)
 ·exact hm.below.trans ⟨hos, htape, hout, by omega, fun k hk => hother k (by omega)⟩
 ·intro j oj bj hj hlj hbj
  refine hother bj ?_
  rintro rfl
  exact hj (hm.dist j i oj o bj hlj hl hbj hb)
theorem zb1 {i : Nat} {ms : List Nat} {own own1 : Own} (h : zaK (i :: ms) own = some own1) : i ≠ zal ∧ look own i = some .dfr ∧ zaK ms (zah own i .gone) = some own1 := by
 simp only [zaK] at h
 split at h
 ·cases h
 ·rename_i hne
  split at h
  ·rename_i hl
   exact ⟨fun e => hne (by rw [e]; exact Nat.beq_refl _), hl, h⟩
  ·cases h
theorem zdI : ∀ {ms : List Nat} {own own1 : Own}, zaK ms own = some own1 → zal ∉ ms
 | [], _, _, _ => by simp
 | i :: ms, own, own1, h => by
  obtain ⟨h1, _, h3⟩ := zb1 h
  simp only [List.mem_cons, not_or]
  exact ⟨fun e => h1 e.symm, zdI h3⟩
theorem zcj : ∀ {ms : List Nat} {own own1 : Own}, zaK ms own = some own1 → ∀ i, (look own).dom i = true → (look own1).dom i = true
 | [], own, own1, h, i, hi => by simp only [zaK, Option.some.injEq] at h; subst h; exact hi
 | m :: ms, own, own1, h, i, hi => by
  obtain ⟨_, _, h⟩ := zb1 h
  refine zcj h i ?_
  rw [zac]; exact Lk.dom_upd _ _ _ _ hi
theorem zdJ {F : Fence} {n : Nat} {P : Program} {fn : Func} {tmps : Array Value} {R : Ending → World → Prop} {nenv : Nat} : ∀ (ms : List Nat) (own own1 : Own) (w : World), zaK ms own = some own1 → Mem n0 w0 c ρ (look own) nenv w →
  (∀ w', Mem n0 w0 c ρ (look own1) nenv w' → ∃ v, (results fn tmps).run P w' = .ok v w' ∧ R (.returned v) w') → LeavesInM F n P fn tmps R (ms.map (zil c)) .returning w
 | [], own, own1, w, h, hm, hfin => by
  simp only [zaK, Option.some.injEq] at h; subst h
  exact hfin w hm
 | i :: ms, own, own1, w, h, hm, hfin => by
  obtain ⟨_, hl, h⟩ := zb1 h
  have hb : w.heap[c.β i]? = some (.deferred (some [])) := hm.ok i _ hl
  have hlt := (Array.getElem?_eq_some_iff.1 hb).1
  refine ⟨by simp, .inl ⟨c.β i, _, rfl, run_takeDeferred hb, zdJ ms _ own1 _ h ?_ hfin⟩⟩
  rw [zac]
  exact hm.dropTurn hl rfl (fun k hk => World.putObj_heap_other hk) World.putObj_size rfl rfl rfl
theorem Mem.other {L : Lk} {nenv : Nat} {w w' : World} (hm : Mem n0 w0 c ρ L nenv w) {b : Nat} (hfree : ∀ i o, L i = some o → bl c i o ≠ some b) (hI : ∀ off v, c.I b off ≠ some v) (hM : ∀ ob, c.M b ≠ some ob) (hge : n0 ≤ b)
  (hother : ∀ k, k ≠ b → w'.heap[k]? = w.heap[k]?) (hsize : w'.heap.size = w.heap.size) (hos : w'.os = w.os) (htape : w'.tape = w.tape) (hout : w'.output = w.output) : Mem n0 w0 c ρ L nenv w' := by
 refine ⟨?_, hm.pure, hm.wf, fun i o hl => ?_, hm.dist, fun i o k hl hb => by have := hm.fresh i o k hl hb; omega, hm.disj, fun k hk => hm.immlt k (by omega), ?_, hm.old⟩
 ·refine hm.imm.keeps rfl rfl (fun k hk => hother k ?_)
  rintro rfl
  rcases hk with ⟨off, v, h⟩ | ⟨ob, h⟩
  ·exact hI off v h
  ·exact hM ob h
 ·refine (hm.ok i o hl).keeps (Cx.Keeps.refl _ _) (Lk.dom_of hl) hm.pure (zam.refl _ _) (hm.wf i o hl) (fun k hk => hother k ?_)
  rintro rfl
  exact hfree i o hl hk
 ·exact hm.below.trans ⟨hos, htape, hout, by omega, fun k hk => hother k (by omega)⟩
structure FreeBs (n0 : Nat) (c : Cx) (L : Lk) (bs : List Nat) (w : World) : Prop where
 nodup : bs.Nodup
 obj : ∀ b ∈ bs, w.heap[b]? = some (.deferred (some [])) ∧ n0 ≤ b ∧ (∀ i o, L i = some o → bl c i o ≠ some b) ∧ (∀ off v, c.I b off ≠ some v) ∧ (∀ ob, c.M b ≠ some ob)
theorem zeW {F : Fence} {n : Nat} {P : Program} {fn : Func} {tmps : Array Value} {R : Ending → World → Prop} {nenv : Nat} {L : Lk} : ∀ (bs : List Nat) (w : World), Mem n0 w0 c ρ L nenv w → FreeBs n0 c L bs w →
  (∀ w', Mem n0 w0 c ρ L nenv w' → ∃ v, (results fn tmps).run P w' = .ok v w' ∧ R (.returned v) w') → LeavesInM F n P fn tmps R (bs.map coll) .returning w
 | [], w, hm, _, hfin => hfin w hm
 | b :: bs, w, hm, hf, hfin => by
  obtain ⟨h1, h2, h3, h4, h5⟩ := hf.obj b (List.mem_cons_self ..)
  refine ⟨by simp, .inl ⟨b, _, rfl, run_takeDeferred h1, zeW bs _ (hm.other h3 h4 h5 h2 (fun k hk => World.putObj_heap_other hk) World.putObj_size rfl rfl rfl) ?_ hfin⟩⟩
  have hnd := List.nodup_cons.1 hf.nodup
  refine ⟨hnd.2, fun k hk => ?_⟩
  have hne : k ≠ b := fun e => hnd.1 (e ▸ hk)
  have := hf.obj k (List.mem_cons_of_mem _ hk)
  exact ⟨(World.putObj_heap_other hne).trans this.1, this.2⟩
theorem zeV {nenv : Nat} {w : World} : ∀ {ms : List Nat} {own own1 : Own}, zaK ms own = some own1 → Mem n0 w0 c ρ (look own) nenv w →
  Mem n0 w0 c ρ (look own1) nenv w ∧ (ms.map c.β).Nodup ∧ (∀ i ∈ ms, look own i = some .dfr) ∧ (∀ i o, look own1 i = some o → o ≠ .gone → look own i = some o ∧ i ∉ ms)
 | [], own, own1, h, hm => by
  simp only [zaK, Option.some.injEq] at h; subst h
  exact ⟨hm, by simp, by simp, fun i o h _ => ⟨h, by simp⟩⟩
 | i :: ms, own, own1, h, hm => by
  obtain ⟨_, hl, h⟩ := zb1 h
  have hm2 : Mem n0 w0 c ρ (look (zah own i .gone)) nenv w := by
   rw [zac]
   exact hm.dropTurn hl rfl (fun _ _ => rfl) rfl rfl rfl rfl
  obtain ⟨q1, q2, q3, q4⟩ := zeV h hm2
  have hms : ∀ j ∈ ms, j ≠ i ∧ look own j = some .dfr := by
   intro j hj
   have := q3 j hj
   rw [zac] at this
   by_cases hji : j = i
   ·subst hji; rw [Lk.upd_same] at this; cases this
   ·rw [Lk.upd_other _ _ hji] at this; exact ⟨hji, this⟩
  refine ⟨q1, ?_, ?_, ?_⟩
  ·rw [List.map_cons, List.nodup_cons]
   refine ⟨fun hmem => ?_, q2⟩
   obtain ⟨j, hj, he⟩ := List.mem_map.1 hmem
   obtain ⟨h1, h2⟩ := hms j hj
   exact h1 (hm.dist j i _ _ (c.β i) h2 hl (by show some (c.β j) = _; rw [he]) rfl)
  ·intro j hj
   rcases List.mem_cons.1 hj with rfl | hj
   ·exact hl
   ·exact (hms j hj).2
  ·intro j o hjo hne
   obtain ⟨h1, h2⟩ := q4 j o hjo hne
   rw [zac] at h1
   by_cases hji : j = i
   ·subst hji; rw [Lk.upd_same] at h1; simp only [Option.some.injEq] at h1; exact absurd h1.symm hne
   ·rw [Lk.upd_other _ _ hji] at h1
    exact ⟨h1, by simp only [List.mem_cons, not_or]; exact ⟨hji, h2⟩⟩
def zd9 (β : Nat → Nat) (S : List Nat) (ms : List Nat) : List Nat := ms.flatMap fun i => if i = zal then S else [β i]
theorem zho (S : List Nat) : ∀ (ms : List Nat), zeX c S ms = (zd9 c.β S ms).map coll
 | [] => rfl
 | i :: ms => by
  have ih := zho S ms
  unfold zeX zd9 at ih ⊢
  rw [List.flatMap_cons, List.flatMap_cons, List.map_append, ih]
  congr 1
  by_cases hi : i = zal
  ·rw [if_pos hi, if_pos hi]
  ·rw [if_neg hi, if_neg hi]; rfl
theorem zeB {β : Nat → Nat} {S ms : List Nat} {b : Nat} : b ∈ zd9 β S ms ↔ (zal ∈ ms ∧ b ∈ S) ∨ ∃ i ∈ ms, i ≠ zal ∧ b = β i := by
 unfold zd9
 rw [List.mem_flatMap]
 constructor
 ·rintro ⟨i, hi, hb⟩
  by_cases he : i = zal
  ·rw [if_pos he] at hb; exact .inl ⟨he ▸ hi, hb⟩
  ·rw [if_neg he, List.mem_singleton] at hb; exact .inr ⟨i, hi, he, hb⟩
 ·rintro (⟨h1, h2⟩ | ⟨i, hi, he, rfl⟩)
  ·exact ⟨zal, h1, by rw [if_pos rfl]; exact h2⟩
  ·exact ⟨i, hi, by rw [if_neg he]; exact List.mem_singleton.2 rfl⟩
theorem zc1 {β : Nat → Nat} {S : List Nat} (hS : S.Nodup) : ∀ {ms : List Nat}, ms.Nodup → (∀ i ∈ ms, ∀ j ∈ ms, i ≠ zal → j ≠ zal → β i = β j → i = j) → (∀ i ∈ ms, i ≠ zal → β i ∉ S) → (zd9 β S ms).Nodup
 | [], _, _, _ => List.nodup_nil
 | i :: ms, hn, hi, hd => by
  have hn' := List.nodup_cons.1 hn
  have ih := zc1 hS hn'.2 (fun a ha b hb => hi a (List.mem_cons_of_mem _ ha) b (List.mem_cons_of_mem _ hb)) (fun a ha => hd a (List.mem_cons_of_mem _ ha))
  show ((if i = zal then S else [β i]) ++ zd9 β S ms).Nodup
  rw [List.nodup_append]
  refine ⟨?_, ih, ?_⟩
  ·split
   ·exact hS
   ·simp
  ·intro x hx y hy hxy
   subst hxy
   rcases zeB.1 hy with ⟨h1, h2⟩ | ⟨j, hj, hjo, rfl⟩
   ·by_cases he : i = zal
    ·exact hn'.1 (he ▸ h1)
    ·rw [if_neg he, List.mem_singleton] at hx
     exact hd i (List.mem_cons_self ..) he (hx ▸ h2)
   ·by_cases he : i = zal
    ·rw [if_pos he] at hx
     exact hd j (List.mem_cons_of_mem _ hj) hjo hx
    ·rw [if_neg he, List.mem_singleton] at hx
     have := hi i (List.mem_cons_self ..) j (List.mem_cons_of_mem _ hj) he hjo hx.symm
     exact hn'.1 (this ▸ hj)
theorem zme {w : World} {b off : Nat} {v : Value} (h : w.heap[b]? = some (.deferred (some []))) : w.cell? ⟨b, off, none⟩ ≠ some v := by
 simp only [World.cell?, h]
 simp
def Cx.dropM (c : Cx) (S : List Nat) : Cx := { c with M := fun b => if b ∈ S then none else c.M b }
theorem zgW {S : List Nat} (hS : ∀ b ∈ S, c.M b = some (.deferred (some []))) : ∀ {a : AV} {v : Value}, Rv c a v → Rv (c.dropM S) a v := by
 intro a v h
 refine Rv.rec (motive_1 := fun a v _ => Rv (c.dropM S) a v) (motive_2 := fun as vs _ => Rvs (c.dropM S) as vs) (motive_3 := fun b o as _ => Rcells (c.dropM S) b o as)
  ?_ ?_ ?_ ?_ ?_ ?_ ?_ ?_ ?_ ?_ ?_ ?_ ?_ ?_ ?_ ?_ ?_ ?_ ?_ ?_ ?_ ?_ ?_ ?_ h
 ·intro v h; exact .undef v h
 ·intro b; exact .bool b
 ·intro k m; exact .int k m
 ·exact .nilp
 ·exact .nilf
 ·exact .nsl
 ·intro cs vs _ ih; exact .agg cs vs ih
 ·intro cs vs _ ih; exact .tup cs vs ih
 ·exact .slnil
 ·intro a; exact .sl0 a
 ·intro es sz b o cap h1 h2 _ ih; exact .sl es sz b o cap h1 h2 ih
 ·intro es sz b o i off h2 _ hi ih; exact .eptr es sz b o i off h2 ih hi
 ·intro cs b o off _ ih; exact .ref cs b o off ih
 ·intro f fs cs vf vc _ _ ih1 ih2; exact .clo f fs cs vf vc ih1 ih2
 ·intro k ks vs b clk es h1 h2 _ ih
  refine .mp k ks vs b clk es ?_ h2 ih
  show (if b ∈ S then none else c.M b) = _
  rw [if_neg (fun hb => by rw [hS b hb] at h1; cases h1)]; exact h1
 ·intro i off; exact .ptr (c := c.dropM S) i off
 ·intro i a m cap he; exact .row i a m cap he
 ·intro i k sz off b o m cap he; exact .rptr i k sz off b o m cap he
 ·intro i; exact .yield (c := c.dropM S) i
 ·intro i; exact .mref (c := c.dropM S) i
 ·exact .nil
 ·intro a v as vs _ _ ih1 ih2; exact .cons a v as vs ih1 ih2
 ·intro b o; exact .nil b o
 ·intro b o a v as h1 _ _ ih1 ih2; exact .cons b o a v as h1 ih1 ih2
theorem zdX {S : List Nat} (hS : ∀ b ∈ S, c.M b = some (.deferred (some []))) : ∀ {as : List AV} {vs : List Value}, Rvs c as vs → Rvs (c.dropM S) as vs
 | _, _, .nil => .nil
 | _, _, .cons a v as vs h1 h2 => .cons a v as vs (zgW hS h1) (zdX hS h2)
theorem zeL {S : List Nat} (hS : ∀ b ∈ S, c.M b = some (.deferred (some []))) : ∀ {b o : Nat} {as : List AV}, Rcells c b o as → Rcells (c.dropM S) b o as
 | _, _, _, .nil b o => .nil b o
 | _, _, _, .cons b o a v as h1 h2 h3 => .cons b o a v as h1 (zgW hS h2) (zeL hS h3)
theorem zcs {S : List Nat} {b : Nat} {o : Obj} (h : (c.dropM S).M b = some o) : c.M b = some o ∧ b ∉ S := by
 have h : (if b ∈ S then none else c.M b) = some o := h
 split at h
 ·cases h
 ·exact ⟨h, by assumption⟩
theorem Mem.dropM {L : Lk} {nenv : Nat} {S : List Nat} (hS : ∀ b ∈ S, c.M b = some (.deferred (some []))) (hm : Mem n0 w0 c ρ L nenv w) : Mem n0 w0 (c.dropM S) ρ L nenv w := by
 have hbl : ∀ i o, bl (c.dropM S) i o = bl c i o := fun i o => by cases o <;> rfl
 refine ⟨⟨hm.imm.I, fun b o h => hm.imm.M b o (zcs h).1⟩, hm.pure, hm.wf, fun i o hl => ?_, fun i j oi oj b hi hj bi bj => ?_, fun i o b hl hb => ?_, fun i o b hl hb => ?_, fun b hb => ⟨(hm.immlt b hb).1, fun ob h => (hm.immlt b hb).2 ob (zcs h).1⟩, hm.below, fun b hb => ⟨(hm.old b hb).1, fun o h => (hm.old b hb).2 o (zcs h).1⟩⟩
 ·have h := hm.ok i o hl
  cases o with
  | box cs => obtain ⟨vs, T, h1, h2, h3⟩ := h; exact ⟨vs, T, h1, zdX hS h2, h3⟩
  | row sz e =>
   obtain ⟨xs, h1, h2⟩ := h
   refine ⟨xs, h1, ?_⟩
   show RowOk (c.dropM S) w sz (c.h i) xs
   generalize c.h i = hv at h2 ⊢
   cases h2 with
   | nil => exact .nil
   | zero ad => exact .zero ad
   | row b o cap vs T _ q0 q1 q2 q3 q4 q5 => exact .row b o cap vs T xs q0 q1 q2 q3 q4 (zdX hS q5)
  | mapo k ks vs => obtain ⟨es, clk, h1, h2, h3⟩ := h; exact ⟨es, clk, h1, h2, zdX hS h3⟩
  | dfr => exact h
  | loop s => exact h
  | gone => trivial
 ·rw [hbl] at bi bj; exact hm.dist i j oi oj b hi hj bi bj
 ·rw [hbl] at hb; exact hm.fresh i o b hl hb
 ·rw [hbl] at hb
  exact ⟨(hm.disj i o b hl hb).1, fun ob h => (hm.disj i o b hl hb).2 ob (zcs h).1⟩
theorem zbo.dropM {S : List Nat} (hS : ∀ b ∈ S, c.M b = some (.deferred (some []))) {nenv : Nat} {D : Nat → Bool} {t : Array Value} {s : List (Nat × Ent)} (h : zbo c ρ nenv D t s) : zbo (c.dropM S) ρ nenv D t s := by
 intro d e hf
 have := h d e hf
 refine ⟨fun hp => ?_, this.no, this.wf⟩
 obtain ⟨v, h1, h2⟩ := this.yes hp
 exact ⟨v, h1, zgW hS h2⟩
theorem zex {e : SE} : ∀ {C : List SE} {n i : Nat}, idxOf e C n = some i → ∃ j, i = n + j ∧ C[j]? = some e
 | [], n, i, h => by simp [idxOf] at h
 | x :: xs, n, i, h => by
  simp only [idxOf] at h
  split at h
  ·rename_i hb
   simp only [Option.some.injEq] at h
   exact ⟨0, by omega, by rw [SE.beq_eq _ _ hb]; rfl⟩
  ·obtain ⟨j, h1, h2⟩ := zex h
   exact ⟨j + 1, by omega, by simpa using h2⟩
mutual
theorem zlB {C : List SE} {n : Nat} {D : Nat → Bool} (ha : zam n ρ ρ') (hv : ∀ j x, C[j]? = some x → ρ' (n + j) = den ρ x) : ∀ (e : SE), e.wf n D = true → den ρ' (SE.rp C n e) = den ρ e
 | .app o cs, hw => by
  simp only [SE.rp]
  split
  ·rename_i i h
   obtain ⟨j, rfl, h2⟩ := zex h
   simp only [den]
   have := hv j _ h2
   simpa only [den] using this
  ·exact zat ha _ hw
 | .agg cs, hw => by simp only [SE.rp, den]; rw [zdN ha hv cs (by simpa only [SE.wf] using hw)]
 | .tup cs, hw => by simp only [SE.rp, den]; rw [zdN ha hv cs (by simpa only [SE.wf] using hw)]
 | .ref cs k, hw => by simp only [SE.rp, den]; rw [zdN ha hv cs (by simpa only [SE.wf] using hw)]
 | .clo f a b, hw => by
  simp only [SE.wf, Bool.and_eq_true] at hw
  simp only [SE.rp, den]; rw [zdN ha hv a hw.1, zdN ha hv b hw.2]
 | .inp _, hw | .undef, hw | .bool _, hw | .int _ _, hw | .nilp, hw | .nilf, hw | .nils, hw | .enil, hw | .mp _ _ _, hw | .ptr _ _, hw | .ptrx _ _ _ _ _ _, hw | .row _, hw | .rptr _ _ _ _, hw | .yield _, hw | .mref _, hw => by
  simp only [SE.rp]
  exact zat ha _ hw
theorem zdN {C : List SE} {n : Nat} {D : Nat → Bool} (ha : zam n ρ ρ') (hv : ∀ j x, C[j]? = some x → ρ' (n + j) = den ρ x) : ∀ (es : List SE), SE.wfs n D es = true → dens ρ' (SE.rps C n es) = dens ρ es
 | [], _ => rfl
 | e :: es, hw => by
  simp only [SE.wfs, Bool.and_eq_true] at hw
  simp only [SE.rps, dens]; rw [zlB ha hv e hw.1, zdN ha hv es hw.2]
end
mutual
theorem znC {C : List SE} {n : Nat} {D : Nat → Bool} : ∀ (e : SE), e.wf n D = true → (SE.rp C n e).wf (n + C.length) D = true
 | .app o cs, hw => by
  simp only [SE.rp]
  split
  ·rename_i i h
   obtain ⟨j, rfl, h2⟩ := zex h
   have := (List.getElem?_eq_some_iff.1 h2).1
   simp [SE.wf]; omega
  ·exact SE.wf_mono (Nat.le_add_right _ _) (fun _ h => h) hw
 | .agg cs, hw => by simp only [SE.rp, SE.wf] at hw ⊢; exact zfP cs hw
 | .tup cs, hw => by simp only [SE.rp, SE.wf] at hw ⊢; exact zfP cs hw
 | .ref cs k, hw => by simp only [SE.rp, SE.wf] at hw ⊢; exact zfP cs hw
 | .clo f a b, hw => by
  simp only [SE.rp, SE.wf, Bool.and_eq_true] at hw ⊢
  exact ⟨zfP a hw.1, zfP b hw.2⟩
 | .inp _, hw | .undef, hw | .bool _, hw | .int _ _, hw | .nilp, hw | .nilf, hw | .nils, hw | .enil, hw | .mp _ _ _, hw | .ptr _ _, hw | .ptrx _ _ _ _ _ _, hw | .row _, hw | .rptr _ _ _ _, hw | .yield _, hw | .mref _, hw => by
  simp only [SE.rp]
  exact SE.wf_mono (Nat.le_add_right _ _) (fun _ h => h) hw
theorem zfP {C : List SE} {n : Nat} {D : Nat → Bool} : ∀ (es : List SE), SE.wfs n D es = true → SE.wfs (n + C.length) D (SE.rps C n es) = true
 | [], _ => rfl
 | e :: es, hw => by
  simp only [SE.wfs, Bool.and_eq_true] at hw
  simp only [SE.rps, SE.wfs, Bool.and_eq_true]
  exact ⟨znC e hw.1, zfP es hw.2⟩
end
theorem zgj {P : Program} {G : Glob} {n : Nat} {D : Nat → Bool} {K : (Nat → AV) → Prop} : ∀ (C : List SE) (k : Nat) (ρk : Nat → AV), (∀ x ∈ C, x.noOwn = true ∧ x.wf n D = true) → zam n ρ ρk → (∀ i, (ρk i).pure = true) → zaZ P G ρk (binds (n + k) C) K →
  ∃ ρ', zam (n + k) ρk ρ' ∧ (∀ i, (ρ' i).pure = true) ∧ (∀ j x, C[j]? = some x → ρ' (n + k + j) = den ρ x) ∧ K ρ'
 | [], k, ρk, _, _, hp, h => ⟨ρk, zam.refl _ _, hp, by simp, h⟩
 | e :: es, k, ρk, hC, ha, hp, h => by
  have he := hC e (List.mem_cons_self ..)
  have hd : den ρk e = den ρ e := zat ha e he.2
  have h : zaZ P G (zaC ρk (n + k) (den ρk e)) (binds (n + (k + 1)) es) K := h
  have ha1 := zaP ρk (n + k) (den ρk e)
  have hp1 := zbr hp (n + k) (SE.noOwn_pure hp e he.1)
  obtain ⟨ρ', b1, b2, b3, b4⟩ := zgj es (k + 1) _ (fun x hx => hC x (List.mem_cons_of_mem _ hx)) (ha.trans (ha1.mono (by omega))) hp1 h
  refine ⟨ρ', ha1.trans (b1.mono (by omega)), b2, fun j x hx => ?_, b4⟩
  cases j with
  | zero =>
   simp only [List.getElem?_cons_zero, Option.some.injEq] at hx; subst hx
   have := b1 (n + k) (by omega)
   rw [Nat.add_zero, this, zbH, hd]
  | succ j =>
   have := b3 j x (by simpa using hx)
   rw [show n + k + (j + 1) = n + (k + 1) + j from by omega]; exact this
theorem zmv (f : OS → OS) (own : Own) (i : Nat) : look (own.map fun x => (x.1, f x.2)) i = (look own i).map f := by
 induction own with
 | nil => rfl
 | cons x own ih =>
  obtain ⟨j, o⟩ := x
  simp only [List.map_cons, look]
  split
  ·rfl
  ·exact ih
theorem zkc (f : Ent → Ent) (s : List (Nat × Ent)) (d : Nat) : zaM (s.map fun x => (x.1, f x.2)) d = (zaM s d).map f := by
 induction s with
 | nil => rfl
 | cons x s ih =>
  obtain ⟨j, o⟩ := x
  simp only [List.map_cons, zaM]
  split
  ·rfl
  ·exact ih
theorem zim {G : Glob} (hm : MatchSt G n0 w0 Y c ρ st a w) {C : List SE} (ha : zam st.nenv ρ ρ') (hp : ∀ i, (ρ' i).pure = true) (hv : ∀ j x, C[j]? = some x → ρ' (st.nenv + j) = den ρ x) :
  MatchSt G n0 w0 Y c ρ' (zea C st) a w ∧ (zea C st).D = st.D := by
 have hlook : ∀ i, look (zea C st).own i = (look st.own i).map (OS.rp C st.nenv) := fun i => zmv _ _ i
 have hdom : (look (zea C st).own).dom = (look st.own).dom := by
  funext i; simp only [Lk.dom, hlook]; cases look st.own i <;> rfl
 have hbl : ∀ (o : OS) (i : Nat), bl c i (OS.rp C st.nenv o) = bl c i o := fun o i => by cases o <;> rfl
 have hget : ∀ i o', look (zea C st).own i = some o' → ∃ o, look st.own i = some o ∧ o' = OS.rp C st.nenv o := fun i o' h => by
  rw [hlook] at h
  obtain ⟨o, h1, h2⟩ := Option.map_eq_some_iff.1 h
  exact ⟨o, h1, h2.symm⟩
 have hle : st.nenv ≤ (zea C st).nenv := Nat.le_add_right _ _
 refine ⟨⟨⟨hm.mem.imm, hp, ?_, ?_, ?_, ?_, ?_, hm.mem.immlt, hm.mem.below, hm.mem.old⟩, hm.glob, hm.sz, ?_, hm.dfr, ?_, ?_⟩, hdom⟩
 ·intro i o' h
  obtain ⟨o, h1, rfl⟩ := hget i o' h
  have hw := hm.mem.wf i o h1
  rw [hdom]
  cases o <;> simp only [OS.rp, OS.wf] at hw ⊢
  ·exact zfP _ hw
  ·exact znC _ hw
  ·exact SE.wfs_mono hle (fun _ h => h) hw
 ·intro i o' h
  obtain ⟨o, h1, rfl⟩ := hget i o' h
  have hw := hm.mem.wf i o h1
  have ho := hm.mem.ok i o h1
  cases o <;> simp only [OS.rp, OS.wf, zgV] at hw ho ⊢
  ·rw [zdN ha hv _ hw]; exact ho
  ·rw [zlB ha hv _ hw]; exact ho
  ·rw [zau ha _ hw]; exact ho
  all_goals exact ho
 ·intro i j oi oj b hi hj bi bj
  obtain ⟨o, h1, rfl⟩ := hget i oi hi
  obtain ⟨o', h2, rfl⟩ := hget j oj hj
  rw [hbl] at bi bj
  exact hm.mem.dist i j o o' b h1 h2 bi bj
 ·intro i o' b h bi
  obtain ⟨o, h1, rfl⟩ := hget i o' h
  rw [hbl] at bi
  exact hm.mem.fresh i o b h1 bi
 ·intro i o' b h bi
  obtain ⟨o, h1, rfl⟩ := hget i o' h
  rw [hbl] at bi
  exact hm.mem.disj i o b h1 bi
 ·intro d e' hf
  have hf : (zaM st.slots d).map (fun e : Ent => (⟨e.pcs, SE.rp C st.nenv e.se⟩ : Ent)) = some e' := by rw [← hf]; exact (zkc (fun e : Ent => (⟨e.pcs, SE.rp C st.nenv e.se⟩ : Ent)) st.slots d).symm
  obtain ⟨e, h1, rfl⟩ := Option.map_eq_some_iff.1 hf
  have hs := hm.slots d e h1
  show SlotOk c ρ' (st.nenv + C.length) (look (zea C st).own).dom a.tmps d _
  rw [hdom]
  refine ⟨fun hh => ?_, fun hh => ?_, znC _ hs.wf.1, zdd (Nat.le_add_right _ _) (fun _ h => h) hs.wf.2⟩
  ·obtain ⟨v, h2, h3⟩ := hs.yes ((zaQ ha hs.wf.2).1 hh)
   exact ⟨v, h2, by rw [zlB ha hv _ hs.wf.1]; exact h3⟩
  ·exact hs.no fun h' => hh ((zaQ ha hs.wf.2).2 h')
 ·rw [hdom]; exact hm.mdom
 ·rw [hdom]; exact hm.rnds.keeps (Cx.Keeps.refl _ _) ha hm.mem.pure hle (fun _ h => h)
theorem KOk.named {R : AV → Prop} {d : Nat} {Lp : Nat → List AV → Prop} {nenv : Nat} {D : Nat → Bool} {k : St → RT} {next : Act → World → Prop} (h : KOk E R n0 w0 Y d Lp c ρ nenv D k next) : KOk E R n0 w0 Y d Lp c ρ nenv D (named E k) next := by
 intro st' c' ρ' Lp' a' w' hx hm hL hr
 unfold Go.Lb.named at hr
 split at hr
 ·exact h st' c' ρ' Lp' a' w' hx hm hL hr
 ·rename_i T _
  split at hr
  ·exact h st' c' ρ' Lp' a' w' hx hm hL hr
  ·rename_i hC
   have hmem : ∀ x ∈ zfd T st', x.noOwn = true ∧ x.wf st'.nenv st'.D = true := fun x hx => by
    unfold zfd at hx
    have := (List.mem_filter.1 hx).2
    simpa only [Bool.and_eq_true] using this
   generalize zfd T st' = C' at hmem hr
   obtain ⟨ρ2, b1, b2, b3, b4⟩ := zgj (ρ := ρ') (D := st'.D) C' 0 ρ' hmem (zam.refl _ _) hm.mem.pure (zbi hr)
   simp only [Nat.add_zero] at b1 b3
   obtain ⟨m1, m2⟩ := zim hm b1 b2 b3
   refine h (zea C' st') c' ρ2 Lp' a' w' (hx.trans ⟨Cx.Keeps.refl _ _, b1, Nat.le_add_right _ _, fun i hi => by rw [m2]; exact hi⟩) m1 hL b4
end Go.Lb
