/- Regions that draw their order: all orders come to the same. -/
import Derived.Test.YtkcpgfjlmicnnaaGreatDoorFw8
set_option linter.unusedSimpArgs false
set_option linter.unusedVariables false
namespace Go.Lb
open Go.RowKit
variable {Y : List (Nat × Rnd)} {n0 : Nat} {w0 : Base} {c c' c2 : Cx} {ρ ρ' : Nat → AV} {st st' : St} {a : Act} {w : World} {ro : Option Nat} {E : Env}
theorem zc5 : ∀ {a b : List (SE × Bool)}, zfM a b = true → a = b
 | [], [], _ => rfl
 | (e, b) :: as, (e', b') :: bs, h => by
  simp only [zfM, Bool.and_eq_true, beq_iff_eq] at h
  rw [SE.beq_eq e e' h.1.1, h.1.2, zc5 h.2]
theorem Ent.beq_eq {a b : Ent} (h : Ent.beq a b = true) : a = b := by
 simp only [Ent.beq, Bool.and_eq_true] at h
 cases a; cases b
 simp only at h
 rw [zc5 h.1, SE.beq_eq _ _ h.2]
theorem zfV : ∀ {a b : List (Nat × Ent)}, zfi a b = true → a = b
 | [], [], _ => rfl
 | (i, e) :: as, (j, e') :: bs, h => by
  simp only [zfi, Bool.and_eq_true] at h
  rw [Nat.eq_of_beq_eq_true h.1.1, Ent.beq_eq h.1.2, zfV h.2]
theorem ziu : ∀ {a b : Own}, zjO a b = true → a = b
 | [], [], _ => rfl
 | (i, e) :: as, (j, e') :: bs, h => by
  simp only [zjO, Bool.and_eq_true] at h
  rw [Nat.eq_of_beq_eq_true h.1.1, OS.beq_eq e e' h.1.2, ziu h.2]
theorem St.beq_eq {a b : St} (h : St.beq a b = true) : a = b := by
 simp only [St.beq, Bool.and_eq_true] at h
 cases a; cases b
 simp only at h
 rw [Nat.eq_of_beq_eq_true h.1.1.1.1.1, zfV h.1.1.1.1.2, ziu h.1.1.1.2, Nat.eq_of_beq_eq_true h.1.1.2, Nat.eq_of_beq_eq_true h.1.2, of_decide_eq_true h.2]
theorem Nd.beq_eq : ∀ {a b : Nd}, Nd.beq a b = true → a = b
 | .chk _ _ _, .chk _ _ _, h => by
  simp only [Nd.beq, Bool.and_eq_true, decide_eq_true_eq] at h
  rw [zc5 h.1.1, h.1.2, SE.beqs_eq _ _ h.2]
 | .call _ _ _ _ _, .call _ _ _ _ _, h => by
  simp only [Nd.beq, Bool.and_eq_true, beq_iff_eq] at h
  rw [Nat.eq_of_beq_eq_true h.1.1.1.1, zc5 h.1.1.1.2, Nat.eq_of_beq_eq_true h.1.1.2, SE.beqs_eq _ _ h.1.2, h.2]
 | .same _ _ _, .same _ _ _, h => by
  simp only [Nd.beq, Bool.and_eq_true] at h
  rw [Nat.eq_of_beq_eq_true h.1.1, zc5 h.1.2, SE.beq_eq _ _ h.2]
 | .cmp _ _, .cmp _ _, h => by
  simp only [Nd.beq, Bool.and_eq_true] at h
  rw [Nat.eq_of_beq_eq_true h.1, SE.beq_eq _ _ h.2]
theorem zeb : ∀ {a b : List Nd}, zgE a b = true → a = b
 | [], [], _ => rfl
 | e :: as, e' :: bs, h => by
  simp only [zgE, Bool.and_eq_true] at h
  rw [Nd.beq_eq h.1, zeb h.2]
def NdOk (P : Program) (G : Glob) (ρ : Nat → AV) : Nd → Prop
 | .chk pcs o args => Holds ρ pcs → pok o (dens ρ args)
 | .call n pcs f args b => (ρ n).pure = true ∧ (Holds ρ pcs → zbh P G f (dens ρ args) (ρ n) ∧ (b = true → (ρ n).scalar = true))
 | .same n pcs e => Holds ρ pcs → ρ n = den ρ e
 | .isNil _ _ _ => False
 | .srt _ _ => False
 | .cmp n e => ∃ l : List Int, l.length ≤ 4294967296 ∧ den ρ e = .sl (l.map (AV.int .i64)) ∧ ρ n = .sl ((zaO l).map (AV.int .i64))
 | .bind _ _ => False
theorem zfT (ρ : Nat → AV) (n : Nat) : zaC ρ n (ρ n) = ρ := by
 funext i; unfold zaC; split
 ·rename_i h; rw [h]
 ·rfl
theorem zcW {P : Program} {G : Glob} : ∀ {ns : List Nd}, (∀ nd ∈ ns, NdOk P G ρ nd) → zaZ P G ρ ns (fun ρ' => ρ' = ρ)
 | [], _ => rfl
 | .chk pcs o args :: ns, h => ⟨h _ (List.mem_cons_self ..), zcW fun nd hn => h nd (List.mem_cons_of_mem _ hn)⟩
 | .call n pcs f args b :: ns, h => by
  have h1 := h _ (List.mem_cons_self ..)
  refine ⟨ρ n, h1.1, h1.2, ?_⟩
  rw [zfT]
  exact zcW fun nd hn => h nd (List.mem_cons_of_mem _ hn)
 | .same n pcs e :: ns, h => ⟨h _ (List.mem_cons_self ..), zcW fun nd hn => h nd (List.mem_cons_of_mem _ hn)⟩
 | .isNil n pcs e :: ns, h => (h _ (List.mem_cons_self ..)).elim
 | .srt n e :: ns, h => (h _ (List.mem_cons_self ..)).elim
 | .cmp n e :: ns, h => by
  obtain ⟨l, h1, h2, h3⟩ := h _ (List.mem_cons_self ..)
  refine ⟨l, h1, h2, ?_⟩
  rw [← h3, zfT]
  exact zcW fun nd hn => h nd (List.mem_cons_of_mem _ hn)
 | .bind n e :: ns, h => (h _ (List.mem_cons_self ..)).elim
theorem NdOk.agree {P : Program} {G : Glob} {n : Nat} {pcs : List (SE × Bool)} {o : PF} {args : List SE} {D : Nat → Bool} (ha : zam n ρ ρ') (hp : zco n D pcs = true) (hw : SE.wfs n D args = true) (h : NdOk P G ρ (.chk pcs o args)) : NdOk P G ρ' (.chk pcs o args) := by
 intro hh
 rw [zau ha args hw]
 exact h ((zaQ ha hp).1 hh)
theorem zcv {P : Program} {G : Glob} {K : (Nat → AV) → Prop} : ∀ (ns : List Nd) (n : Nat) (ρ : Nat → AV), (∀ i, (ρ i).pure = true) → zec n ns = true → zaZ P G ρ ns K →
  ∃ ρ', zam n ρ ρ' ∧ (∀ i, (ρ' i).pure = true) ∧ (∀ nd ∈ ns, NdOk P G ρ' nd) ∧ K ρ'
 | [], n, ρ, hρ, _, h => ⟨ρ, zam.refl _ _, hρ, fun _ h => (by cases h), h⟩
 | .chk pcs o args :: ns, n, ρ, hρ, hw, h => by
  simp only [zec, Bool.and_eq_true] at hw
  obtain ⟨ρ', a1, a2, a3, a4⟩ := zcv ns n ρ hρ hw.2 h.2
  refine ⟨ρ', a1, a2, fun nd hn => ?_, a4⟩
  rcases List.mem_cons.1 hn with rfl | hn
  ·exact NdOk.agree a1 hw.1.1 hw.1.2 h.1
  ·exact a3 nd hn
 | .call m pcs f args b :: ns, n, ρ, hρ, hw, h => by
  simp only [zec, Bool.and_eq_true] at hw
  have hmn := Nat.eq_of_beq_eq_true hw.1.1.1
  subst hmn
  obtain ⟨r, hr, h1, h2⟩ := h
  obtain ⟨ρ', a1, a2, a3, a4⟩ := zcv ns (m + 1) _ (zbr hρ m hr) hw.2 h2
  have ha : zam m ρ ρ' := (zaP ρ m r).trans (a1.mono (Nat.le_succ m))
  refine ⟨ρ', ha, a2, fun nd hn => ?_, a4⟩
  rcases List.mem_cons.1 hn with rfl | hn
  ·refine ⟨a2 m, fun hh => ?_⟩
   have hm : ρ' m = r := by rw [a1 m (Nat.lt_succ_self m), zbH]
   rw [hm, zau ha args hw.1.2]
   exact h1 ((zaQ ha hw.1.1.2).1 hh)
  ·exact a3 nd hn
 | .same m pcs e :: ns, n, ρ, hρ, hw, h => by
  simp only [zec, Bool.and_eq_true, Nat.blt_eq] at hw
  obtain ⟨ρ', a1, a2, a3, a4⟩ := zcv ns n ρ hρ hw.2 h.2
  refine ⟨ρ', a1, a2, fun nd hn => ?_, a4⟩
  rcases List.mem_cons.1 hn with rfl | hn
  ·intro hh
   rw [a1 m hw.1.1.1, zat a1 e hw.1.2]
   exact h.1 ((zaQ a1 hw.1.1.2).1 hh)
  ·exact a3 nd hn
 | .isNil _ _ _ :: ns, n, ρ, hρ, hw, h => by simp [zec] at hw
 | .srt _ _ :: ns, n, ρ, hρ, hw, h => by simp [zec] at hw
 | .cmp m e :: ns, n, ρ, hρ, hw, h => by
  simp only [zec, Bool.and_eq_true] at hw
  have hmn := Nat.eq_of_beq_eq_true hw.1.1
  subst hmn
  obtain ⟨l, h0, h1, h2⟩ := h
  obtain ⟨ρ', a1, a2, a3, a4⟩ := zcv ns (m + 1) _ (zbr hρ m (v := .sl ((zaO l).map (AV.int .i64))) (by simp only [AV.pure]; exact zez _)) hw.2 h2
  have ha : zam m ρ ρ' := (zaP ρ m _).trans (a1.mono (Nat.le_succ m))
  refine ⟨ρ', ha, a2, fun nd hn => ?_, a4⟩
  rcases List.mem_cons.1 hn with rfl | hn
  ·refine ⟨l, h0, ?_, ?_⟩
   ·rw [zat ha e hw.1.2]; exact h1
   ·rw [a1 m (Nat.lt_succ_self m), zbH]
  ·exact a3 nd hn
 | .bind _ _ :: ns, n, ρ, hρ, hw, h => by simp [zec] at hw
theorem zlk {kn : List (SE × Bool)} (h : ∀ x ∈ kn, den ρ x.1 = .bool x.2) (e : SE) : den ρ (zlj kn e) = den ρ e := by
 unfold zlj
 induction kn with
 | nil => rfl
 | cons x kn ih =>
  simp only [List.foldr_cons]
  rw [SE.assume_den (h x (List.mem_cons_self ..)), ih fun y hy => h y (List.mem_cons_of_mem _ hy)]
theorem zjK {kn : List (SE × Bool)} {m : Nat} {D : Nat → Bool} (e : SE) (h : e.wf m D = true) : (zlj kn e).wf m D = true := by
 unfold zlj
 induction kn with
 | nil => exact h
 | cons x kn ih => simp only [List.foldr_cons]; exact SE.assume_wf 20 _ ih
theorem zcm (hE : EnvOk E) (hkn : ∀ x ∈ E.kn, den ρ x.1 = .bool x.2) (h0 : n0 ≤ w0.w.heap.size) {B i : Nat} {ops : Array Oper} {ns : List Nd} (hm : MatchSt E.G n0 w0 Y c ρ st a w) (h : zaU E B ops i st = some (st', ns)) (hns : ∀ nd ∈ ns, NdOk E.P E.G ρ nd)
  {n : Nat} {K : Act → World → Prop} {Q : Exit → Act → World → Prop} (hk : ∀ c' a' w', Ext c ρ st.nenv st.D c' ρ st'.nenv st'.D → MatchSt E.G n0 w0 Y c' ρ st' a' w' → (∃ v, a' = a.put (zfK ops i) v) → K a' w') : wpOpIn (FW ro) n E.P ops Q i K a w := by
 have hseg := zcW hns
 unfold zaU at h
 split at h
 ·cases h
 rename_i o hi
 have hdst : zfK ops i = o.dst := by unfold zfK; rw [hi]; rfl
 rw [hdst] at hk
 split at h
 ·cases h
 ·rename_i hg
  have hw := zb0 hm hg
  split at h
  ·rename_i st1 hput
   simp only [Option.some.injEq, Prod.mk.injEq] at h
   obtain ⟨rfl, rfl⟩ := h
   refine zbI hi hw ?_
   have hp := hm.put (st1 := st) (Ext.refl _ _ _ _) hm.mem rfl rfl rfl hm.glob hput (v := undef) (fun _ => .undef _ (fun _ h => by cases h)) (fun hn => absurd (Holds.nil _) hn) rfl rfl
   refine hk c _ w ?_ hp.1 ⟨_, rfl⟩
   have : st1.D = st.D := by unfold St.D; rw [hp.2.2.1]
   rw [hp.2.1, this]; exact Ext.refl _ _ _ _
  ·cases h
 ·rename_i pcs hg
  have hw := zb0 hm hg
  simp only at hw
  have unw : ¬ Holds ρ pcs → Region.wanted o (yielded ops a.tmps) = false := fun hp => by cases hx : Region.wanted o (yielded ops a.tmps); rfl; exact absurd (hw.1 hx) hp
  split at h
  ·rename_i x y z ho
   split at h
   ·rename_i e ns' hsp
    split at h
    ·rename_i hwf
     split at h
     ·rename_i st1 hput
      simp only [Option.some.injEq, Prod.mk.injEq] at h
      obtain ⟨rfl, rfl⟩ := h
      by_cases hp : Holds ρ pcs
      ·obtain ⟨hk1, v, hv, hgo⟩ := zfS (ro := ro) (P := E.P) hE hm ho hsp hp hseg
       refine zcg hi (hw.2 hp) (hgo n K Q ?_)
       have hpp := hm.put (st1 := st) (Ext.refl _ _ _ _) hm.mem rfl rfl rfl hm.glob hput (fun _ => hv) (fun hn => absurd hp hn) hwf.1 hwf.2
       refine hk c _ w ?_ hpp.1 ⟨_, rfl⟩
       have : st1.D = st.D := by unfold St.D; rw [hpp.2.2.1]
       rw [hpp.2.1, this]; exact Ext.refl _ _ _ _
      ·refine zbI hi (unw hp) ?_
       have hpp := hm.put (st1 := st) (Ext.refl _ _ _ _) hm.mem rfl rfl rfl hm.glob hput (v := undef) (fun hh => absurd hh hp) (fun _ => rfl) hwf.1 hwf.2
       refine hk c _ w ?_ hpp.1 ⟨_, rfl⟩
       have : st1.D = st.D := by unfold St.D; rw [hpp.2.2.1]
       rw [hpp.2.1, this]; exact Ext.refl _ _ _ _
     ·cases h
    ·cases h
   ·cases h
  ·split at h
   ·rename_i fid j e hcc
    split at h
    case h_2 => cases h
    rename_i st2 hput
    simp only [Option.some.injEq, Prod.mk.injEq] at h
    obtain ⟨rfl, rfl⟩ := h
    split at hcc
    case h_2 => cases hcc
    obtain ⟨f, xs, tt, ho, hf, hes, hcpt, hok, hfresh, hl⟩ := zeO hcc
    obtain ⟨l, hlen, hden, hr⟩ := hns (.cmp st.nenv e) (List.mem_cons_self ..)
    have hev : ∀ x e, evS E.G st.slots [] x = some e → Rv c (den ρ e) (a.eval x) ∧ e.wf st.nenv st.D = true := fun x e hx => zb8 hm.slots hm.glob hE.G (Holds.nil ρ) hx
    have hfe := (hev f _ hf).1
    have hes' := (zax (c := c) (ρ := ρ) (a := a) (fun x e hx => (hev x e hx).1) _ _ hes).1
    have hn0 := hm.mem.hn0 h0
    have hop := zgH (ro := ro) (a := a) (o := o) (l := l) hm.mem hn0 ho hok (by simpa only [den, dens] using hfe) (by simpa only [den, dens] using hes') hfresh hl (hE.cpt fid hcpt) hlen hden hr
    refine zcg hi (hw.2 (Holds.nil _)) (hop n K Q fun v w' c' b1 b2 b3 => ?_)
    rw [← zac, ← zac] at b3
    have hD : ∀ q, st.D q = true → (look (zah (zah st.own j .gone) (B + 2 * i) (.row 1 (.inp st.nenv)))).dom q = true := fun q hq => by rw [zac, zac]; exact Lk.dom_upd _ _ _ _ (Lk.dom_upd _ _ _ _ hq)
    have hx : Ext c ρ st.nenv st.D c' ρ (st.nenv + 1) (look (zah (zah st.own j .gone) (B + 2 * i) (.row 1 (.inp st.nenv)))).dom := ⟨b1, zam.refl _ _, Nat.le_succ _, hD⟩
    have hp := hm.put (st1 := { st with own := zah (zah st.own j .gone) (B + 2 * i) (.row 1 (.inp st.nenv)), nenv := st.nenv + 1, nid := B }) hx b3 rfl rfl rfl (hm.glob.ext hE b1.toLe) hput (fun _ => b2) (fun hn => absurd (Holds.nil _) hn) (by simp only [SE.wf, St.D]; rw [zac]; exact Lk.dom_upd_same _ _ _) rfl
    refine hk c' _ w' ?_ hp.1 ⟨_, rfl⟩
    have : st2.D = (look (zah (zah st.own j .gone) (B + 2 * i) (.row 1 (.inp st.nenv)))).dom := by unfold St.D; rw [hp.2.2.1]
    rw [hp.2.1, this]; exact hx
   split at h
   ·rename_i s st1 hst
    split at h
    ·rename_i hc
     split at h
     ·rename_i st2 hput
      simp only [Option.some.injEq, Prod.mk.injEq] at h
      obtain ⟨rfl, rfl⟩ := h
      obtain ⟨cf, hmf, hkeep, e1, e2, e3, e4⟩ := zca hE.G (zaN E st pcs o) c st hm
      generalize frz (zaN E st pcs o) st = sf at hst hmf e1 e2 e3 e4
      have hmf' : MatchSt E.G n0 w0 Y cf ρ { sf with nid := B + 2 * i } a w := ⟨hmf.mem, hmf.glob, hmf.sz, hmf.slots, hmf.dfr, hmf.mdom, hmf.rnds⟩
      have hxf : Ext c ρ st.nenv st.D cf ρ sf.nenv sf.D := Ext.keep_all hkeep e1 e4
      obtain ⟨hsop, _, _, hvw, hpw, hsl, hsz, hlk, hnv, hmk⟩ := zcf hst
      have hnle : sf.nenv ≤ st1.nenv := by rw [hnv]; exact Step.nenv_le _ _
      have hdom : ∀ i, sf.D i = true → st1.D i = true := fun i hi => by
       show (look st1.own).dom i = true
       rw [hlk]; exact zhH _ _ _ hi
      have hpw1 : zco st1.nenv st1.D pcs = true := zdd hnle hdom hpw
      rw [← e1] at hseg hput
      by_cases hp : Holds ρ pcs
      ·refine zcg hi (hw.2 hp) (zdR hE h0 hmf' hst hp hseg ?_)
       intro ρ1 c1 v w1 hK hx hv hmem hg
       subst hK
       have hpp := hmf'.put (st1 := { st1 with nid := B }) hx hmem hsl hsz hmk hg hput (fun _ => by simp only [zlk hkn]; exact hv) (fun hn => absurd hp hn) (zjK _ hvw) hpw1
       refine hk c1 _ w1 ?_ hpp.1 ⟨_, rfl⟩
       have : st2.D = st1.D := by unfold St.D; rw [hpp.2.2.1]
       rw [hpp.2.1, this]; exact hxf.trans hx
      ·have hdl : s.dl = [] := by
        have h2 := hc.2
        cases pcs with
        | nil => exact absurd (Holds.nil _) hp
        | cons _ _ => simpa using h2
       have hlk' : look st1.own = look sf.own := by rw [hlk, hdl]; rfl
       have hx : Ext cf ρ sf.nenv sf.D cf ρ st1.nenv st1.D := ⟨Cx.Keeps.refl _ _, zam.refl _ _, hnle, hdom⟩
       have hmem : Mem n0 w0 cf ρ (look st1.own) st1.nenv w := by rw [hlk']; exact hmf.mem.grow (hmf.mem.hn0 h0) hnle (zam.refl _ _) hmf.mem.pure
       refine zbI hi (unw hp) ?_
       have hpp := hmf'.put (st1 := { st1 with nid := B }) hx hmem hsl hsz hmk hmf.glob hput (v := undef) (fun hh => absurd hh hp) (fun _ => rfl) (zjK _ hvw) hpw1
       refine hk cf _ w ?_ hpp.1 ⟨_, rfl⟩
       have : st2.D = st1.D := by unfold St.D; rw [hpp.2.2.1]
       rw [hpp.2.1, this]; exact hxf.trans hx
     ·cases h
    ·cases h
   ·cases h
theorem za7 (X i : Nat) : zcK X i = X.testBit i := by
 unfold zcK
 rw [Nat.testBit_eq_decide_div_mod_eq, Nat.shiftRight_eq_div_pow]
 cases h : Nat.beq (X / 2 ^ i % 2) 1
 ·symm; simp only [decide_eq_false_iff_not]; intro h2; rw [h2] at h; cases h
 ·symm; simp only [decide_eq_true_eq]; exact Nat.eq_of_beq_eq_true h
structure Rel (n X : Nat) (listed : Array Bool) : Prop where
 size : listed.size = n
 bit : ∀ i, i < n → listed[i]? = some (X.testBit i)
 high : ∀ i, n ≤ i → X.testBit i = false
theorem Rel.getD {n X : Nat} {listed : Array Bool} (h : Rel n X listed) (i : Nat) : listed.getD i false = X.testBit i := by
 rw [Array.getD_eq_getD_getElem?]
 by_cases hi : i < n
 ·rw [h.bit i hi]; rfl
 ·rw [h.high i (by omega), Array.getElem?_eq_none (by rw [h.size]; omega)]; rfl
theorem Rel.init (n : Nat) : Rel n 0 (Array.replicate n false) :=
 ⟨by simp, fun i hi => by simp [hi], fun i _ => by simp⟩
theorem Rel.set {n X : Nat} {listed : Array Bool} (h : Rel n X listed) {i : Nat} (hi : i < n) : Rel n (X ||| (1 <<< i)) (listed.setIfInBounds i true) := by
 refine ⟨by simp [h.size], fun j hj => ?_, fun j hj => ?_⟩
 ·rw [Array.getElem?_setIfInBounds, Nat.testBit_or, Nat.one_shiftLeft, Nat.testBit_two_pow]
  by_cases hij : i = j
  ·subst hij; simp [h.size, hi]
  ·simp [hij, h.bit j hj]
 ·rw [Nat.testBit_or, Nat.one_shiftLeft, Nat.testBit_two_pow, h.high j hj]
  simp; omega
theorem ziv (o : Oper) (X : Nat) : Nat.beq (zff o &&& X) (zff o) = o.after.all fun e => !Region.binds .any e || X.testBit e.on := by
 have key : ∀ (l : List Edge), Nat.beq ((l.foldr (fun e s => if Region.binds .any e then s ||| (1 <<< e.on) else s) 0) &&& X) (l.foldr (fun e s => if Region.binds .any e then s ||| (1 <<< e.on) else s) 0) = l.all fun e => !Region.binds .any e || X.testBit e.on := by
  intro l
  have sub : ∀ m : Nat, Nat.beq (m &&& X) m = true ↔ ∀ j, m.testBit j = true → X.testBit j = true := by
   intro m
   rw [Nat.beq_eq]
   constructor
   ·intro h j hj
    have : (m &&& X).testBit j = true := by rw [h]; exact hj
    rw [Nat.testBit_and, Bool.and_eq_true] at this; exact this.2
   ·intro h
    refine Nat.eq_of_testBit_eq fun j => ?_
    rw [Nat.testBit_and]
    cases hj : m.testBit j
    ·rfl
    ·rw [h j hj]; rfl
  have bits : ∀ (l : List Edge) (j : Nat), (l.foldr (fun e s => if Region.binds .any e then s ||| (1 <<< e.on) else s) 0).testBit j = true ↔ ∃ e ∈ l, Region.binds .any e = true ∧ e.on = j := by
   intro l
   induction l with
   | nil => intro j; simp
   | cons e l ih =>
    intro j
    simp only [List.foldr_cons]
    by_cases hb : Region.binds .any e = true
    ·rw [if_pos hb, Nat.testBit_or, Bool.or_eq_true, ih j, Nat.one_shiftLeft, Nat.testBit_two_pow]
     simp only [hb, decide_eq_true_eq, List.mem_cons, exists_eq_or_imp, true_and]
     exact Or.comm
    ·simp only [hb, List.mem_cons, exists_eq_or_imp, false_and, false_or, Bool.false_eq_true, if_false]
     exact ih j
  rw [Bool.eq_iff_iff, sub, List.all_eq_true]
  constructor
  ·intro h e he
   by_cases hb : Region.binds .any e = true
   ·simp [hb, h e.on ((bits l e.on).2 ⟨e, he, hb, rfl⟩)]
   ·simp [hb]
  ·intro h j hj
   obtain ⟨e, he, hb, rfl⟩ := (bits l j).1 hj
   have := h e he
   simpa [hb] using this
 unfold zff
 rw [key, ← Array.all_toList]
theorem za6 {ops : Array Oper} {X : Nat} {listed : Array Bool} (h : Rel ops.size X listed) : Region.ready .any ops listed = rdy (zba ops) X := by
 unfold Region.ready rdy zba
 rw [List.filter_map, List.map_map]
 have : ((fun x : Nat × Nat => x.1) ∘ fun i => (i, zaz ops i)) = (id : Nat → Nat) := rfl
 rw [this, List.map_id]
 refine List.filter_congr fun i hi => ?_
 have hlt : i < ops.size := List.mem_range.1 hi
 simp only [Function.comp, zaz]
 have h1 : listed.getD i true = X.testBit i := by rw [Array.getD_eq_getD_getElem?, h.bit i hlt]; rfl
 rw [h1, za7, Array.getElem?_eq_getElem hlt]
 simp only [Option.map_some, Option.getD_some]
 rw [ziv]
 congr 1
 congr 1
 funext e
 rw [h.getD]
theorem zey : ∀ {X : Nat} {st : St} {acc acc' : List (Nat × St)}, insM X st acc = some acc' → (X, st) ∈ acc' ∧ ∀ y ∈ acc, y ∈ acc'
 | X, st, [], acc', h => by simp only [insM, Option.some.injEq] at h; subst h; exact ⟨by simp, fun _ h => by cases h⟩
 | X, st, (Y, s) :: r, acc', h => by
  simp only [insM] at h
  split at h
  ·rename_i hxy
   split at h
   ·rename_i hs
    simp only [Option.some.injEq] at h; subst h
    rw [Nat.eq_of_beq_eq_true hxy, St.beq_eq hs]
    exact ⟨by simp, fun _ h => h⟩
   ·cases h
  ·split at h
   ·rename_i r' hr
    simp only [Option.some.injEq] at h; subst h
    obtain ⟨h1, h2⟩ := zey hr
    refine ⟨List.mem_cons_of_mem _ h1, fun y hy => ?_⟩
    rcases List.mem_cons.1 hy with rfl | hy
    ·exact List.mem_cons_self ..
    ·exact List.mem_cons_of_mem _ (h2 y hy)
   ·cases h
theorem zej {B : Nat} {ops : Array Oper} {N : List (List Nd)} {X : Nat} {st : St} : ∀ {is : List Nat} {acc acc' : List (Nat × St)}, zfW E B ops N X st is acc = some acc' →
  (∀ y ∈ acc, y ∈ acc') ∧ ∀ i ∈ is, ∃ st', zaU E B ops i st = some (st', N.getD i []) ∧ (X ||| (1 <<< i), st') ∈ acc'
 | [], acc, acc', h => by simp only [zfW, Option.some.injEq] at h; subst h; exact ⟨fun _ h => h, fun _ h => by cases h⟩
 | i :: is, acc, acc', h => by
  simp only [zfW] at h
  split at h
  ·rename_i st' ns hd
   split at h
   ·rename_i hn
    split at h
    ·rename_i acc1 hi
     obtain ⟨h1, h2⟩ := zej h
     obtain ⟨h3, h4⟩ := zey hi
     refine ⟨fun y hy => h1 y (h4 y hy), fun j hj => ?_⟩
     rcases List.mem_cons.1 hj with rfl | hj
     ·exact ⟨st', by rw [hd, zeb hn], h1 _ h3⟩
     ·exact h2 j hj
    ·cases h
   ·cases h
  ·cases h
theorem zfE {B : Nat} {ops : Array Oper} {pm : List (Nat × Nat)} {N : List (List Nd)} : ∀ {fr acc acc' : List (Nat × St)}, zlm E B ops pm N fr acc = some acc' →
  (∀ y ∈ acc, y ∈ acc') ∧ ∀ X st, (X, st) ∈ fr → ∀ i ∈ rdy pm X, ∃ st', zaU E B ops i st = some (st', N.getD i []) ∧ (X ||| (1 <<< i), st') ∈ acc'
 | [], acc, acc', h => by simp only [zlm, Option.some.injEq] at h; subst h; exact ⟨fun _ h => h, fun _ _ h => by cases h⟩
 | (X, st) :: r, acc, acc', h => by
  simp only [zlm] at h
  split at h
  ·rename_i acc1 h1
   obtain ⟨h2, h3⟩ := zfE h
   obtain ⟨h4, h5⟩ := zej h1
   refine ⟨fun y hy => h2 y (h4 y hy), fun Y s hy i hi => ?_⟩
   rcases List.mem_cons.1 hy with hy | hy
   ·simp only [Prod.mk.injEq] at hy
    obtain ⟨rfl, rfl⟩ := hy
    obtain ⟨st', h6, h7⟩ := h5 i hi
    exact ⟨st', h6, h2 _ h7⟩
   ·exact h3 Y s hy i hi
  ·cases h
theorem zoJ {ops : Array Oper} {X i : Nat} (h : i ∈ rdy (zba ops) X) : i < ops.size := by
 unfold rdy zba at h
 obtain ⟨p, h1, rfl⟩ := List.mem_map.1 h
 obtain ⟨j, h2, rfl⟩ := List.mem_map.1 (List.mem_filter.1 h1).1
 exact List.mem_range.1 h2
theorem zhe (hE : EnvOk E) (hkn : ∀ x ∈ E.kn, den ρ x.1 = .bool x.2) (h0 : n0 ≤ w0.w.heap.size) {B : Nat} {ops : Array Oper} {N : List (List Nd)} {fin : St} (hN : ∀ l ∈ N, ∀ nd ∈ l, NdOk E.P E.G ρ nd) {c0 : Cx} {nenv0 : Nat} {D0 : Nat → Bool} {n : Nat} {Q : Exit → Act → World → Prop}
  (hQ : ∀ c' a' w', Ext c0 ρ nenv0 D0 c' ρ fin.nenv fin.D → MatchSt E.G n0 w0 Y c' ρ fin a' w' → Q .normal a' w') : ∀ (k : Nat) (fr : List (Nat × St)), zhd E B ops (zba ops) N fin k fr = true →
  ∀ X st, (X, st) ∈ fr → ∀ listed c a w, Rel ops.size X listed → Ext c0 ρ nenv0 D0 c ρ st.nenv st.D → MatchSt E.G n0 w0 Y c ρ st a w → wpAnyIn (FW ro) n E.P .any ops Q k listed a w := by
 intro k
 induction k with
 | zero =>
  intro fr h X st hx listed c a w hr he hm
  have := List.all_eq_true.1 h _ hx
  simp only [Bool.and_eq_true] at this
  refine ⟨by rw [za6 hr]; exact List.isEmpty_iff.1 this.1, ?_⟩
  rw [← St.beq_eq this.2] at hQ
  exact hQ c a w he hm
 | succ k ih =>
  intro fr h X st hx listed c a w hr he hm
  simp only [zhd, Bool.and_eq_true] at h
  obtain ⟨h1, h2⟩ := h
  constructor
  ·intro hready
   have := List.all_eq_true.1 h1 _ hx
   rw [za6 hr] at hready
   simp only [hready, List.isEmpty_nil, Bool.not_true, Bool.false_or] at this
   rw [← St.beq_eq this] at hQ
   exact hQ c a w he hm
  ·intro i hi
   rw [za6 hr] at hi
   split at h2
   ·rename_i fr' hl
    obtain ⟨_, h3⟩ := zfE hl
    obtain ⟨st1, h4, h5⟩ := h3 X st hx i hi
    refine zcm hE hkn h0 hm h4 (fun nd hnd => ?_) ?_
    ·by_cases hlt : i < N.length
     ·rw [List.getD_eq_getElem?_getD, List.getElem?_eq_getElem hlt] at hnd
      exact hN _ (List.getElem_mem hlt) nd hnd
     ·rw [List.getD_eq_getElem?_getD, List.getElem?_eq_none (by omega)] at hnd
      cases hnd
    ·intro c1 a1 w1 hx1 hm1 _
     exact ih fr' h2 _ st1 h5 _ c1 a1 w1 (hr.set (zoJ hi)) (he.trans hx1) hm1
   ·cases h2
theorem zaD {p m : Nat} : subs p m = true ↔ ∀ j, p.testBit j = true → m.testBit j = true := by
 unfold subs
 rw [Nat.beq_eq]
 constructor
 ·intro h j hj
  have : (p &&& m).testBit j = true := by rw [h]; exact hj
  rw [Nat.testBit_and, Bool.and_eq_true] at this; exact this.2
 ·intro h
  refine Nat.eq_of_testBit_eq fun j => ?_
  rw [Nat.testBit_and]
  cases hj : p.testBit j
  ·rfl
  ·rw [h j hj]; rfl
theorem zbz (X i j : Nat) : (X ||| (1 <<< i)).testBit j = (X.testBit j || decide (i = j)) := by
 rw [Nat.testBit_or, Nat.one_shiftLeft, Nat.testBit_two_pow]
def cnt (X n : Nat) : Nat := (List.range n).countP fun i => X.testBit i
theorem zm9 {X i : Nat} : ∀ n, n ≤ i → cnt (X ||| (1 <<< i)) n = cnt X n := by
 intro n hn
 unfold cnt
 refine List.countP_congr fun j hj => ?_
 have := List.mem_range.1 hj
 rw [zbz, decide_eq_false (by omega), Bool.or_false]
theorem zkW {X i : Nat} (hx : X.testBit i = false) : ∀ n, i < n → cnt (X ||| (1 <<< i)) n = cnt X n + 1 := by
 intro n
 induction n with
 | zero => intro h; omega
 | succ n ih =>
  intro h
  have e : ∀ Z, cnt Z (n + 1) = cnt Z n + (if Z.testBit n = true then 1 else 0) := fun Z => by
   unfold cnt; rw [List.range_succ, List.countP_append]; simp [List.countP_cons]
  rw [e, e]
  by_cases hi : i = n
  ·subst hi
   rw [zm9 i (Nat.le_refl _), zbz]; simp [hx]
  ·rw [ih (by omega), zbz, decide_eq_false hi, Bool.or_false]; omega
theorem zjA {X n : Nat} (h : cnt X n = n) : ∀ i, i < n → X.testBit i = true := by
 intro i hi
 have h1 : (List.range n).countP (fun i => X.testBit i) = (List.range n).length := by rw [List.length_range]; exact h
 exact List.countP_eq_length.1 h1 i (List.mem_range.2 hi)
theorem zg7 {ops : Array Oper} {X : Nat} (hX : ∀ i, X.testBit i = true → subs (zaz ops i) X = true) : ∀ (l acc : List (Nat × Nat)), (∀ x ∈ l, x.2 = zaz ops x.1) → (∀ x ∈ acc, subs (zaz ops x.1) X = true → subs x.2 X = true) → ∀ x ∈ zcT l acc, subs (zaz ops x.1) X = true → subs x.2 X = true
 | [], acc, _, h => h
 | (i, p) :: r, acc, hl, h => by
  simp only [zcT]
  refine zg7 hX r _ (fun x hx => hl x (List.mem_cons_of_mem _ hx)) fun x hx => ?_
  rcases List.mem_cons.1 hx with rfl | hx
  ·have hp : p = zaz ops i := hl (i, p) (List.mem_cons_self ..)
   intro hs
   simp only at hs ⊢
   rw [← hp] at hs
   have key : ∀ (l : List (Nat × Nat)) (m : Nat), (∀ x ∈ l, x ∈ acc) → subs m X = true → subs (l.foldl (fun m x => if zcK p x.1 = true then m ||| x.2 else m) m) X = true := by
    intro l
    induction l with
    | nil => intro m _ hm; exact hm
    | cons y l ih =>
     intro m hy hm
     simp only [List.foldl_cons]
     refine ih _ (fun x hx => hy x (List.mem_cons_of_mem _ hx)) ?_
     split
     ·rename_i hb
      rw [za7] at hb
      have h1 : X.testBit y.1 = true := zaD.1 hs _ hb
      have h2 := h y (hy y (List.mem_cons_self ..)) (hX _ h1)
      refine zaD.2 fun j hj => ?_
      rw [Nat.testBit_or, Bool.or_eq_true] at hj
      rcases hj with hj | hj
      ·exact zaD.1 hm j hj
      ·exact zaD.1 h2 j hj
     ·exact hm
   exact key acc p (fun _ h => h) hs
  ·exact h x hx
theorem zgq : ∀ (l acc : List (Nat × Nat)), ∀ x ∈ acc, x ∈ zcT l acc
 | [], _, _, h => h
 | (i, p) :: r, acc, x, h => zgq r _ x (List.mem_cons_of_mem _ h)
theorem zdD : ∀ (l acc : List (Nat × Nat)), ∀ x ∈ l, ∃ t, (x.1, t) ∈ zcT l acc
 | (i, p) :: r, acc, x, h => by
  rcases List.mem_cons.1 h with rfl | h
  ·exact ⟨_, zgq r _ _ (List.mem_cons_self ..)⟩
  ·exact zdD r _ x h
theorem zhZ : ∀ (l acc : List (Nat × Nat)), ∀ x ∈ zcT l acc, (∃ y ∈ l, y.1 = x.1) ∨ x ∈ acc
 | [], _, _, h => .inr h
 | (i, p) :: r, acc, x, h => by
  rcases zhZ r _ x h with ⟨y, hy, e⟩ | h
  ·exact .inl ⟨y, List.mem_cons_of_mem _ hy, e⟩
  ·rcases List.mem_cons.1 h with rfl | h
   ·exact .inl ⟨(i, p), List.mem_cons_self .., rfl⟩
   ·exact .inr h
theorem zbf {ops : Array Oper} {x : Nat × Nat} : x ∈ zba ops ↔ x.1 < ops.size ∧ x.2 = zaz ops x.1 := by
 unfold zba
 rw [List.mem_map]
 constructor
 ·rintro ⟨i, hi, rfl⟩; exact ⟨List.mem_range.1 hi, rfl⟩
 ·rintro ⟨h1, h2⟩; exact ⟨x.1, List.mem_range.2 h1, by rw [← h2]⟩
theorem zh6 {T : List (Nat × Nat)} {i t : Nat} (h : zmi T i = some t) : (i, t) ∈ T := by
 induction T with
 | nil => cases h
 | cons x T ih =>
  obtain ⟨j, s⟩ := x
  simp only [zmi] at h
  split at h
  ·rename_i hj
   have := Nat.eq_of_beq_eq_true hj
   subst this
   simp only [Option.some.injEq] at h; subst h
   exact List.mem_cons_self ..
  ·exact List.mem_cons_of_mem _ (ih h)
theorem zfy (fs : Flt) (i : Nat) : (za0 fs).testBit i = true ↔ ∃ x ∈ fs, x.1 = i := by
 unfold za0
 induction fs with
 | nil => simp
 | cons x fs ih =>
  simp only [List.foldr_cons, zbz, Bool.or_eq_true, decide_eq_true_eq, List.mem_cons, exists_eq_or_imp, ih]
  exact Or.comm
def zn5 (fs : Flt) (X : Nat) (c : Cx) (ρ : Nat → AV) (nenv : Nat) (D : Nat → Bool) (t : Array Value) : Prop := ∀ x ∈ fs, X.testBit x.1 = true → SlotOk c ρ nenv D t x.2.1 x.2.2
theorem zkH {m : Nat} {nenv : Nat} {D : Nat → Bool} {t : Array Value} : ∀ (fs : Flt) (s : List (Nat × Ent)), (∀ x ∈ fs, zcK m x.1 = true → SlotOk c ρ nenv D t x.2.1 x.2.2) → zbo c ρ nenv D t s → zbo c ρ nenv D t (addF m fs s)
 | [], s, _, h => h
 | x :: r, s, hf, h => by
  simp only [addF]
  refine zkH r _ (fun y hy => hf y (List.mem_cons_of_mem _ hy)) ?_
  split
  ·rename_i hb
   intro d e hd
   rw [zcC] at hd
   split at hd
   ·rename_i hde
    simp only [Option.some.injEq] at hd; subst hd
    rw [hde]; exact hf x (List.mem_cons_self ..) hb
   ·exact h d e hd
  ·exact h
theorem MatchSt.withF {fs : Flt} {m : Nat} (hm : MatchSt E.G n0 w0 Y c ρ st a w) (hf : ∀ x ∈ fs, zcK m x.1 = true → SlotOk c ρ st.nenv st.D a.tmps x.2.1 x.2.2) : MatchSt E.G n0 w0 Y c ρ (withF fs m st) a w :=
 ⟨hm.mem, hm.glob, hm.sz, zkH fs st.slots hf hm.slots, hm.dfr, hm.mdom, hm.rnds⟩
theorem zdG (p : Nat → Bool) : ∀ (s : List (Nat × Ent)) (d : Nat), zaM (s.filter fun x => p x.1) d = if p d = true then zaM s d else none
 | [], d => by simp [zaM]
 | (j, e) :: s, d => by
  rw [List.filter_cons]
  simp only
  by_cases hj : p j = true
  ·rw [if_pos hj]
   simp only [zaM]
   by_cases hd : d = j
   ·subst hd; simp [hj]
   ·have hd2 : Nat.beq d j = false := Bool.eq_false_iff.2 fun h => hd (Nat.eq_of_beq_eq_true h)
    have ih := zdG p s d
    simp only [hd2, ih, Bool.false_eq_true, if_false]
  ·rw [if_neg hj, zdG p s d]
   simp only [zaM]
   by_cases hd : d = j
   ·subst hd; simp [hj]
   ·simp [hd]
theorem MatchSt.dropF {fs : Flt} (hm : MatchSt E.G n0 w0 Y c ρ st a w) : MatchSt E.G n0 w0 Y c ρ (dropF fs st) a w := by
 refine ⟨hm.mem, hm.glob, hm.sz, fun d e hd => ?_, hm.dfr, hm.mdom, hm.rnds⟩
 unfold Go.Lb.dropF at hd
 simp only at hd
 rw [zdG (fun d => !(fs.any fun f => Nat.beq f.2.1 d)) st.slots d] at hd
 split at hd
 ·exact hm.slots d e hd
 ·cases hd
theorem MatchSt.again {a' : Act} {w' : World} {d : Nat} {st1 st2 : St} (hm : MatchSt E.G n0 w0 Y c ρ st a w) (hx : Ext c ρ st2.nenv st2.D c' ρ st1.nenv st1.D) (hm' : MatchSt E.G n0 w0 Y c' ρ st1 a' w') (ha : ∃ v, a' = a.put (some d) v)
  (h2 : st2.own = st.own ∧ st2.nenv = st.nenv) (ho : st1.own = st.own) (hn : st1.nenv = st.nenv) (hd : zaM st.slots d = none) : MatchSt E.G n0 w0 Y c' ρ st a' w' := by
 obtain ⟨v, rfl⟩ := ha
 have hk : c.Keeps st.D c' := by
  have := hx.keeps
  unfold St.D at this ⊢; rw [h2.1] at this; exact this
 refine ⟨?_, hm'.glob, ?_, fun i e hf => ?_, ?_, hm.mdom, ?_⟩
 ·have := hm'.mem; rw [ho, hn] at this; exact this
 ·rw [zjS]; exact hm.sz
 ·have hne : i ≠ d := fun h => by subst h; rw [hd] at hf; cases hf
  exact (hm.slots i e hf).keeps hk (zam.refl _ _) hm.mem.pure (Nat.le_refl _) (fun _ h => h) (zfg a _ v i fun h => hne (Option.some.inj h).symm)
 ·rw [zgJ]; exact hm.dfr.keeps hm.mdom hk
 ·exact hm.rnds.keeps hk (zam.refl _ _) hm.mem.pure (Nat.le_refl _) (fun _ h => h)
theorem zdv {B : Nat} {ops : Array Oper} {N : List (List Nd)} {fs : Flt} {X : Nat} {st : St} : ∀ {is : List Nat} {acc acc' : List (Nat × St)}, zei E B ops N fs X st is acc = some acc' →
  (∀ y ∈ acc, y ∈ acc') ∧ ∀ i ∈ is, ∃ st', zaU E B ops i (withF fs (zaz ops i) st) = some (st', N.getD i []) ∧ (X ||| (1 <<< i), dropF fs st') ∈ acc'
 | [], acc, acc', h => by simp only [zei, Option.some.injEq] at h; subst h; exact ⟨fun _ h => h, fun _ h => by cases h⟩
 | i :: is, acc, acc', h => by
  simp only [zei] at h
  split at h
  ·rename_i st' ns hd
   split at h
   ·rename_i hn
    split at h
    ·rename_i acc1 hi
     obtain ⟨h1, h2⟩ := zdv h
     obtain ⟨h3, h4⟩ := zey hi
     refine ⟨fun y hy => h1 y (h4 y hy), fun j hj => ?_⟩
     rcases List.mem_cons.1 hj with rfl | hj
     ·exact ⟨st', by rw [hd, zeb hn], h1 _ h3⟩
     ·exact h2 j hj
    ·cases h
   ·cases h
  ·cases h
theorem zcZ {B : Nat} {ops : Array Oper} {N : List (List Nd)} {fs : Flt} {T : List (Nat × Nat)} {F : Nat} : ∀ {fr acc acc' : List (Nat × St)}, zii E B ops N fs T F fr acc = some acc' →
  (∀ y ∈ acc, y ∈ acc') ∧ ∀ X st, (X, st) ∈ fr → ∀ i ∈ rdyC T F X, ∃ st', zaU E B ops i (withF fs (zaz ops i) st) = some (st', N.getD i []) ∧ (X ||| (1 <<< i), dropF fs st') ∈ acc'
 | [], acc, acc', h => by simp only [zii, Option.some.injEq] at h; subst h; exact ⟨fun _ h => h, fun _ _ h => by cases h⟩
 | (X, st) :: r, acc, acc', h => by
  simp only [zii] at h
  split at h
  ·rename_i acc1 h1
   obtain ⟨h2, h3⟩ := zcZ h
   obtain ⟨h4, h5⟩ := zdv h1
   refine ⟨fun y hy => h2 y (h4 y hy), fun Y s hy i hi => ?_⟩
   rcases List.mem_cons.1 hy with hy | hy
   ·simp only [Prod.mk.injEq] at hy
    obtain ⟨rfl, rfl⟩ := hy
    obtain ⟨st', h6, h7⟩ := h5 i hi
    exact ⟨st', h6, h2 _ h7⟩
   ·exact h3 Y s hy i hi
  ·cases h
theorem zlD {P : Program} {L : Lk} {xv : Ev} {nenv nid : Nat} {o : Oper} {s : Step} (hr : zc4 o = true) (h : sOp P L xv nenv nid o.op = some s) : s.dl = [] := by
 unfold sOp at h
 split at h
 ·simp only [Option.some.injEq] at h; subst h; rfl
 ·unfold zc4 at hr
  split at h <;> rename_i hop <;> first | (rw [hop] at hr; simp at hr; done) | skip
  all_goals (repeat' split at h)
  all_goals first | (cases h; done) | (simp only [Option.some.injEq] at h; subst h; rfl)
theorem zjh {st st' : St} {d : Option Nat} {e : Ent} (h : st.put d e = some st') : st'.own = st.own := by
 unfold St.put at h
 split at h
 ·simp only [Option.some.injEq] at h; subst h; rfl
 ·split at h
  ·simp only [Option.some.injEq] at h; subst h; rfl
  ·cases h
theorem zg8 {st : St} {o : Oper} (hr : zc4 o = true) : zep E st o = none := by
 unfold zep
 split
 ·rename_i hop; unfold zc4 at hr; rw [hop] at hr; simp at hr
 ·rfl
theorem ze7 {st : St} {pcs : List (SE × Bool)} {o : Oper} (hr : zc4 o = true) : zaN E st pcs o = [] := by
 unfold zaN
 split <;> first | rfl | (rename_i hop; unfold zc4 at hr; rw [hop] at hr; simp at hr; done)
theorem zf6 {B i : Nat} {ops : Array Oper} {ns : List Nd} (hr : zji ops i = true) (h : zaU E B ops i st = some (st', ns)) : st'.own = st.own := by
 unfold zji at hr
 unfold zaU at h
 split at h
 ·cases h
 ·rename_i o ho
  rw [ho] at hr
  split at h
  ·cases h
  ·split at h
   ·rename_i hp
    simp only [Option.some.injEq, Prod.mk.injEq] at h
    rw [← h.1]; exact zjh hp
   ·cases h
  ·rename_i pcs hg
   split at h
   ·split at h
    ·split at h
     ·split at h
      ·rename_i hp
       simp only [Option.some.injEq, Prod.mk.injEq] at h
       rw [← h.1]; exact zjh hp
      ·cases h
     ·cases h
    ·cases h
   ·split at h
    ·rename_i hcc
     exfalso
     cases pcs with
     | nil => simp [zg8 hr] at hcc
     | cons _ _ => simp at hcc
    ·split at h
     ·rename_i s st1 hst
      split at h
      ·split at h
       ·rename_i hp
        simp only [Option.some.injEq, Prod.mk.injEq] at h
        rw [← h.1, zjh hp]
        show st1.own = st.own
        unfold zfX at hst
        split at hst
        ·rename_i s' hs'
         simp only at hst
         split at hst
         ·simp only [Option.some.injEq, Prod.mk.injEq] at hst
          rw [← hst.2]
          show zhu _ s'.dl = _
          rw [zlD hr hs', ze7 hr]
          rfl
         ·cases hst
        ·cases hst
       ·cases h
      ·cases h
     ·cases h
theorem ze4 (hE : EnvOk E) (hkn : ∀ x ∈ E.kn, den ρ x.1 = .bool x.2) (h0 : n0 ≤ w0.w.heap.size) {B : Nat} {ops : Array Oper} {N : List (List Nd)} {fin : St} {fs : Flt} (hap : zjE ops fs = true) (hsm : ((zba ops).all fun p => Nat.blt p.2 (1 <<< p.1)) = true)
  (hN : ∀ l ∈ N, ∀ nd ∈ l, NdOk E.P E.G ρ nd) {c0 : Cx} {nenv0 : Nat} {D0 : Nat → Bool} {n : Nat} {Q : Exit → Act → World → Prop}
  (hQ : ∀ c' a' w', Ext c0 ρ nenv0 D0 c' ρ fin.nenv fin.D → MatchSt E.G n0 w0 Y c' ρ fin a' w' → Q .normal a' w') : ∀ (k k' : Nat) (fr : List (Nat × St)), ze3 E B ops N fin fs (zcT (zba ops) []) (za0 fs) k' fr = true →
  ∀ Z st, (Z, st) ∈ fr → ∀ X listed c a w, (∀ i, Z.testBit i = (X.testBit i && !(za0 fs).testBit i)) → Rel ops.size X listed → (∀ i, X.testBit i = true → subs (zaz ops i) X = true) → cnt X ops.size + k = ops.size →
   Ext c0 ρ nenv0 D0 c ρ st.nenv st.D → MatchSt E.G n0 w0 Y c ρ st a w → zn5 fs X c ρ st.nenv st.D a.tmps → wpAnyIn (FW ro) n E.P .any ops Q k listed a w := by
 have hdst : ∀ x ∈ fs, zfK ops x.1 = some x.2.1 ∧ x.1 < ops.size ∧ ∀ j, j < ops.size → j ≠ x.1 → zfK ops j ≠ some x.2.1 := by
  intro x hx
  have := List.all_eq_true.1 hap x hx
  rw [Bool.and_eq_true] at this
  obtain ⟨h1, h2⟩ := this
  have h1' : zfK ops x.1 = some x.2.1 := by
   cases h : zfK ops x.1 with
   | none => rw [h] at h1; cases h1
   | some j => rw [h] at h1; rw [Nat.eq_of_beq_eq_true h1]
  have hlt : x.1 < ops.size := by
   by_cases hl : x.1 < ops.size
   ·exact hl
   ·unfold zfK at h1'
    rw [Array.getElem?_eq_none (by omega)] at h1'; cases h1'
  refine ⟨h1', hlt, fun j hj hne he => ?_⟩
  have h3 := List.all_eq_true.1 h2 j (List.mem_range.2 hj)
  rw [Bool.or_eq_true] at h3
  rcases h3 with h3 | h3
  ·exact hne (Nat.eq_of_beq_eq_true h3)
  ·rw [he] at h3; simp [znn] at h3
 have hready : ∀ X i, i ∈ rdy (zba ops) X ↔ i < ops.size ∧ X.testBit i = false ∧ subs (zaz ops i) X = true := by
  intro X i
  unfold rdy
  rw [List.mem_map]
  constructor
  ·rintro ⟨p, hp, rfl⟩
   obtain ⟨h1, h2⟩ := List.mem_filter.1 hp
   obtain ⟨h3, h4⟩ := zbf.1 h1
   simp only [Bool.and_eq_true, Bool.not_eq_true', za7] at h2
   rw [h4] at h2
   exact ⟨h3, h2.1, h2.2⟩
  ·rintro ⟨h1, h2, h3⟩
   refine ⟨(i, zaz ops i), List.mem_filter.2 ⟨zbf.2 ⟨h1, rfl⟩, ?_⟩, rfl⟩
   simp only [Bool.and_eq_true, Bool.not_eq_true', za7]
   exact ⟨h2, h3⟩
 have hfull : ∀ X, rdy (zba ops) X = [] → ∀ i, i < ops.size → X.testBit i = true := by
  intro X hr i
  induction i using Nat.strongRecOn with
  | _ i ih =>
   intro hi
   cases hx : X.testBit i with
   | true => rfl
   | false =>
    exfalso
    have : i ∈ rdy (zba ops) X := by
     refine (hready X i).2 ⟨hi, hx, zaD.2 fun j hj => ?_⟩
     have hb := List.all_eq_true.1 hsm (i, zaz ops i) (zbf.2 ⟨hi, rfl⟩)
     rw [Nat.blt_eq, Nat.one_shiftLeft] at hb
     have hji : j < i := by
      by_cases hl : j < i
      ·exact hl
      ·exfalso
       have := Nat.ge_two_pow_of_testBit hj
       have h3 : 2 ^ i ≤ 2 ^ j := Nat.pow_le_pow_right (by omega) (by omega)
       simp only at hb
       omega
     exact ih j hji (by omega)
    rw [hr] at this; cases this
 have hhere : ∀ (k' : Nat) (fr : List (Nat × St)), ze3 E B ops N fin fs (zcT (zba ops) []) (za0 fs) k' fr = true → ∀ x ∈ fr, zlc E B ops N fin fs (zcT (zba ops) []) (za0 fs) x = true := by
  intro k' fr h x hx
  cases k' with
  | zero =>
   have := List.all_eq_true.1 h x hx
   rw [Bool.and_eq_true] at this; exact this.1
  | succ k' =>
   simp only [ze3, Bool.and_eq_true] at h
   exact List.all_eq_true.1 h.1 x hx
 have hend : ∀ (k' : Nat) (fr : List (Nat × St)), ze3 E B ops N fin fs (zcT (zba ops) []) (za0 fs) k' fr = true → ∀ Z st, (Z, st) ∈ fr → ∀ X c a w, (∀ i, Z.testBit i = (X.testBit i && !(za0 fs).testBit i)) → (∀ i, i < ops.size → X.testBit i = true) →
   Ext c0 ρ nenv0 D0 c ρ st.nenv st.D → MatchSt E.G n0 w0 Y c ρ st a w → zn5 fs X c ρ st.nenv st.D a.tmps → Q .normal a w := by
  intro k' fr h Z st hx X c a w hz hf he hm hfl
  have := hhere k' fr h _ hx
  unfold zlc at this
  rw [Bool.and_eq_true, Bool.or_eq_true] at this
  have h2 : ¬ (!((zcT (zba ops) []).all fun p => zcK (za0 fs) p.1 || zcK Z p.1)) = true := by
   intro h3
   rw [Bool.not_eq_true'] at h3
   have h4 : ((zcT (zba ops) []).all fun p => zcK (za0 fs) p.1 || zcK Z p.1) = true := by
    rw [List.all_eq_true]
    intro p hp
    have hlt : p.1 < ops.size := by
     rcases zhZ _ _ p hp with ⟨y, hy, e⟩ | h
     ·rw [← e]; exact (zbf.1 hy).1
     ·cases h
    rw [za7, za7, hz, hf _ hlt]
    cases (za0 fs).testBit p.1 <;> rfl
   rw [h4] at h3; cases h3
  have h3 := St.beq_eq (this.2.resolve_left h2)
  have hm2 : MatchSt E.G n0 w0 Y c ρ (withF fs (za0 fs) st) a w := hm.withF fun x hx _ => hfl x hx (hf _ (hdst x hx).2.1)
  rw [h3] at hm2
  have e1 : fin.nenv = st.nenv := by rw [← h3]; rfl
  have e2 : fin.own = st.own := by rw [← h3]; rfl
  refine hQ c a w ?_ hm2
  unfold St.D at he ⊢
  rw [e1, e2]; exact he
 intro k
 induction k with
 | zero =>
  intro k' fr h Z st hx X listed c a w hz hr hdn hc he hm hfl
  have hf := zjA (X := X) (n := ops.size) (by omega)
  refine ⟨?_, hend k' fr h Z st hx X c a w hz hf he hm hfl⟩
  rw [za6 hr]
  cases hl : rdy (zba ops) X with
  | nil => rfl
  | cons i r =>
   have : i ∈ rdy (zba ops) X := by rw [hl]; exact List.mem_cons_self ..
   obtain ⟨h1, h2, _⟩ := (hready X i).1 this
   rw [hf i h1] at h2; cases h2
 | succ k ih =>
  intro k' fr h Z st hx X listed c a w hz hr hdn hc he hm hfl
  constructor
  ·intro hready0
   rw [za6 hr] at hready0
   exact hend k' fr h Z st hx X c a w hz (hfull X hready0) he hm hfl
  ·intro i hi
   rw [za6 hr] at hi
   obtain ⟨hi1, hi2, hi3⟩ := (hready X i).1 hi
   obtain ⟨t, ht⟩ := zdD (zba ops) [] (i, zaz ops i) (zbf.2 ⟨hi1, rfl⟩)
   have hclos : ∀ x ∈ zcT (zba ops) [], subs (zaz ops x.1) X = true → subs x.2 X = true := zg7 hdn (zba ops) [] (fun x hx => (zbf.1 hx).2) (fun _ h => by cases h)
   have hZX : ∀ m, subs m X = true → subs m (Z ||| za0 fs) = true := fun m hm => zaD.2 fun j hj => by
    have := zaD.1 hm j hj
    rw [Nat.testBit_or, hz, this]
    cases (za0 fs).testBit j <;> rfl
   have hcnt := zkW hi2 ops.size hi1
   have hdn' : ∀ j, (X ||| (1 <<< i)).testBit j = true → subs (zaz ops j) (X ||| (1 <<< i)) = true := by
    intro j hj
    rw [zbz, Bool.or_eq_true, decide_eq_true_eq] at hj
    have : subs (zaz ops j) X = true := by
     rcases hj with hj | rfl
     ·exact hdn j hj
     ·exact hi3
    exact zaD.2 fun q hq => by rw [zbz, zaD.1 this q hq]; rfl
   have hnd : ∀ nd ∈ N.getD i [], NdOk E.P E.G ρ nd := fun nd hnd => by
    by_cases hlt : i < N.length
    ·rw [List.getD_eq_getElem?_getD, List.getElem?_eq_getElem hlt] at hnd
     exact hN _ (List.getElem_mem hlt) nd hnd
    ·rw [List.getD_eq_getElem?_getD, List.getElem?_eq_none (by omega)] at hnd
     cases hnd
   have hmw : MatchSt E.G n0 w0 Y c ρ (withF fs (zaz ops i) st) a w := hm.withF fun x hx hb => by
    rw [za7] at hb
    exact hfl x hx (zaD.1 hi3 _ hb)
   cases hF : (za0 fs).testBit i with
   | false =>
    have hmem : i ∈ rdyC (zcT (zba ops) []) (za0 fs) Z := by
     unfold rdyC
     refine List.mem_map.2 ⟨(i, t), List.mem_filter.2 ⟨ht, ?_⟩, rfl⟩
     simp only [Bool.and_eq_true, Bool.not_eq_true', za7, hF, hz, hi2, Bool.false_and, true_and]
     exact hZX _ (hclos _ ht hi3)
    have hstep : ∃ k2 fr' st1, ze3 E B ops N fin fs (zcT (zba ops) []) (za0 fs) k2 fr' = true ∧ zaU E B ops i (withF fs (zaz ops i) st) = some (st1, N.getD i []) ∧ (Z ||| (1 <<< i), dropF fs st1) ∈ fr' := by
     cases k' with
     | zero =>
      exfalso
      have := List.all_eq_true.1 h _ hx
      rw [Bool.and_eq_true] at this
      rw [List.isEmpty_iff.1 this.2] at hmem; cases hmem
     | succ k' =>
      simp only [ze3, Bool.and_eq_true] at h
      obtain ⟨_, h2⟩ := h
      split at h2
      ·rename_i hl
       obtain ⟨_, h3⟩ := zcZ hl
       obtain ⟨st1, h4, h5⟩ := h3 Z st hx i hmem
       cases h5
      ·rename_i fr' _ hl
       obtain ⟨_, h3⟩ := zcZ hl
       obtain ⟨st1, h4, h5⟩ := h3 Z st hx i hmem
       exact ⟨k', fr', st1, h2, h4, h5⟩
      ·cases h2
    obtain ⟨k2, fr', st1, h6, h4, h5⟩ := hstep
    refine zcm hE hkn h0 hmw h4 hnd ?_
    intro c1 a1 w1 hx1 hm1 hput
    refine ih k2 fr' h6 _ _ h5 (X ||| (1 <<< i)) _ c1 a1 w1 (fun j => ?_) (hr.set hi1) hdn' (by omega) (he.trans hx1) hm1.dropF ?_
    ·rw [zbz, zbz, hz]
     by_cases hij : i = j
     ·subst hij; simp [hF]
     ·simp [hij]
    ·intro x hx2 hb
     rw [zbz, Bool.or_eq_true, decide_eq_true_eq] at hb
     have hne : x.1 ≠ i := fun e => by
      have : (za0 fs).testBit x.1 = true := (zfy fs x.1).2 ⟨x, hx2, rfl⟩
      rw [e, hF] at this; cases this
     have hold := hfl x hx2 (hb.resolve_right fun e => hne e.symm)
     obtain ⟨v, rfl⟩ := hput
     exact hold.keeps hx1.keeps (zam.refl _ _) hm.mem.pure hx1.nenv hx1.dom (zfg a _ v x.2.1 ((hdst x hx2).2.2 i hi1 (Ne.symm hne)))
   | true =>
    obtain ⟨x, hx2, hxi⟩ := (zfy fs i).1 hF
    have h1 := hhere k' fr h _ hx
    unfold zlc at h1
    rw [Bool.and_eq_true] at h1
    have h2 := List.all_eq_true.1 h1.1 x hx2
    split at h2
    case h_2 => cases h2
    rename_i t' ht'
    have ht2 := zh6 ht'
    rw [Bool.or_eq_true, Bool.or_eq_true] at h2
    have hsub := hclos _ ht2 (by simp only; rw [hxi]; exact hi3)
    have h3 : zmh E B ops N fs st x = true := by
     rcases h2 with (h2 | h2) | h2
     ·rw [hZX _ hsub] at h2; cases h2
     ·exfalso
      unfold zjn at h2
      obtain ⟨q, hq1, hq2⟩ := List.any_eq_true.1 h2
      rw [Bool.and_eq_true, za7, za7, hz, Bool.and_eq_true] at hq2
      have := zaD.1 (hclos q hq1 (hdn _ hq2.1.1)) x.1 hq2.2
      rw [hxi, hi2] at this; cases this
     ·exact h2
    unfold zmh at h3
    rw [hxi, Bool.and_eq_true] at h3
    obtain ⟨h4, h5⟩ := h3
    split at h5
    case h_2 => cases h5
    rename_i st' ns hds
    simp only [Bool.and_eq_true] at h5
    obtain ⟨⟨⟨q1, q2⟩, q3⟩, q4⟩ := h5
    split at q4
    case h_2 => cases q4
    rename_i e' he'
    have hown := zf6 q2 (by assumption)
    have hnv := Nat.eq_of_beq_eq_true q3
    have hent := Ent.beq_eq q4
    rw [zeb q1] at hds
    have hdi : zfK ops i = some x.2.1 := by rw [← hxi]; exact (hdst x hx2).1
    refine zcm hE hkn h0 hmw hds hnd ?_
    intro c1 a1 w1 hx1 hm1 hput
    rw [hdi] at hput
    have hmag : MatchSt E.G n0 w0 Y c1 ρ st a1 w1 := hm.again hx1 hm1 hput ⟨rfl, rfl⟩ hown hnv (by simpa using h4)
    have hx1' : Ext c ρ st.nenv st.D c1 ρ st.nenv st.D := ⟨hx1.keeps, zam.refl _ _, Nat.le_refl _, fun _ h => h⟩
    refine ih k' fr h Z st hx (X ||| (1 <<< i)) _ c1 a1 w1 (fun j => ?_) (hr.set hi1) hdn' (by omega) (he.trans hx1') hmag ?_
    ·rw [zbz, hz]
     by_cases hij : i = j
     ·subst hij; simp [hF]
     ·simp [hij]
    ·intro y hy hb
     rw [zbz, Bool.or_eq_true, decide_eq_true_eq] at hb
     by_cases hyi : y.1 = i
     ·have hyd : y.2.1 = x.2.1 := by
       have h8 := (hdst y hy).1
       rw [hyi, hdi] at h8
       exact (Option.some.inj h8).symm
      have hye : y.2.2 = x.2.2 ∨ True := .inr trivial
      have h9 : zaM st'.slots x.2.1 = some e' := he'
      have h10 := hm1.slots _ _ h9
      unfold St.D at h10 ⊢
      rw [hown, hnv, hent] at h10
      by_cases hyx : y = x
      ·rw [hyx]; exact h10
      ·have h1y := List.all_eq_true.1 h1.1 y hy
       split at h1y
       case h_2 => cases h1y
       rename_i t2 ht2'
       have ht3 := zh6 ht2'
       rw [Bool.or_eq_true, Bool.or_eq_true] at h1y
       have hsuby := hclos _ ht3 (by simp only; rw [hyi]; exact hi3)
       rcases h1y with (h1y | h1y) | h1y
       ·rw [hZX _ hsuby] at h1y; cases h1y
       ·exfalso
        unfold zjn at h1y
        obtain ⟨q, hq1, hq2⟩ := List.any_eq_true.1 h1y
        rw [Bool.and_eq_true, za7, za7, hz, Bool.and_eq_true] at hq2
        have := zaD.1 (hclos q hq1 (hdn _ hq2.1.1)) y.1 hq2.2
        rw [hyi, hi2] at this; cases this
       ·unfold zmh at h1y
        rw [hyi, Bool.and_eq_true] at h1y
        obtain ⟨_, h5y⟩ := h1y
        split at h5y
        case h_2 => cases h5y
        rename_i st2' ns2 hds2
        rw [hds] at hds2
        simp only [Option.some.injEq, Prod.mk.injEq] at hds2
        obtain ⟨rfl, rfl⟩ := hds2
        simp only [Bool.and_eq_true] at h5y
        have q4y := h5y.2
        rw [hyd, he'] at q4y
        simp only at q4y
        rw [hyd, ← Ent.beq_eq q4y, hent]; exact h10
     ·have hold := hfl y hy (hb.resolve_right fun e => hyi e.symm)
      obtain ⟨v, rfl⟩ := hput
      refine hold.keeps hx1.keeps (zam.refl _ _) hm.mem.pure (Nat.le_refl _) (fun _ h => h) (zfg a _ v y.2.1 ?_)
      rw [← hdi]
      exact (hdst y hy).2.2 i hi1 fun e => hyi e.symm
theorem Mem.drew {L : Lk} {nenv : Nat} (hm : Mem n0 w0 c ρ L nenv w) : Mem n0 w0 c ρ L nenv { w with drawn := w.drawn + 1 } := by
 refine ⟨⟨hm.imm.I, hm.imm.M⟩, hm.pure, hm.wf, fun i o h => ?_, hm.dist, hm.fresh, hm.disj, hm.immlt, ⟨hm.below.os, hm.below.tape, hm.below.output, hm.below.size, hm.below.block⟩, hm.old⟩
 have ho := hm.ok i o h
 cases o with
 | row sz e =>
  obtain ⟨xs, h1, h2⟩ := ho
  refine ⟨xs, h1, ?_⟩
  generalize c.h i = hv at h2 ⊢
  cases h2 with
  | nil => exact .nil
  | zero ad => exact .zero ad
  | row b o cap vs T _ q0 q1 q2 q3 q4 q5 => exact .row b o cap vs T xs q0 q1 q2 q3 q4 q5
 | _ => exact ho
theorem zeD {ops : Array Oper} {X i : Nat} : i ∈ rdy (zba ops) X ↔ i < ops.size ∧ X.testBit i = false ∧ subs (zaz ops i) X = true := by
 unfold rdy
 rw [List.mem_map]
 constructor
 ·rintro ⟨p, hp, rfl⟩
  obtain ⟨h1, h2⟩ := List.mem_filter.1 hp
  obtain ⟨h3, h4⟩ := zbf.1 h1
  simp only [Bool.and_eq_true, Bool.not_eq_true', za7] at h2
  rw [h4] at h2
  exact ⟨h3, h2.1, h2.2⟩
 ·rintro ⟨h1, h2, h3⟩
  refine ⟨(i, zaz ops i), List.mem_filter.2 ⟨zbf.2 ⟨h1, rfl⟩, ?_⟩, rfl⟩
  simp only [Bool.and_eq_true, Bool.not_eq_true', za7]
  exact ⟨h2, h3⟩
def pivQ (Q : Exit → Act → World → Prop) (X : Act → World → Prop) : Exit → Act → World → Prop
 | .normal => X
 | e => Q e
theorem zlW {F : Fence} {n : Nat} {P : Program} {o : Oper} {X K : Act → World → Prop} {Q : Exit → Act → World → Prop} (h : o.wpIn F n P a w K (pivQ Q X)) : o.wpIn F n P a w K Q := by
 unfold Oper.wpIn at *
 refine ⟨h.1, ?_⟩
 have hh := h.2
 generalize (o.semAt F.round a.eval).run P w = r at *
 cases r with
 | ok x w' =>
  cases x <;> simp only [Oper.uponIn] at hh ⊢ <;>
   first
    | exact hh
    | exact ⟨hh.1, CallsIn.mono hh.2 (fun e w'' he => by cases e <;> exact he)⟩
    | exact ⟨hh.1, RoundIn.mono hh.2 (fun e w'' he => by cases e <;> exact he)⟩
 | halt x w' => cases x <;> simp only [Oper.uponIn] at hh ⊢ <;> exact hh
theorem zdF {ops : Array Oper} {y i : Nat} (hy : y ≤ ops.size) (hi : i < y) : (ops.extract 0 y)[i]? = ops[i]? := by
 rw [Array.getElem?_extract]
 simp [hi, show i < ops.size by omega]
 omega
theorem zcV {ops : Array Oper} {y : Nat} (hy : y ≤ ops.size) : (ops.extract 0 y).size = y := by simp; omega
theorem zh3 {ops : Array Oper} {y i : Nat} (hy : y ≤ ops.size) (hi : i < y) : zaz (ops.extract 0 y) i = zaz ops i := by
 unfold zaz; rw [zdF hy hi]
theorem zkD {F : Fence} {n : Nat} {P : Program} {ops : Array Oper} {y i : Nat} (hy : y ≤ ops.size) (hi : i < y) {Q : Exit → Act → World → Prop} {X K K' : Act → World → Prop}
  (hg : ∀ o, ops[i]? = some o → ∀ j b, o.guard = some (j, b) → j < y) (hK : ∀ a w, K a w → K' a w) (h : wpOpIn F n P (ops.extract 0 y) (pivQ Q X) i K a w) : wpOpIn F n P ops Q i K' a w := by
 refine wpOpIn_mono hK ?_
 unfold wpOpIn at h ⊢
 rw [zdF hy hi] at h
 cases ho : ops[i]? with
 | none => rw [ho] at h; exact h
 | some o =>
  rw [ho] at h
  have hw : Region.wanted o (yielded (ops.extract 0 y) a.tmps) = Region.wanted o (yielded ops a.tmps) := by
   unfold Region.wanted
   cases hgd : o.guard with
   | none => rfl
   | some jb =>
    obtain ⟨j, b⟩ := jb
    have := hg o ho j b hgd
    simp only [yielded, zdF hy this]
  simp only [hw] at h ⊢
  split
  ·rename_i h1; rw [if_pos h1] at h; exact zlW h
  ·rename_i h1; rw [if_neg h1] at h; exact h
structure PivOk (ops : Array Oper) (y : Nat) : Prop where
 le : y ≤ ops.size
 low : ∀ i j, i < ops.size → (zaz ops i).testBit j = true → j < i
 guards : ∀ i, i < y → ∀ o, ops[i]? = some o → ∀ j b, o.guard = some (j, b) → j < y
 all : ∀ X i, (∀ i, X.testBit i = true → subs (zaz ops i) X = true) → y ≤ i → i < ops.size → subs (zaz ops i) X = true → ∀ j, j < i → X.testBit j = true
theorem zmG {ops : Array Oper} {y : Nat} (h : znw ops y = true) : PivOk ops y := by
 unfold znw at h
 rw [Bool.and_eq_true, Bool.and_eq_true, Bool.and_eq_true] at h
 obtain ⟨⟨⟨h1, h2⟩, h3⟩, h4⟩ := h
 have hle : y ≤ ops.size := Nat.le_of_ble_eq_true h4
 refine ⟨hle, fun i j hi hj => ?_, fun i hi o ho j b hgd => ?_, fun X i hX hyi hi hs j hj => ?_⟩
 ·have := List.all_eq_true.1 h1 (i, zaz ops i) (zbf.2 ⟨hi, rfl⟩)
  rw [Nat.blt_eq, Nat.one_shiftLeft] at this
  by_cases hc : j < i
  ·exact hc
  ·have h5 := Nat.ge_two_pow_of_testBit hj
   have h6 : 2 ^ i ≤ 2 ^ j := Nat.pow_le_pow_right (by omega) (by omega)
   simp only at this
   omega
 ·have := List.all_eq_true.1 h2 i (List.mem_range.2 hi)
  simp only [ho, hgd] at this
  rwa [Nat.blt_eq] at this
 ·obtain ⟨t, ht⟩ := zdD (zba ops) [] (i, zaz ops i) (zbf.2 ⟨hi, rfl⟩)
  have h5 := List.all_eq_true.1 h3 _ ht
  rw [Bool.or_eq_true, Nat.blt_eq] at h5
  have h6 : subs (2 ^ i - 1) t = true := h5.resolve_left (by simp only; omega)
  have h7 := zg7 hX (zba ops) [] (fun x hx => (zbf.1 hx).2) (fun x hx => by cases hx) _ ht hs
  exact zaD.1 h7 j (zaD.1 h6 j (by rw [Nat.testBit_two_pow_sub_one]; simpa using hj))
theorem zjQ {F : Fence} {n : Nat} {P : Program} {ops : Array Oper} {y : Nat} (hp : PivOk ops y) {Q : Exit → Act → World → Prop} : ∀ (m j : Nat), y ≤ j → j + m = ops.size → ∀ listed a w, Rel ops.size (2 ^ j - 1) listed →
  wpOpsIn F n P ops Q (List.range' j m) a w → wpAnyIn F n P .any ops Q m listed a w
 | 0, j, hyj, hjm, listed, a, w, hr, h => by
  refine ⟨?_, h⟩
  rw [za6 hr]
  cases hl : rdy (zba ops) (2 ^ j - 1) with
  | nil => rfl
  | cons i r =>
   have : i ∈ rdy (zba ops) (2 ^ j - 1) := by rw [hl]; exact List.mem_cons_self ..
   obtain ⟨h1, h2, _⟩ := zeD.1 this
   rw [Nat.testBit_two_pow_sub_one] at h2
   simp at h2; omega
 | m + 1, j, hyj, hjm, listed, a, w, hr, h => by
  rw [List.range'_succ, wpOpsIn_cons] at h
  have hbit : ∀ i, (2 ^ j - 1).testBit i = decide (i < j) := fun i => Nat.testBit_two_pow_sub_one ..
  have hcl : ∀ i, (2 ^ j - 1).testBit i = true → subs (zaz ops i) (2 ^ j - 1) = true := by
   intro i hi
   rw [hbit] at hi
   have hi : i < j := by simpa using hi
   refine zaD.2 fun q hq => ?_
   have := hp.low i q (by omega) hq
   rw [hbit]; simp; omega
  have hj : j ∈ rdy (zba ops) (2 ^ j - 1) := zeD.2 ⟨by omega, by rw [hbit]; simp, zaD.2 fun q hq => by rw [hbit]; have := hp.low j q (by omega) hq; simpa using this⟩
  refine ⟨fun hn => ?_, fun i hi => ?_⟩
  ·rw [za6 hr] at hn; rw [hn] at hj; cases hj
  ·rw [za6 hr] at hi
   obtain ⟨h1, h2, h3⟩ := zeD.1 hi
   have hij : ¬ i < j := by rw [hbit] at h2; simpa using h2
   have : i = j := by
    by_cases he : i = j
    ·exact he
    ·have := hp.all _ i hcl (by omega) h1 h3 j (by omega)
     rw [hbit] at this; simp at this
   subst this
   refine wpOpIn_mono (fun a w h => ?_) h
   refine zjQ hp m (i + 1) (by omega) (by omega) _ a w ?_ h
   have := hr.set (i := i) (by omega)
   have he : (2 ^ i - 1) ||| (1 <<< i) = 2 ^ (i + 1) - 1 := by
    refine Nat.eq_of_testBit_eq fun q => ?_
    rw [zbz, hbit, Nat.testBit_two_pow_sub_one]
    by_cases h1 : q < i
    ·simp [h1, show q < i + 1 by omega]
    ·by_cases h2 : i = q
     ·subst h2; simp
     ·simp [h1, h2]; omega
   rw [he] at this; exact this
theorem zjP {F : Fence} {n : Nat} {P : Program} {ops : Array Oper} {y : Nat} (hp : PivOk ops y) {Q : Exit → Act → World → Prop} {Z : Act → World → Prop} (hZ : ∀ a w, Z a w → ∀ listed, Rel ops.size (2 ^ y - 1) listed → wpAnyIn F n P .any ops Q (ops.size - y) listed a w) :
  ∀ (m : Nat) (X : Nat) (l1 listed : Array Bool) (a : Act) (w : World), Rel y X l1 → Rel ops.size X listed → (∀ i, X.testBit i = true → subs (zaz ops i) X = true) → cnt X y + m = y →
   wpAnyIn F n P .any (ops.extract 0 y) (pivQ Q Z) m l1 a w → wpAnyIn F n P .any ops Q (m + (ops.size - y)) listed a w
 | 0, X, l1, listed, a, w, hr1, hr, hX, hc, h => by
  have hfull := zjA (by omega : cnt X y = y)
  have hXy : X = 2 ^ y - 1 := by
   refine Nat.eq_of_testBit_eq fun i => ?_
   rw [Nat.testBit_two_pow_sub_one]
   by_cases hi : i < y
   ·rw [hfull i hi]; simp [hi]
   ·rw [hr1.high i (by omega)]; simp [hi]
  rw [Nat.zero_add]
  exact hZ a w h.2 listed (hXy ▸ hr)
 | m + 1, X, l1, listed, a, w, hr1, hr, hX, hc, h => by
  have hle := hp.le
  have hex : ∃ i, i < y ∧ X.testBit i = false := by
   by_cases hh : ∃ i, i < y ∧ X.testBit i = false
   ·exact hh
   ·exfalso
    have : cnt X y = y := by
     unfold cnt
     have : (List.range y).countP (fun i => X.testBit i) = (List.range y).length := by
      rw [List.countP_eq_length]
      intro i hi
      by_cases hb : X.testBit i = true
      ·exact hb
      ·exact absurd ⟨i, List.mem_range.1 hi, by simpa using hb⟩ hh
     rw [this, List.length_range]
    omega
  have hfirst : ∃ i, i < y ∧ X.testBit i = false ∧ ∀ j, j < i → X.testBit j = true := by
   have : ∀ n, (∃ i, i < n ∧ X.testBit i = false) → ∃ i, i < n ∧ X.testBit i = false ∧ ∀ j, j < i → X.testBit j = true := by
    intro n
    induction n with
    | zero => rintro ⟨i, hi, _⟩; omega
    | succ n ih =>
     rintro ⟨i, hi, hb⟩
     by_cases hlow : ∃ i, i < n ∧ X.testBit i = false
     ·obtain ⟨q, h1, h2⟩ := ih hlow
      exact ⟨q, by omega, h2⟩
     ·refine ⟨i, hi, hb, fun j hj => ?_⟩
      by_cases hb2 : X.testBit j = true
      ·exact hb2
      ·exact absurd ⟨j, by omega, by simpa using hb2⟩ hlow
   exact this y hex
  obtain ⟨i0, hi0, hb0, hlow0⟩ := hfirst
  have hmem0 : i0 ∈ rdy (zba ops) X := zeD.2 ⟨by omega, hb0, zaD.2 fun q hq => hlow0 q (hp.low i0 q (by omega) hq)⟩
  rw [show m + 1 + (ops.size - y) = (m + (ops.size - y)) + 1 by omega]
  refine ⟨fun hn => ?_, fun i hi => ?_⟩
  ·rw [za6 hr] at hn; rw [hn] at hmem0; cases hmem0
  ·rw [za6 hr] at hi
   obtain ⟨h1, h2, h3⟩ := zeD.1 hi
   have hiy : i < y := by
    by_cases hiy : i < y
    ·exact hiy
    ·have := hp.all X i hX (by omega) h1 h3 i0 (by omega)
     rw [hb0] at this; cases this
   have hr1' : Rel (ops.extract 0 y).size X l1 := by rw [zcV hle]; exact hr1
   have hi1 : i ∈ Region.ready .any (ops.extract 0 y) l1 := by
    rw [za6 hr1']
    exact zeD.2 ⟨by rw [zcV hle]; exact hiy, h2, by rw [zh3 hle hiy]; exact h3⟩
   refine zkD hle hiy (hp.guards i hiy) (fun a w hh => ?_) (h.2 i hi1)
   refine zjP hp hZ m (X ||| (1 <<< i)) _ _ a w (hr1.set hiy) (hr.set h1) (fun j hj => ?_) (by rw [zkW h2 y hiy]; omega) hh
   rw [zbz, Bool.or_eq_true, decide_eq_true_eq] at hj
   refine zaD.2 fun q hq => ?_
   rw [zbz, Bool.or_eq_true]
   rcases hj with hj | rfl
   ·exact .inl (zaD.1 (hX j hj) q hq)
   ·exact .inl (zaD.1 h3 q hq)
theorem zjr (hE : EnvOk E) (hkn : ∀ x ∈ E.kn, den ρ x.1 = .bool x.2 ∧ x.1.wf st.nenv (fun _ => true) = true) (h0 : n0 ≤ w0.w.heap.size) (hmix : E.P.follows .mixedOrders = true) {R : AV → Prop} {d : Nat} {rec : Bool → Nat → Code → St → Kont → RT} (hrec : zhL E R n0 w0 Y d rec) {id : Nat} {ops : Array Oper} {k : St → RT} {n : Nat} {Q : Exit → Act → World → Prop} {Lp : Nat → List AV → Prop} {y : Nat}
  (hm : MatchSt E.G n0 w0 Y c ρ st a w) (hk : KOk E R n0 w0 Y d Lp c ρ st.nenv st.D k (Q .normal)) (h : RTwp E.P E.G R (znG E Y rec ops st k y) Lp ρ) : (Code.region id ops true).wpIn (FW ro) n E.P Q a w := by
 unfold znG at h
 split at h
 ·rename_i fin N hdt
  split at h
  ·rename_i hex
   split at h
   ·rename_i hw
    rw [Bool.and_eq_true] at hex
    obtain ⟨hpv, hex⟩ := hex
    have hp := zmG hpv
    have hle := hp.le
    obtain ⟨ρ', a1, a2, a3, a4⟩ := zcv _ _ _ hm.mem.pure hw (zbi h)
    refine wpIn_region_any hmix ?_
    have hm' : MatchSt E.G n0 w0 Y c ρ' st a { w with drawn := w.drawn + 1 } := by
     refine ⟨(hm.mem.grow (hm.mem.hn0 h0) (Nat.le_refl _) a1 a2).drew, hm.glob, hm.sz, ?_, hm.dfr, hm.mdom, hm.rnds.keeps (Cx.Keeps.refl _ _) a1 hm.mem.pure (Nat.le_refl _) (fun _ h => h)⟩
     exact hm.slots.keeps (Cx.Keeps.refl _ _) a1 hm.mem.pure (Nat.le_refl _) (fun _ h => h)
    have hQ : ∀ c1 w1a w1, Ext c ρ' st.nenv st.D c1 ρ' fin.nenv fin.D → MatchSt E.G n0 w0 Y c1 ρ' fin w1a w1 → wpOpsIn (FW ro) n E.P ops Q (List.range' y (ops.size - y)) w1a w1 := by
     intro c1 w1a w1 hx1 hm1
     refine zdS hE h0 hrec _ { fin with nid := st.nid + 2 * ops.size } k c1 ρ' Lp w1a w1 ⟨hm1.mem, hm1.glob, hm1.sz, hm1.slots, hm1.dfr, hm1.mdom, hm1.rnds⟩ ?_ a4
     exact hk.mono ⟨hx1.keeps, a1, hx1.nenv, hx1.dom⟩ (fun _ _ => rfl)
    have hkn' : ∀ x ∈ E.kn, den ρ' x.1 = .bool x.2 := fun x hx => by rw [zat a1 _ (hkn x hx).2]; exact (hkn x hx).1
    have hNd : ∀ l ∈ N, ∀ nd ∈ l, NdOk E.P E.G ρ' nd := fun l hl nd hnd => a3 nd (List.mem_flatten.2 ⟨l, hl, hnd⟩)
    have hsz := zcV hle
    have hhead : wpAnyIn (FW ro) n E.P .any (ops.extract 0 y) (pivQ Q (wpOpsIn (FW ro) n E.P ops Q (List.range' y (ops.size - y)))) y (Array.replicate y false) a { w with drawn := w.drawn + 1 } := by
     unfold zhJ at hex
     rw [Bool.and_eq_true, Bool.and_eq_true] at hex
     have := ze4 hE hkn' h0 hex.1.1 hex.1.2 hNd (c0 := c) (nenv0 := st.nenv) (D0 := st.D) (n := n) (ro := ro) (Q := pivQ Q (wpOpsIn (FW ro) n E.P ops Q (List.range' y (ops.size - y)))) hQ y _ _ hex.2 0 _ (List.mem_cons_self ..) 0 (Array.replicate y false) c a { w with drawn := w.drawn + 1 } (by simp) (by rw [hsz]; exact Rel.init y) (by simp) (by
      rw [hsz]
      have : cnt 0 y = 0 := by unfold cnt; simp
      omega) (Ext.refl _ _ _ _) hm'.dropF (fun x _ h => by simp at h)
     exact this
    have := zjP hp (Q := Q) (Z := wpOpsIn (FW ro) n E.P ops Q (List.range' y (ops.size - y))) (F := FW ro) (n := n) (P := E.P) (fun a w hz listed hl => zjQ hp (ops.size - y) y (Nat.le_refl _) (by omega) listed a w hl hz) y 0 (Array.replicate y false) (Array.replicate ops.size false) a { w with drawn := w.drawn + 1 } (Rel.init _) (Rel.init _) (by simp) (by
      have : cnt 0 y = 0 := by unfold cnt; simp
      omega) hhead
    rw [show y + (ops.size - y) = ops.size by omega] at this
    exact this
   ·exact h.elim
  ·exact h.elim
 ·exact h.elim
theorem zek (hE : EnvOk E) (hkn : ∀ x ∈ E.kn, den ρ x.1 = .bool x.2 ∧ x.1.wf st.nenv (fun _ => true) = true) (h0 : n0 ≤ w0.w.heap.size) (hmix : E.P.follows .mixedOrders = true) {R : AV → Prop} {d : Nat} {rec : Bool → Nat → Code → St → Kont → RT} (hrec : zhL E R n0 w0 Y d rec) {id : Nat} {ops : Array Oper} {k : St → RT} {n : Nat} {Q : Exit → Act → World → Prop} {Lp : Nat → List AV → Prop}
  (hm : MatchSt E.G n0 w0 Y c ρ st a w) (hk : KOk E R n0 w0 Y d Lp c ρ st.nenv st.D k (Q .normal)) (h : RTwp E.P E.G R (zhF E Y rec ops st k) Lp ρ) : (Code.region id ops true).wpIn (FW ro) n E.P Q a w := by
 unfold zhF at h
 split at h
 ·rename_i fin N hdt
  split at h
  ·rename_i hex
   split at h
   ·rename_i hw
    obtain ⟨ρ', a1, a2, a3, a4⟩ := zcv _ _ _ hm.mem.pure hw (zbi h)
    refine wpIn_region_any hmix ?_
    have hm' : MatchSt E.G n0 w0 Y c ρ' st a { w with drawn := w.drawn + 1 } := by
     refine ⟨(hm.mem.grow (hm.mem.hn0 h0) (Nat.le_refl _) a1 a2).drew, hm.glob, hm.sz, ?_, hm.dfr, hm.mdom, hm.rnds.keeps (Cx.Keeps.refl _ _) a1 hm.mem.pure (Nat.le_refl _) (fun _ h => h)⟩
     exact hm.slots.keeps (Cx.Keeps.refl _ _) a1 hm.mem.pure (Nat.le_refl _) (fun _ h => h)
    have hQ : ∀ c1 w1a w1, Ext c ρ' st.nenv st.D c1 ρ' fin.nenv fin.D → MatchSt E.G n0 w0 Y c1 ρ' fin w1a w1 → Q .normal w1a w1 := by
     intro c1 w1a w1 hx1 hm1
     exact hk { fin with nid := st.nid + 2 * ops.size } c1 ρ' Lp w1a w1 ⟨hx1.keeps, a1, hx1.nenv, hx1.dom⟩ ⟨hm1.mem, hm1.glob, hm1.sz, hm1.slots, hm1.dfr, hm1.mdom, hm1.rnds⟩ (fun _ _ => rfl) a4
    have hkn' : ∀ x ∈ E.kn, den ρ' x.1 = .bool x.2 := fun x hx => by rw [zat a1 _ (hkn x hx).2]; exact (hkn x hx).1
    have hNd : ∀ l ∈ N, ∀ nd ∈ l, NdOk E.P E.G ρ' nd := fun l hl nd hnd => a3 nd (List.mem_flatten.2 ⟨l, hl, hnd⟩)
    rw [Bool.or_eq_true] at hex
    rcases hex with hex | hex
    ·unfold zhJ at hex
     rw [Bool.and_eq_true, Bool.and_eq_true] at hex
     refine ze4 hE hkn' h0 hex.1.1 hex.1.2 hNd (c0 := c) (nenv0 := st.nenv) (D0 := st.D) hQ ops.size ops.size [(0, dropF (zhg ops fin (List.range ops.size)) st)] hex.2 0 (dropF (zhg ops fin (List.range ops.size)) st) (List.mem_cons_self ..) 0 _ c a _ (by simp) (Rel.init _) (by simp) ?_ (Ext.refl _ _ _ _) hm'.dropF (fun x _ h => by simp at h)
     have : cnt 0 ops.size = 0 := by unfold cnt; simp
     omega
    ·exact zhe hE hkn' h0 (c0 := c) (nenv0 := st.nenv) (D0 := st.D) (N := N) (fin := fin) hNd hQ ops.size [(0, st)] hex 0 st (by simp) _ c a _ (Rel.init _) (Ext.refl _ _ _ _) hm'
   ·exact h.elim
  ·exact h.elim
 ·exact zjr hE hkn h0 hmix hrec hm hk h
theorem zcD (hE : EnvOk E) (h0 : n0 ≤ w0.w.heap.size) (hmix : E.P.follows .mixedOrders = true) {R : AV → Prop} {d : Nat} {rec : Bool → Nat → Code → St → Kont → RT} (hrec : zhL E R n0 w0 Y d rec) {id : Nat} {ops : Array Oper} {k : St → RT} {n : Nat} {Q : Exit → Act → World → Prop} {Lp : Nat → List AV → Prop}
  (hm : MatchSt E.G n0 w0 Y c ρ st a w) (hk : KOk E R n0 w0 Y d Lp c ρ st.nenv st.D k (Q .normal)) : ∀ (m : Nat) (kn : List (SE × Bool)), (∀ x ∈ kn, den ρ x.1 = .bool x.2 ∧ x.1.wf st.nenv (fun _ => true) = true) → RTwp E.P E.G R (zfY E Y rec ops st k m kn) Lp ρ → (Code.region id ops true).wpIn (FW ro) n E.P Q a w
 | 0, kn, hkn, h => zek (E := { E with kn := kn }) ⟨hE.cpt, hE.srt, hE.del, hE.G⟩ hkn h0 hmix (d := d) hrec hm hk h
 | m + 1, kn, hkn, h => by
  simp only [zfY] at h
  split at h
  ·rename_i e _
   split at h
   ·rename_i hw
    obtain ⟨b, hb, h1, h2⟩ := h
    cases b with
    | true => exact zcD hE h0 hmix hrec hm hk m ((e, true) :: kn) (fun x hx => by
      rcases List.mem_cons.1 hx with rfl | hx
      ·exact ⟨hb, hw⟩
      ·exact hkn x hx) (h1 rfl)
    | false => exact zcD hE h0 hmix hrec hm hk m ((e, false) :: kn) (fun x hx => by
      rcases List.mem_cons.1 hx with rfl | hx
      ·exact ⟨hb, hw⟩
      ·exact hkn x hx) (h2 rfl)
   ·exact h.elim
  ·exact zek (E := { E with kn := kn }) ⟨hE.cpt, hE.srt, hE.del, hE.G⟩ hkn h0 hmix (d := d) hrec hm hk h
theorem ziK (hE : EnvOk E) (h0 : n0 ≤ w0.w.heap.size) (hmix : E.P.follows .mixedOrders = true) {R : AV → Prop} {d : Nat} {rec : Bool → Nat → Code → St → Kont → RT} (hrec : zhL E R n0 w0 Y d rec) {id : Nat} {ops : Array Oper} {k : St → RT} {n : Nat} {Q : Exit → Act → World → Prop} {Lp : Nat → List AV → Prop}
  (hm : MatchSt E.G n0 w0 Y c ρ st a w) (hk : KOk E R n0 w0 Y d Lp c ρ st.nenv st.D k (Q .normal)) (h : RTwp E.P E.G R (zlI E Y rec ops st k) Lp ρ) : (Code.region id ops true).wpIn (FW ro) n E.P Q a w := by
 obtain ⟨c2, m2, k2, f1, f2, f3, f4⟩ := zca hE.G (zk1 ops st) c st hm
 unfold zlI at h
 refine zcD hE h0 hmix (d := d) hrec m2 (hk.mono ⟨k2.mono (fun _ _ => rfl), zam.refl _ _, by rw [f1]; exact Nat.le_refl _, fun i hi => by rw [f4]; exact hi⟩ (fun _ _ => rfl)) 8 [] (fun _ h => by cases h) h
end Go.Lb
