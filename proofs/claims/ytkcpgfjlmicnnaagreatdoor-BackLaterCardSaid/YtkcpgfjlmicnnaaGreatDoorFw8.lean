/- One operation, and a region in order: walked on. -/
import Derived.Test.YtkcpgfjlmicnnaaGreatDoorFw7
set_option linter.unusedSimpArgs false
set_option linter.unusedVariables false
namespace Go.Lb
open Go.RowKit
variable {Y : List (Nat × Rnd)} {n0 : Nat} {w0 : Base} {c c' c2 : Cx} {ρ ρ' : Nat → AV} {st st' : St} {a : Act} {w : World} {ro : Option Nat} {E : Env}
theorem Ext.keep_all {c c2 : Cx} {ρ : Nat → AV} {st st2 : St} (h : c.Keeps (fun _ => true) c2) (h1 : st2.nenv = st.nenv) (h2 : st2.D = st.D) : Ext c ρ st.nenv st.D c2 ρ st2.nenv st2.D :=
 ⟨h.mono fun _ _ => rfl, zam.refl _ _, by rw [h1]; exact Nat.le_refl _, fun i hi => by rw [h2]; exact hi⟩
theorem Ext.same {c : Cx} {ρ : Nat → AV} {st st2 : St} (h : St.Same st st2) : Ext c ρ st.nenv st.D c ρ st2.nenv st2.D :=
 Ext.keep_all (Cx.Keeps.refl _ _) h.nenv h.D
theorem zie {pcs : List (SE × Bool)} {o : Oper} {fid : Nat} {fn : Func} {cd : Code} {args : List SE} (h : zhk E st pcs o = some (fid, fn, cd, args)) :
  ∃ f xs tt fs es cs, o.op = .call { callee := .value f, args := xs, argTypes := tt } ∧ evS E.G st.slots pcs f = some (.clo fid fs cs) ∧ zby (evS E.G st.slots pcs) xs.toList = some es ∧ zbE E.P fid = true ∧
   E.P.funcs[fid]? = some fn ∧ fn.body = some cd ∧ args = fs ++ es ++ cs := by
 unfold zhk at h
 split at h
 ·rename_i f xs tt ho
  split at h
  ·rename_i fid' fs cs es h1 h2
   split at h
   ·rename_i hc
    split at h
    ·rename_i fn' h3
     split at h
     ·rename_i cd' h4
      simp only [Option.some.injEq, Prod.mk.injEq] at h
      obtain ⟨rfl, rfl, rfl, rfl⟩ := h
      exact ⟨f, xs, tt, fs, es, cs, ho, h1, h2, hc.2, h3, h4, rfl⟩
     ·cases h
    ·cases h
   ·cases h
  ·cases h
 ·cases h
theorem ziG {o : Oper} {fid i : Nat} {e : SE} (h : zjo E st o = some (fid, i, e)) :
  ∃ f xs tt, o.op = .call { callee := .value f, args := xs, argTypes := tt } ∧ evS E.G st.slots [] f = some (.clo fid [] []) ∧ zby (evS E.G st.slots []) xs.toList = some [.row i] ∧ E.srt fid = true ∧ zbE E.P fid = true ∧ look st.own i = some (.row 1 e) := by
 unfold zjo at h
 split at h
 ·rename_i f xs tt ho
  split at h
  ·rename_i fid' i' h1 h2
   split at h
   ·rename_i hc
    split at h
    ·rename_i e' h3
     simp only [Option.some.injEq, Prod.mk.injEq] at h
     obtain ⟨rfl, rfl, rfl⟩ := h
     exact ⟨f, xs, tt, ho, h1, h2, hc.1, hc.2, h3⟩
    ·cases h
   ·cases h
  ·cases h
 ·cases h
theorem zda (l : List Int) : AV.flat (l.map (AV.int .i64)) = l.map (AV.int .i64) := by
 induction l with
 | nil => rfl
 | cons x l ih => rw [List.map_cons, zaY, ih]; rfl
theorem zcq {c : Cx} : ∀ (l : List Int) (vs : List Value), Rvs c (l.map (AV.int .i64)) vs ↔ vs = l.map (Value.int .i64)
 | [], vs => ⟨fun h => by cases h; rfl, fun h => by subst h; exact .nil⟩
 | x :: l, vs => by
  constructor
  ·intro h
   cases h with
   | cons _ v _ vs' h1 h2 =>
    cases h1
    rw [(zcq l vs').1 h2]; rfl
  ·rintro rfl
   exact .cons _ _ _ _ (.int _ _) ((zcq l _).2 rfl)
theorem zez (l : List Int) : AV.pureAll (l.map (AV.int .i64)) = true := by
 induction l with
 | nil => rfl
 | cons x l ih => simp [AV.pureAll, AV.pure, ih]
theorem znv {P : Program} {O : Lk} {nenv : Nat} {o : Oper} (hm : Mem n0 w0 c ρ O nenv w) (hn0 : n0 ≤ w.heap.size) {f : Operand} {xs : Array Operand} {tt : Array TypeId} {fid i : Nat} {e : SE} {l : List Int}
  (ho : o.op = .call { callee := .value f, args := xs, argTypes := tt }) (hok : zbE P fid = true) (hf : Rv c (den ρ (.clo fid [] [])) (a.eval f)) (hes : Rvs c (dens ρ [.row i]) (xs.toList.map a.eval))
  (hl : O i = some (.row 1 e)) (hS : zm3 P fid) (hlen : l.length ≤ 4294967296) (hden : den ρ e = .sl (l.map (AV.int .i64))) (hr : ρ nenv = .sl ((zbA l).map (AV.int .i64))) :
  OpGo P ro n0 w0 c ρ O (.tup []) (O.upd i (.row 1 (.inp nenv))) (nenv + 1) o a w := by
 intro n next Q hn
 simp only [den] at hf
 have hfe : a.eval f = .func (.func fid) ⟨[]⟩ ⟨[]⟩ := by
  generalize a.eval f = v at hf
  cases hf with
  | clo _ _ _ vf vc h1 h2 => cases h1; cases h2; rfl
 have hx : xs.toList.map a.eval = [c.h i] := by
  generalize xs.toList.map a.eval = vs at hes
  cases hes with
  | cons _ v _ vs' h1 h2 =>
   cases h2
   cases h1 with
   | row _ ad k cap h => rw [h]
 refine zbB (by rw [ho]; intro c h; cases h) ?_
 rw [run_callValue hok ho hfe, hx]
 show ((FW ro).depth.isSome = true → 1 ≤ n) ∧ CallsIn (FW ro) (n - 1) P fid _ w _
 refine ⟨by simp, zdV ?_⟩
 have hrow : ∃ xs, den ρ e = .sl xs ∧ RowOk c w 1 (c.h i) xs := hm.ok i _ hl
 obtain ⟨ys, hys, hrow⟩ := hrow
 rw [hden] at hys
 simp only [AV.sl.injEq] at hys
 subst hys
 have hwf : (OS.row 1 (.inp nenv)).wf (nenv + 1) (O.upd i (.row 1 (.inp nenv))).dom = true := by
  simp [OS.wf, SE.wf]
 have hdi : O.dom i = true := Lk.dom_of hl
 have empty : l = [] → (c.h i = .slice none 0 0 ∨ ∃ ad, c.h i = .slice (some ad) 0 0) → Calls P fid ⟨[c.h i]⟩ w fun e w' => (match e, w' with
   | .returned v, w' => next (a.put o.dst v) w'
   | .panicked chain, w' => Q (.panic chain) a w'
   | .outgrown, _ => LetsOut Q) := by
  intro hl0 hv
  subst hl0
  have hs : zbA [] = [] := by simp [zbA]
  have hrv : Rv { I := fun _ _ => none, M := fun _ => none, β := fun _ => 0, h := fun _ => .nilFunc, L := fun _ => default } (.sl []) (c.h i) := by
   rcases hv with h | ⟨ad, h⟩ <;> rw [h]
   ·exact .slnil
   ·exact .sl0 _
  refine (hS.2.2 w { I := fun _ _ => none, M := fun _ => none, β := fun _ => 0, h := fun _ => .nilFunc, L := fun _ => default } _ ⟨fun _ _ _ h => (by cases h), fun _ _ h => (by cases h)⟩
   (fun _ _ => ⟨fun _ _ h => (by cases h), fun _ h => (by cases h)⟩) (fun _ _ h => by simp at h) (.cons _ _ _ _ hrv .nil)).mono ?_
  rintro e' w' ⟨v, c', rfl, _, _, _, _, hrv', hbel⟩
  cases hrv' with
  | tup _ vs hvs =>
   cases hvs
   have hm2 := hm.later (c' := c) (ρ' := ρ) (Nat.le_refl nenv) hbel hn0 (Cx.Keeps.refl _ _) (hm.imm.keeps rfl rfl (fun b hb => by
     have hlt := Imm.lt hm
     refine hbel.block b ?_
     rcases hb with ⟨off, v, h⟩ | ⟨ob, h⟩
     ·exact hlt.1 b off v h
     ·exact hlt.2 b ob h)) (fun b _ => ⟨fun _ _ h => h, fun _ h => h⟩) (fun b hb => hm.immlt b (by have := hbel.size; omega)) (zam.refl _ _) hm.pure
   refine hn _ w' c (Cx.Keeps.refl _ _) (.tup _ _ .nil) ?_
   have hbl : bl c i (.row 1 (.inp nenv)) = none := by
    rcases hv with h | ⟨ad, h⟩ <;> simp [bl, zay, h]
   refine hm2.step i _ (Nat.le_succ _) (Cx.Keeps.refl _ _) (zam.refl _ _) hm.pure hm2.imm hm2.immlt (Nat.le_refl _) hm2.below hm2.old hwf ?_ (fun _ _ _ _ _ _ => rfl) (fun b hb => by rw [hbl] at hb; cases hb) (fun j o b _ => hm2.disj j o b)
   refine ⟨[], by simp only [den]; rw [hr, hs]; rfl, ?_⟩
   rcases hv with h | ⟨ad, h⟩ <;> rw [h]
   ·exact .nil
   ·exact .zero _
 generalize hxs : l.map (AV.int .i64) = ys at hrow
 generalize hhi : c.h i = hv at hrow empty ⊢
 cases hrow with
 | nil => exact empty (by cases l; rfl; simp at hxs) (.inl rfl)
 | zero ad => exact empty (by cases l; rfl; simp at hxs) (.inr ⟨ad, rfl⟩)
 | row b o' cap vs T _ hcap hb hxl hov hsz hvs =>
  subst hxs
  rw [zda, Nat.mul_one, List.length_map] at hvs
  have hvs := (zcq _ _).1 hvs
  rw [List.length_map] at hxl ⊢
  have hbl : bl c i (.row 1 e) = some b := by simp [bl, hhi, zay]; omega
  have hfr := hm.fresh i _ b hl hbl
  have hdj := hm.disj i _ b hl hbl
  have hcell : ∀ j, j < l.length → vs[o' + j]? = some (.int .i64 l[j]!) := by
   intro j hj
   have h1 : ((vs.drop o').take l.length)[j]? = (l.map (Value.int .i64))[j]? := by rw [hvs]
   rw [List.getElem?_take_of_lt hj, List.getElem?_drop] at h1
   rw [h1]; simp [List.getElem?_eq_getElem hj]
  have hH : Go.Sort.Holds (Value.int .i64) w b o' l.toArray := by
   intro j hj
   have hj : j < l.length := by simpa using hj
   refine ⟨?_, by simp [World.frozen?, hb]⟩
   simp only [World.cell?, hb, Option.isSome_none, Bool.false_eq_true, if_false]
   have := hcell j hj
   simpa using this
  have hcall := hS.1 b o' cap l w hH hfr.2 (by omega)
  refine hcall.mono ?_
  rintro e' w' ⟨rfl, d, os, rfl⟩
  have hlen2 : (zbA l).length = l.length := by simp [zbA]
  show next (a.put o.dst _) _
  generalize hz : (l.mergeSort fun x y => decide (x ≤ y)) = zs at *
  have hzl : zs.length = l.length := by rw [← hz]; simp
  have hheap : ∀ k, k < w.heap.size → k ≠ b → (Go.Sort.grow (Go.Sort.putRow (Value.int .i64) (Go.Sort.ahead w d) b o' zs.toArray) os).heap[k]? = w.heap[k]? := by
   intro k hk hne
   rw [Go.Sort.heap_grow_old _ _ (by simpa [Go.Sort.putRow, Go.Sort.mapBlock, Go.Sort.ahead] using hk)]
   simp only [Go.Sort.putRow, Go.Sort.mapBlock, Go.Sort.ahead, Array.getElem?_modify]
   rw [if_neg (fun h => hne h.symm)]
  have hheapb : (Go.Sort.grow (Go.Sort.putRow (Value.int .i64) (Go.Sort.ahead w d) b o' zs.toArray) os).heap[b]? = some (.cells ⟨(Go.Sort.putCells (Value.int .i64) o' zs.toArray ⟨vs⟩).toList⟩ T (0, 0)) := by
   rw [Go.Sort.heap_grow_old _ _ (by simpa [Go.Sort.putRow, Go.Sort.mapBlock, Go.Sort.ahead] using hfr.2)]
   simp [Go.Sort.putRow, Go.Sort.mapBlock, Go.Sort.ahead, Array.getElem?_modify, hb, Go.Sort.onCells]
  have hput : ((Go.Sort.putCells (Value.int .i64) o' zs.toArray ⟨vs⟩).toList.drop o').take l.length = zs.map (Value.int .i64) := by
   apply List.ext_getElem?
   intro j
   by_cases hj : j < l.length
   ·rw [List.getElem?_take_of_lt hj, List.getElem?_drop, Array.getElem?_toList]
    have hj2 : o' + j < vs.length := by omega
    simp [Go.Sort.putCells, hj, hj2, hzl]
   ·rw [List.getElem?_take_eq_none (by omega), List.getElem?_eq_none (by simp; omega)]
  have hputl : (Go.Sort.putCells (Value.int .i64) o' zs.toArray ⟨vs⟩).toList.length = vs.length := by simp [Go.Sort.putCells]
  generalize (Go.Sort.putCells (Value.int .i64) o' zs.toArray ⟨vs⟩).toList = vs2 at hheapb hput hputl
  have hsize : w.heap.size ≤ (Go.Sort.grow (Go.Sort.putRow (Value.int .i64) (Go.Sort.ahead w d) b o' zs.toArray) os).heap.size := by
   simp [Go.Sort.grow, Go.Sort.putRow, Go.Sort.mapBlock, Go.Sort.ahead]
  have hos : (Go.Sort.grow (Go.Sort.putRow (Value.int .i64) (Go.Sort.ahead w d) b o' zs.toArray) os).os = w.os := rfl
  have htp : (Go.Sort.grow (Go.Sort.putRow (Value.int .i64) (Go.Sort.ahead w d) b o' zs.toArray) os).tape = w.tape := rfl
  have hot : (Go.Sort.grow (Go.Sort.putRow (Value.int .i64) (Go.Sort.ahead w d) b o' zs.toArray) os).output = w.output := rfl
  generalize Go.Sort.grow (Go.Sort.putRow (Value.int .i64) (Go.Sort.ahead w d) b o' zs.toArray) os = w2 at hheap hheapb hsize hos htp hot ⊢
  refine hn _ w2 c (Cx.Keeps.refl _ _) (.tup _ _ .nil) ?_
  have hlt := Imm.lt hm
  refine hm.step i _ (Nat.le_succ _) (Cx.Keeps.refl _ _) (zam.refl _ _) hm.pure (hm.imm.keeps rfl rfl (fun k hk => ?_)) (fun k hk => hm.immlt k (by omega)) hsize
   (hm.below.trans ⟨hos, htp, hot, hsize, fun k hk => hheap k (by omega) (by omega)⟩) hm.old hwf ?_ ?_ ?_ (fun j o b _ => hm.disj j o b)
  ·have hk2 : k < w.heap.size := by
    rcases hk with ⟨off, v, h⟩ | ⟨ob, h⟩
    ·exact hlt.1 k off v h
    ·exact hlt.2 k ob h
   refine hheap k hk2 ?_
   rintro rfl
   rcases hk with ⟨off, v, h⟩ | ⟨ob, h⟩
   ·exact hdj.1 off v h
   ·exact hdj.2 ob h
  ·refine ⟨zs.map (AV.int .i64), by simp only [den]; rw [hr, zbA, hz], ?_⟩
   rw [hhi, List.length_map, ← hzl, ← List.length_map (f := AV.int .i64)]
   refine .row b o' cap vs2 T _ hcap hheapb (by simp; omega) (by omega) ?_ ?_
   ·intro x hx
    simp only [List.mem_map] at hx
    obtain ⟨m, _, rfl⟩ := hx; rfl
   ·rw [zda, Nat.mul_one, List.length_map, hzl, hput]
    exact (zcq _ _).2 rfl
  ·intro j oj bj hj hlj hbj
   refine hheap bj (hm.fresh j oj bj hlj hbj).2 ?_
   rintro rfl
   exact hj (hm.dist j i oj _ bj hlj hl hbj hbl)
  ·intro b2 hb2
   have hbl' : bl c i (.row 1 (.inp nenv)) = some b := by simpa [bl] using hbl
   rw [hbl'] at hb2; simp only [Option.some.injEq] at hb2; subst hb2
   exact ⟨hfr.1, by omega, fun j oj hj hlj hbj => hj (hm.dist j i oj _ b hlj hl hbj hbl), hdj⟩
theorem zh0 {o : Oper} {fid i sz : Nat} {e lo hi : SE} (h : zi6 E st o = some (fid, i, sz, e, lo, hi)) :
  ∃ f xs tt, o.op = .call { callee := .value f, args := xs, argTypes := tt } ∧ evS E.G st.slots [] f = some (.clo fid [] []) ∧ zby (evS E.G st.slots []) xs.toList = some [.row i, lo, hi] ∧ 0 < E.del fid ∧ zbE E.P fid = true ∧ look st.own st.nid = none ∧ look st.own i = some (.row sz e) ∧
   sz = E.del fid ∧ (ze6 e lo hi).wf st.nenv (look (zah st.own i .gone)).dom = true := by
 unfold zi6 at h
 split at h
 ·rename_i f xs tt ho
  split at h
  ·rename_i fid' i' lo' hi' h1 h2
   split at h
   ·rename_i hc
    split at h
    ·rename_i sz' e' h3
     split at h
     ·rename_i hd
      simp only [Option.some.injEq, Prod.mk.injEq] at h
      obtain ⟨rfl, rfl, rfl, rfl, rfl, rfl⟩ := h
      exact ⟨f, xs, tt, ho, h1, h2, by simpa using hc.1.1, hc.1.2, by simpa using hc.2, h3, Nat.eq_of_beq_eq_true hd.1, hd.2⟩
     ·cases h
    ·cases h
   ·cases h
  ·cases h
 ·cases h
theorem zls {P : Program} {O : Lk} {nenv : Nat} {o : Oper} (hm : Mem n0 w0 c ρ O nenv w) (hn0 : n0 ≤ w.heap.size) {f : Operand} {xs : Array Operand} {tt : Array TypeId} {fid i nid sz : Nat} {e lo hi : SE} {ys : List AV} {p q : Nat}
  (ho : o.op = .call { callee := .value f, args := xs, argTypes := tt }) (hok : zbE P fid = true) (hf : Rv c (den ρ (.clo fid [] [])) (a.eval f)) (hes : Rvs c (dens ρ [.row i, lo, hi]) (xs.toList.map a.eval)) (hid : O nid = none)
  (hl : O i = some (.row sz e)) (hS : zl2 P fid sz) (hlo : den ρ lo = .int .i64 p) (hhi : den ρ hi = .int .i64 q) (hden : den ρ e = .sl ys) (hpq : p < q) (hq : q ≤ ys.length) (hlen : ys.length ≤ 8796093022208)
  (hones : ∀ y ∈ ys, y.cells.length = sz ∧ AV.ones y.cells = true) (hwf : (ze6 e lo hi).wf nenv (O.upd i .gone).dom = true) :
  OpGo P ro n0 w0 c ρ O (.row nid) ((O.upd i .gone).upd nid (.row sz (ze6 e lo hi))) nenv o a w := by
 intro n next Q hn
 simp only [den] at hf
 have hfe : a.eval f = .func (.func fid) ⟨[]⟩ ⟨[]⟩ := by
  generalize a.eval f = v at hf
  cases hf with
  | clo _ _ _ vf vc h1 h2 => cases h1; cases h2; rfl
 have hx : xs.toList.map a.eval = [c.h i, .int .i64 p, .int .i64 q] := by
  generalize xs.toList.map a.eval = vs at hes
  simp only [dens, hlo, hhi] at hes
  cases hes with
  | cons _ v _ vs' h1 h2 =>
   cases h2 with
   | cons _ v2 _ vs2 h3 h4 =>
    cases h4 with
    | cons _ v3 _ vs3 h5 h6 =>
     cases h6; cases h3; cases h5
     cases h1 with
     | row _ ad k cap h => rw [h]
 refine zbB (by rw [ho]; intro c h; cases h) ?_
 rw [run_callValue hok ho hfe, hx]
 show ((FW ro).depth.isSome = true → 1 ≤ n) ∧ CallsIn (FW ro) (n - 1) P fid _ w _
 refine ⟨by simp, zdV ?_⟩
 have hrow : ∃ xs, den ρ e = .sl xs ∧ RowOk c w sz (c.h i) xs := hm.ok i _ hl
 obtain ⟨zs, hzs, hrow⟩ := hrow
 rw [hden] at hzs
 simp only [AV.sl.injEq] at hzs
 subst hzs
 have hid1 : (O.upd i .gone) nid = none := by
  rw [Lk.upd_other]
  ·exact hid
  ·rintro rfl; rw [hid] at hl; cases hl
 have hm1 : Mem n0 w0 c ρ (O.upd i .gone) nenv w := hm.drop i
 have hd : den ρ (ze6 e lo hi) = .sl (ys.take p ++ ys.drop q) := by
  simp only [ze6, den, dens, hlo, hhi, hden]
  rfl
 generalize hhv : c.h i = hv at hrow ⊢
 cases hrow with
 | nil => simp at hq; omega
 | zero ad => simp at hq; omega
 | row b oo cap vs T _ hcap hb hxl hov hsz hvs =>
  have hbl : bl c i (.row sz e) = some b := by simp [bl, hhv, zay]; omega
  have hfr := hm.fresh i _ b hl hbl
  have hdj := hm.disj i _ b hl hbl
  have hfl : (AV.flat ys).length = ys.length * sz := zaH fun y hy => (hones y hy).1
  have hvl : ((vs.drop oo).take (ys.length * sz)).length = ys.length * sz := by rw [hvs.length]; exact hfl
  have hone : ∀ k u, k < ys.length * sz → vs[oo + k]? = some u → u.oneCell' = true := by
   intro k u hk hu
   refine hvs.ones (zfJ fun y hy => (hones y hy).2) u ?_
   refine List.mem_iff_getElem?.2 ⟨k, ?_⟩
   rw [List.getElem?_take_of_lt hk, List.getElem?_drop]; exact hu
  have hcall := hS b oo cap ys.length p q vs T w hb hxl hov hpq hq hlen hone
  refine hcall.mono ?_
  rintro e' w' ⟨rfl, us, u1, u2, u3, u4, u5, u6, u7, u8⟩
  show next (a.put o.dst _) _
  have hnl : (ys.take p ++ ys.drop q).length = ys.length - (q - p) := by simp; omega
  have hdrop : (vs.drop (oo + q * sz)).take ((ys.length - q) * sz) = ((vs.drop oo).take (ys.length * sz)).drop (q * sz) := by
   rw [List.drop_take, List.drop_drop, ← Nat.sub_mul]
  have htake : (vs.drop oo).take (p * sz) = ((vs.drop oo).take (ys.length * sz)).take (p * sz) := by
   rw [List.take_take, Nat.min_eq_left (Nat.mul_le_mul_right _ (by omega))]
  have hre := hm1.reRow (w' := w') (b := b) (oo := oo) (cap := cap) (sz := sz) (vs := us) (T := T) (e := ze6 e lo hi) (xs := ys.take p ++ ys.drop q) hid1 hd hwf hcap u2 (by rw [hnl]; omega) (by omega)
   (by
    intro x hx
    rcases List.mem_append.1 hx with hx | hx
    ·exact (hones x (List.mem_of_mem_take hx)).1
    ·exact (hones x (List.mem_of_mem_drop hx)).1)
   (by
    rw [hnl, u8, zbq, hdrop, htake, zia (fun y hy => (hones y hy).1) p (by omega), ← zcX (fun y hy => (hones y hy).1) q]
    exact (hvs.take _).append (hvs.drop _))
   u3 u4 u5 u6 u7 hfr.1
   (by
    intro j oj hlj hbj
    by_cases hji : j = i
    ·subst hji; rw [Lk.upd_same] at hlj; simp only [Option.some.injEq] at hlj; subst hlj; simp [bl] at hbj
    ·rw [Lk.upd_other _ _ hji] at hlj; exact hji (hm.dist j i oj _ b hlj hl hbj hbl))
   hdj
  rw [hnl] at hre
  refine hn _ _ _ (c.seth_keeps hid) ?_ hre
  simp only [den]
  exact .row nid _ _ _ (by simp [Cx.seth])
theorem zeO {o : Oper} {fid i : Nat} {e : SE} (h : zep E st o = some (fid, i, e)) :
  ∃ f xs tt, o.op = .call { callee := .value f, args := xs, argTypes := tt } ∧ evS E.G st.slots [] f = some (.clo fid [] []) ∧ zby (evS E.G st.slots []) xs.toList = some [.row i] ∧ E.cpt fid = true ∧ zbE E.P fid = true ∧ look st.own st.nid = none ∧ look st.own i = some (.row 1 e) := by
 unfold zep at h
 split at h
 ·rename_i f xs tt ho
  split at h
  ·rename_i fid' i' h1 h2
   split at h
   ·rename_i hc
    split at h
    ·rename_i e' h3
     simp only [Option.some.injEq, Prod.mk.injEq] at h
     obtain ⟨rfl, rfl, rfl⟩ := h
     exact ⟨f, xs, tt, ho, h1, h2, hc.1.1, hc.1.2, by simpa using hc.2, h3⟩
    ·cases h
   ·cases h
  ·cases h
 ·cases h
theorem zgH {P : Program} {O : Lk} {nenv : Nat} {o : Oper} (hm : Mem n0 w0 c ρ O nenv w) (hn0 : n0 ≤ w.heap.size) {f : Operand} {xs : Array Operand} {tt : Array TypeId} {fid i nid : Nat} {e : SE} {l : List Int}
  (ho : o.op = .call { callee := .value f, args := xs, argTypes := tt }) (hok : zbE P fid = true) (hf : Rv c (den ρ (.clo fid [] [])) (a.eval f)) (hes : Rvs c (dens ρ [.row i]) (xs.toList.map a.eval)) (hid : O nid = none)
  (hl : O i = some (.row 1 e)) (hS : zm0 P fid) (hlen : l.length ≤ 4294967296) (hden : den ρ e = .sl (l.map (AV.int .i64))) (hr : ρ nenv = .sl ((zaO l).map (AV.int .i64))) :
  OpGo P ro n0 w0 c ρ O (.row nid) ((O.upd i .gone).upd nid (.row 1 (.inp nenv))) (nenv + 1) o a w := by
 intro n next Q hn
 simp only [den] at hf
 have hfe : a.eval f = .func (.func fid) ⟨[]⟩ ⟨[]⟩ := by
  generalize a.eval f = v at hf
  cases hf with
  | clo _ _ _ vf vc h1 h2 => cases h1; cases h2; rfl
 have hx : xs.toList.map a.eval = [c.h i] := by
  generalize xs.toList.map a.eval = vs at hes
  cases hes with
  | cons _ v _ vs' h1 h2 =>
   cases h2
   cases h1 with
   | row _ ad k cap h => rw [h]
 refine zbB (by rw [ho]; intro c h; cases h) ?_
 rw [run_callValue hok ho hfe, hx]
 show ((FW ro).depth.isSome = true → 1 ≤ n) ∧ CallsIn (FW ro) (n - 1) P fid _ w _
 refine ⟨by simp, zdV ?_⟩
 have hrow : ∃ xs, den ρ e = .sl xs ∧ RowOk c w 1 (c.h i) xs := hm.ok i _ hl
 obtain ⟨ys, hys, hrow⟩ := hrow
 rw [hden] at hys
 simp only [AV.sl.injEq] at hys
 subst hys
 have hid1 : (O.upd i .gone) nid = none := by
  rw [Lk.upd_other]
  ·exact hid
  ·rintro rfl; rw [hid] at hl; cases hl
 have hm1 : Mem n0 w0 c ρ (O.upd i .gone) (nenv + 1) w := (hm.later (nenv' := nenv + 1) (Nat.le_succ _) (Below.refl _ _) hn0 (Cx.Keeps.refl _ _) hm.imm (fun _ _ => ⟨fun _ _ h => h, fun _ h => h⟩) hm.immlt (zam.refl _ _) hm.pure).drop i
 have hwf1 : (SE.inp nenv).wf (nenv + 1) (O.upd i .gone).dom = true := by simp [SE.wf]
 have empty : l = [] → (c.h i = .slice none 0 0 ∨ ∃ ad, c.h i = .slice (some ad) 0 0) → Calls P fid ⟨[c.h i]⟩ w fun e w' => (match e, w' with
   | .returned v, w' => next (a.put o.dst v) w'
   | .panicked chain, w' => Q (.panic chain) a w'
   | .outgrown, _ => LetsOut Q) := by
  intro hl0 hv
  subst hl0
  have hs : zaO [] = [] := List.eq_nil_of_length_eq_zero (Nat.le_zero.1 (zdE []))
  have hv2 : ∃ ad, c.h i = .slice ad 0 0 := by rcases hv with h | ⟨ad, h⟩ <;> exact ⟨_, h⟩
  obtain ⟨ad, hv2⟩ := hv2
  rw [hv2]
  refine (hS.2 ad 0 w).mono ?_
  rintro e' w' ⟨rfl, rfl⟩
  refine hn _ _ (c.seth nid (c.h i)) (c.seth_keeps hid) ?_ ?_
  ·simp only [den]
   rw [← hv2]
   rcases hv with hs | ⟨ad, hs⟩
   ·rw [hs]; exact .row nid none 0 0 (by simp [Cx.seth])
   ·rw [hs]; exact .row nid (some ad) 0 0 (by simp [Cx.seth])
  ·refine hm1.step nid _ (Nat.le_refl _) (c.seth_keeps hid1) (zam.refl _ _) hm.pure ⟨hm.imm.I, hm.imm.M⟩ hm.immlt (Nat.le_refl _) hm.below hm.old (SE.wf_mono (Nat.le_refl _) (Lk.dom_upd _ nid _) hwf1) ?_ (fun _ _ _ _ _ _ => rfl) ?_ (fun j o b _ => hm1.disj j o b)
   ·refine ⟨[], by simp only [den]; rw [hr, hs]; rfl, ?_⟩
    simp only [Cx.seth, if_true]
    rcases hv with hs | ⟨ad, hs⟩
    ·rw [hs]; exact .nil
    ·rw [hs]; exact .zero ad
   ·intro b hb
    simp only [bl, Cx.seth, if_true] at hb
    rcases hv with hs | ⟨ad, hs⟩ <;> simp [hs, zay] at hb
 generalize hxs : l.map (AV.int .i64) = ys at hrow
 generalize hhi : c.h i = hv at hrow empty ⊢
 cases hrow with
 | nil => exact empty (by cases l; rfl; simp at hxs) (.inl rfl)
 | zero ad => exact empty (by cases l; rfl; simp at hxs) (.inr ⟨ad, rfl⟩)
 | row b o' cap vs T _ hcap hb hxl hov hsz hvs =>
  subst hxs
  rw [zda, Nat.mul_one, List.length_map] at hvs
  have hvs := (zcq _ _).1 hvs
  rw [List.length_map] at hxl ⊢
  have hbl : bl c i (.row 1 e) = some b := by simp [bl, hhi, zay]; omega
  have hfr := hm.fresh i _ b hl hbl
  have hdj := hm.disj i _ b hl hbl
  have hcell : ∀ j, j < l.length → vs[o' + j]? = some (.int .i64 l[j]!) := by
   intro j hj
   have h1 : ((vs.drop o').take l.length)[j]? = (l.map (Value.int .i64))[j]? := by rw [hvs]
   rw [List.getElem?_take_of_lt hj, List.getElem?_drop] at h1
   rw [h1]; simp [List.getElem?_eq_getElem hj]
  have hH : Go.Sort.Holds (Value.int .i64) w b o' l.toArray := by
   intro j hj
   have hj : j < l.length := by simpa using hj
   refine ⟨?_, by simp [World.frozen?, hb]⟩
   simp only [World.cell?, hb, Option.isSome_none, Bool.false_eq_true, if_false]
   have := hcell j hj
   simpa using this
  have hcall := hS.1 b o' cap l w hH (by omega) hxl
  refine hcall.mono ?_
  rintro e' w' ⟨rfl, d, rfl⟩
  have hle := zdE l
  show next (a.put o.dst _) _
  unfold zaO at hr hle
  generalize Go.Lib.compact l = cz at *
  generalize hzz : cz ++ List.replicate (l.length - cz.length) 0 = zs at *
  have hzl : zs.length = l.length := by rw [← hzz]; simp; omega
  have hheap : ∀ k, k ≠ b → (Go.Sort.putRow (Value.int .i64) (Go.Sort.ahead w d) b o' zs.toArray).heap[k]? = w.heap[k]? := by
   intro k hne
   simp only [Go.Sort.putRow, Go.Sort.mapBlock, Go.Sort.ahead, Array.getElem?_modify]
   rw [if_neg (fun h => hne h.symm)]
  have hheapb : (Go.Sort.putRow (Value.int .i64) (Go.Sort.ahead w d) b o' zs.toArray).heap[b]? = some (.cells ⟨(Go.Sort.putCells (Value.int .i64) o' zs.toArray ⟨vs⟩).toList⟩ T (0, 0)) := by
   simp [Go.Sort.putRow, Go.Sort.mapBlock, Go.Sort.ahead, Array.getElem?_modify, hb, Go.Sort.onCells]
  have hput : ((Go.Sort.putCells (Value.int .i64) o' zs.toArray ⟨vs⟩).toList.drop o').take cz.length = cz.map (Value.int .i64) := by
   apply List.ext_getElem?
   intro j
   by_cases hj : j < cz.length
   ·rw [List.getElem?_take_of_lt hj, List.getElem?_drop, Array.getElem?_toList]
    have hj2 : o' + j < vs.length := by omega
    have hj3 : j < l.length := by omega
    have hz : zs[j]? = cz[j]? := by rw [← hzz, List.getElem?_append_left hj]
    have hz1 : zs[j]? = some cz[j] := by rw [hz]; simp [hj]
    obtain ⟨_, hz2⟩ := List.getElem?_eq_some_iff.1 hz1
    simp [Go.Sort.putCells, hj, hj2, hj3, hzl, hz2]
   ·rw [List.getElem?_take_eq_none (by omega), List.getElem?_eq_none (by simp; omega)]
  have hputl : (Go.Sort.putCells (Value.int .i64) o' zs.toArray ⟨vs⟩).toList.length = vs.length := by simp [Go.Sort.putCells]
  generalize (Go.Sort.putCells (Value.int .i64) o' zs.toArray ⟨vs⟩).toList = vs2 at hheapb hput hputl
  have hre := hm1.reRow (w' := Go.Sort.putRow (Value.int .i64) (Go.Sort.ahead w d) b o' zs.toArray) (b := b) (oo := o') (cap := cap) (sz := 1) (vs := vs2) (T := T) (e := .inp nenv) (xs := cz.map (AV.int .i64)) hid1 (by simp only [den]; exact hr) hwf1 hcap hheapb (by simp; omega) (by omega)
   (by
    intro x hx
    simp only [List.mem_map] at hx
    obtain ⟨m, _, rfl⟩ := hx; rfl)
   (by
    rw [zda, Nat.mul_one, List.length_map, hput]
    exact (zcq _ _).2 rfl)
   hheap (by simp [Go.Sort.putRow, Go.Sort.mapBlock, Go.Sort.ahead]) rfl rfl rfl hfr.1
   (by
    intro j oj hlj hbj
    by_cases hji : j = i
    ·subst hji; rw [Lk.upd_same] at hlj; simp only [Option.some.injEq] at hlj; subst hlj; simp [bl] at hbj
    ·rw [Lk.upd_other _ _ hji] at hlj; exact hji (hm.dist j i oj _ b hlj hl hbj hbl))
   hdj
  rw [List.length_map] at hre
  refine hn _ _ _ (c.seth_keeps hid) ?_ hre
  simp only [den]
  exact .row nid _ _ _ (by simp [Cx.seth])
theorem zgU {P : Program} {n : Nat} {f : FuncId} {args : Array Value} {w : World} {R : Ending → World → Prop} (h : CallsIn (FW none) n P f args w R) : CallsIn (FW ro) n P f args w R :=
 zdV ((callsIn_wide (n := n)).1 h)
theorem zge {o : Oper} {l : Nat} {r : Rnd} {es : List SE} (h : zf2 E Y st o = some (l, r, es)) :
  ∃ f xs tt, o.op = .call { callee := .value f, args := xs, argTypes := tt } ∧ evS E.G st.slots [] f = some (.yield l) ∧ zby (evS E.G st.slots []) xs.toList = some es ∧ zi9 Y l = some r ∧ r.ps.length = es.length ∧ ∀ p ∈ r.ps, p < r.sz := by
 unfold zf2 at h
 split at h
 ·rename_i f xs tt ho
  split at h
  ·rename_i l' es' h1 h2
   split at h
   ·rename_i r' h3
    split at h
    ·rename_i hc
     simp only [Option.some.injEq, Prod.mk.injEq] at h
     obtain ⟨rfl, rfl, rfl⟩ := h
     simp only [Bool.and_eq_true, List.all_eq_true, decide_eq_true_eq] at hc
     exact ⟨f, xs, tt, ho, h1, h2, h3, Nat.eq_of_beq_eq_true hc.1, hc.2⟩
    ·cases h
   ·cases h
  ·cases h
 ·cases h
theorem zfU {nenv : Nat} {D : Nat → Bool} : ∀ (ps : List Nat) (es : List SE) (vs : List Value) (slots : List (Nat × Ent)) (t : Array Value), zbo c ρ nenv D t slots → Rvs c (dens ρ es) vs → SE.wfs nenv D es = true → (∀ p ∈ ps, p < t.size) → ps.length = es.length →
  zbo c ρ nenv D ((ps.zip vs).foldl (fun tmps (x : Nat × Value) => tmps.setIfInBounds x.1 x.2) t) (zdg slots (ps.zip es)) ∧ ((ps.zip vs).foldl (fun tmps (x : Nat × Value) => tmps.setIfInBounds x.1 x.2) t).size = t.size
 | [], _, vs, slots, t, h, _, _, _, _ => ⟨by simpa [zdg] using h, by simp⟩
 | p :: ps, [], vs, slots, t, h, _, _, _, hl => by simp at hl
 | p :: ps, e :: es, vs, slots, t, h, hr, hw, hp, hl => by
  cases hr with
  | cons _ v _ vs h1 h2 =>
   simp only [SE.wfs, Bool.and_eq_true] at hw
   simp only [List.zip_cons_cons, List.foldl_cons, zdg]
   have hpt : p < t.size := hp p (List.mem_cons_self ..)
   have hn : zbo c ρ nenv D (t.setIfInBounds p v) (zc7 slots p ⟨[], e⟩) := by
    intro d en hf
    rw [zcC] at hf
    split at hf
    ·rename_i hd
     simp only [Option.some.injEq] at hf; subst hf; subst hd
     exact ⟨fun _ => ⟨v, by simp [hpt], h1⟩, fun hn => absurd (Holds.nil _) hn, hw.1, rfl⟩
    ·rename_i hd
     have := h d en hf
     refine ⟨fun hh => ?_, fun hh => ?_, this.wf⟩
     ·rw [Array.getElem?_setIfInBounds_ne (Ne.symm hd)]; exact this.yes hh
     ·rw [Array.getElem?_setIfInBounds_ne (Ne.symm hd)]; exact this.no hh
   obtain ⟨q1, q2⟩ := zfU ps es vs _ _ hn h2 hw.2 (fun q hq => by rw [Array.size_setIfInBounds]; exact hp q (List.mem_cons_of_mem _ hq)) (by simpa using hl)
   exact ⟨q1, by rw [q2, Array.size_setIfInBounds]⟩
theorem zgy {x : Option OS} (h : OS.isReady x = true) : x = some (.loop .ready) := by
 unfold OS.isReady at h
 split at h
 ·rfl
 ·cases h
theorem zlg {x : Option OS} (h : OS.isBusy x = true) : x = some (.loop .busy) := by
 unfold OS.isBusy at h
 split at h
 ·rfl
 ·cases h
theorem Mem.turnLoop {L : Lk} {nenv : Nat} (hm : Mem n0 w0 c ρ L nenv w) {i : Nat} {s : LSt} (hl : L i = some (.loop s)) (s' : LSt) :
  Mem n0 w0 c ρ (L.upd i (.loop s')) nenv (w.putObj (c.β i) (.loop (zbU (c.L i) s'))) := by
 have hb : w.heap[c.β i]? = some (.loop (zbU (c.L i) s)) := hm.ok i _ hl
 have hlt := (Array.getElem?_eq_some_iff.1 hb).1
 exact hm.turn hl rfl rfl rfl (World.putObj_heap_same hlt) (fun k hk => World.putObj_heap_other hk) World.putObj_size rfl rfl rfl
theorem run_callYield {P : Program} {o : Oper} {f : Operand} {xs : Array Operand} {tt : Array TypeId} {b : Nat} {r : Loop} (ho : o.op = .call { callee := .value f, args := xs, argTypes := tt }) (hf : a.eval f = .func (.yield b) #[] #[])
  (hb : w.heap[b]? = some (.loop r)) (hs : xs.size = r.params.size) :
  (execOp a.eval o).run P w = .ok (.round b r.fn ((r.params.zip (xs.map a.eval)).foldl (fun tmps (t, a) => tmps.setIfInBounds t a) r.tmps) r.assign r.body) w := by
 have hy := run_yield (P := P) (args := xs.map a.eval) hb (by simpa using hs)
 simp only [execOp, ho, Sem.run_bind, resolve, hf, Deferred.ofValue, Sem.run_pure, Result.andThen_ok, invoke]
 simpa using hy
theorem zgP (hE : EnvOk E) (h0 : n0 ≤ w0.w.heap.size) {R : AV → Prop} {d : Nat} {rec : Bool → Nat → Code → St → Kont → RT} (hrec : zhL E R n0 w0 Y d rec) {o : Oper} {k : St → RT} {n : Nat} {next : Act → World → Prop} {Q : Exit → Act → World → Prop} :
  ∀ (m : Nat) (st : St) (c : Cx) (ρ : Nat → AV) (Lp : Nat → List AV → Prop), MatchSt E.G n0 w0 Y c ρ st a w → KOk E R n0 w0 Y d Lp c ρ st.nenv st.D k next → RTwp E.P E.G R (sxDo E Y rec [] o k m st) Lp ρ →
   o.wpIn (FW ro) n E.P a w next Q := by
 intro m
 induction m with
 | zero => intro st c ρ Lp _ _ h; exact h.elim
 | succ m ih =>
  intro st0 c0 ρ Lp hm0 hk0 h
  simp only [sxDo] at h
  obtain ⟨c, hm, hkeep, e1, e2, e3, e4⟩ := zca hE.G (zaN E st0 [] o) c0 st0 hm0
  generalize frz (zaN E st0 [] o) st0 = st at h hm e1 e2 e3 e4
  have hk : KOk E R n0 w0 Y d Lp c ρ st.nenv st.D k next := hk0.mono (Ext.keep_all hkeep e1 e4) (fun _ _ => rfl)
  have hev : ∀ x e, evS E.G st.slots [] x = some e → Rv c (den ρ e) (a.eval x) ∧ e.wf st.nenv st.D = true := fun x e hx => zb8 hm.slots hm.glob hE.G (Holds.nil ρ) hx
  split at h
  ·rename_i cs hcp
   obtain ⟨b, st1, hb, hm1, hs1, h1⟩ := zb4 hm h
   have hk1 : KOk E R n0 w0 Y d Lp c ρ st1.nenv st1.D k next := hk.mono (Ext.same hs1) (fun _ _ => rfl)
   cases b
   ·exact ih st1 c ρ Lp hm1 hk1 h1
   ·exact ih st1 c ρ Lp hm1 hk1 h1
  ·split at h
   ·
    rename_i l r es hyc
    obtain ⟨f, xs, tt, ho, hf, hes, hY, hpl, hps⟩ := zge hyc
    split at h
    case isFalse => exact h.elim
    rename_i hrdy
    have hl := zgy hrdy
    have hfe : a.eval f = .func (.yield (c.β l)) #[] #[] := by
     have := (hev f _ hf).1
     simp only [den] at this
     generalize a.eval f = v at this
     cases this; rfl
    have hb : w.heap[c.β l]? = some (.loop (zbU (c.L l) .ready)) := hm.mem.ok l _ hl
    obtain ⟨y1, y2, y3, y4, y5, y6⟩ := hm.rnds l r hY
    have hes' := zax (c := c) (ρ := ρ) (a := a) (fun x e hx => (hev x e hx).1) _ _ hes
    have hsz : xs.size = (zbU (c.L l) .ready).params.size := by
     show xs.size = (c.L l).params.size
     rw [y2]
     show xs.size = r.ps.length
     rw [hpl, hes'.2]; simp
    refine zbB (by rw [ho]; intro c h; cases h) ?_
    rw [run_callYield ho hfe hb hsz]
    show ((FW ro).depth.isSome = true → 1 ≤ n) ∧ RoundIn (FW ro) (n - 1) E.P (c.β l) _ _ _ _ w _
    refine ⟨by simp, roundIn_of_wpIn trivial ?_⟩
    show (zbU (c.L l) .ready).assign.wpIn (FW (some (c.β l))) (n - 1) E.P _ _ w
    have hwfs := zjD (fun x e hx => (hev x e hx).2) _ _ hes
    obtain ⟨q1, q2⟩ := zfU (c := c) (ρ := ρ) r.ps es (xs.toList.map a.eval) r.slots (c.L l).tmps y6 hes'.1 hwfs (fun p hp => by rw [y5]; exact hps p hp) hpl
    have htm : ((zbU (c.L l) .ready).params.zip (xs.map a.eval)).foldl (fun tmps (t, a) => tmps.setIfInBounds t a) (zbU (c.L l) .ready).tmps = (r.ps.zip (xs.toList.map a.eval)).foldl (fun tmps (x : Nat × Value) => tmps.setIfInBounds x.1 x.2) (c.L l).tmps := by
     show ((c.L l).params.zip (xs.map a.eval)).foldl _ (c.L l).tmps = _
     rw [y2, ← Array.foldl_toList]
     simp
    rw [htm, show (zbU (c.L l) .ready).assign = r.assign from y3]
    have hm1 : MatchSt E.G n0 w0 Y c ρ ⟨r.sz, zdg r.slots (r.ps.zip es), st.own, st.nenv, st.nid, []⟩ { tmps := (r.ps.zip (xs.toList.map a.eval)).foldl (fun tmps (x : Nat × Value) => tmps.setIfInBounds x.1 x.2) (c.L l).tmps, defers := [] } w :=
     ⟨hm.mem, hm.glob, q2.trans y5, q1, ze5.nil _ _, (fun _ h => by cases h), hm.rnds⟩
    refine hrec true r.fn r.assign _ _ (some (c.β l)) _ _ c ρ Lp _ w (fun h => by cases h) hm1 ?_ h
    intro ke st2 c2 ρ2 Lp2 a2 w2 hx2 hm2 hL2 hr2
    cases ke with
    | exit id => exact hr2.elim
    | goto l => exact hr2.elim
    | ret => exact hr2.elim
    | normal =>
     simp only at hr2
     split at hr2
     case isFalse => exact hr2.elim
     rename_i hrdy2
     have hl2 := zgy hrdy2
     have hx2' : Ext c ρ st.nenv st.D c2 ρ2 st2.nenv st2.D := hx2
     have hdl : st.D l = true := Lk.dom_of hl
     have eβ : c2.β l = c.β l := hx2'.keeps.β l hdl
     have eL : c2.L l = c.L l := hx2'.keeps.L l hdl
     have hb2 : w2.heap[c.β l]? = some (.loop (zbU (c.L l) .ready)) := by
      have : w2.heap[c2.β l]? = some (.loop (zbU (c2.L l) .ready)) := hm2.mem.ok l _ hl2
      rwa [eβ, eL] at this
     refine ⟨_, run_beginRound hb2 rfl, ?_⟩
     have hmem3 : Mem n0 w0 c2 ρ2 (look (zah st2.own l (.loop .busy))) st2.nenv (w2.putObj (c.β l) (.loop { zbU (c.L l) .ready with state := .busy })) := by
      rw [zac]
      have := hm2.mem.turnLoop hl2 .busy
      rwa [eβ, eL] at this
     have hD3 : ∀ i, st2.D i = true → (look (zah st2.own l (.loop .busy))).dom i = true := fun i hi => by rw [zac]; exact Lk.dom_upd _ _ _ _ hi
     have hm3 : MatchSt E.G n0 w0 Y c2 ρ2 { st2 with own := zah st2.own l (.loop .busy) } a2 (w2.putObj (c.β l) (.loop { zbU (c.L l) .ready with state := .busy })) :=
      ⟨hmem3, hm2.glob, hm2.sz, hm2.slots.keeps (Cx.Keeps.refl _ _) (zam.refl _ _) hm2.mem.pure (Nat.le_refl _) hD3, hm2.dfr, fun i hi hne => hD3 i (hm2.mdom i hi hne), hm2.rnds.keeps (Cx.Keeps.refl _ _) (zam.refl _ _) hm2.mem.pure (Nat.le_refl _) hD3⟩
     show (zbU (c.L l) .ready).body.wpIn (FW (some (c.β l))) (n - 1) E.P _ a2 (w2.putObj (c.β l) (.loop { zbU (c.L l) .ready with state := .busy }))
     clear hmem3
     generalize (w2.putObj (c.β l) (.loop { zbU (c.L l) .ready with state := .busy })) = wz at hm3 ⊢
     rw [show (zbU (c.L l) .ready).body = r.body from y4]
     refine hrec true r.fn r.body _ _ (some (c.β l)) _ _ c2 ρ2 Lp2 a2 _ (fun h => by cases h) hm3 ?_ hr2
     intro ke st3 c3 ρ3 Lp3 a3 w3 hx3 hm3' hL3 hr3
     simp only at hr3
     split at hr3
     case isFalse => exact hr3.elim
     rename_i hbusy
     have hl3 := zlg hbusy
     split at hr3
     case h_2 => exact hr3.elim
     rename_i st4 hput
     have hx3' : Ext c2 ρ2 st2.nenv st2.D c3 ρ3 st3.nenv st3.D := ⟨hx3.keeps.mono hD3, hx3.agree, hx3.nenv, fun i hi => hx3.dom i (hD3 i hi)⟩
     have hx : Ext c ρ st.nenv st.D c3 ρ3 st3.nenv st3.D := hx2'.trans hx3'
     have eβ3 : c3.β l = c.β l := hx.keeps.β l hdl
     have eL3 : c3.L l = c.L l := hx.keeps.L l hdl
     have hb3 : w3.heap[c.β l]? = some (.loop (zbU (c.L l) .busy)) := by
      have : w3.heap[c3.β l]? = some (.loop (zbU (c3.L l) .busy)) := hm3'.mem.ok l _ hl3
      rwa [eβ3, eL3] at this
     have fin : ∀ (s : LSt) (bo : Bool), zhw ke = (s, bo) → ∀ w4, w4 = w3.putObj (c.β l) (.loop (zbU (c.L l) s)) → next (a.put o.dst (.bool bo)) w4 := by
      intro s bo hre w4 hw4
      rw [hre] at hput
      have hmem4 : Mem n0 w0 c3 ρ3 (look (zah st3.own l (.loop s))) st3.nenv w4 := by
       rw [zac, hw4]
       have := hm3'.mem.turnLoop hl3 s
       rwa [eβ3, eL3] at this
      have hD4 : ∀ i, st3.D i = true → (look (zah st3.own l (.loop s))).dom i = true := fun i hi => by rw [zac]; exact Lk.dom_upd _ _ _ _ hi
      have hx4 : Ext c ρ st.nenv st.D c3 ρ3 st3.nenv (look (zah st3.own l (.loop s))).dom := ⟨hx.keeps, hx.agree, hx.nenv, fun i hi => hD4 i (hx.dom i hi)⟩
      have hp := hm.put (st1 := { st with own := zah st3.own l (.loop s), nenv := st3.nenv, nid := st3.nid }) hx4 hmem4 rfl rfl rfl hm3'.glob hput (v := .bool bo) (fun _ => .bool bo) (fun hn => absurd (Holds.nil _) hn) rfl rfl
      refine hk st4 c3 ρ3 Lp3 _ w4 ?_ hp.1 (fun j hj => (hL3 j hj).trans (hL2 j hj)) hr3
      have : st4.D = (look (zah st3.own l (.loop s))).dom := by unfold St.D; rw [hp.2.2.1]
      rw [hp.2.1, this]; exact hx4
     cases ke with
     | normal => exact ⟨_, _, run_endRound none hb3, fin .ready true rfl _ rfl⟩
     | ret => exact ⟨_, _, run_endRound (some .ret) hb3, fin .doneRet false rfl _ rfl⟩
     | exit id => exact ⟨_, _, run_endRound (some (.exit id)) hb3, fin (.doneExit id) false rfl _ rfl⟩
     | goto t => exact ⟨_, _, run_endRound (some (.goto t)) hb3, fin (.doneGoto t) false rfl _ rfl⟩
   ·split at h
    ·rename_i fid i e hsr
     obtain ⟨f, xs, tt, ho, hf, hes, hsrt, hok, hl⟩ := ziG hsr
     split at h
     case h_2 => exact h.elim
     rename_i st2 hput
     obtain ⟨l, hlen, hden, hK⟩ := zbi h
     have hfe := (hev f _ hf).1
     have hes' := (zax (c := c) (ρ := ρ) (a := a) (fun x e hx => (hev x e hx).1) _ _ hes).1
     have hn0 := hm.mem.hn0 h0
     generalize hρ1 : zaC ρ st.nenv (.sl ((zbA l).map (AV.int .i64))) = ρ1 at hK
     have hag : zam st.nenv ρ ρ1 := by rw [← hρ1]; exact zaP _ _ _
     have hpu : ∀ j, (ρ1 j).pure = true := by
      intro j
      rw [← hρ1]; unfold zaC
      split
      ·simp only [AV.pure]
       exact zez _
      ·exact hm.mem.pure j
     have hm1 := hm.mem.env hn0 hag hpu
     have hwe : e.wf st.nenv (look st.own).dom = true := hm.mem.wf i _ hl
     have hop := znv (ro := ro) (a := a) (o := o) (l := l) hm1 hn0 ho hok (by simpa only [den, dens] using hfe) (by simpa only [den, dens] using hes') hl (hE.srt fid hsrt) hlen (by rw [zat hag e hwe]; exact hden) (by rw [← hρ1]; simp [zaC])
     refine hop n next Q fun v w' c' b1 b2 b3 => ?_
     rw [← zac] at b3
     have hD : ∀ j, st.D j = true → (look (zah st.own i (.row 1 (.inp st.nenv)))).dom j = true := fun j hj => by rw [zac]; exact Lk.dom_upd _ _ _ _ hj
     have hx : Ext c ρ st.nenv st.D c' ρ1 (st.nenv + 1) (look (zah st.own i (.row 1 (.inp st.nenv)))).dom := ⟨b1, hag, Nat.le_succ _, hD⟩
     have hp := hm.put (st1 := { st with own := zah st.own i (.row 1 (.inp st.nenv)), nenv := st.nenv + 1 }) hx b3 rfl rfl rfl (hm.glob.ext hE b1.toLe) hput (fun _ => b2) (fun hn => absurd (Holds.nil _) hn) rfl rfl
     refine hk st2 c' ρ1 Lp _ w' ?_ hp.1 (fun _ _ => rfl) hK
     have : st2.D = (look (zah st.own i (.row 1 (.inp st.nenv)))).dom := by unfold St.D; rw [hp.2.2.1]
     rw [hp.2.1, this]; exact hx
    split at h
    ·rename_i fid i e hsr
     obtain ⟨f, xs, tt, ho, hf, hes, hcpt, hok, hfresh, hl⟩ := zeO hsr
     split at h
     case h_2 => exact h.elim
     rename_i st2 hput
     obtain ⟨l, hlen, hden, hK⟩ := zbi h
     have hfe := (hev f _ hf).1
     have hes' := (zax (c := c) (ρ := ρ) (a := a) (fun x e hx => (hev x e hx).1) _ _ hes).1
     have hn0 := hm.mem.hn0 h0
     generalize hρ1 : zaC ρ st.nenv (.sl ((zaO l).map (AV.int .i64))) = ρ1 at hK
     have hag : zam st.nenv ρ ρ1 := by rw [← hρ1]; exact zaP _ _ _
     have hpu : ∀ j, (ρ1 j).pure = true := by
      intro j
      rw [← hρ1]; unfold zaC
      split
      ·simp only [AV.pure]
       exact zez _
      ·exact hm.mem.pure j
     have hm1 := hm.mem.env hn0 hag hpu
     have hwe : e.wf st.nenv (look st.own).dom = true := hm.mem.wf i _ hl
     have hop := zgH (ro := ro) (a := a) (o := o) (l := l) hm1 hn0 ho hok (by simpa only [den, dens] using hfe) (by simpa only [den, dens] using hes') hfresh hl (hE.cpt fid hcpt) hlen (by rw [zat hag e hwe]; exact hden) (by rw [← hρ1]; simp [zaC])
     refine hop n next Q fun v w' c' b1 b2 b3 => ?_
     rw [← zac, ← zac] at b3
     have hD : ∀ j, st.D j = true → (look (zah (zah st.own i .gone) st.nid (.row 1 (.inp st.nenv)))).dom j = true := fun j hj => by rw [zac, zac]; exact Lk.dom_upd _ _ _ _ (Lk.dom_upd _ _ _ _ hj)
     have hx : Ext c ρ st.nenv st.D c' ρ1 (st.nenv + 1) (look (zah (zah st.own i .gone) st.nid (.row 1 (.inp st.nenv)))).dom := ⟨b1, hag, Nat.le_succ _, hD⟩
     have hp := hm.put (st1 := { st with own := zah (zah st.own i .gone) st.nid (.row 1 (.inp st.nenv)), nenv := st.nenv + 1, nid := st.nid + 1 }) hx b3 rfl rfl rfl (hm.glob.ext hE b1.toLe) hput (fun _ => b2) (fun hn => absurd (Holds.nil _) hn) (by simp only [SE.wf, St.D]; rw [zac]; exact Lk.dom_upd_same _ _ _) rfl
     refine hk st2 c' ρ1 Lp _ w' ?_ hp.1 (fun _ _ => rfl) hK
     have : st2.D = (look (zah (zah st.own i .gone) st.nid (.row 1 (.inp st.nenv)))).dom := by unfold St.D; rw [hp.2.2.1]
     rw [hp.2.1, this]; exact hx
    split at h
    ·rename_i fid i sz e lo hi hsr
     obtain ⟨f, xs, tt, ho, hf, hes, hdel, hok, hfresh, hl, hsz, hwf⟩ := zh0 hsr
     split at h
     case h_2 => exact h.elim
     rename_i st2 hput
     obtain ⟨q1, q2, q3, q4, q5, q6, hK⟩ := zbi h
     have q1 := q1 (Holds.nil ρ)
     have q2 := q2 (Holds.nil ρ)
     have q3 := q3 (Holds.nil ρ)
     have q4 := q4 (Holds.nil ρ)
     have q5 := q5 (Holds.nil ρ)
     have q6 := q6 (Holds.nil ρ)
     have hfe := (hev f _ hf).1
     have hes' := (zax (c := c) (ρ := ρ) (a := a) (fun x e hx => (hev x e hx).1) _ _ hes).1
     have hn0 := hm.mem.hn0 h0
     obtain ⟨ys, hden, _⟩ : ∃ xs, den ρ e = .sl xs ∧ RowOk c w sz (c.h i) xs := hm.mem.ok i _ hl
     have hlo : ∃ l : Int, den ρ lo = .int .i64 l := by
      simp only [dens, den] at q3
      generalize den ρ lo = v at q3
      cases v <;> first | exact q3.elim | skip
      rename_i k l
      have : k = .i64 := q3
      subst this; exact ⟨l, rfl⟩
     have hhi : ∃ l : Int, den ρ hi = .int .i64 l := by
      simp only [dens, den] at q4
      generalize den ρ hi = v at q4
      cases v <;> first | exact q4.elim | skip
      rename_i k l
      have : k = .i64 := q4
      subst this; exact ⟨l, rfl⟩
     obtain ⟨l, hlo⟩ := hlo
     obtain ⟨g, hhi⟩ := hhi
     simp only [dens, den, hden, hlo, hhi] at q1 q2 q5 q6
     have q5 : 0 ≤ l ∧ l ≤ g ∧ g ≤ ys.length := q5
     have q6 : 0 ≤ IntKind.i64.wrap (l + 1) ∧ IntKind.i64.wrap (l + 1) ≤ g ∧ g ≤ ys.length := q6
     have q2 : ys.length + 0 ≤ 8796093022208 := q2
     have hwr : IntKind.i64.wrap (l + 1) = l + 1 := by
      simp [IntKind.wrap, IntKind.signed, IntKind.bits]; split <;> omega
     rw [hwr] at q6
     have hop := zls (ro := ro) (a := a) (o := o) (p := l.toNat) (q := g.toNat) hm.mem hn0 ho hok (by simpa only [den, dens] using hfe) hes' hfresh hl (by rw [hsz]; exact hE.del fid hdel) (by rw [hlo]; congr 1; omega) (by rw [hhi]; congr 1; omega) hden (by omega) (by omega) (by omega) q1 (by rw [← zac]; exact hwf)
     refine hop n next Q fun v w' c' b1 b2 b3 => ?_
     rw [← zac, ← zac] at b3
     have hD : ∀ j, st.D j = true → (look (zah (zah st.own i .gone) st.nid (.row sz (ze6 e lo hi)))).dom j = true := fun j hj => by rw [zac, zac]; exact Lk.dom_upd _ _ _ _ (Lk.dom_upd _ _ _ _ hj)
     have hx : Ext c ρ st.nenv st.D c' ρ st.nenv (look (zah (zah st.own i .gone) st.nid (.row sz (ze6 e lo hi)))).dom := ⟨b1, zam.refl _ _, Nat.le_refl _, hD⟩
     have hp := hm.put (st1 := { st with own := zah (zah st.own i .gone) st.nid (.row sz (ze6 e lo hi)), nid := st.nid + 1 }) hx b3 rfl rfl rfl (hm.glob.ext hE b1.toLe) hput (fun _ => b2) (fun hn => absurd (Holds.nil _) hn) (by simp only [SE.wf, St.D]; rw [zac]; exact Lk.dom_upd_same _ _ _) rfl
     refine hk st2 c' ρ Lp _ w' ?_ hp.1 (fun _ _ => rfl) hK
     have : st2.D = (look (zah (zah st.own i .gone) st.nid (.row sz (ze6 e lo hi)))).dom := by unfold St.D; rw [hp.2.2.1]
     rw [hp.2.1, this]; exact hx
    split at h
    ·rename_i fid fn cd args hin
     obtain ⟨f, xs, tt, fs, es, cs, ho, hf, hes, hok, hfn, hbody, rfl⟩ := zie hin
     have hfe := (hev f _ hf).1
     simp only [den] at hfe
     have hfv : ∃ vf vc, a.eval f = .func (.func fid) ⟨vf⟩ ⟨vc⟩ ∧ Rvs c (dens ρ fs) vf ∧ Rvs c (dens ρ cs) vc := by
      generalize a.eval f = v at hfe
      cases hfe with
      | clo _ _ _ vf vc h1 h2 => exact ⟨vf, vc, rfl, h1, h2⟩
     obtain ⟨vf, vc, hfe', h1, h2⟩ := hfv
     have hes' := (zax (c := c) (ρ := ρ) (a := a) (fun x e hx => (hev x e hx).1) _ _ hes).1
     have hall : Rvs c (dens ρ (fs ++ es ++ cs)) (vf ++ xs.toList.map a.eval ++ vc) := by
      rw [zaE, zaE]; exact (h1.append hes').append h2
     have hwf : SE.wfs st.nenv st.D (fs ++ es ++ cs) = true := by
      have w1 := (hev f _ hf).2
      simp only [SE.wf, Bool.and_eq_true] at w1
      rw [zcw, zcw, w1.1, w1.2, zjD (fun x e hx => (hev x e hx).2) _ _ hes]; rfl
     refine zbB (by rw [ho]; intro c h; cases h) ?_
     rw [run_callValue hok ho hfe']
     show ((FW ro).depth.isSome = true → 1 ≤ n) ∧ CallsIn (FW ro) (n - 1) E.P fid _ w _
     refine ⟨by simp, zgU ?_⟩
     refine callsIn_of_wp_marks (F := FW none) hfn hbody trivial ?_
     refine hrec false fid cd _ _ none _ _ c ρ Lp _ w (fun _ => rfl) (zeC hm.rnds hm.mem hm.glob hall hwf fn.ntmps) ?_ h
     intro ke st1 c1 ρ1 Lp1 a1 w1 hx hm1 hL hr
     have good : ∀ (hr : RTwp E.P E.G R (match zaK st1.marks st1.own with
       | some own1 => match zgK E { st1 with own := own1 } fn.results with
        | some (e, ns) => if e.wf st1.nenv (look own1).dom = true then match ({ st with own := own1, nenv := st1.nenv, nid := st1.nid } : St).put o.dst ⟨[], e⟩ with
         | some st'' => seg ns (k st'')
         | none => .dead 2 [] else .dead 3 []
        | none => .dead 4 []
       | none => .dead 35 []) Lp1 ρ1), LeavesInM (FW none) (n - 1) E.P fn a1.tmps (fun
        | .returned v, w'' => next (a.put o.dst v) w''
        | .panicked chain, w'' => Q (.panic chain) a w''
        | .outgrown, _ => LetsOut Q) a1.defers .returning w1 := by
      intro hr
      split at hr
      ·rename_i own1 hlv
       obtain ⟨_, hdf, _, _⟩ := hm1.dfr
       rw [hdf, zdK (zdI hlv)]
       refine zdJ st1.marks st1.own own1 w1 hlv hm1.mem (fun w' hmem' => ?_)
       have hdm := zcj hlv
       split at hr
       ·rename_i e ns hres
        split at hr
        ·rename_i hew
         split at hr
         ·rename_i st2 hput
          have hm1' : MatchSt E.G n0 w0 Y c1 ρ1 { st1 with own := own1 } a1 w' :=
           ⟨hmem', hm1.glob, hm1.sz, hm1.slots.keeps (Cx.Keeps.refl _ _) (zam.refl _ _) hm1.mem.pure (Nat.le_refl _) hdm, hm1.dfr, fun i hi hne => hdm i (hm1.mdom i hi hne), hm1.rnds.keeps (Cx.Keeps.refl _ _) (zam.refl _ _) hm1.mem.pure (Nat.le_refl _) hdm⟩
          obtain ⟨hk2, v, hv1, hv2⟩ := zeZ hE hm1' hres (zbi hr)
          refine ⟨v, hv1, ?_⟩
          have hxx : Ext c ρ st.nenv st.D c1 ρ1 st1.nenv (look own1).dom := ⟨hx.keeps, hx.agree, hx.nenv, fun i hi => hdm i (hx.dom i hi)⟩
          have hp := hm.put (st1 := { st with own := own1, nenv := st1.nenv, nid := st1.nid }) hxx hmem' rfl rfl rfl hm1.glob hput (fun _ => hv2) (fun hn => absurd (Holds.nil _) hn) hew rfl
          refine hk st2 c1 ρ1 Lp1 _ w' ?_ hp.1 hL hk2
          have : st2.D = (look own1).dom := by unfold St.D; rw [hp.2.2.1]
          rw [hp.2.1, this]; exact hxx
         ·exact hr.elim
        ·exact hr.elim
       ·exact hr.elim
      ·exact hr.elim
     cases ke with
     | normal => exact good hr
     | ret => exact good hr
     | exit id => exact hr.elim
     | goto l => exact hr.elim
    ·split at h
     ·exact h.elim
     ·rename_i s st1 hst
      split at h
      ·exact h.elim
      ·rename_i st2 hput
       refine zdR hE h0 hm hst (Holds.nil ρ) (zbi h) ?_
       intro ρ1 c1 v w1 hK hx hv hmem hg
       obtain ⟨_, _, _, hvw, _, hsl, hsz, _, _, hmk⟩ := zcf hst
       have hp := hm.put hx hmem hsl hsz hmk hg hput (fun _ => hv) (fun hn => absurd (Holds.nil _) hn) hvw rfl
       refine hk st2 c1 ρ1 Lp _ w1 ?_ hp.1 (fun _ _ => rfl) hK
       have : st2.D = st1.D := by unfold St.D; rw [hp.2.2.1]
       rw [hp.2.1, this]; exact hx
theorem Mem.grow {L : Lk} {nenv nenv' : Nat} (hm : Mem n0 w0 c ρ L nenv w) (hn0 : n0 ≤ w.heap.size) (hn : nenv ≤ nenv') (ha : zam nenv ρ ρ') (hρ : ∀ i, (ρ' i).pure = true) : Mem n0 w0 c ρ' L nenv' w :=
 hm.later hn (Below.refl _ _) hn0 (Cx.Keeps.refl _ _) hm.imm (fun _ _ => ⟨fun _ _ h => h, fun _ h => h⟩) hm.immlt ha hρ
theorem ziL (hE : EnvOk E) (h0 : n0 ≤ w0.w.heap.size) {R : AV → Prop} {d : Nat} {rec : Bool → Nat → Code → St → Kont → RT} (hrec : zhL E R n0 w0 Y d rec) {ops : Array Oper} {i : Nat} {o : Oper} (hi : ops[i]? = some o) {k : St → RT} {n : Nat} {next : Act → World → Prop} {Q : Exit → Act → World → Prop}
  {Lp : Nat → List AV → Prop} (hm : MatchSt E.G n0 w0 Y c ρ st a w) (hk : KOk E R n0 w0 Y d Lp c ρ st.nenv st.D k next) (h : RTwp E.P E.G R (zlJ E Y rec ops o st k) Lp ρ) :
  wpOpIn (FW ro) n E.P ops Q i next a w := by
 have skip : ∀ (st1 st2 : St), MatchSt E.G n0 w0 Y c ρ st1 a w → St.Same st st1 → Region.wanted o (yielded ops a.tmps) = false → st1.put o.dst ⟨[], .undef⟩ = some st2 → RTwp E.P E.G R (k st2) Lp ρ → wpOpIn (FW ro) n E.P ops Q i next a w := by
  intro st1 st2 hm1 hs1 hw hput hr
  refine zbI hi hw ?_
  have hp := hm1.put (st1 := st1) (Ext.refl _ _ _ _) hm1.mem rfl rfl rfl hm1.glob hput (v := undef) (fun _ => .undef _ (fun _ h => by cases h)) (fun hn => absurd (Holds.nil _) hn) rfl rfl
  refine hk st2 c ρ Lp _ w ?_ hp.1 (fun _ _ => rfl) hr
  have : st2.D = st1.D := by unfold St.D; rw [hp.2.2.1]
  rw [hp.2.1, this]; exact Ext.same hs1
 unfold zlJ at h
 split at h
 ·exact h.elim
 ·rename_i hg
  have hw := zb0 hm hg
  split at h
  ·rename_i st1 hput; exact skip st st1 hm (St.Same.refl _) hw hput h
  ·exact h.elim
 ·rename_i pcs hg
  have hw := zb0 hm hg
  simp only at hw
  split at h
  ·
   rename_i x y z ho
   split at h
   ·rename_i e ns hsp
    split at h
    ·rename_i hwf
     split at h
     ·rename_i st1 hput
      by_cases hp : Holds ρ pcs
      ·obtain ⟨hk1, v, hv, hgo⟩ := zfS (ro := ro) hE hm ho hsp hp (zbi h)
       refine zcg hi (hw.2 hp) (hgo n next Q ?_)
       have hpp := hm.put (st1 := st) (Ext.refl _ _ _ _) hm.mem rfl rfl rfl hm.glob hput (fun _ => hv) (fun hn => absurd hp hn) hwf.1 hwf.2
       refine hk st1 c ρ Lp _ w ?_ hpp.1 (fun _ _ => rfl) hk1
       have : st1.D = st.D := by unfold St.D; rw [hpp.2.2.1]
       rw [hpp.2.1, this]; exact Ext.refl _ _ _ _
      ·have hk1 : RTwp E.P E.G R (k st1) Lp ρ := by
        have hh := zbi h
        unfold zlE at hsp
        split at hsp
        ·obtain ⟨_, _, h3⟩ := Option.map_eq_some_iff.1 hsp
         simp only [Prod.mk.injEq] at h3; rw [← h3.2] at hh; exact hh
        ·obtain ⟨_, _, h3⟩ := Option.map_eq_some_iff.1 hsp
         simp only [Prod.mk.injEq] at h3; rw [← h3.2] at hh; exact hh
        ·split at hsp
         ·simp only [Option.some.injEq, Prod.mk.injEq] at hsp
          rw [← hsp.2] at hh; exact hh.2
         ·cases hsp
        ·cases hsp
       refine zbI hi (by cases hx : Region.wanted o (yielded ops a.tmps); rfl; exact absurd (hw.1 hx) hp) ?_
       have hpp := hm.put (st1 := st) (Ext.refl _ _ _ _) hm.mem rfl rfl rfl hm.glob hput (v := undef) (fun hh => absurd hh hp) (fun _ => rfl) hwf.1 hwf.2
       refine hk st1 c ρ Lp _ w ?_ hpp.1 (fun _ _ => rfl) hk1
       have : st1.D = st.D := by unfold St.D; rw [hpp.2.2.1]
       rw [hpp.2.1, this]; exact Ext.refl _ _ _ _
     ·exact h.elim
    ·exact h.elim
   ·exact h.elim
  ·split at h
   ·
    rename_i hemp
    have hnil : pcs = [] := by cases pcs with | nil => rfl | cons _ _ => simp at hemp
    rw [hnil] at hw
    exact zcg hi (hw.2 (Holds.nil ρ)) (zgP hE h0 hrec 16 st c ρ Lp hm hk h)
   ·split at h
    ·
     rename_i hmild
     split at h
     ·exact h.elim
     ·rename_i s st1 hst
      split at h
      ·exact h.elim
      ·rename_i st2 hput
       obtain ⟨cf, hmf, hkeep, e1, e2, e3, e4⟩ := zca hE.G (zaN E st pcs o) c st hm
       generalize frz (zaN E st pcs o) st = sf at h hst hmf e1 e2 e3 e4 hmild
       have hkf : KOk E R n0 w0 Y d Lp cf ρ sf.nenv sf.D k next := hk.mono (Ext.keep_all hkeep e1 e4) (fun _ _ => rfl)
       obtain ⟨_, _, _, hvw, hpw, hsl, hsz, hlk, hnv, hmk⟩ := zcf hst
       have hnle : sf.nenv ≤ st1.nenv := by rw [hnv]; exact Step.nenv_le _ _
       have hdom : ∀ i, sf.D i = true → st1.D i = true := fun i hi => by
        show (look st1.own).dom i = true
        rw [hlk]; exact zhH _ _ _ hi
       have hpw1 : zco st1.nenv st1.D pcs = true := zdd hnle hdom hpw
       rw [← e1] at h hput
       by_cases hp : Holds ρ pcs
       ·refine zcg hi (hw.2 hp) (zdR hE h0 hmf hst hp (zbi h) ?_)
        intro ρ1 c1 v w1 hK hx hv hmem hg
        have hpp := hmf.put hx hmem hsl hsz hmk hg hput (fun _ => hv) (fun hn => absurd ((zaQ hx.agree hpw).2 hp) hn) hvw hpw1
        refine hkf st2 c1 ρ1 Lp _ w1 ?_ hpp.1 (fun _ _ => rfl) hK
        have : st2.D = st1.D := by unfold St.D; rw [hpp.2.2.1]
        rw [hpp.2.1, this]; exact hx
       ·obtain ⟨ρ1, a1, a2, a3⟩ := zaZ.skip hmf.mem.pure (zbi h)
        have hdl : s.dl = [] := by
         unfold mild at hmild
         simp only [Bool.and_eq_true] at hmild
         have := hmild.2
         rw [(zcf hst).1] at this
         simpa using this
        have hlk' : look st1.own = look sf.own := by rw [hlk, hdl]; rfl
        have hx : Ext cf ρ sf.nenv sf.D cf ρ1 st1.nenv st1.D := ⟨Cx.Keeps.refl _ _, a1, hnle, hdom⟩
        have hmem : Mem n0 w0 cf ρ1 (look st1.own) st1.nenv w := by rw [hlk']; exact hmf.mem.grow (hmf.mem.hn0 h0) hnle a1 a2
        refine zbI hi (by cases hx : Region.wanted o (yielded ops a.tmps); rfl; exact absurd (hw.1 hx) hp) ?_
        have hpp := hmf.put hx hmem hsl hsz hmk hmf.glob hput (v := undef) (fun hh => absurd ((zaQ a1 hpw).1 hh) hp) (fun _ => rfl) hvw hpw1
        refine hkf st2 cf ρ1 Lp _ w ?_ hpp.1 (fun _ _ => rfl) a3
        have : st2.D = st1.D := by unfold St.D; rw [hpp.2.2.1]
        rw [hpp.2.1, this]; exact hx
    ·
     obtain ⟨st1, hm1, hs1, hor⟩ := zhD pcs _ st hm h
     rcases hor with ⟨hp, hr⟩ | ⟨hp, hr⟩
     ·refine zcg hi (hw.2 hp) (zgP hE h0 hrec 16 st1 c ρ Lp hm1 (hk.mono (Ext.same hs1) (fun _ _ => rfl)) hr)
     ·split at hr
      ·rename_i st2 hput
       exact skip st1 st2 hm1 hs1 (by cases hx : Region.wanted o (yielded ops a.tmps); rfl; exact absurd (hw.1 hx) hp) hput hr
      ·exact hr.elim
theorem zdS (hE : EnvOk E) (h0 : n0 ≤ w0.w.heap.size) {R : AV → Prop} {d : Nat} {rec : Bool → Nat → Code → St → Kont → RT} (hrec : zhL E R n0 w0 Y d rec) {ops : Array Oper} {n : Nat} {Q : Exit → Act → World → Prop} :
  ∀ (is : List Nat) (st : St) (k : St → RT) (c : Cx) (ρ : Nat → AV) (Lp : Nat → List AV → Prop) (a : Act) (w : World), MatchSt E.G n0 w0 Y c ρ st a w → KOk E R n0 w0 Y d Lp c ρ st.nenv st.D k (Q .normal) → RTwp E.P E.G R (zlK E Y rec ops is st k) Lp ρ →
   wpOpsIn (FW ro) n E.P ops Q is a w
 | [], st, k, c, ρ, Lp, a, w, hm, hk, h => hk st c ρ Lp a w (Ext.refl _ _ _ _) hm (fun _ _ => rfl) h
 | i :: is, st, k, c, ρ, Lp, a, w, hm, hk, h => by
  rw [wpOpsIn_cons]
  simp only [zlK] at h
  split at h
  ·exact h.elim
  ·rename_i o hi
   refine ziL hE h0 hrec hi hm ?_ h
   intro st1 c1 ρ1 Lp1 a1 w1 hx hm1 hL hr
   exact zdS hE h0 hrec is st1 k c1 ρ1 Lp1 a1 w1 hm1 (hk.mono hx hL) hr
end Go.Lb
