/- Calls by contract. -/
import Derived.Test.YtkcpgfjlmicnnaaGreatDoorFw3
import Derived.MapKept
set_option linter.unusedSimpArgs false
set_option linter.unusedVariables false
namespace Go.Lb
open Go.RowKit
variable {P : Program} {G : Glob} {ro : Option Nat} {n0 : Nat} {w0 : Base} {c : Cx} {ρ : Nat → AV} {O : Lk} {nenv : Nat} {o : Oper} {a : Act} {w : World}
mutual
theorem SE.noOwn_pure (hρ : ∀ i, (ρ i).pure = true) : ∀ (e : SE), e.noOwn = true → (den ρ e).pure = true
 | .inp i, _ => hρ i
 | .undef, _ | .bool _, _ | .int _ _, _ | .nilp, _ | .nilf, _ | .nils, _ | .enil, _ => rfl
 | .ptr _ _, h | .ptrx _ _ _ _ _ _, h | .row _, h | .rptr _ _ _ _, h | .yield _, h | .mref _, h => by simp [SE.noOwn] at h
 | .agg cs, h | .tup cs, h | .mp _ _ cs, h | .ref cs _, h => by simp only [den, AV.pure]; exact SE.noOwns_pure hρ cs h
 | .clo _ fs cs, h => by
  simp only [SE.noOwn, Bool.and_eq_true] at h
  simp only [den, AV.pure, SE.noOwns_pure hρ fs h.1, SE.noOwns_pure hρ cs h.2, Bool.and_self]
 | .app o cs, h => by
  simp only [den]
  rw [AV.under_zero_of_pure]
  exact zjT o _ (by rw [← AV.under_zero_of_pureAll]; exact SE.noOwns_pure hρ cs h)
theorem SE.noOwns_pure (hρ : ∀ i, (ρ i).pure = true) : ∀ (es : List SE), SE.noOwns es = true → AV.pureAll (dens ρ es) = true
 | [], _ => rfl
 | e :: es, h => by
  simp only [SE.noOwns, Bool.and_eq_true] at h
  simp only [dens, AV.pureAll, SE.noOwn_pure hρ e h.1, SE.noOwns_pure hρ es h.2, Bool.and_self]
end
mutual
def ze2 (O : Lk) : Nat → SE → Option SE
 | 0, _ => none
 | n + 1, e =>
  if e.noOwn then some e else
  match e with
  | .agg cs => (zbg O n cs).map .agg
  | .tup cs => (zbg O n cs).map .tup
  | .clo f fs cs => match zbg O n fs, zbg O n cs with
   | some x, some y => some (.clo f x y)
   | _, _ => none
  | .ptr i off => match O i with
   | some (.box cs) => (zbg O n (SE.weaks cs)).map fun x => .ref x off
   | _ => none
  | .row i => match O i with
   | some (.row _ e) => if e.noOwn then some e else none
   | _ => none
  | .mref i => match O i with
   | some (.mapo k ks vs) => (zbg O n vs).map fun x => .mp k ks x
   | _ => none
  | _ => none
def zbg (O : Lk) : Nat → List SE → Option (List SE)
 | 0, _ => none
 | _ + 1, [] => some []
 | n + 1, e :: es => match ze2 O n e, zbg O n es with
  | some x, some xs => some (x :: xs)
  | _, _ => none
end
def Cx.snap (c : Cx) (w : World) : Cx := { c with I := fun b o => w.cell? ⟨b, o, none⟩, M := fun b => w.heap[b]? }
theorem zmM (c : Cx) (w : World) : Imm (c.snap w) w := ⟨fun _ _ _ h => h, fun _ _ h => h⟩
theorem znF (c : Cx) (w : World) (b : Nat) (hb : b ≥ w.heap.size) : (∀ off v, (c.snap w).I b off ≠ some v) ∧ (∀ ob, (c.snap w).M b ≠ some ob) := by
 constructor
 ·intro off v h
  have := zkU (w := w) h; omega
 ·intro ob h
  have := (Array.getElem?_eq_some_iff.1 (show w.heap[b]? = some ob from h)).1; omega
theorem zln (hm : Mem n0 w0 c ρ O nenv w) : c.Le (c.snap w) := ⟨hm.imm.I, hm.imm.M⟩
theorem zbX {w : World} {b : Nat} {vs : List Value} {T : TypeId} {fr : Nat × Nat} (hb : w.heap[b]? = some (.cells ⟨vs⟩ T fr)) {as : List AV} {us : List Value} {c2 : Cx} (h2c : ∀ off v, w.cell? ⟨b, off, none⟩ = some v → c2.I b off = some v) (hr : Rvs c2 as us) (o : Nat) (hsub : ∀ j, j < us.length → vs[o + j]? = us[j]?) :
  Rcells c2 b o as := by
 induction as generalizing us o with
 | nil => exact .nil _ _
 | cons a as ih =>
  cases hr with
  | cons _ v _ us h1 h2 =>
   have h0 := hsub 0 (by simp)
   simp at h0
   refine .cons b o a v as ?_ h1 (ih h2 (o + 1) (fun j hj => ?_))
   ·refine h2c o v ?_
    rw [cell_of_row w b o _ T fr hb]; simpa using h0
   ·have := hsub (j + 1) (by simpa using hj)
    rw [show o + 1 + j = o + (j + 1) from by omega, this]; rfl
structure Views (c c2 : Cx) (O : Lk) (w : World) : Prop where
 le : c.Le c2
 own : ∀ i o b, O i = some o → bl c i o = some b → (∀ off v, w.cell? ⟨b, off, none⟩ = some v → c2.I b off = some v) ∧ (∀ ob, w.heap[b]? = some ob → c2.M b = some ob)
theorem Views.snap (hm : Mem n0 w0 c ρ O nenv w) : Views c (c.snap w) O w := ⟨zln hm, fun _ _ _ _ _ => ⟨fun _ _ h => h, fun _ h => h⟩⟩
theorem zgS (hm : Mem n0 w0 c ρ O nenv w) {c2 : Cx} (hv : Views c c2 O w) : ∀ (n : Nat), (∀ (e e' : SE) (v : Value), ze2 O n e = some e' → Rv c (den ρ e) v → Rv c2 (den ρ e') v ∧ (den ρ e').pure = true) ∧
  (∀ (es es' : List SE) (vs : List Value), zbg O n es = some es' → Rvs c (dens ρ es) vs → Rvs c2 (dens ρ es') vs ∧ AV.pureAll (dens ρ es') = true) := by
 intro n
 induction n with
 | zero => exact ⟨fun _ _ _ h => by simp [ze2] at h, fun _ _ _ h => by simp [zbg] at h⟩
 | succ n ih =>
  constructor
  ·intro e e' v h hr
   unfold ze2 at h
   split at h
   ·rename_i hno
    simp only [Option.some.injEq] at h; subst h
    have hp := SE.noOwn_pure hm.pure e hno
    exact ⟨zgX hv.le hr hp, hp⟩
   ·split at h
    ·rename_i cs _
     obtain ⟨x, h1, rfl⟩ := Option.map_eq_some_iff.1 h
     simp only [den] at hr ⊢
     cases hr with
     | agg _ vs h2 =>
      obtain ⟨r1, r2⟩ := ih.2 cs x vs h1 h2
      exact ⟨.agg _ _ r1, by simpa [AV.pure] using r2⟩
    ·rename_i cs _
     obtain ⟨x, h1, rfl⟩ := Option.map_eq_some_iff.1 h
     simp only [den] at hr ⊢
     cases hr with
     | tup _ vs h2 =>
      obtain ⟨r1, r2⟩ := ih.2 cs x vs h1 h2
      exact ⟨.tup _ _ r1, by simpa [AV.pure] using r2⟩
    ·rename_i f fs cs _
     split at h
     ·rename_i x y h1 h2
      simp only [Option.some.injEq] at h; subst h
      simp only [den] at hr ⊢
      cases hr with
      | clo _ _ _ vf vc h3 h4 =>
       obtain ⟨r1, r2⟩ := ih.2 fs x vf h1 h3
       obtain ⟨r3, r4⟩ := ih.2 cs y vc h2 h4
       exact ⟨.clo _ _ _ _ _ r1 r3, by simp [AV.pure, r2, r4]⟩
     ·cases h
    ·rename_i i off _
     split at h
     ·rename_i cs hl
      obtain ⟨x, h1, rfl⟩ := Option.map_eq_some_iff.1 h
      obtain ⟨vs, T, hb, hvs, _⟩ := hm.ok i _ hl
      obtain ⟨r1, r2⟩ := ih.2 (SE.weaks cs) x vs h1 (zaR cs hvs)
      simp only [den] at hr ⊢
      cases hr
      refine ⟨?_, by simpa [AV.pure] using r2⟩
      have := Rv.ref (c := c2) (dens ρ x) (c.β i) 0 off (zbX hb (hv.own i _ _ hl rfl).1 r1 0 (fun j _ => by simp))
      rwa [Nat.zero_add] at this
     ·cases h
    ·rename_i i _
     split at h
     ·rename_i sz e2 hl
      split at h
      ·rename_i hno
       simp only [Option.some.injEq] at h; subst h
       have hp := SE.noOwn_pure hm.pure e2 hno
       obtain ⟨xs, hx, hrow⟩ := hm.ok i _ hl
       rw [hx] at hp ⊢
       refine ⟨?_, hp⟩
       have hpa : AV.pureAll xs = true := by simpa [AV.pure] using hp
       simp only [den] at hr
       cases hr with
       | row _ aa nn cap hh =>
        rw [hh] at hrow
        cases hrow with
        | nil => exact .slnil
        | zero ad => exact .sl0 ad
        | row b oo _ vs T _ q0 q1 q2 q3 q4 q5 =>
         have hcap : xs.length * sz ≤ cap * sz := Nat.mul_le_mul_right _ q2
         refine .sl xs sz b oo cap q2 q4 ?_
         have hk : c.Keeps (fun _ => false) c2 := ⟨hv.le, fun _ h => Bool.noConfusion h, fun _ h => Bool.noConfusion h, fun _ h => Bool.noConfusion h⟩
         have q6 := za4 hk q5 (by rw [AV.under_flat, ← AV.under_zero_of_pureAll]; exact hpa)
         refine zbX q1 (hv.own i _ b hl (by simp [bl, hh, zay]; omega)).1 q6 oo (fun j hj => ?_)
         simp only [List.length_take, List.length_drop] at hj
         rw [List.getElem?_take, if_pos (by omega), List.getElem?_drop]
      ·cases h
     ·cases h
    ·rename_i i _
     split at h
     ·rename_i k ks vs hl
      obtain ⟨x, h1, rfl⟩ := Option.map_eq_some_iff.1 h
      obtain ⟨es, clk, hb, hks, hvs⟩ := hm.ok i _ hl
      obtain ⟨r1, r2⟩ := ih.2 vs x _ h1 hvs
      simp only [den] at hr ⊢
      cases hr
      exact ⟨.mp k ks _ (c.β i) clk es ((hv.own i _ _ hl rfl).2 _ hb) hks r1, by simpa [AV.pure] using r2⟩
     ·cases h
    ·cases h
  ·intro es es' vs h hr
   cases es with
   | nil => simp only [zbg, Option.some.injEq] at h; subst h; cases hr; exact ⟨.nil, rfl⟩
   | cons e es =>
    simp only [zbg] at h
    split at h
    ·rename_i x xs h1 h2
     simp only [Option.some.injEq] at h; subst h
     simp only [dens] at hr
     cases hr with
     | cons _ v _ vs r1 r2 =>
      obtain ⟨q1, q2⟩ := ih.1 e x v h1 r1
      obtain ⟨q3, q4⟩ := ih.2 es xs vs h2 r2
      exact ⟨.cons _ _ _ _ q1 q3, by simp [AV.pureAll, q2, q4]⟩
    ·cases h
mutual
theorem zhM {c c' : Cx} : ∀ {a : AV} {v : Value}, a.scalar = true → Rv c a v → Rv c' a v
 | .bool _, _, _, h => by cases h; exact .bool _
 | .int _ _, _, _, h => by cases h; exact .int _ _
 | .nilp, _, _, h => by cases h; exact .nilp
 | .nilf, _, _, h => by cases h; exact .nilf
 | .agg cs, _, hs, h => by
  cases h with
  | agg _ vs h => exact .agg _ _ (zem (by simpa [AV.scalar] using hs) h)
 | .tup cs, _, hs, h => by
  cases h with
  | tup _ vs h => exact .tup _ _ (zem (by simpa [AV.scalar] using hs) h)
 | .undef, _, hs, _ | .nsl, _, hs, _ | .sl _, _, hs, _ | .eptr _ _ _, _, hs, _ | .ref _ _, _, hs, _ | .clo _ _ _, _, hs, _ | .mp _ _ _, _, hs, _ | .ptr _ _, _, hs, _ | .row _, _, hs, _ | .rptr _ _ _ _, _, hs, _ | .yield _, _, hs, _ | .mref _, _, hs, _ => by
  simp [AV.scalar] at hs
theorem zem {c c' : Cx} : ∀ {as : List AV} {vs : List Value}, AV.scalars as = true → Rvs c as vs → Rvs c' as vs
 | [], _, _, h => by cases h; exact .nil
 | a :: as, _, hs, h => by
  simp only [AV.scalars, Bool.and_eq_true] at hs
  cases h with
  | cons _ v _ vs h1 h2 => exact .cons _ _ _ _ (zhM hs.1 h1) (zem hs.2 h2)
end
def zbE (P : Program) (f : Nat) : Bool :=
 match P.funcs[f]? with
 | some fn => fn.body.isSome && !(fn.name == "runtime.NumGoroutine")
 | none => false
theorem run_callFunc {f : Nat} (h : zbE P f = true) (args : Array Value) (w : World) : (callFunc f args).run P w = .ok (.enter f args) w := by
 unfold zbE at h
 cases hf : P.funcs[f]? with
 | none => simp [hf] at h
 | some fn =>
  simp only [hf, Bool.and_eq_true, Bool.not_eq_true'] at h
  have h1 : fn.body.isNone = false := by cases hb : fn.body <;> simp_all
  simp only [callFunc, Sem.run_bind, run_program, Result.andThen_ok, hf, h.2, Bool.false_eq_true, if_false, h1, Sem.run_pure]
theorem run_callValue {f : Operand} {xs : Array Operand} {tt : Array TypeId} {fid : Nat} {vf vc : List Value} (hok : zbE P fid = true) (ho : o.op = .call { callee := .value f, args := xs, argTypes := tt }) (hf : a.eval f = .func (.func fid) ⟨vf⟩ ⟨vc⟩) :
  (execOp a.eval o).run P w = .ok (.enter fid ⟨vf ++ (xs.toList.map a.eval) ++ vc⟩) w := by
 simp only [execOp, ho, Sem.run_bind, resolve, hf, Deferred.ofValue, Sem.run_pure, Result.andThen_ok, invoke]
 rw [run_callFunc hok]
 congr 2
 apply Array.ext'
 simp
theorem zns (hm : Mem n0 w0 c ρ O nenv w) (hn0 : n0 ≤ w.heap.size) (hG : zbD G c) (hGw : ∀ (g : Nat) es, G[g]? = some es → SE.wfs 0 (fun _ => false) es = true)
  {f : Operand} {xs : Array Operand} {tt : Array TypeId} {fid : Nat} {fs es cs vs : List SE} (ho : o.op = .call { callee := .value f, args := xs, argTypes := tt }) (hok : zbE P fid = true)
  (hf : Rv c (den ρ (.clo fid fs cs)) (a.eval f)) (hes : Rvs c (dens ρ es) (xs.toList.map a.eval)) (hv : zbg O 200 (fs ++ es ++ cs) = some vs) (borrow : Bool) (hb : borrow = false → SE.noOwns (fs ++ es ++ cs) = true)
  (hnode : zbh P G fid (dens ρ vs) (ρ nenv) ∧ (borrow = true → (ρ nenv).scalar = true)) :
  OpGo P ro n0 w0 c ρ O (.inp nenv) O (nenv + 1) o a w := by
 intro n next Q hn
 simp only [den] at hf
 obtain ⟨⟨hrp, hcon⟩, hsc⟩ := hnode
 have hfv : ∃ vf vc, a.eval f = .func (.func fid) ⟨vf⟩ ⟨vc⟩ ∧ Rvs c (dens ρ fs) vf ∧ Rvs c (dens ρ cs) vc := by
  generalize a.eval f = v at hf
  cases hf with
  | clo _ _ _ vf vc h1 h2 => exact ⟨vf, vc, rfl, h1, h2⟩
 obtain ⟨vf, vc, hfe, h1, h2⟩ := hfv
 have hall : Rvs c (dens ρ (fs ++ es ++ cs)) (vf ++ xs.toList.map a.eval ++ vc) := by
  rw [zaE, zaE]; exact (h1.append hes).append h2
 refine zbB (by rw [ho]; intro c h; cases h) ?_
 rw [run_callValue hok ho hfe]
 show ((FW ro).depth.isSome = true → 1 ≤ n) ∧ CallsIn (FW ro) (n - 1) P fid _ w _
 refine ⟨by simp, zdV ?_⟩
 have hvw := (zgS hm (Views.snap hm) 200).2 _ _ _ hv hall
 cases borrow with
 | true =>
  have hc := hcon w (c.snap w) _ (zmM c w) (znF c w) (hG.keeps (zln hm) hGw) hvw.1
  refine hc.mono ?_
  rintro e w' ⟨v, c', rfl, _, _, _, _, hrv, hbel⟩
  refine hn v w' c (Cx.Keeps.refl _ _) (zhM (hsc rfl) hrv) ?_
  exact hm.later (Nat.le_succ _) hbel hn0 (Cx.Keeps.refl _ _) (hm.imm.keeps rfl rfl (fun b hb => by
    have hlt := Imm.lt hm
    refine hbel.block b ?_
    rcases hb with ⟨off, v, h⟩ | ⟨ob, h⟩
    ·exact hlt.1 b off v h
    ·exact hlt.2 b ob h)) (fun b _ => ⟨fun _ _ h => h, fun _ h => h⟩) (fun b hb => hm.immlt b (by have := hbel.size; omega)) (zam.refl _ _) hm.pure
 | false =>
  have hno := hb rfl
  have hvs : vs = fs ++ es ++ cs := by
   have key : ∀ (n : Nat) (l l' : List SE), SE.noOwns l = true → zbg O n l = some l' → l' = l := by
    intro n
    induction n with
    | zero => intro l l' _ h; simp [zbg] at h
    | succ n ih =>
     intro l l' hl h
     cases l with
     | nil => simp only [zbg, Option.some.injEq] at h; exact h.symm
     | cons e l =>
      simp only [SE.noOwns, Bool.and_eq_true] at hl
      simp only [zbg] at h
      split at h
      ·rename_i x xs' q1 q2
       simp only [Option.some.injEq] at h; subst h
       cases n with
       | zero => simp [ze2] at q1
       | succ n =>
        simp only [ze2, hl.1, if_true, Option.some.injEq] at q1
        rw [← q1, ih l xs' hl.2 q2]
      ·cases h
   exact key 200 _ _ hno hv
  subst hvs
  have hc := hcon w c _ hm.imm hm.immlt hG hall
  refine hc.mono ?_
  rintro e w' ⟨v, c', rfl, hle, himm, hlt, hnew, hrv, hbel⟩
  have hk : c.Keeps O.dom { c with I := c'.I, M := c'.M } := ⟨⟨hle.I, hle.M⟩, fun _ _ => rfl, fun _ _ => rfl, fun _ _ => rfl⟩
  refine hn v w' { c with I := c'.I, M := c'.M } hk (zgX (c := c') (c' := { c with I := c'.I, M := c'.M }) ⟨fun _ _ _ h => h, fun _ _ h => h⟩ hrv hrp) ?_
  exact hm.later (Nat.le_succ _) hbel hn0 hk ⟨himm.I, himm.M⟩ hnew hlt (zam.refl _ _) hm.pure
end Go.Lb
namespace Go.Lb
open Go.RowKit
def zkb (ev : Ev) : Option Operand → Option (Option SE)
 | none => some none
 | some x => (ev x).map some
def wk (xv : Ev) : Ev := fun x => (xv x).map SE.weak
def zk2 (xv : Ev) (x : Operand) (lo hi : Option Operand) : Bool :=
 match xv x, lo, hi with
 | some .enil, none, some h => (match wk xv h with
  | some (.int _ 0) => true
  | _ => false)
 | _, _, _ => false
def znD (P : Program) (O : Lk) (xv : Ev) (op : Op) : Option (SE × List Chk) :=
 match op with
 | .move x | .assign x => (xv x).map fun e => (e, [])
 | .load T x => match xv x with
  | some e => zmI P O T e
  | none => none
 | .binOp op t x y _ => match wk xv x, wk xv y with
  | some e, some f => sBin P op t e f
  | _, _ => none
 | .unOp op _ x => match wk xv x with
  | some e => ask (.un op) [e]
  | none => none
 | .convert s d x => match wk xv x, P.underlying s, P.underlying d with
  | some e, some (.int _), some (.int k) => ask (.conv k) [e]
  | _, _, _ => none
 | .makeFunc (.func f) fs cs => match zby xv fs.toList, zby xv cs.toList with
  | some x, some y => some (.clo f x y, [])
  | _, _ => none
 | .fieldAddr T x i => match xv x with
  | some e => zeG P T e i
  | none => none
 | .field T x i => match wk xv x, P.underlying T with
  | some e, some (.struct fs) => match fs[i]? with
   | some f => match tsz P f.type with
    | some (n, g) => ask (.part f.offset n g) [e]
    | none => none
   | none => none
  | _, _ => none
 | .indexAddr T x i => match wk xv x, wk xv i with
  | some e, some f => zeH P O T e f
  | _, _ => none
 | .index T x i => match wk xv x, wk xv i, P.underlying T with
  | some e, some f, some (.array len el) => match tsz P el with
   | some (sz, g) => ask (.aidx len sz 0 sz g) [e, f]
   | none => none
  | _, _, _ => none
 | .extract x i => match xv x with
  | some (.tup cs) => (cs[i]?).map fun e => (e, [])
  | some e => ask (.tproj i) [e]
  | none => none
 | .slice T x lo hi none => if zk2 xv x lo hi = true then (match P.underlying T with
   | some (.slice e) => (match tsz P e with
    | some _ => some (.enil, [])
    | none => none)
   | _ => none) else match wk xv x, zkb (wk xv) lo, zkb (wk xv) hi, P.underlying T with
  | some e, some l, some h, some (.slice _) => zlF P T e l h
  | some e, some l, some h, some (.array _ _) => zjl P T e l h
  | _, _, _, _ => none
 | .build t parts => match zby xv (parts.toList.map (·.2)) with
  | some es => ziX P t ((parts.toList.map (·.1)).zip es)
  | none => none
 | .call { callee := .builtin .len, args := ⟨[x]⟩, argTypes := ⟨[t]⟩ } => sLen P O t (wk xv x)
 | .call { callee := .builtin .min, args := xs, argTypes := _ } => match zby (wk xv) xs.toList with
  | some es => ask (.mm false) es
  | none => none
 | .call { callee := .builtin .max, args := xs, argTypes := _ } => match zby (wk xv) xs.toList with
  | some es => ask (.mm true) es
  | none => none
 | .call { callee := .builtin .cap, args := ⟨[x]⟩, argTypes := ⟨[t]⟩ } => match xv x, P.underlying t with
  | some .enil, some (.slice _) => some (.int .i64 0, [])
  | _, _ => none
 | _ => none
variable {P : Program} {G : Glob} {ro : Option Nat} {n0 : Nat} {w0 : Base} {c : Cx} {ρ : Nat → AV} {O : Lk} {nenv : Nat} {o : Oper} {a : Act} {w : World}
theorem zax {ev : Ev} (hev : ∀ x e, ev x = some e → Rv c (den ρ e) (a.eval x)) : ∀ (xs : List Operand) (es : List SE), zby ev xs = some es → Rvs c (dens ρ es) (xs.map a.eval) ∧ es.length = xs.length := by
 intro xs
 induction xs with
 | nil => intro es h; simp only [zby, Option.some.injEq] at h; subst h; exact ⟨.nil, rfl⟩
 | cons x xs ih =>
  intro es h
  simp only [zby] at h
  split at h
  ·rename_i e es' h1 h2
   simp only [Option.some.injEq] at h; subst h
   obtain ⟨r1, r2⟩ := ih es' h2
   exact ⟨.cons _ _ _ _ (hev x e h1) r1, by simp [r2]⟩
  ·cases h
theorem OpGo.runs (hm : Mem n0 w0 c ρ O nenv w) {e : SE} (hd : ∀ c, o.op ≠ .defer c) (hr : ∃ v, (execOp a.eval o).run P w = .ok (.value v) w ∧ Rv c (den ρ e) v) : OpGo P ro n0 w0 c ρ O e O nenv o a w := by
 intro n next Q hn
 obtain ⟨v, r1, r2⟩ := hr
 exact zas hd r1 (hn v w c (Cx.Keeps.refl _ _) r2 hm)
theorem zaJ {s : Sem Value} {e : AV} (h : Runs P w c e s) (he : execOp a.eval o = (do Pure.pure (.value (← s)))) : ∃ v, (execOp a.eval o).run P w = .ok (.value v) w ∧ Rv c e v := by
 obtain ⟨v, r1, r2⟩ := h
 exact ⟨v, by rw [he, Sem.run_bind, r1]; rfl, r2⟩
theorem zjk (hm : Mem n0 w0 c ρ O nenv w) {xv : Ev} (hxv : ∀ x e, xv x = some e → Rv c (den ρ e) (a.eval x)) {e : SE} {ck : List Chk} (h : znD P O xv o.op = some (e, ck)) (hck : Chks ρ ck) :
  (∃ v, (execOp a.eval o).run P w = .ok (.value v) w ∧ Rv c (den ρ e) v) ∧ ∀ c, o.op ≠ .defer c := by
 have hev : ∀ x e, wk xv x = some e → Rv c (den ρ e) (a.eval x) := by
  intro x e he
  obtain ⟨e', h1, rfl⟩ := Option.map_eq_some_iff.1 he
  exact zbJ e' (hxv x e' h1)
 unfold znD at h
 split at h
 case h_1 x ho =>
  obtain ⟨e', h1, h2⟩ := Option.map_eq_some_iff.1 h
  simp only [Prod.mk.injEq] at h2; obtain ⟨rfl, rfl⟩ := h2
  exact ⟨⟨_, by simp only [execOp, ho]; rfl, hxv _ _ h1⟩, by rw [ho]; intro c h; cases h⟩
 case h_2 x ho =>
  obtain ⟨e', h1, h2⟩ := Option.map_eq_some_iff.1 h
  simp only [Prod.mk.injEq] at h2; obtain ⟨rfl, rfl⟩ := h2
  exact ⟨⟨_, by simp only [execOp, ho]; rfl, hxv _ _ h1⟩, by rw [ho]; intro c h; cases h⟩
 case h_3 T x ho =>
  split at h
  ·rename_i e' h1
   exact ⟨zaJ (zfR hm (hxv _ _ h1) h hck) (by simp only [execOp, ho]), by rw [ho]; intro c h; cases h⟩
  ·cases h
 case h_4 op t x y yt ho =>
  split at h
  ·rename_i e1 e2 h1 h2
   exact ⟨zaJ (zku (ox := x) (oy := y) (hev _ _ h1) (hev _ _ h2) h hck) (by simp only [execOp, ho]), by rw [ho]; intro c h; cases h⟩
  ·cases h
 case h_5 op t x ho =>
  split at h
  ·rename_i e1 h1
   simp only [ask, Option.some.injEq, Prod.mk.injEq] at h; obtain ⟨rfl, rfl⟩ := h
   have hk := hck.one
   simp only [dens] at hk
   exact ⟨zaJ (c := c) (by simp only [den, dens]; exact run_un (hev _ _ h1) hk) (by simp only [execOp, ho]), by rw [ho]; intro c h; cases h⟩
  ·cases h
 case h_6 s d x ho =>
  split at h
  ·rename_i e1 k1 k2 h1 h2 h3
   simp only [ask, Option.some.injEq, Prod.mk.injEq] at h; obtain ⟨rfl, rfl⟩ := h
   have hk := hck.one
   simp only [dens] at hk
   exact ⟨zaJ (c := c) (by simp only [den, dens]; exact run_conv (hev _ _ h1) h2 h3 hk) (by simp only [execOp, ho]), by rw [ho]; intro c h; cases h⟩
  ·cases h
 case h_7 f fs cs ho =>
  split at h
  ·rename_i x y h1 h2
   simp only [Option.some.injEq, Prod.mk.injEq] at h; obtain ⟨rfl, rfl⟩ := h
   obtain ⟨r1, _⟩ := zax hxv _ _ h1
   obtain ⟨r2, _⟩ := zax hxv _ _ h2
   refine ⟨⟨.func (.func f) (fs.map a.eval) (cs.map a.eval), by simp only [execOp, ho, Instr.makeFunc]; rfl, ?_⟩, by rw [ho]; intro c h; cases h⟩
   have := Rv.clo f _ _ _ _ r1 r2
   simp only [den]
   have e1 : (⟨fs.toList.map a.eval⟩ : Array Value) = fs.map a.eval := Array.ext' (by simp)
   have e2 : (⟨cs.toList.map a.eval⟩ : Array Value) = cs.map a.eval := Array.ext' (by simp)
   rwa [e1, e2] at this
  ·cases h
 case h_8 T x i ho =>
  split at h
  ·rename_i e1 h1
   exact ⟨zaJ (zfa (hxv _ _ h1) h hck) (by simp only [execOp, ho]), by rw [ho]; intro c h; cases h⟩
  ·cases h
 case h_9 T x i ho =>
  split at h
  ·rename_i e1 fs h1 h2
   split at h
   ·rename_i f hf
    split at h
    ·rename_i n g ht
     simp only [ask, Option.some.injEq, Prod.mk.injEq] at h; obtain ⟨rfl, rfl⟩ := h
     have hk := hck.one
     simp only [dens] at hk
     exact ⟨zaJ (c := c) (by simp only [den, dens]; exact run_field_pv h2 hf ht (hev _ _ h1) hk) (by simp only [execOp, ho]), by rw [ho]; intro c h; cases h⟩
    ·cases h
   ·cases h
  ·cases h
 case h_10 T x i ho =>
  split at h
  ·rename_i e1 e2 h1 h2
   exact ⟨zaJ (zfb hm (hev _ _ h1) (hev _ _ h2) h hck) (by simp only [execOp, ho]), by rw [ho]; intro c h; cases h⟩
  ·cases h
 case h_11 T x i ho =>
  split at h
  ·rename_i e1 e2 len el h1 h2 h3
   split at h
   ·rename_i sz g ht
    simp only [ask, Option.some.injEq, Prod.mk.injEq] at h; obtain ⟨rfl, rfl⟩ := h
    have hk := hck.one
    simp only [dens] at hk
    exact ⟨zaJ (c := c) (by simp only [den, dens]; exact run_index_pv h3 ht (hev _ _ h1) (hev _ _ h2) hk) (by simp only [execOp, ho]), by rw [ho]; intro c h; cases h⟩
   ·cases h
  ·cases h
 case h_12 x i ho =>
  split at h
  ·rename_i cs h1
   obtain ⟨e', h2, h3⟩ := Option.map_eq_some_iff.1 h
   simp only [Prod.mk.injEq] at h3; obtain ⟨rfl, rfl⟩ := h3
   have hx := hxv _ _ h1
   simp only [den] at hx
   generalize hv : a.eval x = v at hx
   cases hx with
   | tup _ vs hx =>
    obtain ⟨u, hu, hr⟩ := hx.get (i := i) (a := den ρ e') (by rw [zaq?, h2]; rfl)
    exact ⟨⟨u, by simp only [execOp, ho, hv, Instr.extract, List.getElem?_toArray, hu]; rfl, hr⟩, by rw [ho]; intro c h; cases h⟩
  ·rename_i e1 _ h1
   simp only [ask, Option.some.injEq, Prod.mk.injEq] at h; obtain ⟨rfl, rfl⟩ := h
   have hk := hck.one
   simp only [dens] at hk
   exact ⟨zaJ (c := c) (by simp only [den, dens]; exact run_extract_pv (hxv _ _ h1) hk) (by simp only [execOp, ho]), by rw [ho]; intro c h; cases h⟩
  ·cases h
 case h_13 T x lo hi ho =>
  split at h
  ·rename_i hcut
   split at h
   ·rename_i el h4
    split at h
    ·rename_i p h5
     obtain ⟨sz, g⟩ := p
     simp only [Option.some.injEq, Prod.mk.injEq] at h
     obtain ⟨rfl, rfl⟩ := h
     refine ⟨zaJ (s := Instr.sliceAt T (a.eval x) (lo.map a.eval) (hi.map a.eval) none) ?_ (by simp only [execOp, ho]; rfl), by rw [ho]; intro c h; cases h⟩
     unfold zk2 at hcut
     split at hcut
     case h_2 => cases hcut
     rename_i q h1
     split at hcut
     case h_2 => cases hcut
     rename_i k h2
     have hx := hxv _ _ h1
     have hz := hev _ _ h2
     simp only [den] at hx hz
     generalize a.eval x = v at hx
     cases hx
     refine ⟨.slice none 0 0, ?_, by simp only [den]; exact .nsl⟩
     have hq : a.eval q = .int k 0 := by
      generalize a.eval q = v at hz
      cases hz; rfl
     have hb : (Instr.sliceBounds true 0 0 none (some (.int k 0)) none).run P w = .ok (0, 0, 0) w := by
      simp [Instr.sliceBounds, run_sliceBound]
     simp only [Option.map_none, Option.map_some, hq]
     simp [Instr.sliceAt, Instr.slice, run_underlying h4, hb, (zar h5 w).1]
    ·cases h
   ·cases h
  split at h
  ·rename_i e1 l hh el h1 h2 h3 h4
   refine ⟨zaJ (s := Instr.sliceAt T (a.eval x) (lo.map a.eval) (hi.map a.eval) none) ?_ (by simp only [execOp, ho]; rfl), by rw [ho]; intro c h; cases h⟩
   have hopt : ∀ (q : Option Operand) (r : Option SE), zkb (wk xv) q = some r → (∀ y, r = some y → ∃ u, q.map a.eval = some u ∧ Rv c (den ρ y) u) ∧ (r = none → q.map a.eval = none) := by
    intro q r hq
    cases q with
    | none => simp only [zkb, Option.some.injEq] at hq; subst hq; exact ⟨by simp, by simp⟩
    | some q =>
     obtain ⟨e', q1, q2⟩ := Option.map_eq_some_iff.1 hq
     subst q2
     exact ⟨fun y hy => by simp only [Option.some.injEq] at hy; subst hy; exact ⟨_, rfl, hev _ _ q1⟩, by simp⟩
   obtain ⟨v, r1, r2⟩ := ziy (w := w) (hev _ _ h1) (hopt lo l h2).1 (hopt lo l h2).2 (hopt hi hh h3).1 (hopt hi hh h3).2 h hck
   refine ⟨v, ?_, r2⟩
   simp only [Instr.sliceAt, Sem.run_bind, run_underlying h4, Result.andThen_ok]
   exact r1
  ·rename_i e1 l hh _ _ h1 h2 h3 h4
   refine ⟨zaJ (s := Instr.sliceAt T (a.eval x) (lo.map a.eval) (hi.map a.eval) none) ?_ (by simp only [execOp, ho]; rfl), by rw [ho]; intro c h; cases h⟩
   have hopt : ∀ (q : Option Operand) (r : Option SE), zkb (wk xv) q = some r → (∀ y, r = some y → ∃ u, q.map a.eval = some u ∧ Rv c (den ρ y) u) ∧ (r = none → q.map a.eval = none) := by
    intro q r hq
    cases q with
    | none => simp only [zkb, Option.some.injEq] at hq; subst hq; exact ⟨by simp, by simp⟩
    | some q =>
     obtain ⟨e', q1, q2⟩ := Option.map_eq_some_iff.1 hq
     subst q2
     exact ⟨fun y hy => by simp only [Option.some.injEq] at hy; subst hy; exact ⟨_, rfl, hev _ _ q1⟩, by simp⟩
   exact zhy (w := w) (hev _ _ h1) (hopt lo l h2).1 (hopt lo l h2).2 (hopt hi hh h3).1 (hopt hi hh h3).2 h hck
  ·cases h
 case h_14 t parts ho =>
  split at h
  ·rename_i es h1
   obtain ⟨r1, r2⟩ := zax hxv _ _ h1
   simp only [List.length_map] at r2
   refine ⟨zaJ (s := Instr.build t (parts.map fun (i, x) => (i, a.eval x))) ?_ (by simp only [execOp, ho]), by rw [ho]; intro c h; cases h⟩
   have e1 : (parts.map fun (i, x) => (i, a.eval x)) = ⟨parts.toList.map fun (i, x) => (i, a.eval x)⟩ := Array.ext' (by simp)
   rw [e1]
   refine ziY h (by simp [r2]) (fun j i e i' v hp hv => ?_) hck
   simp only [List.getElem?_map, Option.map_eq_some_iff, Prod.mk.injEq] at hv
   obtain ⟨⟨i2, x2⟩, hx, rfl, rfl⟩ := hv
   rw [List.getElem?_zip_eq_some] at hp
   simp only [List.getElem?_map, hx, Option.map_some, Option.some.injEq] at hp
   refine ⟨hp.1, ?_⟩
   obtain ⟨u, hu, hr⟩ := r1.get (i := j) (a := den ρ e) (by rw [zaq?, hp.2]; rfl)
   simp only [List.map_map, List.getElem?_map, hx, Option.map_some, Option.some.injEq, Function.comp_apply] at hu
   rw [hu]; exact hr
  ·cases h
 case h_15 x t ho =>
  have hr := zkv (w := w) (ty := o.type) hm (x := wk xv x) (v := a.eval x) (fun y hy => hev _ _ hy) h hck
  obtain ⟨v, r1, r2⟩ := hr
  have e1 : (⟨[x]⟩ : Array Operand).map a.eval = #[a.eval x] := Array.ext' (by simp)
  have e2 : (⟨[t]⟩ : Array TypeId) = #[t] := rfl
  refine ⟨⟨v, ?_, r2⟩, by rw [ho]; intro c h; cases h⟩
  simp only [execOp, ho, resolve, Sem.run_bind, Sem.run_pure, Result.andThen_ok, invoke, builtin, e1, r1]
 case h_16 xs tt ho =>
  split at h
  ·rename_i es h1
   simp only [ask, Option.some.injEq, Prod.mk.injEq] at h; obtain ⟨rfl, rfl⟩ := h
   have hk := hck.one
   obtain ⟨r1, _⟩ := zax hev _ _ h1
   have hr := run_mm (P := P) (w := w) (ts := tt) (ty := o.type) false r1 hk
   simp only [Bool.false_eq_true, if_false] at hr
   have e1 : (⟨xs.toList.map a.eval⟩ : Array Value) = xs.map a.eval := Array.ext' (by simp)
   rw [e1] at hr
   obtain ⟨v, q1, q2⟩ := hr
   refine ⟨⟨v, ?_, by simp only [den]; exact q2⟩, by rw [ho]; intro c h; cases h⟩
   simp only [execOp, ho, resolve, Sem.run_bind, Sem.run_pure, Result.andThen_ok, invoke, builtin, q1]
  ·cases h
 case h_17 xs tt ho =>
  split at h
  ·rename_i es h1
   simp only [ask, Option.some.injEq, Prod.mk.injEq] at h; obtain ⟨rfl, rfl⟩ := h
   have hk := hck.one
   obtain ⟨r1, _⟩ := zax hev _ _ h1
   have hr := run_mm (P := P) (w := w) (ts := tt) (ty := o.type) true r1 hk
   simp only [if_true] at hr
   have e1 : (⟨xs.toList.map a.eval⟩ : Array Value) = xs.map a.eval := Array.ext' (by simp)
   rw [e1] at hr
   obtain ⟨v, q1, q2⟩ := hr
   refine ⟨⟨v, ?_, by simp only [den]; exact q2⟩, by rw [ho]; intro c h; cases h⟩
   simp only [execOp, ho, resolve, Sem.run_bind, Sem.run_pure, Result.andThen_ok, invoke, builtin, q1]
  ·cases h
 case h_18 x t ho =>
  split at h
  ·rename_i el h1 h2
   simp only [Option.some.injEq, Prod.mk.injEq] at h; obtain ⟨rfl, rfl⟩ := h
   have hx := hxv _ _ h1
   simp only [den] at hx
   have hv : a.eval x = .slice none 0 0 := by generalize a.eval x = v at hx; cases hx; rfl
   have e1 : (⟨[x]⟩ : Array Operand).map a.eval = #[.slice none 0 0] := by rw [← hv]; exact Array.ext' (by simp)
   have hr : (Builtin.cap_ #[t] o.type #[.slice none 0 0]).run P w = .ok (.int .i64 0) w := by
    simp [Builtin.cap_, run_underlying h2, goInt]
   have e2 : (⟨[t]⟩ : Array TypeId) = #[t] := rfl
   refine ⟨⟨.int .i64 0, ?_, by simp only [den]; exact .int _ _⟩, by rw [ho]; intro c h; cases h⟩
   simp only [execOp, ho, resolve, Sem.run_bind, Sem.run_pure, Result.andThen_ok, invoke, builtin, e1, e2, hr]
  ·cases h
 case h_19 => cases h
end Go.Lb
namespace Go.Lb
open Go.RowKit
variable {P : Program} {G : Glob} {ro : Option Nat} {n0 : Nat} {w0 : Base} {c : Cx} {ρ : Nat → AV} {O : Lk} {nenv : Nat} {o : Oper} {a : Act} {w : World}
theorem run_eqs {t el : TypeId} {x y : Operand} {va vb : Value} (neg : Bool) (h : P.underlying t = some (.slice el)) {b : Option Addr} {n m : Nat} (hb : va = .slice b n m) (hv : vb = .slice none 0 0) :
  (do eqGuard (if neg then .neq else .eql) t x y va vb; binOp (if neg then .neq else .eql) t va vb).run P w = .ok (.bool (b.isNone != neg)) w := by
 subst hb hv
 have e : (Op.equal t (.slice b n m) (.slice none 0 0)).run P w = .ok b.isNone w := by
  unfold Op.equal Op.maxDepth Op.equalIn
  simp only [Sem.run_bind, run_underlying h, Result.andThen_ok]
  cases b <;> rfl
 cases neg <;> simp [eqGuard, binOp, e]
def nilOk (O : Lk) (ρ : Nat → AV) (e : SE) (b : Bool) : Prop :=
 b = true → (∃ i, e = .row i ∧ ∃ sz ec, O i = some (.row sz ec) ∧ den ρ ec = .sl []) ∨ den ρ e = .sl []
theorem zjW {e : SE} {v : Value} (hm : Mem n0 w0 c ρ O nenv w) (he : Rv c (den ρ e) v) (hs : (∃ i, e = .row i ∧ ∃ sz ec, O i = some (.row sz ec)) ∨ ∃ xs, den ρ e = .sl xs) :
  ∃ b n m, v = .slice b n m ∧ nilOk O ρ e b.isNone := by
 rcases hs with ⟨i, rfl, sz, ec, hl⟩ | ⟨xs, hx⟩
 ·obtain ⟨xs, h1, h2⟩ := hm.ok i _ hl
  simp only [den] at he
  cases he with
  | row _ aa n cap hh =>
   refine ⟨aa, n, cap, rfl, fun hb => .inl ⟨i, rfl, sz, ec, hl, ?_⟩⟩
   rw [hh] at h2
   cases h2 with
   | nil => exact h1
   | zero => simp at hb
   | row => simp at hb
 ·rw [hx] at he
  cases he with
  | slnil => exact ⟨none, 0, 0, rfl, fun _ => .inr hx⟩
  | sl0 ad => exact ⟨some ad, 0, 0, rfl, fun h => by simp at h⟩
  | sl _ sz b o cap => exact ⟨some ⟨b, o, none⟩, _, _, rfl, fun h => by simp at h⟩
def zcc (P : Program) (t : TypeId) (n : SE) : Option (Nat × SE × List Chk) :=
 match P.underlying t with
 | some (.slice e) => match tsz P e, (zel P e).map SE.weaks, P.info? e with
  | some (sz, g), some z, some i =>
   if z.length = sz ∧ (g = false → sz = 1) ∧ sz ≠ 0 ∧ i.bytes ≤ 16384 then
    match g, z with
    | true, z => some (sz, .app .rep [n, .agg z], [(.rep, [n, .agg z])])
    | false, [z] => if z.sure1 then some (sz, .app .rep [n, z], [(.rep, [n, z])]) else none
    | _, _ => none
   else none
  | _, _, _ => none
 | _ => none
theorem zdn (n : Nat) (v : AV) : AV.flat (List.replicate n v) = (List.replicate n v.cells).flatten := by
 induction n with
 | zero => rfl
 | succ n ih => rw [List.replicate_succ, List.replicate_succ, List.flatten_cons, zaY, ih]
theorem zgT {n : Int} (h0 : 0 ≤ n) (h1 : n ≤ 4294967296) : IntKind.i64.wrap n = n := by
 unfold IntKind.wrap
 simp only [IntKind.signed, IntKind.bits]
 have h64 : (2 : Int) ^ 64 = 18446744073709551616 := by decide
 have h63 : (2 : Int) ^ (64 - 1) = 9223372036854775808 := by decide
 have : n % 2 ^ 64 = n := by rw [h64]; exact Int.emod_eq_of_lt h0 (by omega)
 simp only [this]
 first
  | (split <;> omega)
  | (simp [h63]; omega)
theorem ziq (hm : Mem n0 w0 c ρ O nenv w) (hn0 : n0 ≤ w.heap.size) {t sz : Nat} {l m : Operand} {n e : SE} {ck : List Chk} (ho : o.op = .makeSlice t l m)
  (hb : zcc P t n = some (sz, e, ck)) (hl : Rv c (den ρ n) (a.eval l)) (hm' : Rv c (den ρ n) (a.eval m)) (hck : Chks ρ ck) (hwf : e.wf nenv O.dom = true) {nid : Nat} (hid : O nid = none) :
  OpGo P ro n0 w0 c ρ O (.row nid) (O.upd nid (.row sz e)) nenv o a w := by
 intro k next Q hn
 unfold zcc at hb
 split at hb
 case h_2 => cases hb
 rename_i el hu
 split at hb
 case h_2 => cases hb
 rename_i sz' g z i ht hz hi
 split at hb
 case isFalse => cases hb
 rename_i hc
 obtain ⟨c1, c2, c3, c4⟩ := hc
 obtain ⟨zz, hzz, rfl⟩ := Option.map_eq_some_iff.1 hz
 obtain ⟨zv, z1, z2⟩ := zbR (w := w) (c := c) (ρ := ρ) hzz
 replace z2 := zaR zz z2
 have hzl : zv.cells.size = sz' := by have := z2.length; rw [zab, c1] at this; simpa using this
 obtain ⟨ze, hze, hcells⟩ : ∃ ze, (sz, e, ck) = (sz', .app .rep [n, ze], [(.rep, [n, ze])]) ∧ (den ρ ze).cells = dens ρ (SE.weaks zz) := by
  split at hb
  ·simp only [Option.some.injEq] at hb
   exact ⟨.agg (SE.weaks zz), hb.symm, by simp⟩
  ·rename_i _ z1 hzz1
   split at hb
   ·rename_i h1
    simp only [Option.some.injEq] at hb
    refine ⟨z1, hb.symm, ?_⟩
    rw [hzz1]
    have := SE.sure1_one (ρ := ρ) h1
    simp only [dens]
    cases hd : den ρ z1 <;> simp_all
   ·cases hb
  ·cases hb
 simp only [Prod.mk.injEq] at hze
 obtain ⟨rfl, rfl, rfl⟩ := hze
 have hk := hck.one
 simp only [dens] at hk
 cases hdn : den ρ n with
 | int kk num =>
  rw [hdn] at hk hl hm'
  simp only [pok] at hk
  obtain ⟨k0, k1, k2⟩ := hk
  obtain ⟨q, rfl⟩ : ∃ q : Nat, num = q := ⟨num.toNat, by omega⟩
  have hden : den ρ (.app .rep [n, ze]) = .sl (List.replicate q (den ρ ze)) := by simp only [den, dens, hdn, pv, Int.toNat_natCast]
  have hlc : (den ρ ze).cells.length = sz := by rw [hcells, zab, c1]
  have hflat : Rvs c (AV.flat (List.replicate q (den ρ ze))) ((Array.range (q * sz)).map (fun x => zv.cells[x % zv.cells.size]!)).toList := by
   rw [zdn, hcells, ← hzl, zbT]; exact zcx z2 q
  have hfl : ((Array.range (q * sz)).map (fun x => zv.cells[x % zv.cells.size]!)).toList.length = q * sz := by simp
  have hnew := hm.newRow hn0 hid (.app .rep [n, ze]) _ q sz ((Array.range (q * sz)).map (fun x => zv.cells[x % zv.cells.size]!)).toList el hden hwf (by simp) (by rw [hfl]; exact Nat.le_refl _)
   (by intro x hx; rw [List.eq_of_mem_replicate hx]; exact hlc) (by rw [List.length_replicate, List.take_of_length_le (by rw [hfl]; exact Nat.le_refl _)]; exact hflat)
  rw [List.length_replicate] at hnew
  have hvl : a.eval l = .int kk q := by generalize a.eval l = v at hl; cases hl; rfl
  have hvm : a.eval m = .int kk q := by generalize a.eval m = v at hm'; cases hm'; rfl
  refine zas (by rw [ho]; intro c h; cases h) (v := .slice (some ⟨w.heap.size, 0, none⟩) q q) (w' := w.alloc (.cells ((Array.range (q * sz)).map (fun x => zv.cells[x % zv.cells.size]!)) el)) ?_ (hn _ _ _ (c.seth_keeps hid) ?_ hnew)
  ·have hw := zgT k0 k1
   have hb48 : ¬ (i.bytes : Int) * q > 2 ^ 48 := by
    have h1 : i.bytes * q ≤ 16384 * 4294967296 := Nat.mul_le_mul c4 (by omega)
    have h2 : ((i.bytes * q : Nat) : Int) = (i.bytes : Int) * q := Int.natCast_mul _ _
    have h3 : (2 : Int) ^ 48 = 281474976710656 := by decide
    rw [h3, ← h2]; omega
   clear hnew
   have hcond : ((decide ((q : Int) < 0) || decide ((i.bytes : Int) * q > 2 ^ 48)) || decide ((q : Int) < 0) || decide ((q : Int) > q)) = false := by
    rw [decide_eq_false hb48, decide_eq_false (show ¬ (q : Int) < 0 by omega), decide_eq_false (show ¬ (q : Int) > q by omega)]; rfl
   have hrange : ∀ Z : Array Value, (q * sz = 0 ∨ Z = zv.cells) → (Array.range (q * sz)).map (fun x => Z[x % Z.size]!) = (Array.range (q * sz)).map (fun x => zv.cells[x % zv.cells.size]!) := by
    intro Z hZ
    rcases hZ with h0 | h0
    ·rw [h0]
     have : Array.range 0 = #[] := by simp [Array.range]
     rw [this, Array.map_empty, Array.map_empty]
    ·rw [h0]
   simp only [execOp, ho, hvl, hvm, Instr.makeSlice, Sem.run_bind, run_underlying hu, Result.andThen_ok, asInt, asIntOf, Sem.run_pure, run_typeInfo hi, hw]
   generalize (decide ((q : Int) < 0) || decide ((i.bytes : Int) * q > 2 ^ 48) || decide ((q : Int) < 0) || decide ((q : Int) > q)) = bb at hcond
   subst hcond
   simp only [Bool.false_eq_true, if_false, Sem.run_bind, run_askRoom, Result.andThen_ok, (zar ht w).1, Int.toNat_natCast]
   by_cases h0 : q * sz = 0
   ·rw [if_pos h0]
    simp only [Sem.run_bind, Sem.run_pure, Result.andThen_ok]
    rw [hrange #[] (.inl h0)]
    rfl
   ·rw [if_neg h0]
    simp only [Sem.run_bind, z1, Sem.run_pure, Result.andThen_ok]
    rfl
  ·simp only [den]; exact .row nid _ _ _ (by simp [Cx.seth])
 | _ => rw [hdn] at hk; simp [pok] at hk
theorem zkn (hm : Mem n0 w0 c ρ O nenv w) (hn0 : n0 ≤ w.heap.size) {t : TypeId} (k : IntKind) (ho : o.op = .makeMap t none) {nid : Nat} (hid : O nid = none) :
  OpGo P ro n0 w0 c ρ O (.mref nid) (O.upd nid (.mapo k [] [])) nenv o a w := by
 intro n next Q hn
 have hk : c.Keeps O.dom (c.setβ nid w.heap.size) := c.setβ_keeps hid
 have hnew := hm.new (.map #[] 0) nid hid (.mapo k [] []) hk rfl rfl rfl ⟨[], 0, by simp only [Cx.setβ, if_true]; exact World.alloc_heap_new w _, rfl, .nil⟩ (by intro b hb; simp [bl, Cx.setβ] at hb; exact hb.symm) hn0
 refine zas (by rw [ho]; intro c h; cases h) (v := .map (some w.heap.size)) (w' := w.alloc (.map #[] 0)) ?_ (hn _ _ _ hk ?_ hnew)
 ·simp only [execOp, ho, Option.map_none, Instr.makeMap]; rfl
 ·have := Rv.mref (c := c.setβ nid w.heap.size) nid
  simpa [Cx.setβ, den] using this
theorem Rvs.set {c : Cx} {as : List AV} {vs : List Value} (h : Rvs c as vs) (j : Nat) {x : AV} {v : Value} (hx : Rv c x v) : Rvs c (as.set j x) (vs.set j v) := by
 induction as generalizing vs j with
 | nil => cases h; exact .nil
 | cons a as ih =>
  cases h with
  | cons _ u _ vs h1 h2 =>
   cases j with
   | zero => exact .cons _ _ _ _ hx h2
   | succ j => exact .cons _ _ _ _ h1 (ih h2 j)
def zbQ (n : Int) (v : SE) : List Int → List SE → List Int × List SE
 | k :: ks, u :: us => if k = n then (k :: ks, v :: us) else (k :: (zbQ n v ks us).1, u :: (zbQ n v ks us).2)
 | ks, us => (ks ++ [n], us ++ [v])
theorem zeS {kk k : IntKind} {n : Int} : ∀ (es : List MapEntry) (ks : List Int) (j : Nat), es.map (·.key) = ks.map (Value.int k) →
  (n ∉ ks ∧ Instr.findNow (.int kk) (.int k n) es j = some none) ∨ (∃ i e, es[i]? = some e ∧ ks[i]? = some n ∧ n ∉ ks.take i ∧ Instr.findNow (.int kk) (.int k n) es j = some (some (j + i, e.val))) := by
 intro es
 induction es with
 | nil => intro ks j h; cases ks with
  | nil => exact .inl ⟨by simp, rfl⟩
  | cons => simp at h
 | cons e es ih =>
  intro ks j h
  cases ks with
  | nil => simp at h
  | cons m ks =>
   simp only [List.map_cons, List.cons.injEq] at h
   by_cases hmn : n = m
   ·subst hmn
    refine .inr ⟨0, e, rfl, rfl, by simp, ?_⟩
    simp [Instr.findNow, Instr.sameNow, h.1]
   ·rcases ih ks (j + 1) h.2 with ⟨h1, h2⟩ | ⟨i, e', h1, h2, h3, h4⟩
    ·refine .inl ⟨by simp [hmn, h1], ?_⟩
     have hb : (n == m) = false := by simpa using hmn
     simp [Instr.findNow, Instr.sameNow, h.1, hb, h2]
    ·refine .inr ⟨i + 1, e', by simpa using h1, by simpa using h2, by simp [hmn, h3], ?_⟩
     have hb : (n == m) = false := by simpa using hmn
     simp [Instr.findNow, Instr.sameNow, h.1, hb, h4]
     omega
theorem zkh {n : Int} {v : SE} : ∀ (ks : List Int) (us : List SE), ks.length = us.length → n ∉ ks → zbQ n v ks us = (ks ++ [n], us ++ [v]) := by
 intro ks
 induction ks with
 | nil => intro us h _; cases us with
  | nil => rfl
  | cons => simp at h
 | cons k ks ih =>
  intro us h hn
  cases us with
  | nil => simp at h
  | cons u us =>
   simp only [List.mem_cons, not_or] at hn
   simp only [List.length_cons, Nat.add_right_cancel_iff] at h
   simp only [zbQ, if_neg (Ne.symm hn.1), ih us h hn.2, List.cons_append]
theorem zki {n : Int} {v : SE} : ∀ (ks : List Int) (us : List SE) (i : Nat), ks.length = us.length → ks[i]? = some n → n ∉ ks.take i → zbQ n v ks us = (ks, us.set i v) := by
 intro ks
 induction ks with
 | nil => intro us i _ h; simp at h
 | cons k ks ih =>
  intro us i h hi hn
  cases us with
  | nil => simp at h
  | cons u us =>
   simp only [List.length_cons, Nat.add_right_cancel_iff] at h
   cases i with
   | zero => simp at hi; simp [zbQ, hi]
   | succ i =>
    simp only [List.take_succ_cons, List.mem_cons, not_or] at hn
    simp only [List.getElem?_cons_succ] at hi
    simp only [zbQ, if_neg (Ne.symm hn.1), ih us i h hi hn.2, List.set_cons_succ]
theorem zlt (hm : Mem n0 w0 c ρ O nenv w) {t kt vt : TypeId} {x k v : Operand} {e : SE} {i : Nat} {kk : IntKind} {n : Int} {ks : List Int} {us : List SE} (ho : o.op = .insert t x k v)
  (ht : P.underlying t = some (.map kt vt)) (hkt : P.underlying kt = some (.int kk)) (hx : Rv c (.mref i) (a.eval x)) (hk : a.eval k = .int kk n) (hv : Rv c (den ρ e) (a.eval v)) (hl : O i = some (.mapo kk ks us))
  (hwf : SE.wfs nenv O.dom (zbQ n e ks us).2 = true) :
  OpGo P ro n0 w0 c ρ O .undef (O.upd i (.mapo kk (zbQ n e ks us).1 (zbQ n e ks us).2)) nenv o a w := by
 intro nn next Q hn
 obtain ⟨es, clk, hb, hks, hvs⟩ := hm.ok i _ hl
 have hve : a.eval x = .map (some (c.β i)) := by generalize a.eval x = vx at hx; cases hx; rfl
 have hlk : ks.length = es.length := by have := congrArg List.length hks; simpa using this.symm
 have hlu : ks.length = us.length := by have := hvs.length; rw [zab] at this; simp at this; omega
 have hfr := hm.fresh i _ (c.β i) hl rfl
 have hck : ∀ (b : Bool), (Instr.checkKey b 10000 kt (.int kk n)).run P w = .ok () w := fun b => MapKept.run_checkKey hkt (by simp [MapKept.IsKey]) b 9999
 have hother : ∀ (ob : Obj) k, k ≠ c.β i → ({ w with heap := w.heap.setIfInBounds (c.β i) ob } : World).heap[k]? = w.heap[k]? := by
  intro ob k hk
  simp only
  rw [Array.getElem?_setIfInBounds]
  rw [if_neg (Ne.symm hk)]
 have hself : ∀ (ob : Obj), ({ w with heap := w.heap.setIfInBounds (c.β i) ob } : World).heap[c.β i]? = some ob := by
  intro ob
  simp only
  rw [Array.getElem?_setIfInBounds, if_pos rfl, if_pos hfr.2]
 have hmem : ∀ (es' : List MapEntry) (clk' : Nat), es'.map (·.key) = (zbQ n e ks us).1.map (Value.int kk) → Rvs c (dens ρ (zbQ n e ks us).2) (es'.map (·.val)) →
   Mem n0 w0 c ρ (O.upd i (.mapo kk (zbQ n e ks us).1 (zbQ n e ks us).2)) nenv { w with heap := w.heap.setIfInBounds (c.β i) (.map ⟨es'⟩ clk') } := by
  intro es' clk' h1 h2
  exact hm.turn hl rfl rfl hwf ⟨es', clk', hself _, h1, h2⟩ (hother _) (by simp) rfl rfl rfl
 refine zbB (by rw [ho]; intro c h; cases h) ?_
 rcases zeS (kk := kk) (k := kk) (n := n) es ks 0 hks with ⟨h1, h2⟩ | ⟨j, m, h1, h2, h3, h4⟩
 ·have hput := zkh (v := e) ks us hlu h1
  have hrun : (execOp a.eval o).run P w = .ok .skip { w with heap := w.heap.setIfInBounds (c.β i) (.map ⟨es ++ [{ key := .int kk n, val := a.eval v, born := clk }]⟩ (clk + 1)) } := by
   simp only [execOp, ho, Sem.run_bind, Instr.mapUpdate, run_underlying ht, Result.andThen_ok, hve, MapKept.run_getObj_map hb, hk, hck, MapKept.run_findKey hkt h2, MapKept.run_setObj_map _ hb, Sem.run_pure]
   simp
  rw [hrun]
  refine hn _ _ _ (Cx.Keeps.refl _ _) (.undef _ (fun _ h => by cases h)) (hmem _ _ ?_ ?_)
  ·rw [hput]; simp [hks]
  ·rw [hput]; simp only [zaE, List.map_append]; exact hvs.append (.cons _ _ _ _ hv .nil)
 ·have hput := zki (v := e) ks us j hlu h2 h3
  have hmk : m.key = .int kk n := by
   have := congrArg (fun l => l[j]?) hks
   simp only [List.getElem?_map, h1, h2, Option.map_some, Option.some.injEq] at this
   exact this
  rw [Nat.zero_add] at h4
  have hjl : j < es.length := (List.getElem?_eq_some_iff.1 h1).1
  have hrun : (execOp a.eval o).run P w = .ok .skip { w with heap := w.heap.setIfInBounds (c.β i) (.map ⟨es.modify j fun m => { m with key := .int kk n, val := a.eval v }⟩ clk) } := by
   simp only [execOp, ho, Sem.run_bind, Instr.mapUpdate, run_underlying ht, Result.andThen_ok, hve, MapKept.run_getObj_map hb, hk, hck, MapKept.run_findKey hkt h4, Sem.run_pure]
   have hkeep : (Instr.keyThatStays (((⟨es⟩ : Array MapEntry)[j]?.map (·.key)).getD (.int kk n)) (.int kk n)).run P w = .ok (.int kk n) w := by
    simp only [List.getElem?_toArray, h1, Option.map_some, Option.getD_some, hmk]
    simp [Instr.keyThatStays, Instr.sameBits]
   simp only [hkeep, Result.andThen_ok, MapKept.run_setObj_map _ hb]
   simp
  rw [hrun]
  refine hn _ _ _ (Cx.Keeps.refl _ _) (.undef _ (fun _ h => by cases h)) (hmem _ _ ?_ ?_)
  ·rw [hput]
   apply List.ext_getElem?
   intro q
   have hq := congrArg (fun l => l[q]?) hks
   simp only [List.getElem?_map] at hq
   simp only [List.getElem?_map, List.getElem?_modify]
   by_cases hqj : j = q
   ·subst hqj
    simp [h1, h2]
   ·simp [hqj]; exact hq
  ·rw [hput]
   have e1 : (es.modify j fun m => { m with key := .int kk n, val := a.eval v }).map (·.val) = (es.map (·.val)).set j (a.eval v) := by
    apply List.ext_getElem?
    intro q
    simp only [List.getElem?_map, List.getElem?_modify, List.getElem?_set]
    by_cases hqj : j = q
    ·subst hqj; simp [h1, hjl]
    ·simp [hqj]
   have e2 : dens ρ (us.set j e) = (dens ρ us).set j (den ρ e) := by simp [zbx]
   rw [e1, e2]
   exact hvs.set j hv
theorem zhb (key : SE) {k : IntKind} {n : Int} (hk : den ρ key = .int k n) (z : SE) : ∀ (ks : List Int) (us : List SE), ks.length = us.length →
  (n ∉ ks ∧ den ρ (zbe key k ks us z) = den ρ z) ∨ (∃ i u, us[i]? = some u ∧ ks[i]? = some n ∧ n ∉ ks.take i ∧ den ρ (zbe key k ks us z) = den ρ u) := by
 intro ks
 induction ks with
 | nil => intro us h; cases us with
  | nil => exact .inl ⟨by simp, rfl⟩
  | cons => simp at h
 | cons m ks ih =>
  intro us h
  cases us with
  | nil => simp at h
  | cons u us =>
   simp only [List.length_cons, Nat.add_right_cancel_iff] at h
   by_cases hmn : n = m
   ·subst hmn
    refine .inr ⟨0, u, rfl, rfl, by simp, ?_⟩
    simp [zbe, hk, pv]
   ·have hb : (n == m) = false := by simpa using hmn
    rcases ih us h with ⟨h1, h2⟩ | ⟨i, u', h1, h2, h3, h4⟩
    ·refine .inl ⟨by simp [hmn, h1], ?_⟩
     simp [zbe, hk, pv, hb, h2]
    ·refine .inr ⟨i + 1, u', by simpa using h1, by simpa using h2, by simp [hmn, h3], ?_⟩
     simp [zbe, hk, pv, hb, h4]
def zjw (P : Program) (t : TypeId) : Option SE :=
 match P.info? t with
 | some i => match i.zero with
  | some v => seOf v
  | none => none
 | none => none
theorem zjx {t : TypeId} {e : SE} (h : zjw P t = some e) : ∃ v, (zeroValue t).run P w = .ok v w ∧ Rv c (den ρ e) v := by
 unfold zjw at h
 split at h
 ·rename_i i hi
  split at h
  ·rename_i v hv
   exact ⟨v, by simp [zeroValue, run_typeInfo hi, hv], zeJ c ρ v e h⟩
  ·cases h
 ·cases h
theorem run_lookup0 {t kt vt : TypeId} {key z : SE} {b : Nat} {kk : IntKind} {ks : List Int} {us : List SE} {es : List MapEntry} {clk : Nat} {vk : Value}
  (ht : P.underlying t = some (.map kt vt)) (hkt : P.underlying kt = some (.int kk)) (hb : w.heap[b]? = some (.map ⟨es⟩ clk)) (hks : es.map (·.key) = ks.map (Value.int kk)) (hvs : Rvs c (dens ρ us) (es.map (·.val))) (hk : Rv c (den ρ key) vk)
  (hz : zjw P vt = some z) (hkey : ∃ n, den ρ key = .int kk n) : Runs P w c (den ρ (zbe key kk ks us z)) (Instr.lookup t (.map (some b)) vk false) := by
 obtain ⟨n, hkn⟩ := hkey
 have hlu : ks.length = us.length := by have := hvs.length; rw [zab] at this; have h2 := congrArg List.length hks; simp at this h2; omega
 rw [hkn] at hk
 cases hk
 have hck : ∀ (b : Bool), (Instr.checkKey b 10000 kt (.int kk n)).run P w = .ok () w := fun b => MapKept.run_checkKey hkt (by simp [MapKept.IsKey]) b 9999
 obtain ⟨zv, z1, hzr⟩ := zjx (w := w) (c := c) (ρ := ρ) hz
 have hfn := zeS (kk := kk) (k := kk) (n := n) es ks 0 hks
 have hlc := zhb key hkn z ks us hlu
 rcases hfn with ⟨h1, h2⟩ | ⟨j, m, h1, h2, h3, h4⟩
 ·rcases hlc with ⟨_, h5⟩ | ⟨i', u, _, h6, _⟩
  ·refine ⟨zv, ?_, by rw [h5]; exact hzr⟩
   simp only [Instr.lookup, Sem.run_bind, run_underlying ht, Result.andThen_ok, MapKept.run_getObj_map hb, Sem.run_pure, hck, MapKept.run_findKey hkt h2, z1]
   rfl
  ·exact absurd (List.mem_of_getElem? h6) h1
 ·rcases hlc with ⟨h5, _⟩ | ⟨i', u, h5, h6, h7, h8⟩
  ·exact absurd (List.mem_of_getElem? h2) h5
  ·have hij : i' = j := by
    rcases Nat.lt_trichotomy i' j with hlt | he | hlt
    ·exfalso; apply h3; exact List.mem_of_getElem? (i := i') (by rw [List.getElem?_take, if_pos hlt]; exact h6)
    ·exact he
    ·exfalso; apply h7; exact List.mem_of_getElem? (i := j) (by rw [List.getElem?_take, if_pos hlt]; exact h2)
   subst hij
   obtain ⟨v, hv, hr⟩ := hvs.get (i := i') (a := den ρ u) (by rw [zaq?, h5]; rfl)
   simp only [List.getElem?_map, h1, Option.map_some, Option.some.injEq] at hv
   subst hv
   refine ⟨m.val, ?_, by rw [h8]; exact hr⟩
   simp only [Instr.lookup, Sem.run_bind, run_underlying ht, Result.andThen_ok, MapKept.run_getObj_map hb, Sem.run_pure, hck, MapKept.run_findKey hkt h4]
   rfl
theorem run_lookup (hm : Mem n0 w0 c ρ O nenv w) {t kt vt : TypeId} {key z : SE} {i : Nat} {kk : IntKind} {ks : List Int} {us : List SE} {vx vk : Value}
  (ht : P.underlying t = some (.map kt vt)) (hkt : P.underlying kt = some (.int kk)) (hx : Rv c (.mref i) vx) (hk : Rv c (den ρ key) vk) (hl : O i = some (.mapo kk ks us))
  (hz : zjw P vt = some z) (hkey : ∃ n, den ρ key = .int kk n) : Runs P w c (den ρ (zbe key kk ks us z)) (Instr.lookup t vx vk false) := by
 obtain ⟨es, clk, hb, hks, hvs⟩ := hm.ok i _ hl
 cases hx
 exact run_lookup0 ht hkt hb hks hvs hk hz hkey
theorem run_lookup_mp (hm : Mem n0 w0 c ρ O nenv w) {t kt vt : TypeId} {key z : SE} {kk : IntKind} {ks : List Int} {us : List SE} {vx vk : Value}
  (ht : P.underlying t = some (.map kt vt)) (hkt : P.underlying kt = some (.int kk)) (hx : Rv c (.mp kk ks (dens ρ us)) vx) (hk : Rv c (den ρ key) vk)
  (hz : zjw P vt = some z) (hkey : ∃ n, den ρ key = .int kk n) : Runs P w c (den ρ (zbe key kk ks us z)) (Instr.lookup t vx vk false) := by
 cases hx with
 | mp _ _ _ b clk es h1 h2 h3 => exact run_lookup0 ht hkt (hm.imm.M _ _ h1) h2 h3 hk hz hkey
end Go.Lb
