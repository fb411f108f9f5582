/- One operation, symbolically, whole. -/
import Derived.Test.YtkcpgfjlmicnnaaGreatDoorFw4
import Derived.Lib.SlicesCompact
set_option linter.unusedSimpArgs false
set_option linter.unusedVariables false
namespace Go.Lb
open Go.RowKit
def zaC (ρ : Nat → AV) (n : Nat) (v : AV) : Nat → AV := fun i => if i = n then v else ρ i
theorem zaP (ρ : Nat → AV) (n : Nat) (v : AV) : zam n ρ (zaC ρ n v) := fun i hi => by simp [zaC, show i ≠ n from by omega]
theorem zbr {ρ : Nat → AV} (h : ∀ i, (ρ i).pure = true) (n : Nat) {v : AV} (hv : v.pure = true) : ∀ i, (zaC ρ n v i).pure = true := by
 intro i; unfold zaC; split
 ·exact hv
 ·exact h i
theorem zbH (ρ : Nat → AV) (n : Nat) (v : AV) : zaC ρ n v n = v := by simp [zaC]
inductive Nd where
 | chk (pcs : List (SE × Bool)) (o : PF) (args : List SE)
 | call (n : Nat) (pcs : List (SE × Bool)) (f : Nat) (args : List SE) (borrow : Bool)
 | isNil (n : Nat) (pcs : List (SE × Bool)) (e : SE)
 | same (n : Nat) (pcs : List (SE × Bool)) (e : SE)
 | srt (n : Nat) (e : SE)
 | cmp (n : Nat) (e : SE)
 | bind (n : Nat) (e : SE)
 deriving Inhabited, Repr
def zbA (l : List Int) : List Int := l.mergeSort fun x y => decide (x ≤ y)
def zaO (l : List Int) : List Int := Go.Lib.compact l
theorem zdE (l : List Int) : (zaO l).length ≤ l.length := by
 unfold zaO Go.Lib.compact Go.Lib.compactUpTo
 rw [List.length_map]
 exact Nat.le_trans (List.length_filter_le _ _) (by simp)
def zaZ (P : Program) (G : Glob) (ρ : Nat → AV) : List Nd → ((Nat → AV) → Prop) → Prop
 | [], K => K ρ
 | .chk pcs o args :: ns, K => (Holds ρ pcs → pok o (dens ρ args)) ∧ zaZ P G ρ ns K
 | .call n pcs f args b :: ns, K => ∃ r, r.pure = true ∧ (Holds ρ pcs → zbh P G f (dens ρ args) r ∧ (b = true → r.scalar = true)) ∧ zaZ P G (zaC ρ n r) ns K
 | .same n pcs e :: ns, K => (Holds ρ pcs → ρ n = den ρ e) ∧ zaZ P G ρ ns K
 | .srt n e :: ns, K => ∃ l : List Int, l.length ≤ 4294967296 ∧ den ρ e = .sl (l.map (AV.int .i64)) ∧ zaZ P G (zaC ρ n (.sl ((zbA l).map (AV.int .i64)))) ns K
 | .cmp n e :: ns, K => ∃ l : List Int, l.length ≤ 4294967296 ∧ den ρ e = .sl (l.map (AV.int .i64)) ∧ zaZ P G (zaC ρ n (.sl ((zaO l).map (AV.int .i64)))) ns K
 | .bind n e :: ns, K => zaZ P G (zaC ρ n (den ρ e)) ns K
 | .isNil n pcs e :: ns, K => ∀ b, (Holds ρ pcs → b = true → den ρ e = .sl []) → zaZ P G (zaC ρ n (.bool b)) ns K
def zkV (pcs : List (SE × Bool)) (ck : List Chk) : List Nd := ck.map fun x => .chk pcs x.1 x.2
theorem zaZ.chks {P : Program} {G : Glob} {ρ : Nat → AV} {pcs : List (SE × Bool)} {K : (Nat → AV) → Prop} : ∀ {ck : List Chk} {ns : List Nd}, zaZ P G ρ (zkV pcs ck ++ ns) K →
  (Holds ρ pcs → Chks ρ ck) ∧ zaZ P G ρ ns K := by
 intro ck
 induction ck with
 | nil => intro ns h; exact ⟨fun _ x hx => (by cases hx), h⟩
 | cons x ck ih =>
  intro ns h
  obtain ⟨h1, h2⟩ := h
  obtain ⟨h3, h4⟩ := ih h2
  refine ⟨fun hp y hy => ?_, h4⟩
  rcases List.mem_cons.1 hy with rfl | hy
  ·exact h1 hp
  ·exact h3 hp y hy
structure Step where
 val : SE
 dl : List (Nat × OS)
 ck : List Chk
 call : Option (Nat × List SE × Bool)
 nil : Option SE
 deriving Inhabited, Repr
def Step.nenv (s : Step) (n : Nat) : Nat := if s.call.isSome || s.nil.isSome then n + 1 else n
def Step.nodes (s : Step) (n : Nat) (pcs : List (SE × Bool)) : List Nd :=
 zkV pcs s.ck ++ match s.call, s.nil with
  | some (f, args, b), _ => [.call n pcs f args b]
  | none, some e => [.isNil n pcs e]
  | none, none => []
def upds (L : Lk) (dl : List (Nat × OS)) : Lk := dl.foldl (fun L x => L.upd x.1 x.2) L
def zlG (P : Program) (L : Lk) (nenv : Nat) (T : TypeId) (ax e : SE) : Option (List (Nat × OS) × List Chk) :=
 match tsz P T with
 | none => none
 | some (k, g) =>
  if g = false → k = 1 then
   match ax with
   | .ptr i off => match L i with
    | some (.box cs) => if off + k ≤ cs.length ∧ SE.wfs nenv L.dom (zan k g e).1 = true then some ([(i, .box (putL cs off (zan k g e).1))], (zan k g e).2) else none
    | _ => none
   | .ptrx i base idx len sz off => match L i with
    | some (.box cs) =>
     if base + len * sz ≤ cs.length ∧ off + k ≤ sz ∧ SE.wfs nenv L.dom (cs.zipIdx.map fun (u, j) => if base ≤ j ∧ j < base + len * sz then .app (.cellset base len sz off k j) [idx, u, .agg (zan k g e).1] else u) = true then
      some ([(i, .box (cs.zipIdx.map fun (u, j) => if base ≤ j ∧ j < base + len * sz then .app (.cellset base len sz off k j) [idx, u, .agg (zan k g e).1] else u))], (.inr len, [idx]) :: (zan k g e).2)
     else none
    | _ => none
   | .rptr i idx sz off => match L i with
    | some (.row sz' ec) =>
     if sz' = sz ∧ (SE.app (.rowset sz off k) [ec, idx, .agg (zan k g e).1]).wf nenv L.dom = true then
      some ([(i, .row sz (.app (.rowset sz off k) [ec, idx, .agg (zan k g e).1]))], (.rowset sz off k, [ec, idx, .agg (zan k g e).1]) :: (zan k g e).2)
     else none
    | _ => none
   | _ => none
  else none
def zoK (L : Lk) (sz : Nat) : SE → Option SE
 | .row j => match L j with
  | some (.row sz' e) => if sz' = sz then some e else none
  | _ => none
 | e => some e
def zmu (b : Nat) (e : SE) : List Chk := if b ≤ 24 then [] else [(.inr 4294967297, [.app .len [e]])]
def zjj (P : Program) (L : Lk) (nenv nid : Nat) (sT xT : TypeId) (x1 x2 : SE) : Option (SE × List (Nat × OS) × List Chk) :=
 match P.underlying sT, P.underlying xT with
 | some (.slice elem), some (.slice _) => match tsz P elem, P.info? elem with
  | some (sz, _), some i => match i.zero, zoK L sz x2 with
   | some z, some ey =>
    if i.bytes ≤ 16384 ∧ z.cells.size = sz then
     match x1 with
     | .row j => match L j with
      | some (.row sz' ec) => if sz' = sz ∧ (SE.app .app [ec, ey]).wf nenv L.dom = true then
        some (.row nid, [(j, .gone), (nid, .row sz (.app .app [ec, ey]))], (.szs sz, [ey]) :: (.app, [ec, ey]) :: zmu i.bytes (.app .app [ec, ey])) else none
      | _ => none
     | .enil => if (SE.app .app [.nils, ey]).wf nenv L.dom = true then
       some (.row nid, [(nid + 1, .row sz .nils), (nid + 1, .gone), (nid, .row sz (.app .app [.nils, ey]))], (.szs sz, [ey]) :: (.app, [.nils, ey]) :: zmu i.bytes (.app .app [.nils, ey])) else none
     | _ => none
    else none
   | _, _ => none
  | _, _ => none
 | _, _ => none
def zdO (P : Program) (L : Lk) (nenv nid : Nat) (sT xT : TypeId) (x1 n : SE) : Option (SE × List (Nat × OS) × List Chk) :=
 match P.underlying xT, x1 with
 | some (.int _), .enil => match zcc P sT n with
  | some (sz, e, ck) => if e.wf nenv L.dom = true then some (.row nid, [(nid, .row sz e)], ck) else none
  | none => none
 | _, _ => none
def zbN (e : SE) : Nat → List SE → List SE
 | _, [] => []
 | j, u :: us => .app .pick [.app (.bin .lss) [.int .i64 j, .app .len [e]], .app (.rowget 1 0 1 false) [e, .int .i64 j], u] :: zbN e (j + 1) us
def sOp (P : Program) (L : Lk) (xv : Ev) (nenv nid : Nat) (op : Op) : Option Step :=
 match znD P L xv op with
 | some (e, ck) => some ⟨e, [], ck, none, none⟩
 | none =>
  match op with
  | .nilCheck x => match xv x with
   | some (.ptr i k) => some ⟨.ptr i k, [], [], none, none⟩
   | some (.ref cs k) => some ⟨.ref cs k, [], [], none, none⟩
   | some (.clo f x y) => some ⟨.clo f x y, [], [], none, none⟩
   | _ => none
  | .box T x => match xv x, tsz P T with
   | some e, some (k, g) => if (g = false → k = 1) ∧ SE.wfs nenv L.dom (zan k g e).1 = true then some ⟨.ptr nid 0, [(nid, .box (zan k g e).1)], (zan k g e).2, none, none⟩ else none
   | _, _ => none
  | .alloc T => match zel P T with
   | some cs => some ⟨.ptr nid 0, [(nid, .box cs)], [], none, none⟩
   | none => none
  | .store T x y => match xv x, xv y with
   | some ax, some e => (zlG P L nenv T ax e).map fun r => ⟨.undef, r.1, r.2, none, none⟩
   | _, _ => none
  | .buildSlice t len parts => match zby (wk xv) (parts.toList.map (·.2)) with
   | some es => match zcR P t len ((parts.toList.map (·.1)).zip es) with
    | some (sz, e, ck) => if e.wf nenv L.dom = true then some ⟨.row nid, [(nid, .row sz e)], ck, none, none⟩ else none
    | none => none
   | none => none
  | .makeSlice t l m => match wk xv l, wk xv m with
   | some n, some n' => if SE.beq n n' = true then match zcc P t n with
    | some (sz, e, ck) => if e.wf nenv L.dom = true then some ⟨.row nid, [(nid, .row sz e)], ck, none, none⟩ else none
    | none => none else none
   | _, _ => none
  | .makeMap t none => match P.underlying t with
   | some (.map kt _) => match P.underlying kt with
    | some (.int k) => some ⟨.mref nid, [(nid, .mapo k [] [])], [], none, none⟩
    | _ => none
   | _ => none
  | .insert t x k v => match xv x, k, wk xv v, P.underlying t with
   | some (.mref i), .const (.int kk n), some e, some (.map kt _) => match L i, P.underlying kt with
    | some (.mapo kk' ks us), some (.int kk'') =>
     if kk' = kk ∧ kk'' = kk ∧ SE.wfs nenv L.dom (zbQ n e ks us).2 = true then some ⟨.undef, [(i, .mapo kk (zbQ n e ks us).1 (zbQ n e ks us).2)], [], none, none⟩ else none
    | _, _ => none
   | _, _, _, _ => none
  | .lookup t x k false => match xv x, wk xv k, P.underlying t with
   | some (.mref i), some key, some (.map kt vt) => match L i, P.underlying kt, zjw P vt with
    | some (.mapo kk ks us), some (.int kk'), some z =>
     if kk' = kk then some ⟨zbe key kk ks us z, [], [(.bin .eql, [key, .int kk 0])], none, none⟩ else none
    | _, _, _ => none
   | some (.mp kk ks us), some key, some (.map kt vt) => match P.underlying kt, zjw P vt with
    | some (.int kk'), some z =>
     if kk' = kk then some ⟨zbe key kk ks us z, [], [(.bin .eql, [key, .int kk 0])], none, none⟩ else none
    | _, _ => none
   | _, _, _ => none
  | .call { callee := .builtin .append, args := ⟨[x1, x2]⟩, argTypes := ⟨[sT, xT]⟩ } => match xv x1, wk xv x2 with
   | some e1, some e2 => match zdO P L nenv nid sT xT e1 e2 with
    | some r => some ⟨r.1, r.2.1, r.2.2, none, none⟩
    | none => (zjj P L nenv nid sT xT e1 e2).map fun r => ⟨r.1, r.2.1, r.2.2, none, none⟩
   | _, _ => none
  | .call { callee := .value f, args := xs, argTypes := _ } => match wk xv f, zby (wk xv) xs.toList with
   | some (.clo fid fs cs), some es =>
    if zbE P fid = true then
     match zbg L 200 (fs ++ es ++ cs) with
     | some vs => if SE.wfs nenv L.dom vs = true then some ⟨.inp nenv, [], [], some (fid, vs, !SE.noOwns (fs ++ es ++ cs)), none⟩ else none
     | none => none
    else none
   | _, _ => none
  | .binOp op t x y _ => match xv x, y, P.underlying t with
   | some e, .const (.slice none 0 0), some (.slice _) =>
    match op with
    | .eql => match e with
     | .enil => some ⟨.bool true, [], [], none, none⟩
     | .row i => match L i with
      | some (.row _ ec) => some ⟨.inp nenv, [], [], none, some ec⟩
      | _ => none
     | e => some ⟨.inp nenv, [], [(.len, [e])], none, some e⟩
    | _ => none
   | _, _, _ => none
  | .slice T x none (some hi) none => match xv x, wk xv hi, P.underlying T with
   | some (.row i), some h, some (.slice e) => match L i, tsz P e with
    | some (.row sz ec), some (sz', _) => if sz' = sz ∧ (SE.app (.slice false true) [ec, h]).wf nenv L.dom = true then
      some ⟨.row nid, [(i, .gone), (nid, .row sz (.app (.slice false true) [ec, h]))], [(.slice false true, [ec, h])], none, none⟩ else none
    | _, _ => none
   | _, _, _ => none
  | .slice T x none (some h) (some m) => match wk xv x, wk xv h, wk xv m, P.underlying T with
   | some e, some (.int _ 0), some (.int _ 0), some (.slice el) => match tsz P el with
    | some (sz, _) => some ⟨.row nid, [(nid, .row sz .nils)], [(.len, [e])], none, none⟩
    | none => none
   | _, _, _, _ => none
  | .slice T x none none none => match xv x, P.underlying T with
   | some (.ptr i 0), some (.array len el) => match L i, tsz P el with
    | some (.box cs), some (1, _) => if cs.length = len ∧ 0 < len ∧ L.dom i = true then some ⟨.row i, [], [], none, none⟩ else none
    | _, _ => none
   | _, _ => none
  | .call { callee := .builtin .copy, args := ⟨[x1, x2]⟩, argTypes := ⟨[sT, _]⟩ } => match xv x1, wk xv x2, P.underlying sT with
   | some (.row i), some e, some (.slice el) => match L i, tsz P el with
    | some (.box cs), some (1, _) => if SE.wfs nenv L.dom (zbN e 0 cs) = true then some ⟨.undef, [(i, .box (zbN e 0 cs))], [(.szs 1, [e])], none, none⟩ else none
    | _, _ => none
   | _, _, _ => none
  | _ => none
variable {P : Program} {G : Glob} {ro : Option Nat} {n0 : Nat} {w0 : Base} {c : Cx} {ρ : Nat → AV} {L : Lk} {nenv : Nat} {o : Oper} {a : Act} {w : World}
theorem Mem.env (hm : Mem n0 w0 c ρ L nenv w) (hn0 : n0 ≤ w.heap.size) {ρ' : Nat → AV} (ha : zam nenv ρ ρ') (hρ : ∀ i, (ρ' i).pure = true) : Mem n0 w0 c ρ' L nenv w :=
 hm.later (Nat.le_refl _) (Below.refl _ _) hn0 (Cx.Keeps.refl _ _) hm.imm (fun _ _ => ⟨fun _ _ h => h, fun _ h => h⟩) hm.immlt ha hρ
theorem OpGo.mono_nenv {e : SE} {L' : Lk} {n n' : Nat} (h : OpGo P ro n0 w0 c ρ L e L' n o a w) (hn : n ≤ n') : OpGo P ro n0 w0 c ρ L e L' n' o a w := by
 intro k next Q hk
 refine h k next Q (fun v w' c' h1 h2 h3 => hk v w' c' h1 h2 ?_)
 exact ⟨h3.imm, h3.pure, fun i o hl => OS.wf_mono hn (fun _ h => h) (h3.wf i o hl), h3.ok, h3.dist, h3.fresh, h3.disj, h3.immlt, h3.below, h3.old⟩
theorem ziz (hm : Mem n0 w0 c ρ L nenv w) {T : TypeId} {x y : Operand} {ax e : SE} {dl : List (Nat × OS)} {ck : List Chk} (ho : o.op = .store T x y) (hx : Rv c (den ρ ax) (a.eval x)) (hy : Rv c (den ρ e) (a.eval y))
  (h : zlG P L nenv T ax e = some (dl, ck)) (hck : Chks ρ ck) : OpGo P ro n0 w0 c ρ L .undef (upds L dl) nenv o a w := by
 unfold zlG at h
 split at h
 ·cases h
 ·rename_i k g ht
  split at h
  case isFalse => cases h
  rename_i hg
  split at h
  ·rename_i i off
   split at h
   ·rename_i cs hl
    split at h
    ·rename_i hc
     simp only [Option.some.injEq, Prod.mk.injEq] at h
     obtain ⟨rfl, rfl⟩ := h
     exact zir hm ho hx hy ht hg hck hl hc.1 hc.2
    ·cases h
   ·cases h
  ·rename_i i base idx len sz off
   split at h
   ·rename_i cs hl
    split at h
    ·rename_i hc
     simp only [Option.some.injEq, Prod.mk.injEq] at h
     obtain ⟨rfl, rfl⟩ := h
     rw [Chks.cons] at hck
     exact zhr hm ho hx hy ht hg hck.2 hl hc.1 (by simpa using hck.1) hc.2.1 hc.2.2
    ·cases h
   ·cases h
  ·rename_i i idx sz off
   split at h
   ·rename_i sz' ec hl
    split at h
    ·rename_i hc
     obtain ⟨rfl, hwf⟩ := hc
     simp only [Option.some.injEq, Prod.mk.injEq] at h
     obtain ⟨rfl, rfl⟩ := h
     rw [Chks.cons] at hck
     exact zhs hm ho hx hy ht hg hck.2 hl (by simpa using hck.1) hwf
    ·cases h
   ·cases h
  ·cases h
theorem zjL {elem : TypeId} {i : TypeInfo} {e : SE} (hi : P.info? elem = some i) (h : Chks ρ (zmu i.bytes e)) : ∀ i', P.info? elem = some i' → 24 < i'.bytes → pok (.inr 4294967297) [den ρ (.app .len [e])] := by
 intro i' h1 h2
 rw [hi] at h1
 simp only [Option.some.injEq] at h1
 subst h1
 have := h (.inr 4294967297, [.app .len [e]]) (by simp [zmu]; omega)
 rw [dens, dens] at this
 exact this
theorem zhx (hm : Mem n0 w0 c ρ L nenv w) (hn0 : n0 ≤ w.heap.size) {x1 x2 : Operand} {sT xT nid : Nat} {e1 e2 : SE} {r : SE × List (Nat × OS) × List Chk} (hid : L nid = none) (hid1 : L (nid + 1) = none)
  (ho : o.op = .call { callee := .builtin .append, args := ⟨[x1, x2]⟩, argTypes := ⟨[sT, xT]⟩ }) (h1 : Rv c (den ρ e1) (a.eval x1)) (h2 : Rv c (den ρ e2) (a.eval x2))
  (h : zjj P L nenv nid sT xT e1 e2 = some r) (hck : Chks ρ r.2.2) : OpGo P ro n0 w0 c ρ L r.1 (upds L r.2.1) nenv o a w := by
 unfold zjj at h
 split at h
 case h_2 => cases h
 rename_i elem elem2 hu1 hu2
 split at h
 case h_2 => cases h
 rename_i sz g i ht hi
 split at h
 case h_2 => cases h
 rename_i z ey hz hey
 split at h
 case isFalse => cases h
 rename_i hc
 have he : ElemOk P sT elem sz := ⟨hu1, ⟨g, ht⟩, i, z, hi, hc.1, hz, hc.2⟩
 have hread : ∀ (ys : List AV), den ρ ey = .sl ys → pok (.szs sz) [den ρ ey] → ∃ us, Readable P c w sz (a.eval x2) ys us := by
  intro ys hys hsz
  rw [hys] at hsz
  simp only [pok] at hsz
  unfold zoK at hey
  split at hey
  ·rename_i j
   split at hey
   ·rename_i sz' e' hl
    split at hey
    ·rename_i hs
     subst hs
     simp only [Option.some.injEq] at hey; subst hey
     obtain ⟨xs, hx, hrow⟩ := hm.ok j _ hl
     rw [hx] at hys; cases hys
     simp only [den] at h2
     generalize a.eval x2 = v2 at h2
     cases h2 with
     | row _ aa nn cap hh => rw [hh] at hrow; exact zeY hrow (fun y hy => (hsz y hy).1)
    ·cases hey
   ·cases hey
  ·simp only [Option.some.injEq] at hey; subst hey
   rw [hys] at h2
   exact ziw hm.imm h2 (fun y hy => (hsz y hy).1)
 split at h
 ·rename_i j
  split at h
  ·rename_i sz' ec hl
   split at h
   ·rename_i hw
    obtain ⟨rfl, hwf⟩ := hw
    simp only [Option.some.injEq] at h; subst h
    simp only at hck
    have k1 := hck (.szs sz', [ey]) (by simp)
    have k2 := hck (.app, [ec, ey]) (by simp)
    simp only [dens] at k1 k2
    obtain ⟨ys, hys⟩ : ∃ ys, den ρ ey = .sl ys := by
     cases hd : den ρ ey <;> rw [hd] at k1 <;> simp [pok] at k1
     exact ⟨_, rfl⟩
    obtain ⟨us, hr⟩ := hread ys hys k1
    have hv : a.eval x1 = c.h j := by
     simp only [den] at h1
     generalize a.eval x1 = v1 at h1
     cases h1 with
     | row _ aa nn cap hh => exact hh.symm
    exact zio hm hn0 ho he hu2 hl hv hys hr k1 k2 (zjL hi fun x hx => hck x (by simp [hx])) hwf hid
   ·cases h
  ·cases h
 ·split at h
  ·rename_i hwf
   simp only [Option.some.injEq] at h; subst h
   simp only at hck
   have k1 := hck (.szs sz, [ey]) (by simp)
   have k2 := hck (.app, [.nils, ey]) (by simp)
   simp only [dens] at k1 k2
   obtain ⟨ys, hys⟩ : ∃ ys, den ρ ey = .sl ys := by
    cases hd : den ρ ey <;> rw [hd] at k1 <;> simp [pok] at k1
    exact ⟨_, rfl⟩
   obtain ⟨us, hr⟩ := hread ys hys k1
   simp only [den] at h1
   have hv : a.eval x1 = .slice none 0 0 := by
    generalize a.eval x1 = v1 at h1
    cases h1; rfl
   have hm2 := hm.noRow sz hid1 (v := .slice none 0 0) (.inl rfl)
   have hk2 : c.Keeps L.dom (c.seth (nid + 1) (.slice none 0 0)) := c.seth_keeps hid1
   have hid2 : (L.upd (nid + 1) (.row sz .nils)) nid = none := by rw [Lk.upd_other _ _ (by omega)]; exact hid
   have hr2 : Readable P (c.seth (nid + 1) (.slice none 0 0)) w sz (a.eval x2) ys us := ⟨hr.len, hr.cells, by
    have := hr.rel
    refine za4 hk2 this ?_
    rw [AV.under_flat]
    have hw : ey.wf nenv L.dom = true := by simpa [SE.wf, SE.wfs] using hwf
    have := zbb hm.pure ey hw
    rwa [hys] at this⟩
   have hgo := zio (ro := ro) hm2 hn0 ho he hu2 (Lk.upd_same L (nid + 1) _) (by rw [hv]; simp [Cx.seth]) hys hr2 k1 k2 (zjL hi fun x hx => hck x (by simp [hx])) (SE.wf_mono (Nat.le_refl _) (Lk.dom_upd L _ _) hwf) hid2
   intro k next Q hn
   exact hgo k next Q (fun v w' c' q1 q2 q3 => hn v w' c' (hk2.trans (q1.mono (fun i hi => Lk.dom_upd L _ _ i hi))) q2 q3)
  ·cases h
 ·cases h
theorem zlT : ∀ (vs : List Value) (es : List SE), zfc vs = some es → ∀ (n : Nat) (m : Nat → Bool), SE.wfs n m es = true := by
 intro vs
 induction vs with
 | nil => intro es h n m; simp only [zfc, Option.some.injEq] at h; subst h; rfl
 | cons v vs ih =>
  intro es h n m
  simp only [zfc] at h
  split at h
  ·rename_i e es' h1 h2
   simp only [Option.some.injEq] at h; subst h
   simp only [SE.wfs, zlS v e h1 n m, ih es' h2 n m, Bool.and_self]
  ·cases h
theorem zl0 {t : TypeId} {es : List SE} (h : zel P t = some es) {n : Nat} {m : Nat → Bool} : SE.wfs n m es = true := by
 unfold zel at h
 split at h
 ·split at h
  ·split at h
   ·exact zlT _ _ h n m
   ·cases h
  ·cases h
 ·cases h
theorem OpGo.nilCheck (hm : Mem n0 w0 c ρ L nenv w) {x : Operand} {e : SE} (ho : o.op = .nilCheck x) (hx : Rv c (den ρ e) (a.eval x)) (he : (∃ i k, e = .ptr i k) ∨ (∃ cs k, e = .ref cs k) ∨ ∃ f u v, e = .clo f u v) :
  OpGo P ro n0 w0 c ρ L e L nenv o a w := by
 refine OpGo.runs hm (by rw [ho]; intro c h; cases h) ⟨a.eval x, ?_, hx⟩
 rcases he with ⟨i, k, rfl⟩ | ⟨cs, k, rfl⟩ | ⟨f, u, v, rfl⟩
 ·simp only [den] at hx
  generalize hv : a.eval x = vx at hx
  cases hx
  simp only [execOp, ho, hv]; rfl
 ·simp only [den] at hx
  generalize hv : a.eval x = vx at hx
  cases hx
  simp only [execOp, ho, hv]; rfl
 ·simp only [den] at hx
  generalize hv : a.eval x = vx at hx
  cases hx
  simp only [execOp, ho, hv]; rfl
theorem zeF (hm : Mem n0 w0 c ρ L nenv w) (hn0 : n0 ≤ w.heap.size) {x1 x2 : Operand} {sT xT nid : Nat} {e1 e2 : SE} {r : SE × List (Nat × OS) × List Chk} (hid : L nid = none)
  (ho : o.op = .call { callee := .builtin .append, args := ⟨[x1, x2]⟩, argTypes := ⟨[sT, xT]⟩ }) (h1 : Rv c (den ρ e1) (a.eval x1)) (hl : Rv c (den ρ e2) (a.eval x2))
  (h : zdO P L nenv nid sT xT e1 e2 = some r) (hck : Chks ρ r.2.2) : OpGo P ro n0 w0 c ρ L r.1 (upds L r.2.1) nenv o a w := by
 unfold zdO at h
 split at h
 case h_2 => cases h
 rename_i kx hux
 split at h
 case h_2 => cases h
 rename_i sz e ck hb
 split at h
 case isFalse => cases h
 rename_i hwf
 simp only [Option.some.injEq] at h; subst h
 show OpGo P ro n0 w0 c ρ L (.row nid) (L.upd nid (.row sz e)) nenv o a w
 simp only at hck
 intro k next Q hn
 unfold zcc at hb
 split at hb
 case h_2 => cases hb
 rename_i el hu
 split at hb
 case h_2 => cases hb
 rename_i sz' g z i ht hz hi
 split at hb
 case isFalse => cases hb
 rename_i hc
 obtain ⟨c1, c2, c3, c4⟩ := hc
 obtain ⟨zz, hzz, rfl⟩ := Option.map_eq_some_iff.1 hz
 obtain ⟨zv, z1, z2⟩ := zbR (w := w) (c := c) (ρ := ρ) hzz
 replace z2 := zaR zz z2
 have hzl : zv.cells.size = sz' := by have := z2.length; rw [zab, c1] at this; simpa using this
 obtain ⟨ze, hze, hcells⟩ : ∃ ze, (sz, e, ck) = (sz', .app .rep [e2, ze], [(.rep, [e2, ze])]) ∧ (den ρ ze).cells = dens ρ (SE.weaks zz) := by
  split at hb
  ·simp only [Option.some.injEq] at hb
   exact ⟨.agg (SE.weaks zz), hb.symm, by simp⟩
  ·rename_i _ z1 hzz1
   split at hb
   ·rename_i h1
    simp only [Option.some.injEq] at hb
    refine ⟨z1, hb.symm, ?_⟩
    rw [hzz1]
    have := SE.sure1_one (ρ := ρ) h1
    simp only [dens]
    cases hd : den ρ z1 <;> simp_all
   ·cases hb
  ·cases hb
 simp only [Prod.mk.injEq] at hze
 obtain ⟨rfl, rfl, rfl⟩ := hze
 have hk := hck.one
 simp only [dens] at hk
 cases hdn : den ρ e2 with
 | int kk num =>
  rw [hdn] at hk hl
  simp only [pok] at hk
  obtain ⟨k0, k1, k2⟩ := hk
  obtain ⟨q, rfl⟩ : ∃ q : Nat, num = q := ⟨num.toNat, by omega⟩
  have hden : den ρ (.app .rep [e2, ze]) = .sl (List.replicate q (den ρ ze)) := by simp only [den, dens, hdn, pv, Int.toNat_natCast]
  have hlc : (den ρ ze).cells.length = sz := by rw [hcells, zab, c1]
  have hflat : Rvs c (AV.flat (List.replicate q (den ρ ze))) (Builtin.zeroCells zv.cells q).toList := by
   unfold Builtin.zeroCells
   rw [zdn, hcells, zbT]; exact zcx z2 q
  have hvl : a.eval x2 = .int kk q := by generalize a.eval x2 = v at hl; cases hl; rfl
  have hv1 : a.eval x1 = .slice none 0 0 := by simp only [den] at h1; generalize a.eval x1 = v at h1; cases h1; rfl
  have hi0 : i.zero = some zv := by
   simp only [zeroValue, Sem.run_bind, run_typeInfo hi, Result.andThen_ok] at z1
   split at z1
   ·rename_i z0 h0
    simp only [Sem.run_pure, Result.ok.injEq] at z1
    rw [h0, z1.1]
   ·cases z1
  have hzv : ∀ w' : World, (zeroValue el).run P w' = .ok zv w' := fun w' => by simp [zeroValue, run_typeInfo hi, hi0]
  have hw := zgT k0 k1
  have hb48 : ¬ (q : Int) * (i.bytes : Int) > 2 ^ 48 := by
   have h1 : q * i.bytes ≤ 4294967296 * 16384 := Nat.mul_le_mul (by omega) c4
   have h2 : ((q * i.bytes : Nat) : Int) = (q : Int) * i.bytes := Int.natCast_mul _ _
   have h3 : (2 : Int) ^ 48 = 281474976710656 := by decide
   rw [h3, ← h2]; omega
  have hd : ∀ cc, o.op ≠ .defer cc := by rw [ho]; intro c h; cases h
  have hex : ∀ v w', (Builtin.append_ #[sT, xT] o.type #[.slice none 0 0, .int kk q]).run P w = .ok v w' → (execOp a.eval o).run P w = .ok (.value v) w' := by
   intro v w' hrun
   simp only [execOp, ho, Sem.run_bind, resolve, Sem.run_pure, Result.andThen_ok, invoke, builtin]
   have : (⟨[x1, x2]⟩ : Array Operand).map a.eval = #[.slice none 0 0, .int kk q] := by rw [← hv1, ← hvl]; exact Array.ext' (by simp)
   rw [this, hrun]; rfl
  rcases Nat.eq_zero_or_pos q with h0 | h0
  ·subst h0
   have hrun : (Builtin.append_ #[sT, xT] o.type #[.slice none 0 0, .int kk ((0 : Nat) : Int)]).run P w = .ok (.slice none 0 0) w := by
    have hw0 : IntKind.i64.wrap 0 = 0 := by decide
    have hai : (asInt (.int kk ((0 : Nat) : Int))).run P w = .ok 0 w := rfl
    simp only [Builtin.append_, List.getElem?_toArray, List.getElem?_cons_zero, List.getElem?_cons_succ, Sem.run_bind, run_underlying hu, Result.andThen_ok, (zar ht w).1, run_underlying hux, Sem.run_pure, if_true, hai, hw0, run_typeInfo hi]
    rw [if_neg (by decide)]
    simp only [Sem.run_bind, run_typeInfo hi, Result.andThen_ok]
    rw [if_neg (by simp)]
    simp
   refine zas hd (hex _ _ hrun) (hn _ _ (c.seth nid (.slice none 0 0)) (c.seth_keeps hid) (by simp only [den]; exact .row nid none 0 0 (by simp [Cx.seth])) ?_)
   refine hm.step nid _ (Nat.le_refl _) (c.seth_keeps hid) (zam.refl _ _) hm.pure ⟨hm.imm.I, hm.imm.M⟩ hm.immlt (Nat.le_refl _) hm.below hm.old (SE.wf_mono (Nat.le_refl _) (Lk.dom_upd _ nid _) hwf) ?_ (fun _ _ _ _ _ _ => rfl) ?_ (fun j o b _ => hm.disj j o b)
   ·refine ⟨_, hden, ?_⟩
    simp only [Cx.seth, if_true, List.replicate_zero]
    exact .nil
   ·intro b hb
    simp [bl, Cx.seth, zay] at hb
  ·have hnx : ¬ Builtin.nextslicecap q 0 * i.bytes > 2 ^ 48 := by
    have := zc3 (need := q) (cap := 0) h0
    have h3 : Builtin.nextslicecap q 0 * i.bytes ≤ (2 * 4294967296 + 192) * 16384 := Nat.mul_le_mul (by omega) c4
    omega
   have hmax : ¬ ((q : Nat) : Int) > IntKind.i64.max := by
    have : IntKind.i64.max = 9223372036854775807 := by decide
    rw [this]; omega
   have hq0 : ¬ q ≤ 0 := by omega
   have hqs : ¬ q * sz = 0 := by
    intro h
    rcases Nat.mul_eq_zero.1 h with h | h
    ·omega
    ·exact c3 h
   have hneg : ¬ (q : Int) < 0 := by omega
   obtain ⟨nc, d, hle, hrun⟩ : ∃ newCap d, q ≤ newCap ∧ (Builtin.append_ #[sT, xT] o.type #[.slice none 0 0, .int kk q]).run P w = .ok (.slice (some ⟨w.heap.size, 0, none⟩) q newCap)
     (({ w with drawn := d } : World).alloc (.cells ⟨(Builtin.zeroCells zv.cells q).toList ++ (Builtin.zeroCells zv.cells (newCap - q)).toList⟩ el)) := by
    refine ⟨q + w.tape w.drawn (.appendCap q 0 el) % (2 ^ 63 - q), w.drawn + 1, by omega, ?_⟩
    have hai : (asInt (.int kk (q : Int))).run P w = .ok (q : Int) w := rfl
    simp only [Builtin.append_, List.getElem?_toArray, List.getElem?_cons_zero, List.getElem?_cons_succ, Sem.run_bind, run_underlying hu, Result.andThen_ok, (zar ht w).1, run_underlying hux, Sem.run_pure, if_true, hai, hw, run_typeInfo hi]
    rw [if_neg hneg]
    simp only [Sem.run_bind, run_typeInfo hi, Result.andThen_ok]
    rw [if_neg hb48]
    simp only [Sem.run_bind, Sem.run_pure, Result.andThen_ok, Int.toNat_natCast, Nat.zero_add]
    rw [if_neg hq0]
    simp only [Sem.run_bind, run_typeInfo hi, Result.andThen_ok]
    rw [if_neg (by rintro ⟨h, _⟩; exact hmax h)]
    simp only [Sem.run_bind, run_typeInfo hi, Result.andThen_ok]
    rw [if_neg hnx]
    simp only [Sem.run_bind, run_choose, Question.forced, Bool.false_eq_true, if_false, Question.cut, Result.andThen_ok, run_typeInfo hi, run_askRoom, Builtin.firstCells, Sem.run_pure, Bool.not_true, hqs, hzv]
    have harr : ∀ Y Z : Array Value, ((#[] : Array Value) ++ Y ++ Z) = ⟨Y.toList ++ Z.toList⟩ := fun Y Z => Array.ext' (by simp)
    rw [harr]
    rfl
   have hzl2 : ∀ m, (Builtin.zeroCells zv.cells m).toList.length = m * sz := fun m => by rw [zbn, hzl]
   have hnew := (hm.draw d).newRow (by simpa using hn0) hid (.app .rep [e2, ze]) _ nc sz ((Builtin.zeroCells zv.cells q).toList ++ (Builtin.zeroCells zv.cells (nc - q)).toList) el hden hwf (by simpa using hle)
    (by rw [List.length_append, hzl2, hzl2, ← Nat.add_mul]; exact Nat.mul_le_mul_right _ (by omega))
    (by intro x hx; rw [List.eq_of_mem_replicate hx]; exact hlc) (by rw [List.length_replicate, ← hzl2 q, List.take_left]; exact hflat)
   rw [List.length_replicate] at hnew
   refine zas hd (hex _ _ hrun) (hn _ _ _ (c.seth_keeps hid) ?_ hnew)
   simp only [den]
   exact .row nid _ _ _ (by simp [Cx.seth])
 | _ => rw [hdn] at hk; simp [pok] at hk
theorem zia {es : List AV} {sz : Nat} (h : ∀ e ∈ es, e.cells.length = sz) (n : Nat) (hn : n ≤ es.length) : AV.flat (es.take n) = (AV.flat es).take (n * sz) := by
 have hx : es = es.take n ++ es.drop n := (List.take_append_drop _ _).symm
 conv => rhs; rw [hx, zbq]
 have hl : (AV.flat (es.take n)).length = n * sz := by
  rw [zaH (fun e he => h e (List.mem_of_mem_take he))]
  congr 1; simp; omega
 rw [← hl, List.take_left]
theorem zko (hm : Mem n0 w0 c ρ L nenv w) (hn0 : n0 ≤ w.heap.size) {T elem sz i nid : Nat} {g : Bool} {x hi : Operand} {ec eh : SE} (ho : o.op = .slice T x none (some hi) none) (hT : P.underlying T = some (.slice elem)) (hs : tsz P elem = some (sz, g))
  (hl : L i = some (.row sz ec)) (hx : Rv c (.row i) (a.eval x)) (hh : Rv c (den ρ eh) (a.eval hi)) (hk : pok (.slice false true) [den ρ ec, den ρ eh]) (hwf : (SE.app (.slice false true) [ec, eh]).wf nenv L.dom = true) (hid : L nid = none) :
  OpGo P ro n0 w0 c ρ L (.row nid) ((L.upd i .gone).upd nid (.row sz (.app (.slice false true) [ec, eh]))) nenv o a w := by
 intro n next Q hn
 obtain ⟨xs, hxs, hrow⟩ := hm.ok i _ hl
 rw [hxs] at hk
 have hid1 : (L.upd i .gone) nid = none := by
  rw [Lk.upd_other]
  ·exact hid
  ·rintro rfl; rw [hid] at hl; cases hl
 have hwf1 : (SE.app (.slice false true) [ec, eh]).wf nenv (L.upd i .gone).dom = true := SE.wf_mono (Nat.le_refl _) (Lk.dom_upd L i _) hwf
 obtain ⟨k, m, hm1, hm2, hq⟩ : ∃ (k : IntKind) (m : Nat), den ρ eh = .int k m ∧ m ≤ xs.length ∧ a.eval hi = .int k m := by
  generalize den ρ eh = y at hk hh
  cases y <;> simp [pok] at hk
  rename_i k z
  refine ⟨k, z.toNat, by simp; omega, by omega, ?_⟩
  generalize a.eval hi = v at hh
  cases hh
  simp; omega
 have hden : den ρ (.app (.slice false true) [ec, eh]) = .sl (xs.take m) := by simp [den, dens, hxs, hm1, pv]
 have hvx : a.eval x = c.h i := by
  generalize a.eval x = v at hx
  cases hx with
  | row _ aa nn cap hh => exact hh.symm
 have hd : ∀ cc, o.op ≠ .defer cc := by rw [ho]; intro c h; cases h
 have hex : ∀ v, (Instr.sliceAt T (c.h i) none (some (.int k m)) none).run P w = .ok v w → (execOp a.eval o).run P w = .ok (.value v) w := by
  intro v hv
  simp only [execOp, ho, Option.map_none, Option.map_some, hq, hvx, Sem.run_bind, hv]; rfl
 have hsl : ∀ v, (Instr.slice T (c.h i) none (some (.int k m)) none).run P w = .ok v w → (Instr.sliceAt T (c.h i) none (some (.int k m)) none).run P w = .ok v w := by
  intro v hv
  simp only [Instr.sliceAt, Sem.run_bind, run_underlying hT, Result.andThen_ok]
  exact hv
 have hmd := hm.drop i
 have hb : ∀ (len cap : Nat), m ≤ cap → (Instr.sliceBounds true len cap none (some (.int k m)) none).run P w = .ok (0, m, cap) w := by
  intro len cap hc
  have hc' : ((m : Nat) : Int) ≤ cap := by omega
  simp [Instr.sliceBounds, run_sliceBound, hc']
 have small : xs = [] → (c.h i = .slice none 0 0 ∨ ∃ ad, c.h i = .slice (some ad) 0 0) → o.wpIn (FW ro) n P a w next Q := by
  intro h0 hv
  subst h0
  have hm0 : m = 0 := by simpa using hm2
  subst hm0
  have hb0 : (Instr.sliceBounds true 0 0 none (some (.int k 0)) none).run P w = .ok (0, 0, 0) w := by
   simp [Instr.sliceBounds, run_sliceBound]
  have hrun : (Instr.slice T (c.h i) none (some (.int k (0 : Nat))) none).run P w = .ok (c.h i) w := by
   rcases hv with h | ⟨ad, h⟩ <;> rw [h] <;> simp [Instr.slice, run_underlying hT, hb0, (zar hs w).1]
  refine zas hd (hex _ (hsl _ hrun)) (hn _ _ (c.seth nid (c.h i)) (c.seth_keeps hid) ?_ ?_)
  ·simp only [den]
   rcases hv with hs | ⟨ad, hs⟩
   ·rw [hs]; exact .row nid none 0 0 (by simp [Cx.seth])
   ·rw [hs]; exact .row nid (some ad) 0 0 (by simp [Cx.seth])
  ·refine hmd.step nid _ (Nat.le_refl _) (c.seth_keeps hid1) (zam.refl _ _) hm.pure ⟨hm.imm.I, hm.imm.M⟩ hm.immlt (Nat.le_refl _) hm.below hm.old (SE.wf_mono (Nat.le_refl _) (Lk.dom_upd _ nid _) hwf1) ?_ (fun _ _ _ _ _ _ => rfl) ?_ (fun j o b _ => hmd.disj j o b)
   ·refine ⟨_, hden, ?_⟩
    simp only [Cx.seth, if_true]
    rcases hv with hs | ⟨ad, hs⟩
    ·rw [hs]; exact .nil
    ·rw [hs]; exact .zero ad
   ·intro b hb
    simp only [bl, Cx.seth, if_true] at hb
    rcases hv with hs | ⟨ad, hs⟩ <;> simp [hs, zay] at hb
 generalize hhi : c.h i = hv at hrow small hex hsl
 cases hrow with
 | nil => exact small rfl (.inl rfl)
 | zero ad => exact small rfl (.inr ⟨ad, rfl⟩)
 | row b oo cap vs V _ hcap hbk hxl hov hsz hvs =>
  have hbi : bl c i (.row sz ec) = some b := by simp [bl, hhi, zay]; omega
  have hfr := hm.fresh i _ b hl hbi
  have hmul : xs.length * sz ≤ cap * sz := Nat.mul_le_mul_right _ hxl
  have hlt : (xs.take m).length = m := by simp; omega
  have hre := hmd.reRow (w' := w) (b := b) (oo := oo) (cap := cap) (sz := sz) (vs := vs) (T := V) hid1 hden hwf1 hcap hbk (by omega) hov (fun y hy => hsz y (List.mem_of_mem_take hy))
   (by
    rw [hlt, zia hsz m hm2]
    have := hvs.take (m * sz)
    rw [List.take_take] at this
    rwa [Nat.min_eq_left (Nat.mul_le_mul_right _ hm2)] at this)
   (fun _ _ => rfl) rfl rfl rfl rfl hfr.1
   (by
    intro j oj hlj hbj
    by_cases hji : j = i
    ·subst hji; rw [Lk.upd_same] at hlj; simp only [Option.some.injEq] at hlj; subst hlj; simp [bl] at hbj
    ·rw [Lk.upd_other _ _ hji] at hlj; exact hji (hm.dist j i oj _ b hlj hl hbj hbi))
   (hm.disj i _ b hl hbi)
  rw [hlt] at hre
  refine zas hd (hex (.slice (some ⟨b, oo, none⟩) m cap) (hsl _ ?_)) (hn _ _ _ (c.seth_keeps hid) ?_ hre)
  ·simp only [Instr.slice, Sem.run_bind, run_underlying hT, Result.andThen_ok, hb _ cap (by omega), (zar hs w).1, Sem.run_pure]
   simp [Addr.add_eq, show cap ≠ 0 from by omega]
  ·simp only [den]
   exact .row nid _ _ _ (by simp [Cx.seth])
theorem znu (hm : Mem n0 w0 c ρ L nenv w) {T elem sz nid : Nat} {g : Bool} {x h m : Operand} {k k' : IntKind} {es : List AV} (ho : o.op = .slice T x none (some h) (some m)) (hT : P.underlying T = some (.slice elem)) (hs : tsz P elem = some (sz, g))
  (hx : Rv c (.sl es) (a.eval x)) (hh : a.eval h = .int k 0) (hmm : a.eval m = .int k' 0) (hid : L nid = none) :
  OpGo P ro n0 w0 c ρ L (.row nid) (L.upd nid (.row sz .nils)) nenv o a w := by
 intro n next Q hn
 have hd : ∀ cc, o.op ≠ .defer cc := by rw [ho]; intro c h; cases h
 have hb : ∀ (len cap : Nat), (Instr.sliceBounds true len cap none (some (.int k 0)) (some (.int k' 0))).run P w = .ok (0, 0, 0) w := by
  intro len cap
  simp [Instr.sliceBounds, run_sliceBound]
 have key : ∀ ad len cap, a.eval x = .slice ad len cap → o.wpIn (FW ro) n P a w next Q := by
  intro ad len cap hv
  have hrun : (execOp a.eval o).run P w = .ok (.value (.slice ad 0 0)) w := by
   simp only [execOp, ho, Option.map_none, Option.map_some, hh, hmm, hv]
   simp [Instr.sliceAt, Instr.slice, run_underlying hT, hb, (zar hs w).1]
  refine zas hd hrun (hn _ _ (c.seth nid (.slice ad 0 0)) (c.seth_keeps hid) ?_ (hm.noRow sz hid ?_))
  ·simp only [den]; exact .row nid ad 0 0 (by simp [Cx.seth])
  ·cases ad with
   | none => exact .inl rfl
   | some ad => exact .inr ⟨ad, rfl⟩
 generalize hv : a.eval x = v at hx
 cases hx with
 | slnil => exact key _ _ _ hv
 | sl0 ad => exact key _ _ _ hv
 | sl _ sz2 b o2 cap q1 q2 q3 => exact key _ _ _ hv
theorem zix (hi : Imm c w) {ys : List AV} {v : Value} (h : Rv c (.sl ys) v) (hs : ∀ y ∈ ys, y.cells.length = 1) :
  ∃ us, Rvs c (AV.flat ys) us ∧ (Builtin.lenOf v).run P w = .ok ys.length w ∧ ∀ n, n ≤ ys.length → (Builtin.firstCells 1 n v).run P w = .ok ⟨us.take n⟩ w := by
 cases h with
 | slnil => exact ⟨[], .nil, rfl, fun n hn => by simp [Builtin.firstCells]⟩
 | sl0 ad => exact ⟨[], .nil, rfl, fun n hn => by
   have : n = 0 := by simpa using hn
   subst this
   simp [Builtin.firstCells, loadCells, loadCellsFrom]⟩
 | sl _ sz' b o cap h1 h2 h3 =>
  obtain ⟨us, hu, hc⟩ := h3.values hi
  refine ⟨us, hu, rfl, fun n hn => ?_⟩
  have hl : us.length = ys.length := by rw [hu.length, zaH hs]; simp
  have hl2 : (us.take n).length = n := by simp; omega
  have := run_loadCells_list (P := P) (w := w) ⟨b, o, none⟩ (us.take n) (fun j v hv => hc j v (by
   rw [List.getElem?_take] at hv
   split at hv
   ·exact hv
   ·cases hv))
  rw [hl2] at this
  simp only [Builtin.firstCells, Nat.mul_one]
  exact this
theorem zet : ∀ {ys : List AV} (_ : ∀ y ∈ ys, y.cells.length = 1) (j : Nat), (AV.flat ys).drop j = AV.flat (ys.drop j)
 | [], _, j => by simp [AV.flat]
 | y :: ys, _, 0 => rfl
 | y :: ys, h, j + 1 => by
  have hy := h y (by simp)
  have ih := zet (ys := ys) (fun z hz => h z (by simp [hz])) j
  rw [zaY]
  generalize hq : y.cells = q at hy
  match q, hy with
  | [z], _ => simpa using ih
theorem zd5 {e : SE} {ys : List AV} (he : den ρ e = .sl ys) (hy : ∀ y ∈ ys, y.cells.length = 1) : ∀ (cs : List SE) (j : Nat),
  dens ρ (zbN e j cs) = ((AV.flat ys).drop j).take cs.length ++ (dens ρ cs).drop (ys.length - j)
 | [], j => by simp [zbN, dens]
 | u :: us, j => by
  have ih := zd5 he hy us (j + 1)
  have hfl : (AV.flat ys).length = ys.length := by rw [zaH hy]; simp
  simp only [zbN, dens, ih, den, he, pv, binI]
  by_cases hj : j < ys.length
  ·have h1 : ((j : Nat) : Int) < (ys.length : Int) := by omega
   have hd : (AV.flat ys).drop j = AV.cut (ys.getD j .undef).cells 0 1 false :: (AV.flat ys).drop (j + 1) := by
    have hyj := hy ys[j] (by simp)
    have hg : ys.getD j .undef = ys[j] := by simp [List.getD, hj]
    rw [zet hy, zet hy, List.drop_eq_getElem_cons hj, zaY, hg]
    generalize (ys[j]).cells = q at hyj
    match q, hyj with
    | [z], _ => simp [AV.cut]
   have hs : ys.length - j = (ys.length - (j + 1)) + 1 := by omega
   simp only [Int.toNat_natCast, h1, decide_true, if_true, List.length_cons, hd, List.take_succ_cons, hs, List.drop_succ_cons, List.cons_append]
  ·have h1 : ¬ ((j : Nat) : Int) < (ys.length : Int) := by omega
   have e1 : (AV.flat ys).drop j = [] := List.drop_eq_nil_of_le (by omega)
   have e2 : (AV.flat ys).drop (j + 1) = [] := List.drop_eq_nil_of_le (by omega)
   have e3 : ys.length - j = 0 := by omega
   have e4 : ys.length - (j + 1) = 0 := by omega
   simp only [h1, decide_false, e1, e2, e3, e4, List.take_nil, List.nil_append, List.drop_zero]
   rfl
theorem znt (hm : Mem n0 w0 c ρ L nenv w) {sT xT el i : Nat} {g : Bool} {x1 x2 : Operand} {e : SE} {cs : List SE} (ho : o.op = .call { callee := .builtin .copy, args := ⟨[x1, x2]⟩, argTypes := ⟨[sT, xT]⟩ }) (hT : P.underlying sT = some (.slice el)) (hs : tsz P el = some (1, g))
  (h1 : Rv c (.row i) (a.eval x1)) (h2 : Rv c (den ρ e) (a.eval x2)) (hl : L i = some (.box cs)) (hwf : SE.wfs nenv L.dom (zbN e 0 cs) = true) (hck : pok (.szs 1) [den ρ e]) :
  OpGo P ro n0 w0 c ρ L .undef (L.upd i (.box (zbN e 0 cs))) nenv o a w := by
 intro n next Q hn
 obtain ⟨ys, hys⟩ : ∃ ys, den ρ e = .sl ys := by
  cases hd : den ρ e <;> rw [hd] at hck <;> simp [pok] at hck
  exact ⟨_, rfl⟩
 rw [hys] at h2 hck
 simp only [pok] at hck
 have hy1 : ∀ y ∈ ys, y.cells.length = 1 := fun y hy => (hck y hy).1
 obtain ⟨us, r1, r2, r3⟩ := zix (P := P) hm.imm h2 hy1
 obtain ⟨vs, T, hb, hvs, hh⟩ := hm.ok i _ hl
 have hlv := hvs.length; rw [zab] at hlv
 have hx1 : a.eval x1 = .slice (some ⟨c.β i, 0, none⟩) vs.length vs.length := by
  rw [← hh]
  generalize a.eval x1 = v at h1
  cases h1 with
  | row _ ad n cap hq => exact hq.symm
 have hfl : (AV.flat ys).length = ys.length := by rw [zaH hy1]; simp
 have hul : us.length = ys.length := by rw [r1.length, hfl]
 have hone : ∀ u ∈ us, u.oneCell' = true := r1.ones (zfJ (fun y hy => (hck y hy).2))
 obtain ⟨w', s1, s2, s3, s4, s5, s6, s7⟩ := run_storeCells (P := P) (us.take (Nat.min ys.length vs.length)) w (c.β i) 0 0 vs T hb (by
  have : Nat.min ys.length vs.length ≤ vs.length := Nat.min_le_right _ _
  simp; omega) (fun u hu => hone u (List.mem_of_mem_take hu))
 have hcp : (Builtin.copy_ #[sT, xT] o.type #[a.eval x1, a.eval x2]).run P w = .ok (goInt (Nat.min ys.length vs.length)) w' := by
  have r3' := r3 (Nat.min ys.length vs.length) (Nat.min_le_left _ _)
  simp only [hx1]
  simp [Builtin.copy_, run_underlying hT, (zar hs w).1, r2]
  have e0 : min ys.length vs.length = Nat.min ys.length vs.length := rfl
  simp only [e0] at *
  simp [r3', s1]
 have hd : ∀ cc, o.op ≠ .defer cc := by rw [ho]; intro c h; cases h
 have hrun : (execOp a.eval o).run P w = .ok (.value (goInt (Nat.min ys.length vs.length))) w' := by
  simp only [execOp, ho, Sem.run_bind, resolve, Sem.run_pure, Result.andThen_ok, invoke, builtin]
  have : ((⟨[x1, x2]⟩ : Array Operand).map a.eval) = #[a.eval x1, a.eval x2] := Array.ext' (by simp)
  rw [this]
  have : (⟨[sT, xT]⟩ : Array TypeId) = #[sT, xT] := rfl
  rw [this, hcp]; rfl
 refine zas hd hrun (hn _ _ c (Cx.Keeps.refl _ _) (.undef _ (fun b h => by cases h)) ?_)
 refine hm.turn hl rfl rfl hwf ?_ s3 s4 s5 s6 s7
 refine ⟨_, T, s2, ?_, ?_⟩
 ·rw [zd5 hys hy1]
  have hp := hvs.put (r1.take (Nat.min ys.length vs.length)) 0
  have e1 : putL (dens ρ cs) 0 ((AV.flat ys).take (Nat.min ys.length vs.length)) = ((AV.flat ys).drop 0).take cs.length ++ (dens ρ cs).drop (ys.length - 0) := by
   simp only [putL, List.take_zero, List.nil_append, List.drop_zero, Nat.sub_zero, Nat.zero_add]
   rw [← hlv]
   rcases Nat.le_total ys.length vs.length with hle | hle
   ·have e0 : Nat.min ys.length vs.length = ys.length := Nat.min_eq_left hle
    rw [e0, List.take_of_length_le (by omega), List.take_of_length_le (by omega), hfl]
   ·have e0 : Nat.min ys.length vs.length = vs.length := Nat.min_eq_right hle
    rw [e0, List.length_take, hfl]
    rw [List.drop_eq_nil_of_le (by rw [zab]; omega), List.drop_eq_nil_of_le (by rw [zab]; omega)]
  rw [← e1]
  simpa using hp
 ·have : (putL vs (0 + 0) (us.take (Nat.min ys.length vs.length))).length = vs.length := by
   have h5 : Nat.min ys.length vs.length ≤ vs.length := Nat.min_le_right _ _
   simp [putL]; omega
  rw [this]; exact hh
theorem zjg (hm : Mem n0 w0 c ρ L nenv w) {T len el i : Nat} {g : Bool} {x : Operand} {cs : List SE} (ho : o.op = .slice T x none none none) (hT : P.underlying T = some (.array len el)) (hs : tsz P el = some (1, g))
  (h1 : Rv c (.ptr i 0) (a.eval x)) (hl : L i = some (.box cs)) (hlen : cs.length = len) (h0 : 0 < len) : OpGo P ro n0 w0 c ρ L (.row i) L nenv o a w := by
 obtain ⟨vs, T', hb, hvs, hh⟩ := hm.ok i _ hl
 have hlv := hvs.length; rw [zab] at hlv
 have hx : a.eval x = .pointer (some ⟨c.β i, 0, none⟩) := by
  generalize a.eval x = v at h1
  cases h1; rfl
 refine OpGo.runs hm (by rw [ho]; intro c h; cases h) ⟨.slice (some ⟨c.β i, 0, none⟩) len len, ?_, ?_⟩
 ·have hz : ¬ len = 0 := by omega
  simp only [execOp, ho, Option.map_none, hx]
  simp [Instr.sliceAt, Instr.sureAddr, run_underlying hT, Instr.sliceBounds, (zar hs w).1, hz, Addr.add_eq]
 ·have e1 : vs.length = len := by omega
  rw [e1] at hh
  exact .row i _ _ _ hh
theorem zmJ (hm : Mem n0 w0 c ρ L nenv w) (hn0 : n0 ≤ w.heap.size) (hG : zbD G c) (hGw : ∀ (g : Nat) es, G[g]? = some es → SE.wfs 0 (fun _ => false) es = true)
  {xv : Ev} (hxv : ∀ x e, xv x = some e → Rv c (den ρ e) (a.eval x) ∧ e.wf nenv L.dom = true) {nid : Nat} (hid : L nid = none) (hid1 : L (nid + 1) = none) {s : Step} (h : sOp P L xv nenv nid o.op = some s)
  {pcs : List (SE × Bool)} (hp : Holds ρ pcs) {K : (Nat → AV) → Prop} (hs : zaZ P G ρ (s.nodes nenv pcs) K) :
  ∃ ρ', zam nenv ρ ρ' ∧ (∀ i, (ρ' i).pure = true) ∧ K ρ' ∧ OpGo P ro n0 w0 c ρ' L s.val (upds L s.dl) (s.nenv nenv) o a w := by
 have hev : ∀ x e, wk xv x = some e → Rv c (den ρ e) (a.eval x) ∧ e.wf nenv L.dom = true := by
  intro x e he
  obtain ⟨e', h1, rfl⟩ := Option.map_eq_some_iff.1 he
  exact ⟨zbJ e' (hxv x e' h1).1, zlR e' (hxv x e' h1).2⟩
 have zcp : ∀ (e : SE) (dl : List (Nat × OS)) (ck : List Chk), s = ⟨e, dl, ck, none, none⟩ → (Chks ρ ck → OpGo P ro n0 w0 c ρ L e (upds L dl) nenv o a w) →
   ∃ ρ', zam nenv ρ ρ' ∧ (∀ i, (ρ' i).pure = true) ∧ K ρ' ∧ OpGo P ro n0 w0 c ρ' L s.val (upds L s.dl) (s.nenv nenv) o a w := by
  rintro e dl ck rfl hgo
  obtain ⟨h1, h2⟩ := hs.chks
  exact ⟨ρ, zam.refl _ _, hm.pure, h2, hgo (h1 hp)⟩
 unfold sOp at h
 split at h
 ·rename_i e ck h1
  simp only [Option.some.injEq] at h
  refine zcp e [] ck h.symm (fun hck => ?_)
  obtain ⟨h2, h3⟩ := zjk hm (fun x e hx => (hxv x e hx).1) h1 hck
  exact OpGo.runs hm h3 h2
 ·split at h
  case h_1 x ho =>
   split at h
   ·rename_i i k h1
    simp only [Option.some.injEq] at h
    exact zcp _ _ _ h.symm (fun _ => OpGo.nilCheck hm ho (hxv _ _ h1).1 (.inl ⟨_, _, rfl⟩))
   ·rename_i cs k h1
    simp only [Option.some.injEq] at h
    exact zcp _ _ _ h.symm (fun _ => OpGo.nilCheck hm ho (hxv _ _ h1).1 (.inr (.inl ⟨_, _, rfl⟩)))
   ·rename_i f u v h1
    simp only [Option.some.injEq] at h
    exact zcp _ _ _ h.symm (fun _ => OpGo.nilCheck hm ho (hxv _ _ h1).1 (.inr (.inr ⟨_, _, _, rfl⟩)))
   ·cases h
  case h_2 T x ho =>
   split at h
   ·rename_i e k g h1 h2
    split at h
    ·rename_i hc
     simp only [Option.some.injEq] at h
     exact zcp _ _ _ h.symm (fun hck => zou hm hid hn0 ho (hxv _ _ h1).1 hc.1 hck hc.2)
    ·cases h
   ·cases h
  case h_3 T ho =>
   split at h
   ·rename_i cs h1
    simp only [Option.some.injEq] at h
    refine zcp _ _ _ h.symm (fun _ => zmD hm hid hn0 ho h1 ?_)
    exact zl0 h1
   ·cases h
  case h_4 T x y ho =>
   split at h
   ·rename_i ax e h1 h2
    obtain ⟨r, h3, h4⟩ := Option.map_eq_some_iff.1 h
    exact zcp _ _ _ h4.symm (fun hck => ziz hm ho (hxv _ _ h1).1 (hxv _ _ h2).1 h3 hck)
   ·cases h
  case h_5 t len parts ho =>
   split at h
   ·rename_i es h1
    split at h
    ·rename_i sz e ck h2
     split at h
     ·rename_i hwf
      simp only [Option.some.injEq] at h
      obtain ⟨r1, r2⟩ := zax (fun x e hx => (hev x e hx).1) _ _ h1
      simp only [List.length_map] at r2
      refine zcp _ _ _ h.symm (fun hck => zhq hm hn0 (parts := parts.toList) ho h2 (by simp [r2]) (fun j i e i' x hp hv => ?_) hck hwf hid)
      rw [List.getElem?_zip_eq_some] at hp
      simp only [List.getElem?_map, hv, Option.map_some, Option.some.injEq] at hp
      refine ⟨hp.1, ?_⟩
      obtain ⟨u, hu, hr⟩ := r1.get (i := j) (a := den ρ e) (by rw [zaq?, hp.2]; rfl)
      simp only [List.map_map, List.getElem?_map, hv, Option.map_some, Option.some.injEq, Function.comp_apply] at hu
      rw [hu]; exact hr
     ·cases h
    ·cases h
   ·cases h
  case h_6 t l m ho =>
   split at h
   ·rename_i n n' h1 h2
    split at h
    ·rename_i hbe
     split at h
     ·rename_i sz e ck h3
      split at h
      ·rename_i hwf
       simp only [Option.some.injEq] at h
       have hnn := SE.beq_eq _ _ hbe
       subst hnn
       exact zcp _ _ _ h.symm (fun hck => ziq hm hn0 ho h3 (hev _ _ h1).1 (hev _ _ h2).1 hck hwf hid)
      ·cases h
     ·cases h
    ·cases h
   ·cases h
  case h_7 t ho =>
   split at h
   ·split at h
    ·rename_i k hk
     simp only [Option.some.injEq] at h
     exact zcp _ _ _ h.symm (fun _ => zkn hm hn0 k ho hid)
    ·cases h
   ·cases h
  case h_8 t x k v ho =>
   split at h
   ·rename_i i kk n e kt vt h1 h3 h4
    split at h
    ·rename_i kk' ks us kk'' hl hkt
     split at h
     ·rename_i hc
      obtain ⟨rfl, rfl, hwf⟩ := hc
      simp only [Option.some.injEq] at h
      refine zcp _ _ _ h.symm (fun _ => zlt hm ho h4 hkt (by simpa using (hxv _ _ h1).1) rfl (hev _ _ h3).1 hl hwf)
     ·cases h
    ·cases h
   ·cases h
  case h_9 t x k ho =>
   split at h
   ·rename_i i key kt vt h1 h2 h3
    split at h
    ·rename_i kk ks us kk' z hl hkt hz
     split at h
     ·rename_i hc
      subst hc
      simp only [Option.some.injEq] at h
      refine zcp _ _ _ h.symm (fun hck => ?_)
      have hk := hck.one
      simp only [dens, den] at hk
      have hkey : ∃ n, den ρ key = .int kk' n := by
       cases hd : den ρ key <;> rw [hd] at hk <;> simp only [pok] at hk
       exact ⟨_, by simp only [zf3] at hk; rw [hk]⟩
      exact OpGo.runs hm (by rw [ho]; intro c h; cases h) (zaJ (run_lookup hm h3 hkt (by simpa using (hxv _ _ h1).1) (hev _ _ h2).1 hl hz hkey) (by simp only [execOp, ho]))
     ·cases h
    ·cases h
   ·rename_i kk ks us key kt vt h1 h2 h3
    split at h
    ·rename_i kk' z hkt hz
     split at h
     ·rename_i hc
      subst hc
      simp only [Option.some.injEq] at h
      refine zcp _ _ _ h.symm (fun hck => ?_)
      have hk := hck.one
      simp only [dens, den] at hk
      have hkey : ∃ n, den ρ key = .int kk' n := by
       cases hd : den ρ key <;> rw [hd] at hk <;> simp only [pok] at hk
       exact ⟨_, by simp only [zf3] at hk; rw [hk]⟩
      exact OpGo.runs hm (by rw [ho]; intro c h; cases h) (zaJ (run_lookup_mp hm h3 hkt (by simpa using (hxv _ _ h1).1) (hev _ _ h2).1 hz hkey) (by simp only [execOp, ho]))
     ·cases h
    ·cases h
   ·cases h
  case h_10 x1 x2 sT xT ho =>
   split at h
   ·rename_i e1 e2 h1 h2
    split at h
    ·rename_i r h3
     simp only [Option.some.injEq] at h
     exact zcp _ _ _ h.symm (fun hck => zeF hm hn0 hid ho (hxv _ _ h1).1 (hev _ _ h2).1 h3 hck)
    obtain ⟨r, h3, h4⟩ := Option.map_eq_some_iff.1 h
    exact zcp _ _ _ h4.symm (fun hck => zhx hm hn0 hid hid1 ho (hxv _ _ h1).1 (hev _ _ h2).1 h3 hck)
   ·cases h
  case h_11 f xs tt _ ho =>
   split at h
   ·rename_i fid fs cs es h1 h2
    split at h
    ·rename_i hok
     split at h
     ·rename_i vs h3
      split at h
      ·rename_i hwv
       simp only [Option.some.injEq] at h
       subst h
       obtain ⟨r, hr1, hr2, hr3⟩ := hs
       have ha := zaP ρ nenv r
       have hpr := zbr hm.pure nenv hr1
       refine ⟨zaC ρ nenv r, ha, hpr, hr3, ?_⟩
       have hm' := hm.env hn0 ha hpr
       obtain ⟨hf1, hf2⟩ := hev _ _ h1
       obtain ⟨r1, _⟩ := zax (fun x e hx => (hev x e hx).1) _ _ h2
       have hes : SE.wfs nenv L.dom es = true := by
        have key : ∀ (l : List Operand) (es : List SE), zby (wk xv) l = some es → SE.wfs nenv L.dom es = true := by
         intro l
         induction l with
         | nil => intro es h; simp only [zby, Option.some.injEq] at h; subst h; rfl
         | cons x l ih =>
          intro es h
          simp only [zby] at h
          split at h
          ·rename_i e es' q1 q2
           simp only [Option.some.injEq] at h; subst h
           simp only [SE.wfs, (hev x e q1).2, ih es' q2, Bool.and_self]
          ·cases h
        exact key _ _ h2
       obtain ⟨hc1, hc2⟩ := hr2 hp
       refine zns hm' hn0 hG hGw ho hok (by rw [zat ha _ hf2]; exact hf1) (by rw [zau ha _ hes]; exact r1) h3 (!SE.noOwns (fs ++ es ++ cs)) (fun hb => by simpa using hb)
        ⟨by rw [zau ha _ hwv, zbH]; exact hc1, fun hb => by rw [zbH]; exact hc2 hb⟩
      ·cases h
     ·cases h
    ·cases h
   ·cases h
  case h_12 op t x y _ ho =>
   split at h
   ·rename_i e el h1 hu
    split at h
    ·have hrun : ∀ b n m, a.eval x = .slice b n m → (execOp a.eval o).run P w = .ok (.value (.bool b.isNone)) w := by
      intro b n m hb
      have := run_eqs (P := P) (w := w) (x := x) (y := .const (.slice none 0 0)) false hu hb (vb := .slice none 0 0) rfl
      simp only [Bool.false_eq_true, if_false, Bool.bne_false] at this
      simp only [execOp, ho, Sem.run_bind]
      simp only [Sem.run_bind] at this
      rw [show a.eval (.const (.slice none 0 0)) = .slice none 0 0 from rfl, this]; rfl
     have hd : ∀ cc, o.op ≠ .defer cc := by rw [ho]; intro c h; cases h
     have key : ∀ (ec : SE) (ck : List Chk), s = ⟨.inp nenv, [], ck, none, some ec⟩ → (Chks ρ ck → ∃ b n m, a.eval x = .slice b n m ∧ (b.isNone = true → den ρ ec = .sl [])) →
       ∃ ρ', zam nenv ρ ρ' ∧ (∀ i, (ρ' i).pure = true) ∧ K ρ' ∧ OpGo P ro n0 w0 c ρ' L s.val (upds L s.dl) (s.nenv nenv) o a w := by
      rintro ec ck rfl hex
      obtain ⟨hck, hs2⟩ := hs.chks
      obtain ⟨b, n, m, hb, hnil⟩ := hex (hck hp)
      have ha := zaP ρ nenv (.bool b.isNone)
      have hpr := zbr hm.pure nenv (v := .bool b.isNone) rfl
      refine ⟨zaC ρ nenv (.bool b.isNone), ha, hpr, hs2 _ (fun _ h => hnil h), ?_⟩
      refine OpGo.mono_nenv (n := nenv) (OpGo.runs (hm.env hn0 ha hpr) hd ⟨_, hrun b n m hb, ?_⟩) (by simp [Step.nenv])
      simp only [den, zbH]; exact .bool _
     split at h
     ·simp only [Option.some.injEq] at h
      refine zcp _ _ _ h.symm (fun _ => OpGo.runs hm hd ⟨.bool true, ?_, by simp only [den]; exact .bool _⟩)
      have hx := (hxv _ _ h1).1
      simp only [den] at hx
      have hv : a.eval x = .slice none 0 0 := by generalize a.eval x = v at hx; cases hx; rfl
      exact hrun none 0 0 hv
     ·rename_i i
      split at h
      ·rename_i sz ec hl
       simp only [Option.some.injEq] at h
       refine key ec [] h.symm (fun _ => ?_)
       obtain ⟨b, n, m, hb, hnil⟩ := zjW hm (hxv _ _ h1).1 (.inl ⟨i, rfl, sz, ec, hl⟩)
       refine ⟨b, n, m, hb, fun hbb => ?_⟩
       rcases hnil hbb with ⟨j, hj, sz', ec', hl', hd'⟩ | hd'
       ·cases hj; rw [hl] at hl'; cases hl'; exact hd'
       ·simp [den] at hd'
      ·cases h
     ·rename_i hnr
      simp only [Option.some.injEq] at h
      refine key _ _ h.symm (fun hck => ?_)
      have hk := hck.one
      simp only [dens] at hk
      obtain ⟨xs, hxs⟩ : ∃ xs, den ρ e = .sl xs := by
       cases hd : den ρ e <;> rw [hd] at hk <;> simp [pok] at hk
       exact ⟨_, rfl⟩
      obtain ⟨b, n, m, hb, hnil⟩ := zjW hm (hxv _ _ h1).1 (.inr ⟨xs, hxs⟩)
      refine ⟨b, n, m, hb, fun hbb => ?_⟩
      rcases hnil hbb with ⟨j, hj, _⟩ | hd'
      ·exact absurd hj (hnr j)
      ·exact hd'
    ·cases h
   ·cases h
  case h_13 T x hi ho =>
   split at h
   ·rename_i i eh el h1 h2 h3
    split at h
    ·rename_i sz ec sz' g hl h5
     split at h
     ·rename_i hc
      obtain ⟨rfl, hwf⟩ := hc
      simp only [Option.some.injEq] at h
      refine zcp _ _ _ h.symm (fun hck => zko hm hn0 ho h3 h5 hl (by simpa using (hxv _ _ h1).1) (hev _ _ h2).1 ?_ hwf hid)
      have := hck (.slice false true, [ec, eh]) (by simp)
      simpa only [dens] using this
     ·cases h
    ·cases h
   ·cases h
  case h_14 T x hh mm ho =>
   split at h
   ·rename_i e k k' el h1 h2 h3 h4
    split at h
    ·rename_i sz g h5
     simp only [Option.some.injEq] at h
     refine zcp _ _ _ h.symm (fun hck => ?_)
     have hk := hck.one
     simp only [dens] at hk
     obtain ⟨es, hes⟩ : ∃ es, den ρ e = .sl es := by
      cases hd : den ρ e <;> rw [hd] at hk <;> simp [pok] at hk
      exact ⟨_, rfl⟩
     have r1 := (hev _ _ h1).1
     rw [hes] at r1
     have z : ∀ (q : Operand) (k : IntKind), Rv c (den ρ (.int k 0)) (a.eval q) → a.eval q = .int k 0 := by
      intro q k hq
      simp only [den] at hq
      generalize a.eval q = v at hq
      cases hq; rfl
     exact znu hm ho h4 h5 r1 (z _ _ (hev _ _ h2).1) (z _ _ (hev _ _ h3).1) hid
    ·cases h
   ·cases h
  case h_15 T x ho =>
   split at h
   ·rename_i i len el h1 h2
    split at h
    ·rename_i cs g hl hs1
     split at h
     ·rename_i hc
      simp only [Option.some.injEq] at h
      exact zcp _ _ _ h.symm (fun _ => zjg hm ho h2 hs1 (by simpa using (hxv _ _ h1).1) hl hc.1 hc.2.1)
     ·cases h
    ·cases h
   ·cases h
  case h_16 x1 x2 sT xT ho =>
   split at h
   ·rename_i i e el h1 h2 h3
    split at h
    ·rename_i cs g hl hs1
     split at h
     ·rename_i hc
      simp only [Option.some.injEq] at h
      refine zcp _ _ _ h.symm (fun hck => znt hm ho h3 hs1 (by simpa using (hxv _ _ h1).1) (hev _ _ h2).1 hl hc ?_)
      have := hck.one
      simpa only [dens] using this
     ·cases h
    ·cases h
   ·cases h
  case h_17 => cases h
end Go.Lb
