/- The walk, symbolically: states, trees, the executor. -/
import Derived.Test.YtkcpgfjlmicnnaaGreatDoorFw5
import Derived.Sort.OwnSortedInts
set_option linter.unusedSimpArgs false
set_option linter.unusedVariables false
namespace Go.Lb
open Go.RowKit
structure St where
 sz : Nat
 slots : List (Nat × Ent)
 own : Own
 nenv : Nat
 nid : Nat
 marks : List Nat := []
 deriving Inhabited, Repr
structure Rnd where
 fn : Nat
 sz : Nat
 slots : List (Nat × Ent)
 ps : List Nat
 assign : Code
 body : Code
inductive RT where
 | ret (e : SE)
 | cond (c : SE) (t f : RT)
 | seg (ns : List Nd) (k : RT)
 | loop (id n : Nat) (init : List SE) (body : RT)
 | again (id : Nat) (vals : List SE)
 | dead (why : Nat) (info : List SE)
 deriving Inhabited, Repr
def zbk (ρ : Nat → AV) (n : Nat) (vs : List AV) : Nat → AV := fun i => if n ≤ i ∧ i < n + vs.length then vs.getD (i - n) .undef else ρ i
def RTwp (P : Program) (G : Glob) (R : AV → Prop) : RT → (Nat → List AV → Prop) → (Nat → AV) → Prop
 | .ret e, _, ρ => R (den ρ e)
 | .cond c t f, L, ρ => ∃ b, den ρ c = .bool b ∧ (b = true → RTwp P G R t L ρ) ∧ (b = false → RTwp P G R f L ρ)
 | .seg ns k, L, ρ => zaZ P G ρ ns (RTwp P G R k L)
 | .loop id n init body, L, ρ => ∃ (I : List AV → Prop) (μ : List AV → Nat), I (dens ρ init) ∧
   ∀ vs, vs.length = init.length → AV.pureAll vs = true → I vs → RTwp P G R body (fun j us => if j = id then I us ∧ μ us < μ vs else L j us) (zbk ρ n vs)
 | .again id vals, L, ρ => L id (dens ρ vals)
 | .dead _ _, _, _ => False
inductive KE where
 | normal
 | exit (id : Nat)
 | goto (l : Nat)
 | ret
 deriving DecidableEq, Repr
abbrev Kont := KE → St → RT
structure Hint where
 fn : Nat
 key : Nat
 hdr : St
 len : Nat
 deriving Inhabited, Repr
structure Env where
 P : Program
 G : Glob
 inl : Nat → Bool
 scal : Nat → Bool
 shape : Nat → List SE → Option SE
 hints : List Hint
 srt : Nat → Bool := fun _ => false
 cpt : Nat → Bool := fun _ => false
 del : Nat → Nat := fun _ => 0
 kn : List (SE × Bool) := []
 big : Nat := 0
 frzAt : Nat → Nat → Bool := fun _ _ => false
 unr : Nat → Nat → Nat := fun _ _ => 0
def zc7 : List (Nat × Ent) → Nat → Ent → List (Nat × Ent)
 | [], d, e => [(d, e)]
 | (j, x) :: r, d, e => if Nat.blt d j = true then (d, e) :: (j, x) :: r else if Nat.beq d j = true then (d, e) :: r else (j, x) :: zc7 r d e
def zah : Own → Nat → OS → Own
 | [], i, o => [(i, o)]
 | (j, x) :: r, i, o => if Nat.blt i j = true then (i, o) :: (j, x) :: r else if Nat.beq i j = true then (i, o) :: r else (j, x) :: zah r i o
def zhu (own : Own) (dl : List (Nat × OS)) : Own := dl.foldl (fun O x => zah O x.1 x.2) own
def St.put (st : St) (dst : Option Nat) (e : Ent) : Option St :=
 match dst with
 | none => some st
 | some d => if d < st.sz then some { st with slots := zc7 st.slots d e } else none
def zfM : List (SE × Bool) → List (SE × Bool) → Bool
 | [], [] => true
 | a :: as, b :: bs => SE.beq a.1 b.1 && (a.2 == b.2) && zfM as bs
 | _, _ => false
inductive Gd where
 | never
 | when (pcs : List (SE × Bool))
 deriving Repr
def zhi (ops : Array Oper) (slots : List (Nat × Ent)) (o : Oper) : Option Gd :=
 match o.guard with
 | none => some (.when [])
 | some (j, b) => match (ops[j]?).bind (·.dst) with
  | none => none
  | some d => match zaM slots d with
   | none => none
   | some en => match en.se, en.pcs with
    | .bool x, pcs => if x = b then some (.when pcs) else some .never
    | se, pcs => some (.when ((se, b) :: pcs))
def zlE (E : Env) (slots : List (Nat × Ent)) (pcs : List (SE × Bool)) (c a b : Operand) : Option (SE × List Nd) :=
 match evS E.G slots pcs c with
 | some (.bool true) => (evS E.G slots pcs a).map fun e => (e, [])
 | some (.bool false) => (evS E.G slots pcs b).map fun e => (e, [])
 | some ec => match evS E.G slots ((ec, true) :: pcs) a, evS E.G slots ((ec, false) :: pcs) b with
  | some ea, some eb => some (.app .pick [ec, ea.weak, eb.weak], [.chk pcs .pick [ec, ea.weak, eb.weak]])
  | _, _ => none
 | none => none
def zhz (E : Env) (s : Step) (nenv : Nat) : Option SE :=
 match s.call with
 | some (f, args, _) => match E.shape f args with
  | some e => if (e.noOwn && SE.beq s.val (.inp nenv)) = true then some e else none
  | none => none
 | none => none
def SE.fold : SE → SE
 | .app (.bin op) [.int k a, .int k' b] => match binI op k a b with
  | .int q n => .int q n
  | .bool v => .bool v
  | _ => .app (.bin op) [.int k a, .int k' b]
 | .app (.un .not) [.bool b] => .bool (!b)
 | .app (.eqb neg) [.bool a, .bool b] => .bool ((a == b) != neg)
 | .app (.conv k) [.int _ n] => .int k (k.wrap n)
 | .app .len [.nils] => .int .i64 0
 | .app .len [.app .lst es] => .int .i64 es.length
 | .app (.eoff k) [.ref cs off] => .ref cs (off + k)
 | .app (.eload n false) [.ref cs off] => match cs[off]? with
  | some (.clo f a b) => .clo f a b
  | _ => .app (.eload n false) [.ref cs off]
 | .app (.rowget z 0 1 false) [.app .lst es, .int k i] => match es[i.toNat]? with
  | some (.clo f a b) => .clo f a b
  | _ => .app (.rowget z 0 1 false) [.app .lst es, .int k i]
 | e => e
def val2 (E : Env) (s : Step) (nenv : Nat) : SE := (zhz E s nenv).getD s.val.fold
def zgG (E : Env) (s : Step) (nenv : Nat) (pcs : List (SE × Bool)) : List Nd :=
 s.nodes nenv pcs ++ match zhz E s nenv with
  | some e => [.same nenv pcs e]
  | none => []
def zfX (E : Env) (pcs : List (SE × Bool)) (o : Oper) (st : St) : Option (Step × St) :=
 match sOp E.P (look st.own) (evS E.G st.slots pcs) st.nenv st.nid o.op with
 | some s =>
  let st' := { st with own := zhu st.own s.dl, nenv := s.nenv st.nenv, nid := st.nid + 2 }
  if (val2 E s st.nenv).wf st'.nenv (look st'.own).dom = true ∧ zco st.nenv (look st.own).dom pcs = true ∧ (look st.own st.nid).isNone = true ∧ (look st.own (st.nid + 1)).isNone = true then some (s, st') else none
 | none => none
def SE.assume (c : SE) (b : Bool) : Nat → SE → SE
 | 0, e => e
 | n + 1, e => if SE.beq e c = true then .bool b else match e with
  | .app .pick [x, y, z] => match SE.assume c b n x with
   | .bool true => SE.assume c b n y
   | .bool false => SE.assume c b n z
   | x' => .app .pick [x', SE.assume c b n y, SE.assume c b n z]
  | .app (.un .not) [x] => match SE.assume c b n x with
   | .bool v => .bool (!v)
   | x' => .app (.un .not) [x']
  | e => e
def zcP (c : SE) (b : Bool) : List (SE × Bool) → Option (List (SE × Bool))
 | [] => some []
 | (p, v) :: r => match zcP c b r with
  | none => none
  | some r' => match SE.assume c b 20 p with
   | .bool x => if x = v then some r' else none
   | p' => some ((p', v) :: r')
def Ent.assume (c : SE) (b : Bool) (e : Ent) : Ent :=
 match zcP c b e.pcs with
 | none => ⟨[], .undef⟩
 | some pcs => ⟨pcs, SE.assume c b 20 e.se⟩
def St.assume (c : SE) (b : Bool) (st : St) : St := { st with slots := st.slots.map fun x => (x.1, x.2.assume c b) }
def zdh : SE → SE × Bool
 | .app (.un .not) [x] => let r := zdh x; (r.1, !r.2)
 | e => (e, false)
def zeK (c : SE) (st : St) (yes no : St → RT) : RT :=
 match zdh c with
 | (.bool x, y) => if (x != y) = true then yes st else no st
 | (e, y) => .cond e (if y then no (st.assume e true) else yes (st.assume e true)) (if y then yes (st.assume e false) else no (st.assume e false))
def zhC : List (SE × Bool) → St → (St → RT) → (St → RT) → RT
 | [], st, yes, _ => yes st
 | (c, b) :: rest, st, yes, no => zhC rest st (fun st => if b then zeK c st yes no else zeK c st no yes) no
def seg (ns : List Nd) (k : RT) : RT := match ns with
 | [] => k
 | ns => .seg ns k
def zlz (E : Env) (st : St) : List ResultVar → Option (List SE × List Nd)
 | [] => some ([], [])
 | r :: rs => match (match r with
   | .tmp t => (evS E.G st.slots [] (.tmp t)).map fun e => (e, ([] : List Nd))
   | .cell a T => match evS E.G st.slots [] (.tmp a) with
    | some e => (zmI E.P (look st.own) T e).map fun x => (x.1, zkV [] x.2)
    | none => none), zlz E st rs with
  | some (e, ns), some (es, ms) => some (e :: es, ns ++ ms)
  | _, _ => none
def zgK (E : Env) (st : St) (rs : Array ResultVar) : Option (SE × List Nd) :=
 match zlz E st rs.toList with
 | some ([e], ns) => some (e, ns)
 | some (es, ns) => some (.tup es, ns)
 | none => none
def SE.isRef : SE → Bool
 | .ref _ _ => true
 | _ => false
mutual
def SE.fz (n j : Nat) (e : SE) : SE → Option SE
 | .row i => if i = j then (match e.isRef with
  | true => none
  | false => some e) else some (.row i)
 | .ptr i k => if i = j then (match e with
  | .ref cs 0 => some (.ref cs k)
  | _ => none) else some (.ptr i k)
 | .agg cs => (SE.fzs n j e cs).map .agg
 | .tup cs => (SE.fzs n j e cs).map .tup
 | .clo f a b => match SE.fzs n j e a, SE.fzs n j e b with
  | some a', some b' => some (.clo f a' b')
  | _, _ => none
 | x => if x.wf n (fun i => !Nat.beq i j) = true then some x else none
def SE.fzs (n j : Nat) (e : SE) : List SE → Option (List SE)
 | [] => some []
 | x :: xs => match SE.fz n j e x, SE.fzs n j e xs with
  | some y, some ys => some (y :: ys)
  | _, _ => none
end
def zdc (f : Ent → Option Ent) : List (Nat × Ent) → List (Nat × Ent)
 | [] => []
 | (d, e) :: r => match f e with
  | some e' => (d, e') :: zdc f r
  | none => (zdc f r).filter fun x => !Nat.beq x.1 d
def OS.fz (n j : Nat) (e : SE) : OS → Option OS
 | .box cs => (SE.fzs n j e cs).map .box
 | o => if o.wf n (fun i => !Nat.beq i j) = true then some o else none
def zla (n j : Nat) (e : SE) : Own → Option Own
 | [] => some []
 | (i, o) :: r => match zla n j e r with
  | none => none
  | some r' => if i = j then some ((i, .gone) :: r') else match OS.fz n j e o with
   | some o' => some ((i, o') :: r')
   | none => none
def Ent.fz (n j : Nat) (e : SE) (en : Ent) : Option Ent :=
 if zco n (fun i => !Nat.beq i j) en.pcs = true then match SE.fz n j e en.se with
  | some se => some ⟨en.pcs, se⟩
  | none => none
 else none
def zkd : Option OS → Option SE
 | some (.row _ e) => if (e.noOwn && !e.isRef) = true then some e else none
 | some (.box cs) => if SE.noOwns cs = true then some (.ref cs 0) else none
 | _ => none
def zk9 (st : St) (j : Nat) : Option St :=
 match zkd (look st.own j) with
 | some e => match zla st.nenv j e st.own with
   | some own' => some { st with own := own', slots := zdc (Ent.fz st.nenv j e) st.slots }
   | none => none
 | none => none
mutual
def SE.rows : SE → List Nat
 | .row i => [i]
 | .agg cs | .tup cs | .mp _ _ cs | .ref cs _ | .app _ cs => SE.rowss cs
 | .clo _ a b => SE.rowss a ++ SE.rowss b
 | _ => []
def SE.rowss : List SE → List Nat
 | [] => []
 | e :: es => SE.rows e ++ SE.rowss es
end
def zaN (E : Env) (st : St) (pcs : List (SE × Bool)) (o : Oper) : List Nat :=
 match o.op with
 | .call { callee := .value f, args := xs, argTypes := _ } => match evS E.G st.slots pcs f, zby (evS E.G st.slots pcs) xs.toList with
  | some (.clo fid fs cs), some es => if (E.scal fid || E.inl fid || E.srt fid || E.cpt fid || Nat.blt 0 (E.del fid)) = true then [] else SE.rowss (fs ++ es ++ cs)
  | _, _ => []
 | .buildSlice _ _ parts => match zby (evS E.G st.slots pcs) (parts.toList.map (·.2)) with
  | some es => SE.rowss es
  | _ => []
 | .slice t x lo hi _ => if (lo.isNone && hi.isNone) = true then [] else match E.P.underlying t, evS E.G st.slots pcs x with
  | some (.array _ _), some (.ptr i _) => [i]
  | _, _ => []
 | _ => []
def frz : List Nat → St → St
 | [], st => st
 | j :: js, st => frz js (match zk9 st j with
  | some st' => st'
  | none => st)
def zhk (E : Env) (st : St) (pcs : List (SE × Bool)) (o : Oper) : Option (Nat × Func × Code × List SE) :=
 match o.op with
 | .call { callee := .value f, args := xs, argTypes := _ } => match evS E.G st.slots pcs f, zby (evS E.G st.slots pcs) xs.toList with
  | some (.clo fid fs cs), some es =>
   if E.inl fid = true ∧ zbE E.P fid = true then match E.P.funcs[fid]? with
    | some fn => match fn.body with
     | some c => some (fid, fn, c, fs ++ es ++ cs)
     | none => none
    | none => none
   else none
  | _, _ => none
 | _ => none
def zjo (E : Env) (st : St) (o : Oper) : Option (Nat × Nat × SE) :=
 match o.op with
 | .call { callee := .value f, args := xs, argTypes := _ } => match evS E.G st.slots [] f, zby (evS E.G st.slots []) xs.toList with
  | some (.clo fid [] []), some [.row i] => if E.srt fid = true ∧ zbE E.P fid = true then match look st.own i with
    | some (.row 1 e) => some (fid, i, e)
    | _ => none
   else none
  | _, _ => none
 | _ => none
def zep (E : Env) (st : St) (o : Oper) : Option (Nat × Nat × SE) :=
 match o.op with
 | .call { callee := .value f, args := xs, argTypes := _ } => match evS E.G st.slots [] f, zby (evS E.G st.slots []) xs.toList with
  | some (.clo fid [] []), some [.row i] => if (E.cpt fid = true ∧ zbE E.P fid = true) ∧ (look st.own st.nid).isNone = true then match look st.own i with
    | some (.row 1 e) => some (fid, i, e)
    | _ => none
   else none
  | _, _ => none
 | _ => none
def ze6 (e lo hi : SE) : SE := .app .app [.app (.slice false true) [e, lo], .app (.slice true false) [e, hi]]
def zob (sz : Nat) (e lo hi : SE) : List Nd :=
 [.chk [] (.szs sz) [e], .chk [] .app [e, .nils], .chk [] (.bin .add) [lo, .int .i64 1], .chk [] (.bin .lss) [hi, .int .i64 0], .chk [] (.slice true true) [e, lo, hi], .chk [] (.slice true true) [e, .app (.bin .add) [lo, .int .i64 1], hi]]
def zi6 (E : Env) (st : St) (o : Oper) : Option (Nat × Nat × Nat × SE × SE × SE) :=
 match o.op with
 | .call { callee := .value f, args := xs, argTypes := _ } => match evS E.G st.slots [] f, zby (evS E.G st.slots []) xs.toList with
  | some (.clo fid [] []), some [.row i, lo, hi] => if (Nat.blt 0 (E.del fid) = true ∧ zbE E.P fid = true) ∧ (look st.own st.nid).isNone = true then match look st.own i with
    | some (.row sz e) => if Nat.beq sz (E.del fid) = true ∧ (ze6 e lo hi).wf st.nenv (look (zah st.own i .gone)).dom = true then some (fid, i, sz, e, lo, hi) else none
    | _ => none
   else none
  | _, _ => none
 | _ => none
def zci : Nat → List SE → List (Nat × Ent)
 | _, [] => []
 | i, e :: es => (i, ⟨[], e⟩) :: zci (i + 1) es
def zeo (E : Env) (st : St) (pcs : List (SE × Bool)) (o : Oper) : Option SE :=
 match o.op with
 | .call { callee := .value f, args := _, argTypes := _ } => match evS E.G st.slots pcs f with
  | some (.app .pick [c, _, _]) => some c
  | _ => none
 | _ => none
def OS.isReady : Option OS → Bool
 | some (.loop .ready) => true
 | _ => false
def OS.isBusy : Option OS → Bool
 | some (.loop .busy) => true
 | _ => false
def zal : Nat := 1000000007
def zaK : List Nat → Own → Option Own
 | [], own => some own
 | i :: r, own => if Nat.beq i zal = true then none else match look own i with
  | some .dfr => zaK r (zah own i .gone)
  | _ => none
def zi9 : List (Nat × Rnd) → Nat → Option Rnd
 | [], _ => none
 | (j, e) :: r, i => if Nat.beq i j then some e else zi9 r i
def zf2 (E : Env) (Y : List (Nat × Rnd)) (st : St) (o : Oper) : Option (Nat × Rnd × List SE) :=
 match o.op with
 | .call { callee := .value f, args := xs, argTypes := _ } => match evS E.G st.slots [] f, zby (evS E.G st.slots []) xs.toList with
  | some (.yield l), some es => match zi9 Y l with
   | some r => if (Nat.beq r.ps.length es.length && r.ps.all fun p => decide (p < r.sz)) = true then some (l, r, es) else none
   | none => none
  | _, _ => none
 | _ => none
def zdg (slots : List (Nat × Ent)) : List (Nat × SE) → List (Nat × Ent)
 | [] => slots
 | (p, e) :: r => zdg (zc7 slots p ⟨[], e⟩) r
def zhw : KE → LSt × Bool
 | .normal => (.ready, true)
 | .ret => (.doneRet, false)
 | .exit j => (.doneExit j, false)
 | .goto l => (.doneGoto l, false)
def zmT (E : Env) (st : St) (pcs : List (SE × Bool)) (o : Oper) : List SE :=
 let ev (x : Operand) : SE := (evS E.G st.slots pcs x).getD (.yield 99)
 match o.op with
 | .call { callee := .value f, args := xs, argTypes := _ } => .int .i64 1 :: ev f :: xs.toList.map ev
 | .call { callee := _, args := xs, argTypes := _ } => .int .i64 2 :: xs.toList.map ev
 | .binOp _ _ x y _ => [.int .i64 3, ev x, ev y]
 | .slice _ x _ _ _ => [.int .i64 4, ev x]
 | .load _ x => [.int .i64 5, ev x]
 | .store _ x y => [.int .i64 6, ev x, ev y]
 | .fieldAddr _ x _ => [.int .i64 7, ev x]
 | .indexAddr _ x y => [.int .i64 8, ev x, ev y]
 | _ => [.int .i64 9]
def sxDo (E : Env) (Y : List (Nat × Rnd)) (rec : Bool → Nat → Code → St → Kont → RT) (pcs : List (SE × Bool)) (o : Oper) (k : St → RT) : Nat → St → RT
 | 0, _ => .dead 1 []
 | m + 1, st0 =>
  let st := frz (zaN E st0 pcs o) st0
  match zeo E st pcs o with
  | some c => zeK c st (sxDo E Y rec pcs o k m) (sxDo E Y rec pcs o k m)
  | none => match zf2 E Y st o with
   | some (l, r, es) => if OS.isReady (look st.own l) = true then
     rec true r.fn r.assign ⟨r.sz, zdg r.slots (r.ps.zip es), st.own, st.nenv, st.nid, []⟩ fun ke st2 => match ke with
      | .normal => if OS.isReady (look st2.own l) = true then
        rec true r.fn r.body { st2 with own := zah st2.own l (.loop .busy) } fun ke st3 =>
         if OS.isBusy (look st3.own l) = true then match ({ st with own := zah st3.own l (.loop (zhw ke).1), nenv := st3.nenv, nid := st3.nid } : St).put o.dst ⟨[], .bool (zhw ke).2⟩ with
          | some st'' => k st''
          | none => .dead 30 []
         else .dead 31 []
       else .dead 32 []
      | _ => .dead 33 []
    else .dead 34 []
   | none => match zjo E st o with
    | some (_, i, e) => match ({ st with own := zah st.own i (.row 1 (.inp st.nenv)), nenv := st.nenv + 1 } : St).put o.dst ⟨[], .tup []⟩ with
     | some st'' => seg [.srt st.nenv e] (k st'')
     | none => .dead 40 []
    | none => match zep E st o with
    | some (_, i, e) => match ({ st with own := zah (zah st.own i .gone) st.nid (.row 1 (.inp st.nenv)), nenv := st.nenv + 1, nid := st.nid + 1 } : St).put o.dst ⟨[], .row st.nid⟩ with
     | some st'' => seg [.cmp st.nenv e] (k st'')
     | none => .dead 41 []
    | none => match zi6 E st o with
    | some (_, i, sz, e, lo, hi) => match ({ st with own := zah (zah st.own i .gone) st.nid (.row sz (ze6 e lo hi)), nid := st.nid + 1 } : St).put o.dst ⟨[], .row st.nid⟩ with
     | some st'' => seg (zob sz e lo hi) (k st'')
     | none => .dead 47 []
    | none => match zhk E st pcs o with
    | some (fid, fn, c, args) =>
     rec false fid c ⟨args.length + (fn.ntmps - args.length), zci 0 args, st.own, st.nenv, st.nid, []⟩ fun ke st1 =>
      match ke with
      | .normal | .ret => match zaK st1.marks st1.own with
       | some own1 => match zgK E { st1 with own := own1 } fn.results with
        | some (e, ns) => if e.wf st1.nenv (look own1).dom = true then match ({ st with own := own1, nenv := st1.nenv, nid := st1.nid } : St).put o.dst ⟨[], e⟩ with
         | some st'' => seg ns (k st'')
         | none => .dead 2 [] else .dead 3 []
        | none => .dead 4 []
       | none => .dead 35 []
      | _ => .dead 5 []
    | none => match zfX E pcs o st with
     | none => .dead 6 (zmT E st pcs o)
     | some (s, st') => match st'.put o.dst ⟨pcs, val2 E s st.nenv⟩ with
      | none => .dead 7 []
      | some st'' => seg (zgG E s st.nenv pcs) (k st'')
def mild (E : Env) (pcs : List (SE × Bool)) (o : Oper) (st : St) : Bool :=
 (zeo E st pcs o).isNone && (zhk E st pcs o).isNone && match sOp E.P (look st.own) (evS E.G st.slots pcs) st.nenv st.nid o.op with
  | some s => s.dl.isEmpty
  | none => false
def zlJ (E : Env) (Y : List (Nat × Rnd)) (rec : Bool → Nat → Code → St → Kont → RT) (ops : Array Oper) (o : Oper) (st : St) (k : St → RT) : RT :=
 match zhi ops st.slots o with
 | none => .dead 8 []
 | some .never => match st.put o.dst ⟨[], .undef⟩ with
  | some st' => k st'
  | none => .dead 9 []
 | some (.when pcs) =>
  match o.op with
  | .pick c a b => match zlE E st.slots pcs c a b with
   | some (e, ns) => if e.wf st.nenv (look st.own).dom = true ∧ zco st.nenv (look st.own).dom pcs = true then match st.put o.dst ⟨pcs, e⟩ with
    | some st' => seg ns (k st')
    | none => .dead 10 [] else .dead 11 []
   | none => .dead 12 []
  | _ =>
   if pcs.isEmpty = true then sxDo E Y rec [] o k 16 st
   else if mild E pcs o (frz (zaN E st pcs o) st) = true then match zfX E pcs o (frz (zaN E st pcs o) st) with
    | none => .dead 6 []
    | some (s, st') => match st'.put o.dst ⟨pcs, val2 E s st.nenv⟩ with
     | none => .dead 7 []
     | some st'' => seg (zgG E s st.nenv pcs) (k st'')
   else zhC pcs st (fun st => sxDo E Y rec [] o k 16 st) (fun st => match st.put o.dst ⟨[], .undef⟩ with
    | some st' => k st'
    | none => .dead 13 [])
def zlK (E : Env) (Y : List (Nat × Rnd)) (rec : Bool → Nat → Code → St → Kont → RT) (ops : Array Oper) : List Nat → St → (St → RT) → RT
 | [], st, k => k st
 | i :: is, st, k => match ops[i]? with
  | none => .dead 14 []
  | some o => zlJ E Y rec ops o st fun st' => zlK E Y rec ops is st' k
def Ent.beq (a b : Ent) : Bool := zfM a.pcs b.pcs && SE.beq a.se b.se
def zfi : List (Nat × Ent) → List (Nat × Ent) → Bool
 | [], [] => true
 | a :: as, b :: bs => Nat.beq a.1 b.1 && Ent.beq a.2 b.2 && zfi as bs
 | _, _ => false
def zjO : Own → Own → Bool
 | [], [] => true
 | a :: as, b :: bs => Nat.beq a.1 b.1 && OS.beq a.2 b.2 && zjO as bs
 | _, _ => false
def St.beq (a b : St) : Bool := Nat.beq a.sz b.sz && zfi a.slots b.slots && zjO a.own b.own && Nat.beq a.nenv b.nenv && Nat.beq a.nid b.nid && decide (a.marks = b.marks)
def Nd.beq : Nd → Nd → Bool
 | .chk p o a, .chk p' o' a' => zfM p p' && decide (o = o') && SE.beqs a a'
 | .call n p f a b, .call n' p' f' a' b' => Nat.beq n n' && zfM p p' && Nat.beq f f' && SE.beqs a a' && (b == b')
 | .same n p e, .same n' p' e' => Nat.beq n n' && zfM p p' && SE.beq e e'
 | .cmp n e, .cmp n' e' => Nat.beq n n' && SE.beq e e'
 | _, _ => false
def zgE : List Nd → List Nd → Bool
 | [], [] => true
 | a :: as, b :: bs => Nd.beq a b && zgE as bs
 | _, _ => false
def zec : Nat → List Nd → Bool
 | _, [] => true
 | n, .chk pcs _ args :: r => zco n (fun _ => true) pcs && SE.wfs n (fun _ => true) args && zec n r
 | n, .call m pcs _ args _ :: r => Nat.beq m n && zco n (fun _ => true) pcs && SE.wfs n (fun _ => true) args && zec (n + 1) r
 | n, .same m pcs e :: r => Nat.blt m n && zco n (fun _ => true) pcs && e.wf n (fun _ => true) && zec n r
 | _, .isNil _ _ _ :: _ => false
 | _, .srt _ _ :: _ => false
 | n, .cmp m e :: r => Nat.beq m n && e.wf n (fun _ => true) && zec (n + 1) r
 | _, .bind _ _ :: _ => false
def zlj (kn : List (SE × Bool)) (e : SE) : SE := kn.foldr (fun x e => SE.assume x.1 x.2 20 e) e
def zaU (E : Env) (B : Nat) (ops : Array Oper) (i : Nat) (st : St) : Option (St × List Nd) :=
 match ops[i]? with
 | none => none
 | some o => match zhi ops st.slots o with
  | none => none
  | some .never => match st.put o.dst ⟨[], .undef⟩ with
   | some st' => some (st', [])
   | none => none
  | some (.when pcs) => match o.op with
   | .pick c a b => match zlE E st.slots pcs c a b with
    | some (e, ns) => if e.wf st.nenv (look st.own).dom = true ∧ zco st.nenv (look st.own).dom pcs = true then match st.put o.dst ⟨pcs, e⟩ with
     | some st' => some (st', ns)
     | none => none else none
    | none => none
   | _ => match (match pcs with
     | [] => zep E { st with nid := B + 2 * i } o
     | _ => none) with
    | some (_, j, e) => match ({ st with own := zah (zah st.own j .gone) (B + 2 * i) (.row 1 (.inp st.nenv)), nenv := st.nenv + 1, nid := B } : St).put o.dst ⟨[], .row (B + 2 * i)⟩ with
     | some st'' => some (st'', [.cmp st.nenv e])
     | none => none
    | none => match zfX E pcs o { frz (zaN E st pcs o) st with nid := B + 2 * i } with
    | some (s, st') => if s.nil.isNone = true ∧ (pcs.isEmpty || s.dl.isEmpty) = true then match ({ st' with nid := B } : St).put o.dst ⟨pcs, zlj E.kn (val2 E s st.nenv)⟩ with
     | some st'' => some (st'', zgG E s st.nenv pcs)
     | none => none else none
    | none => none
def zjC (E : Env) (B : Nat) (ops : Array Oper) : List Nat → St → List SE
 | [], _ => []
 | i :: is, st => match zaU E B ops i st with
  | some (st', _) => zjC E B ops is st'
  | none => .int .i64 i :: match ops[i]? with
   | some o => zmT E st [] o
   | none => []
def zhc (E : Env) (B : Nat) (ops : Array Oper) : List Nat → St → Option (St × List (List Nd))
 | [], st => some (st, [])
 | i :: is, st => match zaU E B ops i st with
  | some (st', ns) => match zhc E B ops is st' with
   | some (st'', N) => some (st'', ns :: N)
   | none => none
  | none => none
def zff (o : Oper) : Nat := o.after.toList.foldr (fun e s => if Region.binds .any e then s ||| (1 <<< e.on) else s) 0
def zaz (ops : Array Oper) (i : Nat) : Nat := match ops[i]? with
 | some o => zff o
 | none => 0
def zba (ops : Array Oper) : List (Nat × Nat) := (List.range ops.size).map fun i => (i, zaz ops i)
def zcK (X i : Nat) : Bool := Nat.beq ((X >>> i) % 2) 1
def rdy (pm : List (Nat × Nat)) (X : Nat) : List Nat := (pm.filter fun p => !zcK X p.1 && Nat.beq (p.2 &&& X) p.2).map (·.1)
def insM (X : Nat) (st : St) : List (Nat × St) → Option (List (Nat × St))
 | [] => some [(X, st)]
 | (Y, s) :: r => if Nat.beq X Y = true then (if St.beq st s = true then some ((Y, s) :: r) else none) else match insM X st r with
  | some r' => some ((Y, s) :: r')
  | none => none
def zfW (E : Env) (B : Nat) (ops : Array Oper) (N : List (List Nd)) (X : Nat) (st : St) : List Nat → List (Nat × St) → Option (List (Nat × St))
 | [], acc => some acc
 | i :: is, acc => match zaU E B ops i st with
  | some (st', ns) => if zgE ns (N.getD i []) = true then match insM (X ||| (1 <<< i)) st' acc with
   | some acc' => zfW E B ops N X st is acc'
   | none => none else none
  | none => none
def zlm (E : Env) (B : Nat) (ops : Array Oper) (pm : List (Nat × Nat)) (N : List (List Nd)) : List (Nat × St) → List (Nat × St) → Option (List (Nat × St))
 | [], acc => some acc
 | (X, st) :: r, acc => match zfW E B ops N X st (rdy pm X) acc with
  | some acc' => zlm E B ops pm N r acc'
  | none => none
def zhd (E : Env) (B : Nat) (ops : Array Oper) (pm : List (Nat × Nat)) (N : List (List Nd)) (fin : St) : Nat → List (Nat × St) → Bool
 | 0, fr => fr.all fun x => (rdy pm x.1).isEmpty && St.beq x.2 fin
 | k + 1, fr => (fr.all fun x => !(rdy pm x.1).isEmpty || St.beq x.2 fin) && match zlm E B ops pm N fr [] with
  | some fr' => zhd E B ops pm N fin k fr'
  | none => false
def zc4 (o : Oper) : Bool := match o.op with
 | .move _ => true
 | .load _ _ => true
 | .binOp .. => true
 | .unOp .. => true
 | .pick .. => true
 | .extract .. => true
 | .build .. => true
 | .convert .. => true
 | .field .. => true
 | .index .. => true
 | .fieldAddr .. => true
 | .indexAddr .. => true
 | .nilCheck _ => true
 | .call { callee := .builtin .len, args := _, argTypes := _ } => true
 | _ => false
abbrev Flt := List (Nat × Nat × Ent)
def zhg (ops : Array Oper) (fin : St) : List Nat → Flt
 | [] => []
 | i :: is => match ops[i]? with
  | some o => if zc4 o = true then match o.dst with
    | some d => match zaM fin.slots d with
     | some e => (i, d, e) :: zhg ops fin is
     | none => zhg ops fin is
    | none => zhg ops fin is
   else zhg ops fin is
  | none => zhg ops fin is
def za0 (fs : Flt) : Nat := fs.foldr (fun x m => m ||| (1 <<< x.1)) 0
def addF (m : Nat) : Flt → List (Nat × Ent) → List (Nat × Ent)
 | [], s => s
 | x :: r, s => addF m r (if zcK m x.1 = true then zc7 s x.2.1 x.2.2 else s)
def withF (fs : Flt) (m : Nat) (st : St) : St := { st with slots := addF m fs st.slots }
def dropF (fs : Flt) (st : St) : St := { st with slots := st.slots.filter fun x => !(fs.any fun f => Nat.beq f.2.1 x.1) }
def zfK (ops : Array Oper) (i : Nat) : Option Nat := (ops[i]?).bind (·.dst)
def znn (d : Nat) : Option Nat → Bool
 | some j => Nat.beq j d
 | none => false
def zjE (ops : Array Oper) (fs : Flt) : Bool :=
 fs.all fun x => znn x.2.1 (zfK ops x.1) && (List.range ops.size).all fun j => Nat.beq j x.1 || !znn x.2.1 (zfK ops j)
def subs (p m : Nat) : Bool := Nat.beq (p &&& m) p
def zcT : List (Nat × Nat) → List (Nat × Nat) → List (Nat × Nat)
 | [], acc => acc
 | (i, p) :: r, acc => zcT r ((i, acc.foldl (fun m x => if zcK p x.1 = true then m ||| x.2 else m) p) :: acc)
def zmi : List (Nat × Nat) → Nat → Option Nat
 | [], _ => none
 | (j, t) :: r, i => if Nat.beq i j = true then some t else zmi r i
def rdyC (T : List (Nat × Nat)) (F X : Nat) : List Nat := (T.filter fun p => !zcK F p.1 && !zcK X p.1 && subs p.2 (X ||| F)).map (·.1)
def zjn (T : List (Nat × Nat)) (X i : Nat) : Bool := T.any fun q => zcK X q.1 && zcK q.2 i
def zji (ops : Array Oper) (i : Nat) : Bool := match ops[i]? with
 | some o => zc4 o
 | none => false
def zmh (E : Env) (B : Nat) (ops : Array Oper) (N : List (List Nd)) (fs : Flt) (st : St) (x : Nat × Nat × Ent) : Bool :=
 (zaM st.slots x.2.1).isNone && match zaU E B ops x.1 (withF fs (zaz ops x.1) st) with
 | some (st', ns) => zgE ns (N.getD x.1 []) && zji ops x.1 && Nat.beq st'.nenv st.nenv && match zaM st'.slots x.2.1 with
  | some e => Ent.beq e x.2.2
  | none => false
 | none => false
def zod (E : Env) (B : Nat) (ops : Array Oper) (N : List (List Nd)) (fs : Flt) (T : List (Nat × Nat)) (F X : Nat) (st : St) : Bool :=
 fs.all fun x => match zmi T x.1 with
  | some t => !subs t (X ||| F) || zjn T X x.1 || zmh E B ops N fs st x
  | none => false
def zei (E : Env) (B : Nat) (ops : Array Oper) (N : List (List Nd)) (fs : Flt) (X : Nat) (st : St) : List Nat → List (Nat × St) → Option (List (Nat × St))
 | [], acc => some acc
 | i :: is, acc => match zaU E B ops i (withF fs (zaz ops i) st) with
  | some (st', ns) => if zgE ns (N.getD i []) = true then match insM (X ||| (1 <<< i)) (dropF fs st') acc with
   | some acc' => zei E B ops N fs X st is acc'
   | none => none else none
  | none => none
def zii (E : Env) (B : Nat) (ops : Array Oper) (N : List (List Nd)) (fs : Flt) (T : List (Nat × Nat)) (F : Nat) : List (Nat × St) → List (Nat × St) → Option (List (Nat × St))
 | [], acc => some acc
 | (X, st) :: r, acc => match zei E B ops N fs X st (rdyC T F X) acc with
  | some acc' => zii E B ops N fs T F r acc'
  | none => none
def zlc (E : Env) (B : Nat) (ops : Array Oper) (N : List (List Nd)) (fin : St) (fs : Flt) (T : List (Nat × Nat)) (F : Nat) (x : Nat × St) : Bool :=
 zod E B ops N fs T F x.1 x.2 && (!(T.all fun p => zcK F p.1 || zcK x.1 p.1) || St.beq (withF fs F x.2) fin)
def ze3 (E : Env) (B : Nat) (ops : Array Oper) (N : List (List Nd)) (fin : St) (fs : Flt) (T : List (Nat × Nat)) (F : Nat) : Nat → List (Nat × St) → Bool
 | 0, fr => fr.all fun x => zlc E B ops N fin fs T F x && (rdyC T F x.1).isEmpty
 | k + 1, fr => (fr.all fun x => zlc E B ops N fin fs T F x) && match zii E B ops N fs T F fr [] with
  | some [] => true
  | some fr' => ze3 E B ops N fin fs T F k fr'
  | none => false
def zhJ (E : Env) (B : Nat) (ops : Array Oper) (N : List (List Nd)) (fin st : St) (fs : Flt) : Bool :=
 zjE ops fs && ((zba ops).all fun p => Nat.blt p.2 (1 <<< p.1)) && ze3 E B ops N fin fs (zcT (zba ops) []) (za0 fs) ops.size [(0, dropF fs st)]
def zk1 (ops : Array Oper) (st : St) : List Nat :=
 if (ops.toList.any fun o => match o.op with | .call { callee := .builtin .copy, args := _, argTypes := _ } => true | _ => false) = true then
  ops.toList.filterMap fun o => match o.op with
   | .fieldAddr _ (.tmp t) _ => match zaM st.slots t with
    | some ⟨[], .ptr i _⟩ => some i
    | _ => none
   | _ => none
 else if (ops.toList.any fun o => match o.op with | .call { callee := .builtin .append, args := _, argTypes := _ } => true | _ => false) = true ∧ (ops.toList.any fun o => match o.op with | .slice _ _ lo _ _ => lo.isSome | _ => false) = true then
  st.own.filterMap fun x => match x.2 with
   | .row _ _ => some x.1
   | _ => none
 else []
def znw (ops : Array Oper) (y : Nat) : Bool :=
 ((zba ops).all fun p => Nat.blt p.2 (1 <<< p.1)) &&
 ((List.range y).all fun i => match ops[i]? with
  | some o => (match o.guard with
   | some (j, _) => Nat.blt j y
   | none => true)
  | none => false) &&
 ((zcT (zba ops) []).all fun q => Nat.blt q.1 y || subs (2 ^ q.1 - 1) q.2) && Nat.ble y ops.size
def zmW (E : Env) (B : Nat) (ops : Array Oper) : List Nat → St → Nat
 | [], _ => 0
 | i :: is, st => match zaU E B ops i st with
  | some (st', _) => zmW E B ops is st'
  | none => i
def znG (E : Env) (Y : List (Nat × Rnd)) (rec : Bool → Nat → Code → St → Kont → RT) (ops : Array Oper) (st : St) (k : St → RT) (y : Nat) : RT :=
 match zhc E st.nid (ops.extract 0 y) (List.range y) st with
 | some (fin, N) => if (znw ops y && zhJ E st.nid (ops.extract 0 y) N fin st (zhg (ops.extract 0 y) fin (List.range (ops.extract 0 y).size))) = true then if zec st.nenv N.flatten = true then
   seg N.flatten (zlK E Y rec ops (List.range' y (ops.size - y)) { fin with nid := st.nid + 2 * ops.size } k) else .dead 15 [] else .dead 17 (.int .i64 y :: zjC E st.nid ops (List.range ops.size) st)
 | none => .dead 19 []
def zhF (E : Env) (Y : List (Nat × Rnd)) (rec : Bool → Nat → Code → St → Kont → RT) (ops : Array Oper) (st : St) (k : St → RT) : RT :=
 match zhc E st.nid ops (List.range ops.size) st with
 | some (fin, N) => if (zhJ E st.nid ops N fin st (zhg ops fin (List.range ops.size)) || zhd E st.nid ops (zba ops) N fin ops.size [(0, st)]) = true then if zec st.nenv N.flatten = true then
   seg N.flatten (k { fin with nid := st.nid + 2 * ops.size }) else .dead 15 [] else .dead 16 []
 | none => znG E Y rec ops st k (zmW E st.nid ops (List.range ops.size) st)
def zmU (E : Env) (B : Nat) (ops : Array Oper) : List Nat → St → Option SE
 | [], _ => none
 | i :: is, st => match zaU E B ops i st with
  | some (st', _) => zmU E B ops is st'
  | none => match ops[i]? with
   | some o => zeo E st [] o
   | none => none
def zfY (E : Env) (Y : List (Nat × Rnd)) (rec : Bool → Nat → Code → St → Kont → RT) (ops : Array Oper) (st : St) (k : St → RT) : Nat → List (SE × Bool) → RT
 | 0, kn => zhF { E with kn := kn } Y rec ops st k
 | m + 1, kn => match zmU { E with kn := kn } st.nid ops (List.range ops.size) st with
  | some c => if c.wf st.nenv (fun _ => true) = true then .cond c (zfY E Y rec ops st k m ((c, true) :: kn)) (zfY E Y rec ops st k m ((c, false) :: kn)) else .dead 18 []
  | none => zhF { E with kn := kn } Y rec ops st k
def zlI (E : Env) (Y : List (Nat × Rnd)) (rec : Bool → Nat → Code → St → Kont → RT) (ops : Array Oper) (st : St) (k : St → RT) : RT := zfY E Y rec ops (frz (zk1 ops st) st) k 8 []
mutual
def SE.sz : SE → Nat
 | .agg cs | .tup cs | .mp _ _ cs | .ref cs _ | .app _ cs => SE.szs cs + 1
 | .clo _ a b => SE.szs a + SE.szs b + 1
 | .ptrx _ _ e _ _ _ | .rptr _ e _ _ => SE.sz e + 1
 | _ => 1
def SE.szs : List SE → Nat
 | [] => 0
 | e :: es => SE.sz e + SE.szs es
end
def SE.greats (T : Nat) : Nat → SE → List SE
 | 0, _ => []
 | n + 1, e => match e with
  | .app o cs => if Nat.blt T (SE.szs cs) = true then [.app o cs] else []
  | .agg cs | .tup cs | .ref cs _ => cs.flatMap (SE.greats T n)
  | .clo _ a b => a.flatMap (SE.greats T n) ++ b.flatMap (SE.greats T n)
  | _ => []
def isIn (e : SE) : List SE → Bool
 | [] => false
 | x :: xs => SE.beq e x || isIn e xs
def znc : List SE → List SE → List SE
 | [], acc => acc
 | e :: es, acc => if isIn e acc = true then znc es acc else znc es (acc ++ [e])
def idxOf (e : SE) : List SE → Nat → Option Nat
 | [], _ => none
 | x :: xs, i => if SE.beq e x = true then some i else idxOf e xs (i + 1)
mutual
def SE.rp (C : List SE) (n : Nat) : SE → SE
 | .app o cs => match idxOf (.app o cs) C n with
  | some i => .inp i
  | none => .app o cs
 | .agg cs => .agg (SE.rps C n cs)
 | .tup cs => .tup (SE.rps C n cs)
 | .ref cs k => .ref (SE.rps C n cs) k
 | .clo f a b => .clo f (SE.rps C n a) (SE.rps C n b)
 | e => e
def SE.rps (C : List SE) (n : Nat) : List SE → List SE
 | [] => []
 | e :: es => SE.rp C n e :: SE.rps C n es
end
def OS.rp (C : List SE) (n : Nat) : OS → OS
 | .box cs => .box (SE.rps C n cs)
 | .row z e => .row z (SE.rp C n e)
 | o => o
def binds : Nat → List SE → List Nd
 | _, [] => []
 | n, e :: es => .bind n e :: binds (n + 1) es
def zfd (T : Nat) (st : St) : List SE :=
 (znc (st.slots.flatMap (fun x => SE.greats T 4 x.2.se) ++ st.own.flatMap fun x => match x.2 with
  | .box cs => cs.flatMap (SE.greats T 4)
  | .row _ e => SE.greats T 4 e
  | _ => []) []).filter fun e => e.noOwn && e.wf st.nenv (look st.own).dom
def zea (C : List SE) (st : St) : St :=
 { st with slots := st.slots.map (fun x => (x.1, ⟨x.2.pcs, SE.rp C st.nenv x.2.se⟩)), own := st.own.map (fun x => (x.1, OS.rp C st.nenv x.2)), nenv := st.nenv + C.length }
def named (E : Env) (k : St → RT) (st : St) : RT :=
 match E.big with
 | 0 => k st
 | T + 1 => match zfd T st with
  | [] => k st
  | C => seg (binds st.nenv C) (k (zea C st))
inductive VT where
 | nil
 | node (v : Option SE) (l r : VT)
 deriving Inhabited, Repr
def zh8 : VT → Nat → Option SE
 | .nil, _ => none
 | .node v l r, i => bif Nat.beq i 0 then v else bif Nat.beq (i % 2) 0 then zh8 l (i / 2) else zh8 r (i / 2)
def addV : Nat → VT → Nat → SE → VT
 | 0, t, _, _ => t
 | n + 1, .nil, i, e => bif Nat.beq i 0 then .node (some e) .nil .nil else bif Nat.beq (i % 2) 0 then .node none (addV n .nil (i / 2) e) .nil else .node none .nil (addV n .nil (i / 2) e)
 | n + 1, .node v l r, i, e => bif Nat.beq i 0 then .node (some e) l r else bif Nat.beq (i % 2) 0 then .node v (addV n l (i / 2) e) r else .node v l (addV n r (i / 2) e)
structure Bind where
 vals : VT
 rows : List (Nat × Option Nat)
 deriving Inhabited, Repr
def zct : List (Nat × Option Nat) → Nat → Option (Option Nat)
 | [], _ => none
 | (j, e) :: r, i => if Nat.beq i j then some e else zct r i
def zid (n0 id0 : Nat) (B : Bind) (eH e : SE) : Bind :=
 match eH with
 | .inp k => if n0 ≤ k then (match zh8 B.vals k with | none => { B with vals := addV 24 B.vals k e.weak } | some _ => B) else B
 | .row r => if id0 ≤ r then (match zct B.rows r with
   | none => match e with
    | .row r' => { B with rows := (r, some r') :: B.rows }
    | _ => { B with rows := (r, none) :: B.rows }
   | some _ => B) else B
 | _ => B
def zjb (n0 id0 : Nat) (B : Bind) : List SE → List SE → Bind
 | a :: as, b :: bs => zjb n0 id0 (zid n0 id0 B a b) as bs
 | _, _ => B
def zgx (n0 id0 : Nat) (st : St) (B : Bind) : List (Nat × Ent) → Bind
 | [] => B
 | (d, en) :: r => zgx n0 id0 st (match zaM st.slots d with
   | some e => zid n0 id0 B en.se e.se
   | none => B) r
def zjG (n0 id0 : Nat) (st : St) (B : Bind) : Own → Bind
 | [] => B
 | (i, o) :: r =>
  let B' := match o with
   | .box cs => match look st.own i with
    | some (.box cs') => zjb n0 id0 B cs cs'
    | _ => B
   | .mapo _ _ vs => match look st.own i with
    | some (.mapo _ _ vs') => zjb n0 id0 B vs vs'
    | _ => B
   | _ => B
  zjG n0 id0 st B' r
def zfA (n0 id0 : Nat) (st : St) (B : Bind) : Own → Bind
 | [] => B
 | (i, .row _ eH) :: r =>
  zfA n0 id0 st (match zct B.rows i with
   | some (some j) => match look st.own j with
    | some (.row _ e) => zid n0 id0 B eH e
    | _ => B
   | some none => zid n0 id0 B eH .nils
   | none => match look st.own i with
    | some (.row _ e) => zid n0 id0 B eH e
    | _ => B) r
 | _ :: r => zfA n0 id0 st B r
def zof (n0 id0 : Nat) (hdr st : St) : Bind := zfA n0 id0 st (zjG n0 id0 st (zgx n0 id0 st ⟨.nil, []⟩ hdr.slots) hdr.own) hdr.own
def agr (n0 id0 : Nat) (D0 : Nat → Bool) (B : Bind) (eH e : SE) : Bool :=
 match eH with
 | .inp k => if n0 ≤ k then (match zh8 B.vals k with
   | some v => SE.beq v e.weak
   | none => false) else SE.beq eH e
 | .row r => if id0 ≤ r then (match zct B.rows r with
   | some (some j) => SE.beq e (.row j)
   | some none => SE.beq e .enil
   | none => false) else SE.beq eH e && D0 r
 | eH => SE.beq eH e && eH.wf n0 D0
def agrs (n0 id0 : Nat) (D0 : Nat → Bool) (B : Bind) : List SE → List SE → Bool
 | [], [] => true
 | a :: as, b :: bs => agr n0 id0 D0 B a b && agrs n0 id0 D0 B as bs
 | _, _ => false
def zhO (n0 : Nat) (D0 : Nat → Bool) (B : Bind) (eH e : SE) : Bool :=
 match eH with
 | .inp k => if n0 ≤ k then (match zh8 B.vals k with
   | some v => SE.beq v e
   | none => false) else SE.beq eH e
 | eH => SE.beq eH e && eH.wf n0 D0
def zjy (n0 id0 : Nat) (D0 : Nat → Bool) (B : Bind) (st : St) (i : Nat) (o : OS) : Bool :=
 match o with
 | .gone => true
 | .row sz eH =>
  if id0 ≤ i then match zct B.rows i with
   | some (some j) => match look st.own j with
    | some (.row sz' e) => Nat.beq sz sz' && zhO n0 D0 B eH e
    | _ => false
   | some none => zhO n0 D0 B eH .nils
   | none => false
  else D0 i && match look st.own i with
   | some (.row sz' e) => Nat.beq sz sz' && zhO n0 D0 B eH e
   | _ => false
 | .box cs => decide (i < id0) && D0 i && match look st.own i with
  | some (.box cs') => agrs n0 id0 D0 B cs cs'
  | _ => false
 | o => decide (i < id0) && D0 i && o.wf n0 D0 && match look st.own i with
  | some o' => OS.beq o o'
  | none => false
def zbl (id0 : Nat) (hdr : St) : List (Nat × Option Nat) → Bool
 | [] => true
 | (_, some j) :: r => (decide (id0 ≤ j) || match look hdr.own j with
   | none | some .gone => true
   | some _ => false) && !(r.any fun x => match x.2 with | some k => Nat.beq k j | none => false) && zbl id0 hdr r
 | (_, none) :: r => zbl id0 hdr r
def zdH (B : Bind) : Nat → Nat → List SE
 | _, 0 => []
 | n0, k + 1 => (zh8 B.vals n0).getD .undef :: zdH B (n0 + 1) k
def zon : Option OS → Bool
 | some .dfr => true
 | _ => false
def isNo : Option OS → Bool
 | none => true
 | some .gone => true
 | _ => false
def zk7 (hd st : St) : Bool := decide (hd.marks = st.marks) || (decide (hd.marks = [zal]) && decide st.marks.Nodup && st.marks.all fun i => Nat.beq i zal || (zon (look st.own i) && isNo (look hd.own i)))
def fits (n0 id0 : Nat) (own0 : Own) (h : Hint) (st : St) : Option (List SE) :=
 let B := zof n0 id0 h.hdr st
 let vals := zdH B n0 h.len
 let D0 := (look own0).dom
 if (own0.all fun x => decide (x.1 < id0) && (look h.hdr.own x.1).isSome) = true ∧
   (h.hdr.slots.all fun x => x.2.pcs.isEmpty && match zaM st.slots x.1 with
    | some en => en.pcs.isEmpty && agr n0 id0 D0 B x.2.se en.se
    | none => false) = true ∧
   (h.hdr.own.all fun x => zjy n0 id0 D0 B st x.1 x.2) = true ∧ zbl id0 h.hdr B.rows = true ∧
   SE.wfs st.nenv (look st.own).dom vals = true ∧ SE.noOwns vals = true ∧ h.hdr.nenv = n0 + h.len ∧ h.hdr.sz = st.sz ∧ zk7 h.hdr st = true ∧ (h.hdr.marks.all fun i => Nat.beq i zal || (look h.hdr.own i).isSome) = true ∧
   (h.hdr.slots.all fun x => x.2.se.wf h.hdr.nenv (look h.hdr.own).dom) = true ∧ Own.wf h.hdr.nenv h.hdr.own = true
 then some vals else none
def zde (fn key n0 id0 : Nat) (own0 : Own) (st : St) : List Hint → Option (Hint × List SE)
 | [] => none
 | h :: hs => if (Nat.beq h.fn fn && Nat.beq h.key key) = true then match fits n0 id0 own0 h st with
   | some v => some (h, v)
   | none => zde fn key n0 id0 own0 st hs
  else zde fn key n0 id0 own0 st hs
def zbF : Code → Nat
 | .region id _ _ => id
 | .seq a _ => zbF a
 | .block _ c => zbF c
 | .scope c => zbF c
 | _ => 0
def zmf (fn key d : Nat) (st : St) : List SE :=
 let i (n : Nat) : SE := .int .i64 n
 [i fn, i key, i d, i st.sz, i st.nenv, i st.nid, .tup (st.slots.map fun x => .tup [i x.1, if x.2.pcs.isEmpty then x.2.se else .yield 0]),
  .tup (st.own.map fun x => .tup [i x.1, match x.2 with
   | .box cs => .tup [i 0, .tup cs]
   | .row sz e => .tup [i 1, i sz, e]
   | .mapo kk ks vs => .tup [i 2, .int kk 0, .tup (ks.map fun n => .int .i64 n), .tup vs]
   | .gone => .tup [i 3]
   | .dfr => .tup [i 4]
   | .loop .ready => .tup [i 5]
   | .loop .busy => .tup [i 6]
   | .loop .doneRet => .tup [i 7]
   | .loop (.doneExit j) => .tup [i 8, i j]
   | .loop (.doneGoto j) => .tup [i 9, i j]]), .tup (st.marks.map i)]
def zcY (l : Nat) : Code → Bool
 | .goto j => Nat.beq j l
 | .seq a b => zcY l a || zcY l b
 | .cond _ a b => zcY l a || zcY l b
 | .block _ c | .loop c | .scope c => zcY l c
 | .rangeFunc _ _ a b => zcY l a || zcY l b
 | _ => false
structure GLp where
 h : Hint
 n0 : Nat
 id0 : Nat
 own0 : Own
 d : Nat
def zh5 (l : Nat) : List (Nat × GLp) → Option GLp
 | [] => none
 | (j, g) :: r => if Nat.beq j l = true then some g else zh5 l r
def ziT (fn l d : Nat) (g : GLp) (st : St) : RT :=
 match fits g.n0 g.id0 g.own0 g.h st with
 | some vals => .again g.d vals
 | none => .dead 25 (zmf fn (1000000 + l) d st ++ [.int .i64 g.n0, .int .i64 g.id0])
def ziA (hints : List Hint) (fn : Nat) (run : Nat → Code → St → Kont → RT) (c : Code) : Nat → Nat → List (Nat × GLp) → Code → St → Kont → RT
 | 0, _, _, _, _, _ => .dead 20 []
 | n + 1, d, act, code, st, k => run d code st fun ke st' => match ke with
  | .goto l => match findLabel c l with
   | some rest => match zh5 l act with
    | some g => ziT fn l d g st'
    | none => if zcY l rest = true then match zde fn (1000000 + l) st'.nenv st'.nid st'.own st' hints with
      | none => .dead 24 (zmf fn (1000000 + l) d st')
      | some (h, init) => .loop d st'.nenv init (ziA hints fn run c n (d + 1) ((l, ⟨h, st'.nenv, st'.nid, st'.own, d⟩) :: act) rest h.hdr k)
     else ziA hints fn run c n d act rest st' k
   | none => k (.goto l) st'
  | ke => k ke st'
def zdM (E : Env) (st : St) (g : Operand) : Option (Nat × Func × Code × List SE × List SE) :=
 match evS E.G st.slots [] g with
 | some (.clo fid fs cs) => if zbE E.P fid = true then match E.P.funcs[fid]? with
   | some fn => match fn.body with
    | some c => some (fid, fn, c, fs, cs)
    | none => none
   | none => none
  else none
 | _ => none
def zhv : Option OS → Option KE
 | some (.loop .ready) => some .normal
 | some (.loop .doneRet) => some .ret
 | some (.loop (.doneExit j)) => some (.exit j)
 | some (.loop (.doneGoto l)) => some (.goto l)
 | _ => none
def zmY (run : St → Kont → RT) : Nat → St → Kont → RT
 | 0, _, _ => .dead 27 []
 | m + 1, st, k => run st fun ke st' => match ke with
  | .normal => zmY run m st' k
  | ke => k ke st'
def zlA (E : Env) (fn key : Nat) (st : St) : List Nat :=
 if E.frzAt fn key = true then st.own.filterMap fun x => match x.2 with
  | .row _ _ => some x.1
  | _ => none
 else []
def sx (E : Env) : Nat → Nat → Bool → Nat → List (Nat × Rnd) → Code → St → Kont → RT
 | 0, _, _, _, _, _, _, _ => .dead 21 []
 | fuel + 1, d, rd, fn, Y, code, st, k =>
  match code with
  | .skip => k .normal st
  | .label _ => k .normal st
  | .region _ ops false => zlK E Y (fun rd f c st k => sx E fuel d rd f Y c st k) ops (List.range ops.size) st (named E (k .normal))
  | .region _ ops true => zlI E Y (fun rd f c st k => sx E fuel d rd f Y c st k) ops st (named E (k .normal))
  | .seq x y => sx E fuel d rd fn Y x st fun ke st' => match ke with
   | .normal => sx E fuel d rd fn Y y st' k
   | ke => k ke st'
  | .cond c x y => match evS E.G st.slots [] c with
   | some (.bool true) => sx E fuel d rd fn Y x st k
   | some (.bool false) => sx E fuel d rd fn Y y st k
   | some e => zeK e st (fun st => sx E fuel d rd fn Y x st k) (fun st => sx E fuel d rd fn Y y st k)
   | none => .dead 22 []
  | .block id c => sx E fuel d rd fn Y c st fun ke st' => match ke with
   | .exit j => if j = id then k .normal st' else k (.exit j) st'
   | ke => k ke st'
  | .exit id => k (.exit id) st
  | .goto l => k (.goto l) st
  | .ret => k .ret st
  | .scope c => ziA E.hints fn (fun d x st k => sx E fuel d rd fn Y x st k) c fuel d [] c st k
  | .loop c0 => if Nat.beq (E.unr fn (zbF c0)) 0 = false then zmY (fun st k => sx E fuel d rd fn Y c0 st k) (E.unr fn (zbF c0)) st k else
   (fun (c : Code) (st : St) => match zde fn (zbF c) st.nenv st.nid st.own st E.hints with
   | none => .dead 24 (zmf fn (zbF c) d st)
   | some (h, init) => .loop d st.nenv init (sx E fuel (d + 1) rd fn Y c h.hdr fun ke st' => match ke with
      | .normal => match fits st.nenv st.nid st.own h st' with
       | some vals => .again d vals
       | none => .dead 25 (zmf fn (zbF c) d st' ++ [.int .i64 st.nenv, .int .i64 st.nid])
      | ke => k ke st')) c0 (frz (zlA E fn (zbF c0) st) st)
  | .rangeFunc g ps assign body =>
   if rd = true then .dead 40 [] else
   if ((look st.own st.nid).isNone && (look st.own (st.nid + 1)).isNone && !Nat.beq st.nid zal) = true then
    match zdM E st g with
    | some (fid, f, c, fs, cs) =>
     sx E fuel d false fid ((st.nid + 1, ⟨fn, st.sz, st.slots, ps.toList, assign, body⟩) :: Y) c
      ⟨(fs ++ [SE.yield (st.nid + 1)] ++ cs).length + (f.ntmps - (fs ++ [SE.yield (st.nid + 1)] ++ cs).length), zci 0 (fs ++ [SE.yield (st.nid + 1)] ++ cs),
       zah (zah st.own st.nid .dfr) (st.nid + 1) (.loop .ready), st.nenv, st.nid + 2, []⟩ fun ke st1 =>
      match ke with
      | .normal | .ret => match zaK st1.marks st1.own with
       | some own1 => if f.results.isEmpty = true then match zhv (look own1 (st.nid + 1)) with
        | some ke' => k ke' { st with own := zah own1 (st.nid + 1) .gone, nenv := st1.nenv, nid := st1.nid, marks := st.nid :: st.marks }
        | none => .dead 41 [] else .dead 42 []
       | none => .dead 43 []
      | _ => .dead 44 []
    | none => .dead 45 []
   else .dead 46 []
  | _ => .dead 26 []
def finK (E : Env) (fn : Func) : Kont := fun ke st => match ke with
 | .normal | .ret => match (if decide st.marks.Nodup = true then zaK (st.marks.filter fun i => !Nat.beq i zal) st.own else none) with
  | some own1 => match zgK E { st with own := own1 } fn.results with
   | some (e, ns) => match ze2 (look own1) 200 e.weak with
    | some e' => seg ns (.ret e')
    | none => .dead 100 []
   | none => .dead 101 []
  | none => .dead 105 []
 | _ => .dead 102 []
def runF (E : Env) (f : Nat) (args : List SE) (nenv : Nat) : RT :=
 match E.P.funcs[f]? with
 | some fn => match fn.body with
  | some c => sx E 200 0 false f [] c ⟨args.length + (fn.ntmps - args.length), zci 0 args, [], nenv, 0, []⟩ (finK E fn)
  | none => .dead 103 []
 | none => .dead 104 []
end Go.Lb
namespace Go.Lb
open Go.RowKit
theorem zcC (s : List (Nat × Ent)) (d : Nat) (e : Ent) (i : Nat) : zaM (zc7 s d e) i = if i = d then some e else zaM s i := by
 induction s with
 | nil => simp only [zc7, zaM]; by_cases h : i = d <;> simp [h]
 | cons x s ih =>
  obtain ⟨j, y⟩ := x
  simp only [zc7]
  split
  ·simp only [zaM]; by_cases h : i = d <;> simp [h]
  ·split
   ·rename_i h1
    have hd := Nat.eq_of_beq_eq_true h1
    subst hd
    simp only [zaM]
    by_cases h : i = d <;> simp [h]
   ·rename_i h1
    have hne : d ≠ j := fun h => h1 (by simp [h])
    simp only [zaM]
    by_cases h : i = j
    ·subst h; simp [Ne.symm hne]
    ·simp [h, ih]
theorem zac (own : Own) (d : Nat) (o : OS) : look (zah own d o) = (look own).upd d o := by
 induction own with
 | nil => funext i; simp only [zah, look, Lk.upd]; by_cases h : i = d <;> simp [h]
 | cons x s ih =>
  obtain ⟨j, y⟩ := x
  simp only [zah]
  split
  ·exact zc0 _ _ _
  ·split
   ·rename_i h1
    have hd := Nat.eq_of_beq_eq_true h1
    subst hd
    rw [zc0, zc0]
    funext i; simp only [Lk.upd]; by_cases h : i = d <;> simp [h]
   ·rename_i h1
    have hne : d ≠ j := fun h => h1 (by simp [h])
    rw [zc0, ih, zc0]
    funext i; simp only [Lk.upd]
    by_cases h : i = j
    ·subst h; simp [Ne.symm hne]
    ·simp [h]
theorem zik (own : Own) (dl : List (Nat × OS)) : look (zhu own dl) = upds (look own) dl := by
 unfold zhu upds
 induction dl generalizing own with
 | nil => rfl
 | cons x dl ih => simp only [List.foldl_cons]; rw [ih, zac]
theorem zhH (L : Lk) (dl : List (Nat × OS)) (i : Nat) (h : L.dom i = true) : (upds L dl).dom i = true := by
 unfold upds
 induction dl generalizing L with
 | nil => exact h
 | cons x dl ih => simp only [List.foldl_cons]; exact ih _ (Lk.dom_upd _ _ _ _ h)
theorem zaQ {n : Nat} {m : Nat → Bool} {ρ ρ' : Nat → AV} (ha : zam n ρ ρ') {pcs : List (SE × Bool)} (hw : zco n m pcs = true) : Holds ρ' pcs ↔ Holds ρ pcs := by
 unfold Holds
 constructor
 ·intro h x hx
  have := List.all_eq_true.1 hw x hx
  rw [← zat ha x.1 this]; exact h x hx
 ·intro h x hx
  have := List.all_eq_true.1 hw x hx
  rw [zat ha x.1 this]; exact h x hx
theorem zdd {n n' : Nat} {m m' : Nat → Bool} (h : n ≤ n') (k : ∀ i, m i = true → m' i = true) {pcs : List (SE × Bool)} (hw : zco n m pcs = true) : zco n' m' pcs = true :=
 List.all_eq_true.2 fun x hx => SE.wf_mono h k (List.all_eq_true.1 hw x hx)
theorem SlotOk.keeps {c c' : Cx} {ρ ρ' : Nat → AV} {nenv nenv' : Nat} {D D' : Nat → Bool} {t t' : Array Value} {d : Nat} {e : Ent} (h : SlotOk c ρ nenv D t d e)
  (hc : c.Keeps D c') (ha : zam nenv ρ ρ') (hρ : ∀ i, (ρ i).pure = true) (hn : nenv ≤ nenv') (hD : ∀ i, D i = true → D' i = true) (ht : t'[d]? = t[d]?) : SlotOk c' ρ' nenv' D' t' d e := by
 refine ⟨fun hp => ?_, fun hp => ?_, SE.wf_mono hn hD h.wf.1, zdd hn hD h.wf.2⟩
 ·obtain ⟨v, h1, h2⟩ := h.yes ((zaQ ha h.wf.2).1 hp)
  refine ⟨v, ht.trans h1, ?_⟩
  rw [zat ha _ h.wf.1]
  exact zch hc h2 (zbb hρ _ h.wf.1)
 ·exact ht.trans (h.no fun h' => hp ((zaQ ha h.wf.2).2 h'))
theorem zbo.keeps {c c' : Cx} {ρ ρ' : Nat → AV} {nenv nenv' : Nat} {D D' : Nat → Bool} {t : Array Value} {s : List (Nat × Ent)} (h : zbo c ρ nenv D t s)
  (hc : c.Keeps D c') (ha : zam nenv ρ ρ') (hρ : ∀ i, (ρ i).pure = true) (hn : nenv ≤ nenv') (hD : ∀ i, D i = true → D' i = true) : zbo c' ρ' nenv' D' t s :=
 fun d e hf => (h d e hf).keeps hc ha hρ hn hD rfl
def zbK (Y : List (Nat × Rnd)) (c : Cx) (ρ : Nat → AV) (nenv : Nat) (D : Nat → Bool) : Prop :=
 ∀ i r, zi9 Y i = some r → D i = true ∧ (c.L i).params = ⟨r.ps⟩ ∧ (c.L i).assign = r.assign ∧ (c.L i).body = r.body ∧ (c.L i).tmps.size = r.sz ∧ zbo c ρ nenv D (c.L i).tmps r.slots
theorem zbK.keeps {Y : List (Nat × Rnd)} {c c' : Cx} {ρ ρ' : Nat → AV} {nenv nenv' : Nat} {D D' : Nat → Bool} (h : zbK Y c ρ nenv D)
  (hc : c.Keeps D c') (ha : zam nenv ρ ρ') (hρ : ∀ i, (ρ i).pure = true) (hn : nenv ≤ nenv') (hD : ∀ i, D i = true → D' i = true) : zbK Y c' ρ' nenv' D' := by
 intro i r hf
 obtain ⟨h1, h2, h3, h4, h5, h6⟩ := h i r hf
 rw [hc.L i h1]
 exact ⟨hD i h1, h2, h3, h4, h5, h6.keeps hc ha hρ hn hD⟩
def zil (c : Cx) (i : Nat) : Deferred := { target := .collected (c.β i), args := #[] }
def coll (b : Nat) : Deferred := { target := .collected b, args := #[] }
def zeX (c : Cx) (S : List Nat) (ms : List Nat) : List Deferred := ms.flatMap fun i => if i = zal then S.map coll else [zil c i]
structure OldOk (n0 : Nat) (c : Cx) (S : List Nat) : Prop where
 nodup : S.Nodup
 obj : ∀ b ∈ S, c.M b = some (.deferred (some [])) ∧ n0 ≤ b
def ze5 (n0 : Nat) (c : Cx) (ms : List Nat) (ds : List Deferred) : Prop := ∃ S, ds = zeX c S ms ∧ OldOk n0 c S ∧ (zal ∉ ms → S = [])
theorem ze5.nil (n0 : Nat) (c : Cx) : ze5 n0 c [] [] := ⟨[], rfl, ⟨List.nodup_nil, fun _ h => by cases h⟩, fun _ => rfl⟩
theorem ze5.keeps {n0 : Nat} {c c' : Cx} {D : Nat → Bool} {ms : List Nat} {ds : List Deferred} (h : ze5 n0 c ms ds) (hd : ∀ i ∈ ms, i ≠ zal → D i = true) (hc : c.Keeps D c') : ze5 n0 c' ms ds := by
 obtain ⟨S, h1, h2, h3⟩ := h
 refine ⟨S, ?_, ⟨h2.nodup, fun b hb => ⟨hc.M _ _ (h2.obj b hb).1, (h2.obj b hb).2⟩⟩, h3⟩
 rw [h1]
 unfold zeX
 have : ∀ (l : List Nat), (∀ i ∈ l, i ≠ zal → D i = true) → l.flatMap (fun i => if i = zal then S.map coll else [zil c i]) = l.flatMap (fun i => if i = zal then S.map coll else [zil c' i]) := by
  intro l
  induction l with
  | nil => intro _; rfl
  | cons x l ih =>
   intro hl
   rw [List.flatMap_cons, List.flatMap_cons, ih fun i hi => hl i (List.mem_cons_of_mem _ hi)]
   congr 1
   by_cases hx : x = zal
   ·rw [if_pos hx, if_pos hx]
   ·rw [if_neg hx, if_neg hx]; unfold zil; rw [hc.β x (hl x (List.mem_cons_self ..) hx)]
 exact this ms hd
theorem zdK {c : Cx} {S : List Nat} : ∀ {ms : List Nat}, zal ∉ ms → zeX c S ms = ms.map (zil c)
 | [], _ => rfl
 | i :: ms, h => by
  simp only [List.mem_cons, not_or] at h
  have ih := zdK (c := c) (S := S) h.2
  unfold zeX at ih ⊢
  rw [List.flatMap_cons, if_neg (fun e => h.1 e.symm), List.map_cons, ih]; rfl
structure MatchSt (G : Glob) (n0 : Nat) (w0 : Base) (Y : List (Nat × Rnd)) (c : Cx) (ρ : Nat → AV) (st : St) (a : Act) (w : World) : Prop where
 mem : Mem n0 w0 c ρ (look st.own) st.nenv w
 glob : zbD G c
 sz : a.tmps.size = st.sz
 slots : zbo c ρ st.nenv (look st.own).dom a.tmps st.slots
 dfr : ze5 n0 c st.marks a.defers
 mdom : ∀ i ∈ st.marks, i ≠ zal → (look st.own).dom i = true
 rnds : zbK Y c ρ st.nenv (look st.own).dom
structure Ext (c : Cx) (ρ : Nat → AV) (nenv : Nat) (D : Nat → Bool) (c' : Cx) (ρ' : Nat → AV) (nenv' : Nat) (D' : Nat → Bool) : Prop where
 keeps : c.Keeps D c'
 agree : zam nenv ρ ρ'
 nenv : nenv ≤ nenv'
 dom : ∀ i, D i = true → D' i = true
theorem Ext.refl (c : Cx) (ρ : Nat → AV) (nenv : Nat) (D : Nat → Bool) : Ext c ρ nenv D c ρ nenv D := ⟨Cx.Keeps.refl _ _, zam.refl _ _, Nat.le_refl _, fun _ h => h⟩
theorem Ext.trans {c c' c'' : Cx} {ρ ρ' ρ'' : Nat → AV} {n n' n'' : Nat} {D D' D'' : Nat → Bool} (h : Ext c ρ n D c' ρ' n' D') (k : Ext c' ρ' n' D' c'' ρ'' n'' D'') : Ext c ρ n D c'' ρ'' n'' D'' :=
 ⟨h.keeps.trans (k.keeps.mono h.dom), h.agree.trans (k.agree.mono h.nenv), Nat.le_trans h.nenv k.nenv, fun i hi => k.dom i (h.dom i hi)⟩
abbrev St.D (st : St) : Nat → Bool := (look st.own).dom
variable {Y : List (Nat × Rnd)} {G : Glob} {n0 : Nat} {w0 : Base} {c c' : Cx} {ρ ρ' : Nat → AV} {st st' : St} {a : Act} {w : World}
theorem zfg (a : Act) (d : Option Nat) (v : Value) (i : Nat) (h : d ≠ some i) : (a.put d v).tmps[i]? = a.tmps[i]? := by
 unfold Act.put
 cases d with
 | none => rfl
 | some d => simp only [Array.getElem?_setIfInBounds]; rw [if_neg (fun e => h (by rw [e]))]
theorem zee (a : Act) (d : Nat) (v : Value) (h : d < a.tmps.size) : (a.put (some d) v).tmps[d]? = some v := by
 simp [Act.put, h]
theorem zjS (a : Act) (d : Option Nat) (v : Value) : (a.put d v).tmps.size = a.tmps.size := by
 cases d <;> simp [Act.put]
theorem zgJ (a : Act) (d : Option Nat) (v : Value) : (a.put d v).defers = a.defers := by cases d <;> rfl
theorem MatchSt.put {st1 : St} {w' : World} (hm : MatchSt G n0 w0 Y c ρ st a w) (hx : Ext c ρ st.nenv st.D c' ρ' st1.nenv st1.D) (hmem : Mem n0 w0 c' ρ' (look st1.own) st1.nenv w') (hs : st1.slots = st.slots) (hz : st1.sz = st.sz) (hmk : st1.marks = st.marks)
  (hg : zbD G c') {dst : Option Nat} {e : Ent} (hp : st1.put dst e = some st') {v : Value} (hv : Holds ρ' e.pcs → Rv c' (den ρ' e.se) v) (hn : ¬ Holds ρ' e.pcs → v = undef)
  (hw : e.se.wf st1.nenv st1.D = true) (hpw : zco st1.nenv st1.D e.pcs = true) : MatchSt G n0 w0 Y c' ρ' st' (a.put dst v) w' ∧ st'.nenv = st1.nenv ∧ st'.own = st1.own ∧ st'.nid = st1.nid ∧ st'.sz = st1.sz := by
 have hold : zbo c' ρ' st1.nenv st1.D a.tmps st1.slots := by
  rw [hs]; exact hm.slots.keeps hx.keeps hx.agree hm.mem.pure hx.nenv hx.dom
 have hdf : ze5 n0 c' st1.marks a.defers := by rw [hmk]; exact hm.dfr.keeps hm.mdom hx.keeps
 have hmd : ∀ i ∈ st1.marks, i ≠ zal → (look st1.own).dom i = true := by rw [hmk]; exact fun i hi hne => hx.dom i (hm.mdom i hi hne)
 have hrn : zbK Y c' ρ' st1.nenv (look st1.own).dom := hm.rnds.keeps hx.keeps hx.agree hm.mem.pure hx.nenv hx.dom
 unfold St.put at hp
 cases dst with
 | none =>
  simp only [Option.some.injEq] at hp; subst hp
  exact ⟨⟨hmem, hg, hm.sz.trans hz.symm, hold, hdf, hmd, hrn⟩, rfl, rfl, rfl, rfl⟩
 | some d =>
  simp only at hp
  split at hp
  ·rename_i hd
   simp only [Option.some.injEq] at hp; subst hp
   refine ⟨⟨hmem, hg, ?_, ?_, ?_, hmd, hrn⟩, rfl, rfl, rfl, rfl⟩
   ·simp only [zjS]; exact hm.sz.trans hz.symm
   ·intro i en hf
    simp only [zcC] at hf
    split at hf
    ·rename_i hi
     simp only [Option.some.injEq] at hf; subst hf
     rw [hi]
     have hsz : d < a.tmps.size := by rw [hm.sz, ← hz]; exact hd
     refine ⟨fun h => ⟨v, zee a d v hsz, hv h⟩, fun h => ?_, hw, hpw⟩
     rw [zee a d v hsz, hn h]
    ·rename_i hi
     exact (hold i en hf).keeps (Cx.Keeps.refl _ _) (zam.refl _ _) hmem.pure (Nat.le_refl _) (fun _ h => h) (zfg a _ v i (fun h => hi (Option.some.inj h).symm))
   ·rw [zgJ]; exact hdf
  ·cases hp
theorem zm2 {c : Cx} {x : AV} {b : Bool} (h : Rv c x (.bool b)) : x = .bool b := by
 cases h with
 | undef _ h => exact absurd rfl (h b)
 | bool => rfl
theorem zb0 {ops : Array Oper} (hm : MatchSt G n0 w0 Y c ρ st a w) {o : Oper} {g : Gd} (h : zhi ops st.slots o = some g) :
  match g with
  | .never => Region.wanted o (yielded ops a.tmps) = false
  | .when pcs => Region.wanted o (yielded ops a.tmps) = true ↔ Holds ρ pcs := by
 unfold zhi at h
 split at h
 ·rename_i hg
  simp only [Option.some.injEq] at h; subst h
  simp only [Region.wanted, hg, true_iff]
  exact Holds.nil ρ
 ·rename_i j b hg
  split at h
  ·cases h
  ·rename_i d hd
   split at h
   ·cases h
   ·rename_i en hf
    have hs := hm.slots d en hf
    have hy : yielded ops a.tmps j = match a.tmps[d]? with | some (.bool x) => some x | _ => none := by
     unfold yielded; rw [hd]; simp only [Option.bind_some]; rfl
    split at h
    ·rename_i x h1
     have hcase : (Holds ρ en.pcs ∧ yielded ops a.tmps j = some x) ∨ (¬ Holds ρ en.pcs ∧ yielded ops a.tmps j = none) := by
      by_cases hp : Holds ρ en.pcs
      ·obtain ⟨v, hv, hr⟩ := hs.yes hp
       rw [h1] at hr
       simp only [den] at hr
       cases hr
       rw [hv] at hy
       exact .inl ⟨hp, hy⟩
      ·rw [hs.no hp] at hy
       exact .inr ⟨hp, hy⟩
     split at h
     ·rename_i hx
      simp only [Option.some.injEq] at h; subst h
      simp only [Region.wanted, hg]
      rcases hcase with ⟨hp, hy⟩ | ⟨hp, hy⟩
      ·rw [hy, hx]; simp only [beq_self_eq_true, true_iff]; exact hp
      ·rw [hy]; constructor
       ·intro hw; simp at hw
       ·intro hw; exact absurd hw hp
     ·rename_i hx
      simp only [Option.some.injEq] at h; subst h
      simp only [Region.wanted, hg]
      rcases hcase with ⟨hp, hy⟩ | ⟨hp, hy⟩
      ·rw [hy]; simpa using hx
      ·rw [hy]; rfl
    ·rename_i se pcs h1 h2 _
     simp only [Option.some.injEq] at h; subst h
     simp only [Region.wanted, hg]
     rw [Holds.cons]
     by_cases hp : Holds ρ en.pcs
     ·obtain ⟨v, hv, hr⟩ := hs.yes hp
      rw [hy, hv]
      constructor
      ·intro hw
       refine ⟨?_, hp⟩
       cases v <;> simp at hw
       rename_i x
       subst hw
       exact zm2 hr
      ·intro hw
       rw [hw.1] at hr
       cases hr
       simp
     ·rw [hy, hs.no hp]
      simp only [undef]
      constructor
      ·intro hw; simp at hw
      ·intro hw; exact absurd hw.2 hp
variable {P : Program} {ro : Option Nat}
theorem zaZ.append {P : Program} {G : Glob} {K : (Nat → AV) → Prop} : ∀ {xs ys : List Nd} {ρ : Nat → AV}, zaZ P G ρ (xs ++ ys) K → zaZ P G ρ xs (fun ρ' => zaZ P G ρ' ys K)
 | [], _, _, h => h
 | .chk .. :: xs, _, _, h => ⟨h.1, zaZ.append h.2⟩
 | .same .. :: xs, _, _, h => ⟨h.1, zaZ.append h.2⟩
 | .call .. :: xs, _, _, h => by
  obtain ⟨r, h1, h2, h3⟩ := h
  exact ⟨r, h1, h2, zaZ.append h3⟩
 | .isNil .. :: xs, _, _, h => fun b hb => zaZ.append (h b hb)
 | .srt .. :: xs, _, _, h => let ⟨l, h1, h2, h3⟩ := h; ⟨l, h1, h2, zaZ.append h3⟩
 | .bind .. :: xs, _, _, h => zaZ.append (xs := xs) h
 | .cmp .. :: xs, _, _, h => let ⟨l, h1, h2, h3⟩ := h; ⟨l, h1, h2, zaZ.append h3⟩
theorem zaZ.skip {E : Env} {P : Program} {G : Glob} {pcs : List (SE × Bool)} {K : (Nat → AV) → Prop} {s : Step} {nenv : Nat} {ρ : Nat → AV} (hρ : ∀ i, (ρ i).pure = true) (h : zaZ P G ρ (zgG E s nenv pcs) K) :
  ∃ ρ', zam nenv ρ ρ' ∧ (∀ i, (ρ' i).pure = true) ∧ K ρ' := by
 have tail : ∀ ρ', zaZ P G ρ' (match zhz E s nenv with | some e => [.same nenv pcs e] | none => []) K → K ρ' := by
  intro ρ' h
  split at h
  ·exact h.2
  ·exact h
 unfold zgG at h
 have h := zaZ.append h
 unfold Step.nodes at h
 obtain ⟨_, h⟩ := zaZ.chks h
 split at h
 ·obtain ⟨r, hr, _, hk⟩ := h
  exact ⟨_, zaP _ _ _, zbr hρ _ hr, tail _ hk⟩
 ·exact ⟨_, zaP _ _ _, zbr hρ _ (v := .bool false) rfl, tail _ (h false (fun _ h => by cases h))⟩
 ·exact ⟨ρ, zam.refl _ _, hρ, tail _ h⟩
theorem zml (ρ : Nat → AV) (e : SE) : den ρ e.fold = den ρ e := by
 unfold SE.fold
 split
 ·rename_i op k a k' b
  have h : den ρ (.app (.bin op) [.int k a, .int k' b]) = binI op k a b := by simp only [den, dens, pv]
  rw [h]
  split
  ·rename_i q n hb; rw [hb]; rfl
  ·rename_i v hb; rw [hb]; rfl
  ·exact h
 all_goals first | rfl | simp [den, dens, pv]
 ·simp [zab]
 ·rename_i n cs off
  split
  ·rename_i f a b hc
   simp [den, dens, pv, AV.cut, List.getD, zaq?, hc]
  ·simp [den, dens, pv]
 ·rename_i z es k i
  split
  ·rename_i f a b hc
   simp [den, dens, pv, AV.cut, List.getD, zaq?, hc]
  ·simp [den, dens, pv]
def zm3 (P : Program) (f : Nat) : Prop :=
 (∀ (blk off cap : Nat) (zs : List Int) (w : World), Go.Sort.Holds (Value.int .i64) w blk off zs.toArray → blk < w.heap.size → zs.length < 4611686018427387904 →
  Calls P f #[.slice (some ⟨blk, off, none⟩) zs.length cap] w fun e w' => e = .returned (.tuple #[]) ∧
   ∃ n os, w' = Go.Sort.grow (Go.Sort.putRow (Value.int .i64) (Go.Sort.ahead w n) blk off (zs.mergeSort fun x y => decide (x ≤ y)).toArray) os) ∧
 zbh P [] f [.sl []] (.tup [])
def zm0 (P : Program) (f : Nat) : Prop :=
 (∀ (blk off cap : Nat) (zs : List Int) (w : World), Go.Sort.Holds (Value.int .i64) w blk off zs.toArray → zs.length ≤ 9223372036854775807 → zs.length ≤ cap →
  Calls P f #[.slice (some ⟨blk, off, none⟩) zs.length cap] w fun e w' => e = .returned (.slice (some ⟨blk, off, none⟩) (Go.Lib.compact zs).length cap) ∧
   ∃ q, w' = Go.Sort.putRow (Value.int .i64) (Go.Sort.ahead w q) blk off (Go.Lib.compact zs ++ List.replicate (zs.length - (Go.Lib.compact zs).length) 0).toArray) ∧
 (∀ (a : Option Addr) (cap : Nat) (w : World), Calls P f #[.slice a 0 cap] w fun e w' => e = .returned (.slice a 0 cap) ∧ w' = w)
def zl2 (P : Program) (f sz : Nat) : Prop :=
 ∀ (blk off cap n i j : Nat) (vs : List Value) (T : TypeId) (w : World), w.heap[blk]? = some (.cells ⟨vs⟩ T (0, 0)) → n ≤ cap → off + cap * sz ≤ vs.length → i < j → j ≤ n → n ≤ 8796093022208 →
  (∀ k u, k < n * sz → vs[off + k]? = some u → u.oneCell' = true) →
  Calls P f #[.slice (some ⟨blk, off, none⟩) n cap, .int .i64 i, .int .i64 j] w fun e w' => e = .returned (.slice (some ⟨blk, off, none⟩) (n - (j - i)) cap) ∧
   ∃ us, us.length = vs.length ∧ w'.heap[blk]? = some (.cells ⟨us⟩ T (0, 0)) ∧ (∀ k, k ≠ blk → w'.heap[k]? = w.heap[k]?) ∧ w'.heap.size = w.heap.size ∧ w'.os = w.os ∧ w'.tape = w.tape ∧ w'.output = w.output ∧
    (us.drop off).take ((n - (j - i)) * sz) = (vs.drop off).take (i * sz) ++ (vs.drop (off + j * sz)).take ((n - j) * sz)
structure EnvOk (E : Env) : Prop where
 cpt : ∀ f, E.cpt f = true → zm0 E.P f
 srt : ∀ f, E.srt f = true → zm3 E.P f
 del : ∀ f, 0 < E.del f → zl2 E.P f (E.del f)
 G : ∀ (g : Nat) es, E.G[g]? = some es → SE.wfs 0 (fun _ => false) es = true
theorem Step.nenv_le (s : Step) (n : Nat) : n ≤ s.nenv n := by unfold Step.nenv; split <;> omega
theorem zcf {E : Env} {pcs : List (SE × Bool)} {o : Oper} {st : St} {s : Step} {st1 : St} (h : zfX E pcs o st = some (s, st1)) :
  sOp E.P (look st.own) (evS E.G st.slots pcs) st.nenv st.nid o.op = some s ∧ look st.own st.nid = none ∧ look st.own (st.nid + 1) = none ∧ (val2 E s st.nenv).wf st1.nenv st1.D = true ∧ zco st.nenv st.D pcs = true ∧
   st1.slots = st.slots ∧ st1.sz = st.sz ∧ look st1.own = upds (look st.own) s.dl ∧ st1.nenv = s.nenv st.nenv ∧ st1.marks = st.marks := by
 unfold zfX at h
 split at h
 ·rename_i s' hs
  simp only at h
  split at h
  ·rename_i hc
   simp only [Option.some.injEq, Prod.mk.injEq] at h
   obtain ⟨rfl, rfl⟩ := h
   refine ⟨hs, Option.isNone_iff_eq_none.1 hc.2.2.1, Option.isNone_iff_eq_none.1 hc.2.2.2, hc.1, hc.2.1, rfl, rfl, zik _ _, rfl, rfl⟩
  ·cases h
 ·cases h
theorem zbD.ext {E : Env} (hE : EnvOk E) {c c' : Cx} (h : zbD E.G c) (hc : c.Le c') : zbD E.G c' := h.keeps hc hE.G
theorem Mem.hn0 {c : Cx} {ρ : Nat → AV} {L : Lk} {nenv : Nat} {w : World} (hm : Mem n0 w0 c ρ L nenv w) (h : n0 ≤ w0.w.heap.size) : n0 ≤ w.heap.size := Nat.le_trans h hm.below.size
theorem zdR {E : Env} (hE : EnvOk E) (h0 : n0 ≤ w0.w.heap.size) {o : Oper} {a : Act} {w : World} {pcs : List (SE × Bool)} {s : Step} {st1 : St} (hm : MatchSt E.G n0 w0 Y c ρ st a w) (h : zfX E pcs o st = some (s, st1)) (hp : Holds ρ pcs)
  {K : (Nat → AV) → Prop} (hs : zaZ E.P E.G ρ (zgG E s st.nenv pcs) K) {n : Nat} {next : Act → World → Prop} {Q : Exit → Act → World → Prop}
  (hk : ∀ ρ' c' v w', K ρ' → Ext c ρ st.nenv st.D c' ρ' st1.nenv st1.D → Rv c' (den ρ' (val2 E s st.nenv)) v → Mem n0 w0 c' ρ' (look st1.own) st1.nenv w' → zbD E.G c' → next (a.put o.dst v) w') : o.wpIn (FW ro) n E.P a w next Q := by
 obtain ⟨h1, h2, h3, h4, h5, h6, h7, h8, h9, _⟩ := zcf h
 obtain ⟨ρ', a1, a2, a3, a4⟩ := zmJ (ro := ro) hm.mem (hm.mem.hn0 h0) hm.glob hE.G (xv := evS E.G st.slots pcs) (fun x e hx => zb8 hm.slots hm.glob hE.G hp hx) h2 h3 h1 hp (zaZ.append hs)
 have hp' : Holds ρ' pcs := (zaQ a1 h5).2 hp
 refine a4 n next Q fun v w' c' b1 b2 b3 => ?_
 rw [← h8, ← h9] at b3
 have hval : K ρ' ∧ Rv c' (den ρ' (val2 E s st.nenv)) v := by
  unfold val2
  split at a3
  ·rename_i e hse
   rw [hse]
   refine ⟨a3.2, ?_⟩
   have hv : s.val = .inp st.nenv := by
    unfold zhz at hse
    split at hse
    ·split at hse
     ·split at hse
      ·rename_i hc
       simp only [Bool.and_eq_true] at hc
       exact SE.beq_eq _ _ hc.2
      ·cases hse
     ·cases hse
    ·cases hse
   rw [hv] at b2
   have := a3.1 hp'
   simp only [den] at b2
   rw [this] at b2
   exact b2
  ·rename_i hse
   rw [hse]; refine ⟨a3, ?_⟩
   rw [Option.getD_none, zml]; exact b2
 refine hk ρ' c' v w' hval.1 ⟨b1, a1, ?_, ?_⟩ hval.2 b3 (hm.glob.ext hE b1.toLe)
 ·rw [h9]; exact Step.nenv_le _ _
 ·intro i hi
  show (look st1.own).dom i = true
  rw [h8]; exact zhH _ _ _ hi
theorem zcg {ops : Array Oper} {o : Oper} {a : Act} {w : World} {n : Nat} {K : Act → World → Prop} {Q : Exit → Act → World → Prop} {i : Nat} (hi : ops[i]? = some o) (h : Region.wanted o (yielded ops a.tmps) = true)
  (hk : o.wpIn (FW ro) n P a w K Q) : wpOpIn (FW ro) n P ops Q i K a w := by
 unfold wpOpIn; simp only [hi, h, if_true]; exact hk
theorem zbI {ops : Array Oper} {o : Oper} {a : Act} {w : World} {n : Nat} {K : Act → World → Prop} {Q : Exit → Act → World → Prop} {i : Nat} (hi : ops[i]? = some o) (h : Region.wanted o (yielded ops a.tmps) = false)
  (hk : K (a.put o.dst undef) w) : wpOpIn (FW ro) n P ops Q i K a w := by
 unfold wpOpIn; simp only [hi, h]; exact ⟨fun _ _ => trivial, hk⟩
end Go.Lb
