/- The walk, symbolically: states, trees, the executor. -/
/- The executor's states and the machine's: slots, steps, splits. -/
/- Splits; choices; what is frozen. -/
import Derived.Test.YtkcpgfjlmicnnaaDoorFw4
import Derived.Sort.OwnSortedInts
set_option linter.unusedSimpArgs false
set_option linter.unusedVariables false
namespace Go.Lb
open Go.RowKit

structure St where
  sz : Nat
  slots : List (Nat × Ent)
  own : Own
  nenv : Nat
  nid : Nat
  /-- The activation's deferred calls: marks of ranges over functions, by the numbers of their blocks. -/
  marks : List Nat := []
  deriving Inhabited, Repr

/-- A range over a function that is under way: what its rounds run on. -/
structure Rnd where
  fn : Nat
  sz : Nat
  slots : List (Nat × Ent)
  ps : List Nat
  assign : Code
  body : Code

/-- What a walk comes to. -/
inductive RT where
  | ret (e : SE)
  | cond (c : SE) (t f : RT)
  | seg (ns : List Nd) (k : RT)
  | loop (id n : Nat) (init : List SE) (body : RT)
  | again (id : Nat) (vals : List SE)
  | dead (why : Nat) (info : List SE)
  deriving Inhabited, Repr

def setEnvs (ρ : Nat → AV) (n : Nat) (vs : List AV) : Nat → AV := fun i => if n ≤ i ∧ i < n + vs.length then vs.getD (i - n) .undef else ρ i

def RTwp (P : Program) (G : Glob) (R : AV → Prop) : RT → (Nat → List AV → Prop) → (Nat → AV) → Prop
  | .ret e, _, ρ => R (den ρ e)
  | .cond c t f, L, ρ => ∃ b, den ρ c = .bool b ∧ (b = true → RTwp P G R t L ρ) ∧ (b = false → RTwp P G R f L ρ)
  | .seg ns k, L, ρ => SegWp P G ρ ns (RTwp P G R k L)
  | .loop id n init body, L, ρ => ∃ (I : List AV → Prop) (μ : List AV → Nat), I (dens ρ init) ∧
      ∀ vs, vs.length = init.length → AV.pureAll vs = true → I vs → RTwp P G R body (fun j us => if j = id then I us ∧ μ us < μ vs else L j us) (setEnvs ρ n vs)
  | .again id vals, L, ρ => L id (dens ρ vals)
  | .dead _ _, _, _ => False

inductive KE where
  | normal
  | exit (id : Nat)
  | goto (l : Nat)
  | ret
  deriving DecidableEq, Repr

abbrev Kont := KE → St → RT

/-- A loop's head: its state; the inputs from the state's own number on are new. -/
structure Hint where
  fn : Nat
  key : Nat
  hdr : St
  len : Nat
  deriving Inhabited, Repr

structure Env where
  P : Program
  G : Glob
  inl : Nat → Bool
  /-- Functions whose results hold no memory: they may borrow the call's own. -/
  scal : Nat → Bool
  /-- The form of what a function hands back, where it is known. -/
  shape : Nat → List SE → Option SE
  hints : List Hint
  /-- Functions that sort a slice of integers. -/
  srt : Nat → Bool := fun _ => false
  /-- Functions that compact one. -/
  cpt : Nat → Bool := fun _ => false
  /-- Functions that cut a part out of a slice: of elements of how many cells; 0: none. -/
  del : Nat → Nat := fun _ => 0
  /-- What is known ahead of a region that draws. -/
  kn : List (SE × Bool) := []
  /-- What is greater gets a name behind a region; 0: nothing does. -/
  big : Nat := 0
  /-- Loops ahead of which all own rows become immutable. -/
  frzAt : Nat → Nat → Bool := fun _ _ => false

def setSlot : List (Nat × Ent) → Nat → Ent → List (Nat × Ent)
  | [], d, e => [(d, e)]
  | (j, x) :: r, d, e => if Nat.blt d j = true then (d, e) :: (j, x) :: r else if Nat.beq d j = true then (d, e) :: r else (j, x) :: setSlot r d e
def putOwn : Own → Nat → OS → Own
  | [], i, o => [(i, o)]
  | (j, x) :: r, i, o => if Nat.blt i j = true then (i, o) :: (j, x) :: r else if Nat.beq i j = true then (i, o) :: r else (j, x) :: putOwn r i o
def putOwns (own : Own) (dl : List (Nat × OS)) : Own := dl.foldl (fun O x => putOwn O x.1 x.2) own

/-- Into the operation's place. -/
def St.put (st : St) (dst : Option Nat) (e : Ent) : Option St :=
  match dst with
  | none => some st
  | some d => if d < st.sz then some { st with slots := setSlot st.slots d e } else none

def pcsBeq : List (SE × Bool) → List (SE × Bool) → Bool
  | [], [] => true
  | a :: as, b :: bs => SE.beq a.1 b.1 && (a.2 == b.2) && pcsBeq as bs
  | _, _ => false

/-- The guard's conditions. -/
inductive Gd where
  | never
  | when (pcs : List (SE × Bool))
  deriving Repr

def guardOf (ops : Array Oper) (slots : List (Nat × Ent)) (o : Oper) : Option Gd :=
  match o.guard with
  | none => some (.when [])
  | some (j, b) => match (ops[j]?).bind (·.dst) with
    | none => none
    | some d => match findE slots d with
      | none => none
      | some en => match en.se, en.pcs with
        | .bool x, pcs => if x = b then some (.when pcs) else some .never
        | se, pcs => some (.when ((se, b) :: pcs))

/-- A choice of two values. -/
def sPick (E : Env) (slots : List (Nat × Ent)) (pcs : List (SE × Bool)) (c a b : Operand) : Option (SE × List Nd) :=
  match evS E.G slots pcs c with
  | some (.bool true) => (evS E.G slots pcs a).map fun e => (e, [])
  | some (.bool false) => (evS E.G slots pcs b).map fun e => (e, [])
  | some ec => match evS E.G slots ((ec, true) :: pcs) a, evS E.G slots ((ec, false) :: pcs) b with
    | some ea, some eb => some (.app .pick [ec, ea.weak, eb.weak], [.chk pcs .pick [ec, ea.weak, eb.weak]])
    | _, _ => none
  | none => none

/-- What a call hands back, by its form. -/
def shapeOf (E : Env) (s : Step) (nenv : Nat) : Option SE :=
  match s.call with
  | some (f, args, _) => match E.shape f args with
    | some e => if (e.noOwn && SE.beq s.val (.inp nenv)) = true then some e else none
    | none => none
  | none => none
/-- Known numbers, reckoned. -/
def SE.fold : SE → SE
  | .app (.bin op) [.int k a, .int k' b] => match binI op k a b with
    | .int q n => .int q n
    | .bool v => .bool v
    | _ => .app (.bin op) [.int k a, .int k' b]
  | .app (.un .not) [.bool b] => .bool (!b)
  | .app (.eqb neg) [.bool a, .bool b] => .bool ((a == b) != neg)
  | .app (.conv k) [.int _ n] => .int k (k.wrap n)
  | .app .len [.nils] => .int .i64 0
  | .app .len [.app .lst es] => .int .i64 es.length
  | .app (.eoff k) [.ref cs off] => .ref cs (off + k)
  | .app (.eload n false) [.ref cs off] => match cs[off]? with
    | some (.clo f a b) => .clo f a b
    | _ => .app (.eload n false) [.ref cs off]
  | e => e
def val2 (E : Env) (s : Step) (nenv : Nat) : SE := (shapeOf E s nenv).getD s.val.fold
def nodes2 (E : Env) (s : Step) (nenv : Nat) (pcs : List (SE × Bool)) : List Nd :=
  s.nodes nenv pcs ++ match shapeOf E s nenv with
    | some e => [.same nenv pcs e]
    | none => []

/-- A step that is no pick: the state behind it, ahead of what is put in its place. -/
def stepSt (E : Env) (pcs : List (SE × Bool)) (o : Oper) (st : St) : Option (Step × St) :=
  match sOp E.P (look st.own) (evS E.G st.slots pcs) st.nenv st.nid o.op with
  | some s =>
    let st' := { st with own := putOwns st.own s.dl, nenv := s.nenv st.nenv, nid := st.nid + 2 }
    if (val2 E s st.nenv).wf st'.nenv (look st'.own).dom = true ∧ pcsWf st.nenv (look st.own).dom pcs = true ∧ (look st.own st.nid).isNone = true ∧ (look st.own (st.nid + 1)).isNone = true then some (s, st') else none
  | none => none

/-- What is known behind a split. -/
def SE.assume (c : SE) (b : Bool) : Nat → SE → SE
  | 0, e => e
  | n + 1, e => if SE.beq e c = true then .bool b else match e with
    | .app .pick [x, y, z] => match SE.assume c b n x with
      | .bool true => SE.assume c b n y
      | .bool false => SE.assume c b n z
      | x' => .app .pick [x', SE.assume c b n y, SE.assume c b n z]
    | .app (.un .not) [x] => match SE.assume c b n x with
      | .bool v => .bool (!v)
      | x' => .app (.un .not) [x']
    | e => e
def assumePcs (c : SE) (b : Bool) : List (SE × Bool) → Option (List (SE × Bool))
  | [] => some []
  | (p, v) :: r => match assumePcs c b r with
    | none => none
    | some r' => match SE.assume c b 20 p with
      | .bool x => if x = v then some r' else none
      | p' => some ((p', v) :: r')
def Ent.assume (c : SE) (b : Bool) (e : Ent) : Ent :=
  match assumePcs c b e.pcs with
  | none => ⟨[], .undef⟩
  | some pcs => ⟨pcs, SE.assume c b 20 e.se⟩
def St.assume (c : SE) (b : Bool) (st : St) : St := { st with slots := st.slots.map fun x => (x.1, x.2.assume c b) }

/-- Without its nots; whether that turns it. -/
def stripNot : SE → SE × Bool
  | .app (.un .not) [x] => let r := stripNot x; (r.1, !r.2)
  | e => (e, false)

/-- A split: on the thing itself, all nots stripped. -/
def splitSE (c : SE) (st : St) (yes no : St → RT) : RT :=
  match stripNot c with
  | (.bool x, y) => if (x != y) = true then yes st else no st
  | (e, y) => .cond e (if y then no (st.assume e true) else yes (st.assume e true)) (if y then yes (st.assume e false) else no (st.assume e false))

/-- A split on conditions, the last one first. -/
def splitOn : List (SE × Bool) → St → (St → RT) → (St → RT) → RT
  | [], st, yes, _ => yes st
  | (c, b) :: rest, st, yes, no => splitOn rest st (fun st => if b then splitSE c st yes no else splitSE c st no yes) no

def seg (ns : List Nd) (k : RT) : RT := match ns with
  | [] => k
  | ns => .seg ns k

/-- What a function hands back. -/
def resSE (E : Env) (st : St) : List ResultVar → Option (List SE × List Nd)
  | [] => some ([], [])
  | r :: rs => match (match r with
      | .tmp t => (evS E.G st.slots [] (.tmp t)).map fun e => (e, ([] : List Nd))
      | .cell a T => match evS E.G st.slots [] (.tmp a) with
        | some e => (sLoad E.P (look st.own) T e).map fun x => (x.1, chkNds [] x.2)
        | none => none), resSE E st rs with
    | some (e, ns), some (es, ms) => some (e :: es, ns ++ ms)
    | _, _ => none
def resVal (E : Env) (st : St) (rs : Array ResultVar) : Option (SE × List Nd) :=
  match resSE E st rs.toList with
  | some ([e], ns) => some (e, ns)
  | some (es, ns) => some (.tup es, ns)
  | none => none

/-! ### Own rows that become immutable -/
def SE.isRef : SE → Bool
  | .ref _ _ => true
  | _ => false
mutual
def SE.fz (n j : Nat) (e : SE) : SE → Option SE
  | .row i => if i = j then (match e.isRef with
    | true => none
    | false => some e) else some (.row i)
  | .ptr i k => if i = j then (match e with
    | .ref cs 0 => some (.ref cs k)
    | _ => none) else some (.ptr i k)
  | .agg cs => (SE.fzs n j e cs).map .agg
  | .tup cs => (SE.fzs n j e cs).map .tup
  | .clo f a b => match SE.fzs n j e a, SE.fzs n j e b with
    | some a', some b' => some (.clo f a' b')
    | _, _ => none
  | x => if x.wf n (fun i => !Nat.beq i j) = true then some x else none
def SE.fzs (n j : Nat) (e : SE) : List SE → Option (List SE)
  | [] => some []
  | x :: xs => match SE.fz n j e x, SE.fzs n j e xs with
    | some y, some ys => some (y :: ys)
    | _, _ => none
end
def mapSlots (f : Ent → Option Ent) : List (Nat × Ent) → List (Nat × Ent)
  | [] => []
  | (d, e) :: r => match f e with
    | some e' => (d, e') :: mapSlots f r
    | none => (mapSlots f r).filter fun x => !Nat.beq x.1 d
def OS.fz (n j : Nat) (e : SE) : OS → Option OS
  | .box cs => (SE.fzs n j e cs).map .box
  | o => if o.wf n (fun i => !Nat.beq i j) = true then some o else none
def fzOwn (n j : Nat) (e : SE) : Own → Option Own
  | [] => some []
  | (i, o) :: r => match fzOwn n j e r with
    | none => none
    | some r' => if i = j then some ((i, .gone) :: r') else match OS.fz n j e o with
      | some o' => some ((i, o') :: r')
      | none => none
def Ent.fz (n j : Nat) (e : SE) (en : Ent) : Option Ent :=
  if pcsWf n (fun i => !Nat.beq i j) en.pcs = true then match SE.fz n j e en.se with
    | some se => some ⟨en.pcs, se⟩
    | none => none
  else none
/-- What it is from then on. -/
def frzSE : Option OS → Option SE
  | some (.row _ e) => if (e.noOwn && !e.isRef) = true then some e else none
  | some (.box cs) => if SE.noOwns cs = true then some (.ref cs 0) else none
  | _ => none
def freeze (st : St) (j : Nat) : Option St :=
  match frzSE (look st.own j) with
  | some e => match fzOwn st.nenv j e st.own with
      | some own' => some { st with own := own', slots := mapSlots (Ent.fz st.nenv j e) st.slots }
      | none => none
  | none => none

mutual
def SE.rows : SE → List Nat
  | .row i => [i]
  | .agg cs | .tup cs | .mp _ _ cs | .ref cs _ | .app _ cs => SE.rowss cs
  | .clo _ a b => SE.rowss a ++ SE.rowss b
  | _ => []
def SE.rowss : List SE → List Nat
  | [] => []
  | e :: es => SE.rows e ++ SE.rowss es
end
/-- The own rows that a call takes over. -/
def frzTargets (E : Env) (st : St) (pcs : List (SE × Bool)) (o : Oper) : List Nat :=
  match o.op with
  | .call { callee := .value f, args := xs, argTypes := _ } => match evS E.G st.slots pcs f, evAll (evS E.G st.slots pcs) xs.toList with
    | some (.clo fid fs cs), some es => if (E.scal fid || E.inl fid || E.srt fid || E.cpt fid || Nat.blt 0 (E.del fid)) = true then [] else SE.rowss (fs ++ es ++ cs)
    | _, _ => []
  | .buildSlice _ _ parts => match evAll (evS E.G st.slots pcs) (parts.toList.map (·.2)) with
    | some es => SE.rowss es
    | _ => []
  | .slice t x lo hi _ => if (lo.isNone && hi.isNone) = true then [] else match E.P.underlying t, evS E.G st.slots pcs x with
    | some (.array _ _), some (.ptr i _) => [i]
    | _, _ => []
  | _ => []
def frz : List Nat → St → St
  | [], st => st
  | j :: js, st => frz js (match freeze st j with
    | some st' => st'
    | none => st)

/-- The callee, when it is to be walked in place. -/
def inlCall (E : Env) (st : St) (pcs : List (SE × Bool)) (o : Oper) : Option (Nat × Func × Code × List SE) :=
  match o.op with
  | .call { callee := .value f, args := xs, argTypes := _ } => match evS E.G st.slots pcs f, evAll (evS E.G st.slots pcs) xs.toList with
    | some (.clo fid fs cs), some es =>
      if E.inl fid = true ∧ callOk E.P fid = true then match E.P.funcs[fid]? with
        | some fn => match fn.body with
          | some c => some (fid, fn, c, fs ++ es ++ cs)
          | none => none
        | none => none
      else none
    | _, _ => none
  | _ => none

/-- A row of integers that is sorted: the function, the row, what it holds. -/
def srtCall (E : Env) (st : St) (o : Oper) : Option (Nat × Nat × SE) :=
  match o.op with
  | .call { callee := .value f, args := xs, argTypes := _ } => match evS E.G st.slots [] f, evAll (evS E.G st.slots []) xs.toList with
    | some (.clo fid [] []), some [.row i] => if E.srt fid = true ∧ callOk E.P fid = true then match look st.own i with
        | some (.row 1 e) => some (fid, i, e)
        | _ => none
      else none
    | _, _ => none
  | _ => none

/-- A row of integers that is compacted. -/
def cmpCall (E : Env) (st : St) (o : Oper) : Option (Nat × Nat × SE) :=
  match o.op with
  | .call { callee := .value f, args := xs, argTypes := _ } => match evS E.G st.slots [] f, evAll (evS E.G st.slots []) xs.toList with
    | some (.clo fid [] []), some [.row i] => if (E.cpt fid = true ∧ callOk E.P fid = true) ∧ (look st.own st.nid).isNone = true then match look st.own i with
        | some (.row 1 e) => some (fid, i, e)
        | _ => none
      else none
    | _, _ => none
  | _ => none

/-- A row from which a part is cut: what it holds then; what is asked. -/
def delSE (e lo hi : SE) : SE := .app .app [.app (.slice false true) [e, lo], .app (.slice true false) [e, hi]]
def delNds (sz : Nat) (e lo hi : SE) : List Nd :=
  [.chk [] (.szs sz) [e], .chk [] .app [e, .nils], .chk [] (.bin .add) [lo, .int .i64 1], .chk [] (.bin .lss) [hi, .int .i64 0], .chk [] (.slice true true) [e, lo, hi], .chk [] (.slice true true) [e, .app (.bin .add) [lo, .int .i64 1], hi]]
def delCall (E : Env) (st : St) (o : Oper) : Option (Nat × Nat × Nat × SE × SE × SE) :=
  match o.op with
  | .call { callee := .value f, args := xs, argTypes := _ } => match evS E.G st.slots [] f, evAll (evS E.G st.slots []) xs.toList with
    | some (.clo fid [] []), some [.row i, lo, hi] => if (Nat.blt 0 (E.del fid) = true ∧ callOk E.P fid = true) ∧ (look st.own st.nid).isNone = true then match look st.own i with
        | some (.row sz e) => if Nat.beq sz (E.del fid) = true ∧ (delSE e lo hi).wf st.nenv (look (putOwn st.own i .gone)).dom = true then some (fid, i, sz, e, lo, hi) else none
        | _ => none
      else none
    | _, _ => none
  | _ => none

def argSlots : Nat → List SE → List (Nat × Ent)
  | _, [] => []
  | i, e :: es => (i, ⟨[], e⟩) :: argSlots (i + 1) es

/-- The callee, when it is a choice. -/
def calleePick (E : Env) (st : St) (pcs : List (SE × Bool)) (o : Oper) : Option SE :=
  match o.op with
  | .call { callee := .value f, args := _, argTypes := _ } => match evS E.G st.slots pcs f with
    | some (.app .pick [c, _, _]) => some c
    | _ => none
  | _ => none

def OS.isReady : Option OS → Bool
  | some (.loop .ready) => true
  | _ => false
def OS.isBusy : Option OS → Bool
  | some (.loop .busy) => true
  | _ => false

/-- The marks' blocks are shut. -/
def leaveOwn : List Nat → Own → Option Own
  | [], own => some own
  | i :: r, own => match look own i with
    | some .dfr => leaveOwn r (putOwn own i .gone)
    | _ => none

def findY : List (Nat × Rnd) → Nat → Option Rnd
  | [], _ => none
  | (j, e) :: r, i => if Nat.beq i j then some e else findY r i

/-- A call of yield: the loop, the values. -/
def yieldCall (E : Env) (Y : List (Nat × Rnd)) (st : St) (o : Oper) : Option (Nat × Rnd × List SE) :=
  match o.op with
  | .call { callee := .value f, args := xs, argTypes := _ } => match evS E.G st.slots [] f, evAll (evS E.G st.slots []) xs.toList with
    | some (.yield l), some es => match findY Y l with
      | some r => if (Nat.beq r.ps.length es.length && r.ps.all fun p => decide (p < r.sz)) = true then some (l, r, es) else none
      | none => none
    | _, _ => none
  | _ => none

def setSlots (slots : List (Nat × Ent)) : List (Nat × SE) → List (Nat × Ent)
  | [] => slots
  | (p, e) :: r => setSlots (setSlot slots p ⟨[], e⟩) r

/-- How a round is left: the record behind it; what yield hands back. -/
def roundEnd : KE → LSt × Bool
  | .normal => (.ready, true)
  | .ret => (.doneRet, false)
  | .exit j => (.doneExit j, false)
  | .goto l => (.doneGoto l, false)

/-- What an operation would work on, told. -/
def opInfo (E : Env) (st : St) (pcs : List (SE × Bool)) (o : Oper) : List SE :=
  let ev (x : Operand) : SE := (evS E.G st.slots pcs x).getD (.yield 99)
  match o.op with
  | .call { callee := .value f, args := xs, argTypes := _ } => .int .i64 1 :: ev f :: xs.toList.map ev
  | .call { callee := _, args := xs, argTypes := _ } => .int .i64 2 :: xs.toList.map ev
  | .binOp _ _ x y _ => [.int .i64 3, ev x, ev y]
  | .slice _ x _ _ _ => [.int .i64 4, ev x]
  | .load _ x => [.int .i64 5, ev x]
  | .store _ x y => [.int .i64 6, ev x, ev y]
  | .fieldAddr _ x _ => [.int .i64 7, ev x]
  | .indexAddr _ x y => [.int .i64 8, ev x, ev y]
  | _ => [.int .i64 9]

def sxDo (E : Env) (Y : List (Nat × Rnd)) (rec : Bool → Nat → Code → St → Kont → RT) (pcs : List (SE × Bool)) (o : Oper) (k : St → RT) : Nat → St → RT
  | 0, _ => .dead 1 []
  | m + 1, st0 =>
    let st := frz (frzTargets E st0 pcs o) st0
    match calleePick E st pcs o with
    | some c => splitSE c st (sxDo E Y rec pcs o k m) (sxDo E Y rec pcs o k m)
    | none => match yieldCall E Y st o with
      | some (l, r, es) => if OS.isReady (look st.own l) = true then
          rec true r.fn r.assign ⟨r.sz, setSlots r.slots (r.ps.zip es), st.own, st.nenv, st.nid, []⟩ fun ke st2 => match ke with
            | .normal => if OS.isReady (look st2.own l) = true then
                rec true r.fn r.body { st2 with own := putOwn st2.own l (.loop .busy) } fun ke st3 =>
                  if OS.isBusy (look st3.own l) = true then match ({ st with own := putOwn st3.own l (.loop (roundEnd ke).1), nenv := st3.nenv, nid := st3.nid } : St).put o.dst ⟨[], .bool (roundEnd ke).2⟩ with
                    | some st'' => k st''
                    | none => .dead 30 []
                  else .dead 31 []
              else .dead 32 []
            | _ => .dead 33 []
        else .dead 34 []
      | none => match srtCall E st o with
       | some (_, i, e) => match ({ st with own := putOwn st.own i (.row 1 (.inp st.nenv)), nenv := st.nenv + 1 } : St).put o.dst ⟨[], .tup []⟩ with
         | some st'' => seg [.srt st.nenv e] (k st'')
         | none => .dead 40 []
       | none => match cmpCall E st o with
       | some (_, i, e) => match ({ st with own := putOwn (putOwn st.own i .gone) st.nid (.row 1 (.inp st.nenv)), nenv := st.nenv + 1, nid := st.nid + 1 } : St).put o.dst ⟨[], .row st.nid⟩ with
         | some st'' => seg [.cmp st.nenv e] (k st'')
         | none => .dead 41 []
       | none => match delCall E st o with
       | some (_, i, sz, e, lo, hi) => match ({ st with own := putOwn (putOwn st.own i .gone) st.nid (.row sz (delSE e lo hi)), nid := st.nid + 1 } : St).put o.dst ⟨[], .row st.nid⟩ with
         | some st'' => seg (delNds sz e lo hi) (k st'')
         | none => .dead 47 []
       | none => match inlCall E st pcs o with
        | some (fid, fn, c, args) =>
          rec false fid c ⟨args.length + (fn.ntmps - args.length), argSlots 0 args, st.own, st.nenv, st.nid, []⟩ fun ke st1 =>
            match ke with
            | .normal | .ret => match leaveOwn st1.marks st1.own with
              | some own1 => match resVal E { st1 with own := own1 } fn.results with
                | some (e, ns) => if e.wf st1.nenv (look own1).dom = true then match ({ st with own := own1, nenv := st1.nenv, nid := st1.nid } : St).put o.dst ⟨[], e⟩ with
                  | some st'' => seg ns (k st'')
                  | none => .dead 2 [] else .dead 3 []
                | none => .dead 4 []
              | none => .dead 35 []
            | _ => .dead 5 []
        | none => match stepSt E pcs o st with
          | none => .dead 6 (opInfo E st pcs o)
          | some (s, st') => match st'.put o.dst ⟨pcs, val2 E s st.nenv⟩ with
            | none => .dead 7 []
            | some st'' => seg (nodes2 E s st.nenv pcs) (k st'')


def mild (E : Env) (pcs : List (SE × Bool)) (o : Oper) (st : St) : Bool :=
  (calleePick E st pcs o).isNone && (inlCall E st pcs o).isNone && match sOp E.P (look st.own) (evS E.G st.slots pcs) st.nenv st.nid o.op with
    | some s => s.dl.isEmpty
    | none => false

/-- One operation of a region that goes in order. -/
def sxOper (E : Env) (Y : List (Nat × Rnd)) (rec : Bool → Nat → Code → St → Kont → RT) (ops : Array Oper) (o : Oper) (st : St) (k : St → RT) : RT :=
  match guardOf ops st.slots o with
  | none => .dead 8 []
  | some .never => match st.put o.dst ⟨[], .undef⟩ with
    | some st' => k st'
    | none => .dead 9 []
  | some (.when pcs) =>
    match o.op with
    | .pick c a b => match sPick E st.slots pcs c a b with
      | some (e, ns) => if e.wf st.nenv (look st.own).dom = true ∧ pcsWf st.nenv (look st.own).dom pcs = true then match st.put o.dst ⟨pcs, e⟩ with
        | some st' => seg ns (k st')
        | none => .dead 10 [] else .dead 11 []
      | none => .dead 12 []
    | _ =>
      if pcs.isEmpty = true then sxDo E Y rec [] o k 16 st
      else if mild E pcs o (frz (frzTargets E st pcs o) st) = true then match stepSt E pcs o (frz (frzTargets E st pcs o) st) with
        | none => .dead 6 []
        | some (s, st') => match st'.put o.dst ⟨pcs, val2 E s st.nenv⟩ with
          | none => .dead 7 []
          | some st'' => seg (nodes2 E s st.nenv pcs) (k st'')
      else splitOn pcs st (fun st => sxDo E Y rec [] o k 16 st) (fun st => match st.put o.dst ⟨[], .undef⟩ with
        | some st' => k st'
        | none => .dead 13 [])

def sxOps (E : Env) (Y : List (Nat × Rnd)) (rec : Bool → Nat → Code → St → Kont → RT) (ops : Array Oper) : List Nat → St → (St → RT) → RT
  | [], st, k => k st
  | i :: is, st, k => match ops[i]? with
    | none => .dead 14 []
    | some o => sxOper E Y rec ops o st fun st' => sxOps E Y rec ops is st' k

/-! ### Regions that draw their order -/
def Ent.beq (a b : Ent) : Bool := pcsBeq a.pcs b.pcs && SE.beq a.se b.se
def slotsBeq : List (Nat × Ent) → List (Nat × Ent) → Bool
  | [], [] => true
  | a :: as, b :: bs => Nat.beq a.1 b.1 && Ent.beq a.2 b.2 && slotsBeq as bs
  | _, _ => false
def ownBeq : Own → Own → Bool
  | [], [] => true
  | a :: as, b :: bs => Nat.beq a.1 b.1 && OS.beq a.2 b.2 && ownBeq as bs
  | _, _ => false
def St.beq (a b : St) : Bool := Nat.beq a.sz b.sz && slotsBeq a.slots b.slots && ownBeq a.own b.own && Nat.beq a.nenv b.nenv && Nat.beq a.nid b.nid && decide (a.marks = b.marks)
def Nd.beq : Nd → Nd → Bool
  | .chk p o a, .chk p' o' a' => pcsBeq p p' && decide (o = o') && SE.beqs a a'
  | .call n p f a b, .call n' p' f' a' b' => Nat.beq n n' && pcsBeq p p' && Nat.beq f f' && SE.beqs a a' && (b == b')
  | .same n p e, .same n' p' e' => Nat.beq n n' && pcsBeq p p' && SE.beq e e'
  | .cmp n e, .cmp n' e' => Nat.beq n n' && SE.beq e e'
  | _, _ => false
def ndsBeq : List Nd → List Nd → Bool
  | [], [] => true
  | a :: as, b :: bs => Nd.beq a b && ndsBeq as bs
  | _, _ => false

/-- All that the questions name is there when they are asked. -/
def ndsWf : Nat → List Nd → Bool
  | _, [] => true
  | n, .chk pcs _ args :: r => pcsWf n (fun _ => true) pcs && SE.wfs n (fun _ => true) args && ndsWf n r
  | n, .call m pcs _ args _ :: r => Nat.beq m n && pcsWf n (fun _ => true) pcs && SE.wfs n (fun _ => true) args && ndsWf (n + 1) r
  | n, .same m pcs e :: r => Nat.blt m n && pcsWf n (fun _ => true) pcs && e.wf n (fun _ => true) && ndsWf n r
  | _, .isNil _ _ _ :: _ => false
  | _, .srt _ _ :: _ => false
  | n, .cmp m e :: r => Nat.beq m n && e.wf n (fun _ => true) && ndsWf (n + 1) r
  | _, .bind _ _ :: _ => false

/-- By what is known. -/
def knows (kn : List (SE × Bool)) (e : SE) : SE := kn.foldr (fun x e => SE.assume x.1 x.2 20 e) e
/-- One operation, its things numbered by its place. -/
def drawStep (E : Env) (B : Nat) (ops : Array Oper) (i : Nat) (st : St) : Option (St × List Nd) :=
  match ops[i]? with
  | none => none
  | some o => match guardOf ops st.slots o with
    | none => none
    | some .never => match st.put o.dst ⟨[], .undef⟩ with
      | some st' => some (st', [])
      | none => none
    | some (.when pcs) => match o.op with
      | .pick c a b => match sPick E st.slots pcs c a b with
        | some (e, ns) => if e.wf st.nenv (look st.own).dom = true ∧ pcsWf st.nenv (look st.own).dom pcs = true then match st.put o.dst ⟨pcs, e⟩ with
          | some st' => some (st', ns)
          | none => none else none
        | none => none
      | _ => match (match pcs with
          | [] => cmpCall E { st with nid := B + 2 * i } o
          | _ => none) with
       | some (_, j, e) => match ({ st with own := putOwn (putOwn st.own j .gone) (B + 2 * i) (.row 1 (.inp st.nenv)), nenv := st.nenv + 1, nid := B } : St).put o.dst ⟨[], .row (B + 2 * i)⟩ with
         | some st'' => some (st'', [.cmp st.nenv e])
         | none => none
       | none => match stepSt E pcs o { frz (frzTargets E st pcs o) st with nid := B + 2 * i } with
        | some (s, st') => if s.nil.isNone = true ∧ (pcs.isEmpty || s.dl.isEmpty) = true then match ({ st' with nid := B } : St).put o.dst ⟨pcs, knows E.kn (val2 E s st.nenv)⟩ with
          | some st'' => some (st'', nodes2 E s st.nenv pcs)
          | none => none else none
        | none => none

/-- Which operation stops a region, told. -/
def drawInfo (E : Env) (B : Nat) (ops : Array Oper) : List Nat → St → List SE
  | [], _ => []
  | i :: is, st => match drawStep E B ops i st with
    | some (st', _) => drawInfo E B ops is st'
    | none => .int .i64 i :: match ops[i]? with
      | some o => opInfo E st [] o
      | none => []
def drawText (E : Env) (B : Nat) (ops : Array Oper) : List Nat → St → Option (St × List (List Nd))
  | [], st => some (st, [])
  | i :: is, st => match drawStep E B ops i st with
    | some (st', ns) => match drawText E B ops is st' with
      | some (st'', N) => some (st'', ns :: N)
      | none => none
    | none => none

def predMask (o : Oper) : Nat := o.after.toList.foldr (fun e s => if Region.binds .any e then s ||| (1 <<< e.on) else s) 0
def predAt (ops : Array Oper) (i : Nat) : Nat := match ops[i]? with
  | some o => predMask o
  | none => 0
def preds (ops : Array Oper) : List (Nat × Nat) := (List.range ops.size).map fun i => (i, predAt ops i)
def bitOf (X i : Nat) : Bool := Nat.beq ((X >>> i) % 2) 1
def rdy (pm : List (Nat × Nat)) (X : Nat) : List Nat := (pm.filter fun p => !bitOf X p.1 && Nat.beq (p.2 &&& X) p.2).map (·.1)

def insM (X : Nat) (st : St) : List (Nat × St) → Option (List (Nat × St))
  | [] => some [(X, st)]
  | (Y, s) :: r => if Nat.beq X Y = true then (if St.beq st s = true then some ((Y, s) :: r) else none) else match insM X st r with
    | some r' => some ((Y, s) :: r')
    | none => none

def stepAll (E : Env) (B : Nat) (ops : Array Oper) (N : List (List Nd)) (X : Nat) (st : St) : List Nat → List (Nat × St) → Option (List (Nat × St))
  | [], acc => some acc
  | i :: is, acc => match drawStep E B ops i st with
    | some (st', ns) => if ndsBeq ns (N.getD i []) = true then match insM (X ||| (1 <<< i)) st' acc with
      | some acc' => stepAll E B ops N X st is acc'
      | none => none else none
    | none => none

def layer (E : Env) (B : Nat) (ops : Array Oper) (pm : List (Nat × Nat)) (N : List (List Nd)) : List (Nat × St) → List (Nat × St) → Option (List (Nat × St))
  | [], acc => some acc
  | (X, st) :: r, acc => match stepAll E B ops N X st (rdy pm X) acc with
    | some acc' => layer E B ops pm N r acc'
    | none => none

def explore (E : Env) (B : Nat) (ops : Array Oper) (pm : List (Nat × Nat)) (N : List (List Nd)) (fin : St) : Nat → List (Nat × St) → Bool
  | 0, fr => fr.all fun x => (rdy pm x.1).isEmpty && St.beq x.2 fin
  | k + 1, fr => (fr.all fun x => !(rdy pm x.1).isEmpty || St.beq x.2 fin) && match layer E B ops pm N fr [] with
    | some fr' => explore E B ops pm N fin k fr'
    | none => false

/-! ### What only reads: the orders of such operations need not be told apart -/
def opReads (o : Oper) : Bool := match o.op with
  | .move _ => true
  | .load _ _ => true
  | .binOp .. => true
  | .unOp .. => true
  | .pick .. => true
  | .extract .. => true
  | .build .. => true
  | .convert .. => true
  | .field .. => true
  | .index .. => true
  | .fieldAddr .. => true
  | .indexAddr .. => true
  | .nilCheck _ => true
  | .call { callee := .builtin .len, args := _, argTypes := _ } => true
  | _ => false
abbrev Flt := List (Nat × Nat × Ent)
def fltOf (ops : Array Oper) (fin : St) : List Nat → Flt
  | [] => []
  | i :: is => match ops[i]? with
    | some o => if opReads o = true then match o.dst with
        | some d => match findE fin.slots d with
          | some e => (i, d, e) :: fltOf ops fin is
          | none => fltOf ops fin is
        | none => fltOf ops fin is
      else fltOf ops fin is
    | none => fltOf ops fin is
def fltMask (fs : Flt) : Nat := fs.foldr (fun x m => m ||| (1 <<< x.1)) 0
def addF (m : Nat) : Flt → List (Nat × Ent) → List (Nat × Ent)
  | [], s => s
  | x :: r, s => addF m r (if bitOf m x.1 = true then setSlot s x.2.1 x.2.2 else s)
def withF (fs : Flt) (m : Nat) (st : St) : St := { st with slots := addF m fs st.slots }
def dropF (fs : Flt) (st : St) : St := { st with slots := st.slots.filter fun x => !(fs.any fun f => Nat.beq f.2.1 x.1) }
def opDst (ops : Array Oper) (i : Nat) : Option Nat := (ops[i]?).bind (·.dst)
def isDst (d : Nat) : Option Nat → Bool
  | some j => Nat.beq j d
  | none => false
def fltApart (ops : Array Oper) (fs : Flt) : Bool :=
  fs.all fun x => isDst x.2.1 (opDst ops x.1) && (List.range ops.size).all fun j => Nat.beq j x.1 || !isDst x.2.1 (opDst ops j)
def subs (p m : Nat) : Bool := Nat.beq (p &&& m) p
/-- What must have come ahead. -/
def closs : List (Nat × Nat) → List (Nat × Nat) → List (Nat × Nat)
  | [], acc => acc
  | (i, p) :: r, acc => closs r ((i, acc.foldl (fun m x => if bitOf p x.1 = true then m ||| x.2 else m) p) :: acc)
def findN : List (Nat × Nat) → Nat → Option Nat
  | [], _ => none
  | (j, t) :: r, i => if Nat.beq i j = true then some t else findN r i
def rdyC (T : List (Nat × Nat)) (F X : Nat) : List Nat := (T.filter fun p => !bitOf F p.1 && !bitOf X p.1 && subs p.2 (X ||| F)).map (·.1)
def settled (T : List (Nat × Nat)) (X i : Nat) : Bool := T.any fun q => bitOf X q.1 && bitOf q.2 i
def fStep (E : Env) (B : Nat) (ops : Array Oper) (N : List (List Nd)) (fs : Flt) (st : St) (x : Nat × Nat × Ent) : Bool :=
  (findE st.slots x.2.1).isNone && match drawStep E B ops x.1 (withF fs (predAt ops x.1) st) with
  | some (st', ns) => ndsBeq ns (N.getD x.1 []) && ownBeq st'.own st.own && Nat.beq st'.nenv st.nenv && match findE st'.slots x.2.1 with
    | some e => Ent.beq e x.2.2
    | none => false
  | none => false
def fSteps (E : Env) (B : Nat) (ops : Array Oper) (N : List (List Nd)) (fs : Flt) (T : List (Nat × Nat)) (F X : Nat) (st : St) : Bool :=
  fs.all fun x => match findN T x.1 with
    | some t => !subs t (X ||| F) || settled T X x.1 || fStep E B ops N fs st x
    | none => false
def stepAllF (E : Env) (B : Nat) (ops : Array Oper) (N : List (List Nd)) (fs : Flt) (X : Nat) (st : St) : List Nat → List (Nat × St) → Option (List (Nat × St))
  | [], acc => some acc
  | i :: is, acc => match drawStep E B ops i (withF fs (predAt ops i) st) with
    | some (st', ns) => if ndsBeq ns (N.getD i []) = true then match insM (X ||| (1 <<< i)) (dropF fs st') acc with
      | some acc' => stepAllF E B ops N fs X st is acc'
      | none => none else none
    | none => none
def layerF (E : Env) (B : Nat) (ops : Array Oper) (N : List (List Nd)) (fs : Flt) (T : List (Nat × Nat)) (F : Nat) : List (Nat × St) → List (Nat × St) → Option (List (Nat × St))
  | [], acc => some acc
  | (X, st) :: r, acc => match stepAllF E B ops N fs X st (rdyC T F X) acc with
    | some acc' => layerF E B ops N fs T F r acc'
    | none => none
def hereF (E : Env) (B : Nat) (ops : Array Oper) (N : List (List Nd)) (fin : St) (fs : Flt) (T : List (Nat × Nat)) (F : Nat) (x : Nat × St) : Bool :=
  fSteps E B ops N fs T F x.1 x.2 && (!(T.all fun p => bitOf F p.1 || bitOf x.1 p.1) || St.beq (withF fs F x.2) fin)
def xplore (E : Env) (B : Nat) (ops : Array Oper) (N : List (List Nd)) (fin : St) (fs : Flt) (T : List (Nat × Nat)) (F : Nat) : Nat → List (Nat × St) → Bool
  | 0, fr => fr.all fun x => hereF E B ops N fin fs T F x && (rdyC T F x.1).isEmpty
  | k + 1, fr => (fr.all fun x => hereF E B ops N fin fs T F x) && match layerF E B ops N fs T F fr [] with
    | some [] => true
    | some fr' => xplore E B ops N fin fs T F k fr'
    | none => false
def xplores (E : Env) (B : Nat) (ops : Array Oper) (N : List (List Nd)) (fin st : St) (fs : Flt) : Bool :=
  fltApart ops fs && ((preds ops).all fun p => Nat.blt p.2 (1 <<< p.1)) && xplore E B ops N fin fs (closs (preds ops) []) (fltMask fs) ops.size [(0, dropF fs st)]

/-- What is taken for immutable from a region on that copies. -/
def drawFrz (ops : Array Oper) (st : St) : List Nat :=
  if (ops.toList.any fun o => match o.op with | .call { callee := .builtin .copy, args := _, argTypes := _ } => true | _ => false) = true then
    ops.toList.filterMap fun o => match o.op with
      | .fieldAddr _ (.tmp t) _ => match findE st.slots t with
        | some ⟨[], .ptr i _⟩ => some i
        | _ => none
      | _ => none
  else if (ops.toList.any fun o => match o.op with | .call { callee := .builtin .append, args := _, argTypes := _ } => true | _ => false) = true ∧ (ops.toList.any fun o => match o.op with | .slice _ _ lo _ _ => lo.isSome | _ => false) = true then
    st.own.filterMap fun x => match x.2 with
      | .row _ _ => some x.1
      | _ => none
  else []
def sxDraw1 (E : Env) (ops : Array Oper) (st : St) (k : St → RT) : RT :=
  match drawText E st.nid ops (List.range ops.size) st with
  | some (fin, N) => if (xplores E st.nid ops N fin st (fltOf ops fin (List.range ops.size)) || explore E st.nid ops (preds ops) N fin ops.size [(0, st)]) = true then if ndsWf st.nenv N.flatten = true then
      seg N.flatten (k { fin with nid := st.nid + 2 * ops.size }) else .dead 15 [] else .dead 16 []
  | none => .dead 17 (drawInfo E st.nid ops (List.range ops.size) st)
/-- The choice on which a region's call waits. -/
def pickIn (E : Env) (B : Nat) (ops : Array Oper) : List Nat → St → Option SE
  | [], _ => none
  | i :: is, st => match drawStep E B ops i st with
    | some (st', _) => pickIn E B ops is st'
    | none => match ops[i]? with
      | some o => calleePick E st [] o
      | none => none
def sxDrawK (E : Env) (ops : Array Oper) (st : St) (k : St → RT) : Nat → List (SE × Bool) → RT
  | 0, kn => sxDraw1 { E with kn := kn } ops st k
  | m + 1, kn => match pickIn { E with kn := kn } st.nid ops (List.range ops.size) st with
    | some c => if c.wf st.nenv (fun _ => true) = true then .cond c (sxDrawK E ops st k m ((c, true) :: kn)) (sxDrawK E ops st k m ((c, false) :: kn)) else .dead 18 []
    | none => sxDraw1 { E with kn := kn } ops st k
def sxDraw (E : Env) (ops : Array Oper) (st : St) (k : St → RT) : RT := sxDrawK E ops (frz (drawFrz ops st) st) k 8 []

/-! ### Names for great things -/
mutual
def SE.sz : SE → Nat
  | .agg cs | .tup cs | .mp _ _ cs | .ref cs _ | .app _ cs => SE.szs cs + 1
  | .clo _ a b => SE.szs a + SE.szs b + 1
  | .ptrx _ _ e _ _ _ | .rptr _ e _ _ => SE.sz e + 1
  | _ => 1
def SE.szs : List SE → Nat
  | [] => 0
  | e :: es => SE.sz e + SE.szs es
end
/-- The great things in it. -/
def SE.greats (T : Nat) : Nat → SE → List SE
  | 0, _ => []
  | n + 1, e => match e with
    | .app o cs => if Nat.blt T (SE.szs cs) = true then [.app o cs] else []
    | .agg cs | .tup cs | .ref cs _ => cs.flatMap (SE.greats T n)
    | .clo _ a b => a.flatMap (SE.greats T n) ++ b.flatMap (SE.greats T n)
    | _ => []
def isIn (e : SE) : List SE → Bool
  | [] => false
  | x :: xs => SE.beq e x || isIn e xs
def dedup : List SE → List SE → List SE
  | [], acc => acc
  | e :: es, acc => if isIn e acc = true then dedup es acc else dedup es (acc ++ [e])
def idxOf (e : SE) : List SE → Nat → Option Nat
  | [], _ => none
  | x :: xs, i => if SE.beq e x = true then some i else idxOf e xs (i + 1)
mutual
def SE.rp (C : List SE) (n : Nat) : SE → SE
  | .app o cs => match idxOf (.app o cs) C n with
    | some i => .inp i
    | none => .app o cs
  | .agg cs => .agg (SE.rps C n cs)
  | .tup cs => .tup (SE.rps C n cs)
  | .ref cs k => .ref (SE.rps C n cs) k
  | .clo f a b => .clo f (SE.rps C n a) (SE.rps C n b)
  | e => e
def SE.rps (C : List SE) (n : Nat) : List SE → List SE
  | [] => []
  | e :: es => SE.rp C n e :: SE.rps C n es
end
def OS.rp (C : List SE) (n : Nat) : OS → OS
  | .box cs => .box (SE.rps C n cs)
  | .row z e => .row z (SE.rp C n e)
  | o => o
def binds : Nat → List SE → List Nd
  | _, [] => []
  | n, e :: es => .bind n e :: binds (n + 1) es
def greatsOf (T : Nat) (st : St) : List SE :=
  (dedup (st.slots.flatMap (fun x => SE.greats T 4 x.2.se) ++ st.own.flatMap fun x => match x.2 with
    | .box cs => cs.flatMap (SE.greats T 4)
    | .row _ e => SE.greats T 4 e
    | _ => []) []).filter fun e => e.noOwn && e.wf st.nenv (look st.own).dom
def nameSt (C : List SE) (st : St) : St :=
  { st with slots := st.slots.map (fun x => (x.1, ⟨x.2.pcs, SE.rp C st.nenv x.2.se⟩)), own := st.own.map (fun x => (x.1, OS.rp C st.nenv x.2)), nenv := st.nenv + C.length }
def named (E : Env) (k : St → RT) (st : St) : RT :=
  match E.big with
  | 0 => k st
  | T + 1 => match greatsOf T st with
    | [] => k st
    | C => seg (binds st.nenv C) (k (nameSt C st))

/-! ### Loops' heads -/
/-- What an input of the head stands for now; the rows that are renamed: the head's number, and whose it is now (none: nil). -/
structure Bind where
  vals : List (Nat × SE)
  rows : List (Nat × Option Nat)
  deriving Inhabited, Repr

def findV : List (Nat × SE) → Nat → Option SE
  | [], _ => none
  | (j, e) :: r, i => if Nat.beq i j then some e else findV r i
def findR : List (Nat × Option Nat) → Nat → Option (Option Nat)
  | [], _ => none
  | (j, e) :: r, i => if Nat.beq i j then some e else findR r i

/-- A guess: what the head's inputs and rows stand for. -/
def guess1 (n0 id0 : Nat) (B : Bind) (eH e : SE) : Bind :=
  match eH with
  | .inp k => if n0 ≤ k then (match findV B.vals k with | none => { B with vals := (k, e.weak) :: B.vals } | some _ => B) else B
  | .row r => if id0 ≤ r then (match findR B.rows r with
      | none => match e with
        | .row r' => { B with rows := (r, some r') :: B.rows }
        | _ => { B with rows := (r, none) :: B.rows }
      | some _ => B) else B
  | _ => B
def guesses (n0 id0 : Nat) (B : Bind) : List SE → List SE → Bind
  | a :: as, b :: bs => guesses n0 id0 (guess1 n0 id0 B a b) as bs
  | _, _ => B

def guessSlots (n0 id0 : Nat) (st : St) (B : Bind) : List (Nat × Ent) → Bind
  | [] => B
  | (d, en) :: r => guessSlots n0 id0 st (match findE st.slots d with
      | some e => guess1 n0 id0 B en.se e.se
      | none => B) r
def guessOwn (n0 id0 : Nat) (st : St) (B : Bind) : Own → Bind
  | [] => B
  | (i, o) :: r =>
    let B' := match o with
      | .box cs => match look st.own i with
        | some (.box cs') => guesses n0 id0 B cs cs'
        | _ => B
      | .mapo _ _ vs => match look st.own i with
        | some (.mapo _ _ vs') => guesses n0 id0 B vs vs'
        | _ => B
      | _ => B
    guessOwn n0 id0 st B' r
/-- The rows' contents, when all rows are known. -/
def guessRows (n0 id0 : Nat) (st : St) (B : Bind) : Own → Bind
  | [] => B
  | (i, .row _ eH) :: r =>
    guessRows n0 id0 st (match findR B.rows i with
      | some (some j) => match look st.own j with
        | some (.row _ e) => guess1 n0 id0 B eH e
        | _ => B
      | some none => guess1 n0 id0 B eH .nils
      | none => match look st.own i with
        | some (.row _ e) => guess1 n0 id0 B eH e
        | _ => B) r
  | _ :: r => guessRows n0 id0 st B r
def guess (n0 id0 : Nat) (hdr st : St) : Bind := guessRows n0 id0 st (guessOwn n0 id0 st (guessSlots n0 id0 st ⟨[], []⟩ hdr.slots) hdr.own) hdr.own

/-- The value of the head stands for this one. -/
def agr (n0 id0 : Nat) (D0 : Nat → Bool) (B : Bind) (eH e : SE) : Bool :=
  match eH with
  | .inp k => if n0 ≤ k then (match findV B.vals k with
      | some v => SE.beq v e.weak
      | none => false) else SE.beq eH e
  | .row r => if id0 ≤ r then (match findR B.rows r with
      | some (some j) => SE.beq e (.row j)
      | some none => SE.beq e .enil
      | none => false) else SE.beq eH e && D0 r
  | eH => SE.beq eH e && eH.wf n0 D0
def agrs (n0 id0 : Nat) (D0 : Nat → Bool) (B : Bind) : List SE → List SE → Bool
  | [], [] => true
  | a :: as, b :: bs => agr n0 id0 D0 B a b && agrs n0 id0 D0 B as bs
  | _, _ => false
/-- The same, of a row's content. -/
def agrRow (n0 : Nat) (D0 : Nat → Bool) (B : Bind) (eH e : SE) : Bool :=
  match eH with
  | .inp k => if n0 ≤ k then (match findV B.vals k with
      | some v => SE.beq v e
      | none => false) else SE.beq eH e
  | eH => SE.beq eH e && eH.wf n0 D0

def agrOwn (n0 id0 : Nat) (D0 : Nat → Bool) (B : Bind) (st : St) (i : Nat) (o : OS) : Bool :=
  match o with
  | .gone => true
  | .row sz eH =>
    if id0 ≤ i then match findR B.rows i with
      | some (some j) => match look st.own j with
        | some (.row sz' e) => Nat.beq sz sz' && agrRow n0 D0 B eH e
        | _ => false
      | some none => agrRow n0 D0 B eH .nils
      | none => false
    else D0 i && match look st.own i with
      | some (.row sz' e) => Nat.beq sz sz' && agrRow n0 D0 B eH e
      | _ => false
  | .box cs => decide (i < id0) && D0 i && match look st.own i with
    | some (.box cs') => agrs n0 id0 D0 B cs cs'
    | _ => false
  | o => decide (i < id0) && D0 i && o.wf n0 D0 && match look st.own i with
    | some o' => OS.beq o o'
    | none => false

/-- No row has two names, none that is renamed keeps its old one. -/
def rowsApart (id0 : Nat) (hdr : St) : List (Nat × Option Nat) → Bool
  | [] => true
  | (_, some j) :: r => (decide (id0 ≤ j) || match look hdr.own j with
      | none | some .gone => true
      | some _ => false) && !(r.any fun x => match x.2 with | some k => Nat.beq k j | none => false) && rowsApart id0 hdr r
  | (_, none) :: r => rowsApart id0 hdr r

def hdrVals (B : Bind) (n0 : Nat) : Nat → List SE
  | 0 => []
  | k + 1 => hdrVals B n0 k ++ [(findV B.vals (n0 + k)).getD .undef]

/-- The state fits the head: what its inputs stand for. (n0, id0, own0: the inputs, the numbers, the own things at the loop's beginning.) -/
def fits (n0 id0 : Nat) (own0 : Own) (h : Hint) (st : St) : Option (List SE) :=
  let B := guess n0 id0 h.hdr st
  let vals := hdrVals B n0 h.len
  let D0 := (look own0).dom
  if (own0.all fun x => decide (x.1 < id0) && (look h.hdr.own x.1).isSome) = true ∧
     (h.hdr.slots.all fun x => x.2.pcs.isEmpty && match findE st.slots x.1 with
        | some en => en.pcs.isEmpty && agr n0 id0 D0 B x.2.se en.se
        | none => false) = true ∧
     (h.hdr.own.all fun x => agrOwn n0 id0 D0 B st x.1 x.2) = true ∧ rowsApart id0 h.hdr B.rows = true ∧
     SE.wfs st.nenv (look st.own).dom vals = true ∧ SE.noOwns vals = true ∧ h.hdr.nenv = n0 + h.len ∧ h.hdr.sz = st.sz ∧ h.hdr.marks = st.marks ∧ (h.hdr.marks.all fun i => (look h.hdr.own i).isSome) = true ∧
     (h.hdr.slots.all fun x => x.2.se.wf h.hdr.nenv (look h.hdr.own).dom) = true ∧ Own.wf h.hdr.nenv h.hdr.own = true
  then some vals else none

/-- The first head that it fits. -/
def pickHint (fn key n0 id0 : Nat) (own0 : Own) (st : St) : List Hint → Option (Hint × List SE)
  | [] => none
  | h :: hs => if (Nat.beq h.fn fn && Nat.beq h.key key) = true then match fits n0 id0 own0 h st with
      | some v => some (h, v)
      | none => pickHint fn key n0 id0 own0 st hs
    else pickHint fn key n0 id0 own0 st hs

/-- The number of a loop: the first region's within it. -/
def loopKey : Code → Nat
  | .region id _ _ => id
  | .seq a _ => loopKey a
  | .block _ c => loopKey c
  | .scope c => loopKey c
  | _ => 0

/-- A state, told. -/
def encSt (fn key d : Nat) (st : St) : List SE :=
  let i (n : Nat) : SE := .int .i64 n
  [i fn, i key, i d, i st.sz, i st.nenv, i st.nid, .tup (st.slots.map fun x => .tup [i x.1, if x.2.pcs.isEmpty then x.2.se else .yield 0]),
   .tup (st.own.map fun x => .tup [i x.1, match x.2 with
     | .box cs => .tup [i 0, .tup cs]
     | .row sz e => .tup [i 1, i sz, e]
     | .mapo kk ks vs => .tup [i 2, .int kk 0, .tup (ks.map fun n => .int .i64 n), .tup vs]
     | .gone => .tup [i 3]
     | .dfr => .tup [i 4]
     | .loop .ready => .tup [i 5]
     | .loop .busy => .tup [i 6]
     | .loop .doneRet => .tup [i 7]
     | .loop (.doneExit j) => .tup [i 8, i j]
     | .loop (.doneGoto j) => .tup [i 9, i j]]), .tup (st.marks.map i)]

/-- Does it jump there? -/
def hasGoto (l : Nat) : Code → Bool
  | .goto j => Nat.beq j l
  | .seq a b => hasGoto l a || hasGoto l b
  | .cond _ a b => hasGoto l a || hasGoto l b
  | .block _ c | .loop c | .scope c => hasGoto l c
  | .rangeFunc _ _ a b => hasGoto l a || hasGoto l b
  | _ => false
/-- A label to which is jumped back: its loop. -/
structure GLp where
  h : Hint
  n0 : Nat
  id0 : Nat
  own0 : Own
  d : Nat
def findGL (l : Nat) : List (Nat × GLp) → Option GLp
  | [] => none
  | (j, g) :: r => if Nat.beq j l = true then some g else findGL l r
def againGL (fn l d : Nat) (g : GLp) (st : St) : RT :=
  match fits g.n0 g.id0 g.own0 g.h st with
  | some vals => .again g.d vals
  | none => .dead 25 (encSt fn (1000000 + l) d st ++ [.int .i64 g.n0, .int .i64 g.id0])

/-- A scope: jumps to its labels go on there. -/
def scopeK (hints : List Hint) (fn : Nat) (run : Nat → Code → St → Kont → RT) (c : Code) : Nat → Nat → List (Nat × GLp) → Code → St → Kont → RT
  | 0, _, _, _, _, _ => .dead 20 []
  | n + 1, d, act, code, st, k => run d code st fun ke st' => match ke with
    | .goto l => match findLabel c l with
      | some rest => match findGL l act with
        | some g => againGL fn l d g st'
        | none => if hasGoto l rest = true then match pickHint fn (1000000 + l) st'.nenv st'.nid st'.own st' hints with
            | none => .dead 24 (encSt fn (1000000 + l) d st')
            | some (h, init) => .loop d st'.nenv init (scopeK hints fn run c n (d + 1) ((l, ⟨h, st'.nenv, st'.nid, st'.own, d⟩) :: act) rest h.hdr k)
          else scopeK hints fn run c n d act rest st' k
      | none => k (.goto l) st'
    | ke => k ke st'

/-- The function that is ranged over. -/
def rangeCallee (E : Env) (st : St) (g : Operand) : Option (Nat × Func × Code × List SE × List SE) :=
  match evS E.G st.slots [] g with
  | some (.clo fid fs cs) => if callOk E.P fid = true then match E.P.funcs[fid]? with
      | some fn => match fn.body with
        | some c => some (fid, fn, c, fs, cs)
        | none => none
      | none => none
    else none
  | _ => none

/-- Behind a range: the jump that a round has left. -/
def rangeEnd : Option OS → Option KE
  | some (.loop .ready) => some .normal
  | some (.loop .doneRet) => some .ret
  | some (.loop (.doneExit j)) => some (.exit j)
  | some (.loop (.doneGoto l)) => some (.goto l)
  | _ => none

/-- The rows that become immutable ahead of a loop. -/
def rowIds (E : Env) (fn key : Nat) (st : St) : List Nat :=
  if E.frzAt fn key = true then st.own.filterMap fun x => match x.2 with
    | .row _ _ => some x.1
    | _ => none
  else []

/-- THE EXECUTOR. -/
def sx (E : Env) : Nat → Nat → Bool → Nat → List (Nat × Rnd) → Code → St → Kont → RT
  | 0, _, _, _, _, _, _, _ => .dead 21 []
  | fuel + 1, d, rd, fn, Y, code, st, k =>
    match code with
    | .skip => k .normal st
    | .label _ => k .normal st
    | .region _ ops false => sxOps E Y (fun rd f c st k => sx E fuel d rd f Y c st k) ops (List.range ops.size) st (named E (k .normal))
    | .region _ ops true => sxDraw E ops st (named E (k .normal))
    | .seq x y => sx E fuel d rd fn Y x st fun ke st' => match ke with
      | .normal => sx E fuel d rd fn Y y st' k
      | ke => k ke st'
    | .cond c x y => match evS E.G st.slots [] c with
      | some (.bool true) => sx E fuel d rd fn Y x st k
      | some (.bool false) => sx E fuel d rd fn Y y st k
      | some e => splitSE e st (fun st => sx E fuel d rd fn Y x st k) (fun st => sx E fuel d rd fn Y y st k)
      | none => .dead 22 []
    | .block id c => sx E fuel d rd fn Y c st fun ke st' => match ke with
      | .exit j => if j = id then k .normal st' else k (.exit j) st'
      | ke => k ke st'
    | .exit id => k (.exit id) st
    | .goto l => k (.goto l) st
    | .ret => k .ret st
    | .scope c => scopeK E.hints fn (fun d x st k => sx E fuel d rd fn Y x st k) c fuel d [] c st k
    | .loop c0 => (fun (c : Code) (st : St) => match pickHint fn (loopKey c) st.nenv st.nid st.own st E.hints with
      | none => .dead 24 (encSt fn (loopKey c) d st)
      | some (h, init) => .loop d st.nenv init (sx E fuel (d + 1) rd fn Y c h.hdr fun ke st' => match ke with
            | .normal => match fits st.nenv st.nid st.own h st' with
              | some vals => .again d vals
              | none => .dead 25 (encSt fn (loopKey c) d st' ++ [.int .i64 st.nenv, .int .i64 st.nid])
            | ke => k ke st')) c0 (frz (rowIds E fn (loopKey c0) st) st)
    | .rangeFunc g ps assign body =>
      if rd = true then .dead 40 [] else
      if ((look st.own st.nid).isNone && (look st.own (st.nid + 1)).isNone) = true then
        match rangeCallee E st g with
        | some (fid, f, c, fs, cs) =>
          sx E fuel d false fid ((st.nid + 1, ⟨fn, st.sz, st.slots, ps.toList, assign, body⟩) :: Y) c
            ⟨(fs ++ [SE.yield (st.nid + 1)] ++ cs).length + (f.ntmps - (fs ++ [SE.yield (st.nid + 1)] ++ cs).length), argSlots 0 (fs ++ [SE.yield (st.nid + 1)] ++ cs),
              putOwn (putOwn st.own st.nid .dfr) (st.nid + 1) (.loop .ready), st.nenv, st.nid + 2, []⟩ fun ke st1 =>
            match ke with
            | .normal | .ret => match leaveOwn st1.marks st1.own with
              | some own1 => if f.results.isEmpty = true then match rangeEnd (look own1 (st.nid + 1)) with
                | some ke' => k ke' { st with own := putOwn own1 (st.nid + 1) .gone, nenv := st1.nenv, nid := st1.nid, marks := st.nid :: st.marks }
                | none => .dead 41 [] else .dead 42 []
              | none => .dead 43 []
            | _ => .dead 44 []
        | none => .dead 45 []
      else .dead 46 []
    | _ => .dead 26 []

/-- The end of a function. -/
def finK (E : Env) (fn : Func) : Kont := fun ke st => match ke with
  | .normal | .ret => match leaveOwn st.marks st.own with
    | some own1 => match resVal E { st with own := own1 } fn.results with
      | some (e, ns) => match viewSE (look own1) 200 e.weak with
        | some e' => seg ns (.ret e')
        | none => .dead 100 []
      | none => .dead 101 []
    | none => .dead 105 []
  | _ => .dead 102 []

/-- A function, walked whole. -/
def runF (E : Env) (f : Nat) (args : List SE) (nenv : Nat) : RT :=
  match E.P.funcs[f]? with
  | some fn => match fn.body with
    | some c => sx E 200 0 false f [] c ⟨args.length + (fn.ntmps - args.length), argSlots 0 args, [], nenv, 0, []⟩ (finK E fn)
    | none => .dead 103 []
  | none => .dead 104 []

end Go.Lb

namespace Go.Lb
open Go.RowKit

/-! ### Lists as tables -/
theorem findE_setSlot (s : List (Nat × Ent)) (d : Nat) (e : Ent) (i : Nat) : findE (setSlot s d e) i = if i = d then some e else findE s i := by
  induction s with
  | nil => simp only [setSlot, findE]; by_cases h : i = d <;> simp [h]
  | cons x s ih =>
    obtain ⟨j, y⟩ := x
    simp only [setSlot]
    split
    · simp only [findE]; by_cases h : i = d <;> simp [h]
    · split
      · rename_i h1
        have hd := Nat.eq_of_beq_eq_true h1
        subst hd
        simp only [findE]
        by_cases h : i = d <;> simp [h]
      · rename_i h1
        have hne : d ≠ j := fun h => h1 (by simp [h])
        simp only [findE]
        by_cases h : i = j
        · subst h; simp [Ne.symm hne]
        · simp [h, ih]

theorem look_putOwn (own : Own) (d : Nat) (o : OS) : look (putOwn own d o) = (look own).upd d o := by
  induction own with
  | nil => funext i; simp only [putOwn, look, Lk.upd]; by_cases h : i = d <;> simp [h]
  | cons x s ih =>
    obtain ⟨j, y⟩ := x
    simp only [putOwn]
    split
    · exact look_cons _ _ _
    · split
      · rename_i h1
        have hd := Nat.eq_of_beq_eq_true h1
        subst hd
        rw [look_cons, look_cons]
        funext i; simp only [Lk.upd]; by_cases h : i = d <;> simp [h]
      · rename_i h1
        have hne : d ≠ j := fun h => h1 (by simp [h])
        rw [look_cons, ih, look_cons]
        funext i; simp only [Lk.upd]
        by_cases h : i = j
        · subst h; simp [Ne.symm hne]
        · simp [h]

theorem look_putOwns (own : Own) (dl : List (Nat × OS)) : look (putOwns own dl) = upds (look own) dl := by
  unfold putOwns upds
  induction dl generalizing own with
  | nil => rfl
  | cons x dl ih => simp only [List.foldl_cons]; rw [ih, look_putOwn]

theorem upds_dom (L : Lk) (dl : List (Nat × OS)) (i : Nat) (h : L.dom i = true) : (upds L dl).dom i = true := by
  unfold upds
  induction dl generalizing L with
  | nil => exact h
  | cons x dl ih => simp only [List.foldl_cons]; exact ih _ (Lk.dom_upd _ _ _ _ h)

/-! ### Slots stay -/
theorem pcsWf_agree {n : Nat} {m : Nat → Bool} {ρ ρ' : Nat → AV} (ha : Agree n ρ ρ') {pcs : List (SE × Bool)} (hw : pcsWf n m pcs = true) : Holds ρ' pcs ↔ Holds ρ pcs := by
  unfold Holds
  constructor
  · intro h x hx
    have := List.all_eq_true.1 hw x hx
    rw [← den_agree ha x.1 this]; exact h x hx
  · intro h x hx
    have := List.all_eq_true.1 hw x hx
    rw [den_agree ha x.1 this]; exact h x hx

theorem pcsWf_mono {n n' : Nat} {m m' : Nat → Bool} (h : n ≤ n') (k : ∀ i, m i = true → m' i = true) {pcs : List (SE × Bool)} (hw : pcsWf n m pcs = true) : pcsWf n' m' pcs = true :=
  List.all_eq_true.2 fun x hx => SE.wf_mono h k (List.all_eq_true.1 hw x hx)

theorem SlotOk.keeps {c c' : Cx} {ρ ρ' : Nat → AV} {nenv nenv' : Nat} {D D' : Nat → Bool} {t t' : Array Value} {d : Nat} {e : Ent} (h : SlotOk c ρ nenv D t d e)
    (hc : c.Keeps D c') (ha : Agree nenv ρ ρ') (hρ : ∀ i, (ρ i).pure = true) (hn : nenv ≤ nenv') (hD : ∀ i, D i = true → D' i = true) (ht : t'[d]? = t[d]?) : SlotOk c' ρ' nenv' D' t' d e := by
  refine ⟨fun hp => ?_, fun hp => ?_, SE.wf_mono hn hD h.wf.1, pcsWf_mono hn hD h.wf.2⟩
  · obtain ⟨v, h1, h2⟩ := h.yes ((pcsWf_agree ha h.wf.2).1 hp)
    refine ⟨v, ht.trans h1, ?_⟩
    rw [den_agree ha _ h.wf.1]
    exact Rv_keeps hc h2 (den_under hρ _ h.wf.1)
  · exact ht.trans (h.no fun h' => hp ((pcsWf_agree ha h.wf.2).2 h'))

theorem SlotsOk.keeps {c c' : Cx} {ρ ρ' : Nat → AV} {nenv nenv' : Nat} {D D' : Nat → Bool} {t : Array Value} {s : List (Nat × Ent)} (h : SlotsOk c ρ nenv D t s)
    (hc : c.Keeps D c') (ha : Agree nenv ρ ρ') (hρ : ∀ i, (ρ i).pure = true) (hn : nenv ≤ nenv') (hD : ∀ i, D i = true → D' i = true) : SlotsOk c' ρ' nenv' D' t s :=
  fun d e hf => (h d e hf).keeps hc ha hρ hn hD rfl

/-! ### The state and the machine -/
/-- The rounds' ground lies as it is told. -/
def RoundsOk (Y : List (Nat × Rnd)) (c : Cx) (ρ : Nat → AV) (nenv : Nat) (D : Nat → Bool) : Prop :=
  ∀ i r, findY Y i = some r → D i = true ∧ (c.L i).params = ⟨r.ps⟩ ∧ (c.L i).assign = r.assign ∧ (c.L i).body = r.body ∧ (c.L i).tmps.size = r.sz ∧ SlotsOk c ρ nenv D (c.L i).tmps r.slots

theorem RoundsOk.keeps {Y : List (Nat × Rnd)} {c c' : Cx} {ρ ρ' : Nat → AV} {nenv nenv' : Nat} {D D' : Nat → Bool} (h : RoundsOk Y c ρ nenv D)
    (hc : c.Keeps D c') (ha : Agree nenv ρ ρ') (hρ : ∀ i, (ρ i).pure = true) (hn : nenv ≤ nenv') (hD : ∀ i, D i = true → D' i = true) : RoundsOk Y c' ρ' nenv' D' := by
  intro i r hf
  obtain ⟨h1, h2, h3, h4, h5, h6⟩ := h i r hf
  rw [hc.L i h1]
  exact ⟨hD i h1, h2, h3, h4, h5, h6.keeps hc ha hρ hn hD⟩

def markD (c : Cx) (i : Nat) : Deferred := { target := .collected (c.β i), args := #[] }

structure MatchSt (G : Glob) (n0 : Nat) (w0 : Base) (Y : List (Nat × Rnd)) (c : Cx) (ρ : Nat → AV) (st : St) (a : Act) (w : World) : Prop where
  mem : Mem n0 w0 c ρ (look st.own) st.nenv w
  glob : GlobOk G c
  sz : a.tmps.size = st.sz
  slots : SlotsOk c ρ st.nenv (look st.own).dom a.tmps st.slots
  dfr : a.defers = st.marks.map (markD c)
  mdom : ∀ i ∈ st.marks, (look st.own).dom i = true
  rnds : RoundsOk Y c ρ st.nenv (look st.own).dom

theorem marks_keeps {c c' : Cx} {D : Nat → Bool} {ms : List Nat} (h : ∀ i ∈ ms, D i = true) (hc : c.Keeps D c') : ms.map (markD c') = ms.map (markD c) := by
  refine List.map_congr_left fun i hi => ?_
  unfold markD
  rw [hc.β i (h i hi)]

/-- Later. -/
structure Ext (c : Cx) (ρ : Nat → AV) (nenv : Nat) (D : Nat → Bool) (c' : Cx) (ρ' : Nat → AV) (nenv' : Nat) (D' : Nat → Bool) : Prop where
  keeps : c.Keeps D c'
  agree : Agree nenv ρ ρ'
  nenv : nenv ≤ nenv'
  dom : ∀ i, D i = true → D' i = true

theorem Ext.refl (c : Cx) (ρ : Nat → AV) (nenv : Nat) (D : Nat → Bool) : Ext c ρ nenv D c ρ nenv D := ⟨Cx.Keeps.refl _ _, Agree.refl _ _, Nat.le_refl _, fun _ h => h⟩
theorem Ext.trans {c c' c'' : Cx} {ρ ρ' ρ'' : Nat → AV} {n n' n'' : Nat} {D D' D'' : Nat → Bool} (h : Ext c ρ n D c' ρ' n' D') (k : Ext c' ρ' n' D' c'' ρ'' n'' D'') : Ext c ρ n D c'' ρ'' n'' D'' :=
  ⟨h.keeps.trans (k.keeps.mono h.dom), h.agree.trans (k.agree.mono h.nenv), Nat.le_trans h.nenv k.nenv, fun i hi => k.dom i (h.dom i hi)⟩

abbrev St.D (st : St) : Nat → Bool := (look st.own).dom

variable {Y : List (Nat × Rnd)} {G : Glob} {n0 : Nat} {w0 : Base} {c c' : Cx} {ρ ρ' : Nat → AV} {st st' : St} {a : Act} {w : World}

theorem put_tmps (a : Act) (d : Option Nat) (v : Value) (i : Nat) (h : d ≠ some i) : (a.put d v).tmps[i]? = a.tmps[i]? := by
  unfold Act.put
  cases d with
  | none => rfl
  | some d => simp only [Array.getElem?_setIfInBounds]; rw [if_neg (fun e => h (by rw [e]))]
theorem put_tmps_same (a : Act) (d : Nat) (v : Value) (h : d < a.tmps.size) : (a.put (some d) v).tmps[d]? = some v := by
  simp [Act.put, h]
theorem put_size (a : Act) (d : Option Nat) (v : Value) : (a.put d v).tmps.size = a.tmps.size := by
  cases d <;> simp [Act.put]
theorem put_defers (a : Act) (d : Option Nat) (v : Value) : (a.put d v).defers = a.defers := by cases d <;> rfl

/-- What is put in its place: as it denotes. -/
theorem MatchSt.put {st1 : St} {w' : World} (hm : MatchSt G n0 w0 Y c ρ st a w) (hx : Ext c ρ st.nenv st.D c' ρ' st1.nenv st1.D) (hmem : Mem n0 w0 c' ρ' (look st1.own) st1.nenv w') (hs : st1.slots = st.slots) (hz : st1.sz = st.sz) (hmk : st1.marks = st.marks)
    (hg : GlobOk G c') {dst : Option Nat} {e : Ent} (hp : st1.put dst e = some st') {v : Value} (hv : Holds ρ' e.pcs → Rv c' (den ρ' e.se) v) (hn : ¬ Holds ρ' e.pcs → v = undef)
    (hw : e.se.wf st1.nenv st1.D = true) (hpw : pcsWf st1.nenv st1.D e.pcs = true) : MatchSt G n0 w0 Y c' ρ' st' (a.put dst v) w' ∧ st'.nenv = st1.nenv ∧ st'.own = st1.own ∧ st'.nid = st1.nid ∧ st'.sz = st1.sz := by
  have hold : SlotsOk c' ρ' st1.nenv st1.D a.tmps st1.slots := by
    rw [hs]; exact hm.slots.keeps hx.keeps hx.agree hm.mem.pure hx.nenv hx.dom
  have hdf : a.defers = st1.marks.map (markD c') := by rw [hmk, marks_keeps hm.mdom hx.keeps]; exact hm.dfr
  have hmd : ∀ i ∈ st1.marks, (look st1.own).dom i = true := by rw [hmk]; exact fun i hi => hx.dom i (hm.mdom i hi)
  have hrn : RoundsOk Y c' ρ' st1.nenv (look st1.own).dom := hm.rnds.keeps hx.keeps hx.agree hm.mem.pure hx.nenv hx.dom
  unfold St.put at hp
  cases dst with
  | none =>
    simp only [Option.some.injEq] at hp; subst hp
    exact ⟨⟨hmem, hg, hm.sz.trans hz.symm, hold, hdf, hmd, hrn⟩, rfl, rfl, rfl, rfl⟩
  | some d =>
    simp only at hp
    split at hp
    · rename_i hd
      simp only [Option.some.injEq] at hp; subst hp
      refine ⟨⟨hmem, hg, ?_, ?_, ?_, hmd, hrn⟩, rfl, rfl, rfl, rfl⟩
      · simp only [put_size]; exact hm.sz.trans hz.symm
      · intro i en hf
        simp only [findE_setSlot] at hf
        split at hf
        · rename_i hi
          simp only [Option.some.injEq] at hf; subst hf
          rw [hi]
          have hsz : d < a.tmps.size := by rw [hm.sz, ← hz]; exact hd
          refine ⟨fun h => ⟨v, put_tmps_same a d v hsz, hv h⟩, fun h => ?_, hw, hpw⟩
          rw [put_tmps_same a d v hsz, hn h]
        · rename_i hi
          exact (hold i en hf).keeps (Cx.Keeps.refl _ _) (Agree.refl _ _) hmem.pure (Nat.le_refl _) (fun _ h => h) (put_tmps a _ v i (fun h => hi (Option.some.inj h).symm))
      · rw [put_defers]; exact hdf
    · cases hp

theorem St.put_some {st st' : St} {dst : Option Nat} {e : Ent} (h : st.put dst e = some st') : st'.nenv = st.nenv ∧ st'.own = st.own ∧ st'.nid = st.nid ∧ st'.sz = st.sz := by
  unfold St.put at h
  cases dst with
  | none => simp only [Option.some.injEq] at h; subst h; exact ⟨rfl, rfl, rfl, rfl⟩
  | some d =>
    simp only at h
    split at h
    · simp only [Option.some.injEq] at h; subst h; exact ⟨rfl, rfl, rfl, rfl⟩
    · cases h

/-! ### Guards -/
theorem Rv_bool {c : Cx} {x : AV} {b : Bool} (h : Rv c x (.bool b)) : x = .bool b := by
  cases h with
  | undef _ h => exact absurd rfl (h b)
  | bool => rfl

theorem guardOf_sound {ops : Array Oper} (hm : MatchSt G n0 w0 Y c ρ st a w) {o : Oper} {g : Gd} (h : guardOf ops st.slots o = some g) :
    match g with
    | .never => Region.wanted o (yielded ops a.tmps) = false
    | .when pcs => Region.wanted o (yielded ops a.tmps) = true ↔ Holds ρ pcs := by
  unfold guardOf at h
  split at h
  · rename_i hg
    simp only [Option.some.injEq] at h; subst h
    simp only [Region.wanted, hg, true_iff]
    exact Holds.nil ρ
  · rename_i j b hg
    split at h
    · cases h
    · rename_i d hd
      split at h
      · cases h
      · rename_i en hf
        have hs := hm.slots d en hf
        have hy : yielded ops a.tmps j = match a.tmps[d]? with | some (.bool x) => some x | _ => none := by
          unfold yielded; rw [hd]; simp only [Option.bind_some]; rfl
        split at h
        · rename_i x h1
          have hcase : (Holds ρ en.pcs ∧ yielded ops a.tmps j = some x) ∨ (¬ Holds ρ en.pcs ∧ yielded ops a.tmps j = none) := by
            by_cases hp : Holds ρ en.pcs
            · obtain ⟨v, hv, hr⟩ := hs.yes hp
              rw [h1] at hr
              simp only [den] at hr
              cases hr
              rw [hv] at hy
              exact .inl ⟨hp, hy⟩
            · rw [hs.no hp] at hy
              exact .inr ⟨hp, hy⟩
          split at h
          · rename_i hx
            simp only [Option.some.injEq] at h; subst h
            simp only [Region.wanted, hg]
            rcases hcase with ⟨hp, hy⟩ | ⟨hp, hy⟩
            · rw [hy, hx]; simp only [beq_self_eq_true, true_iff]; exact hp
            · rw [hy]; constructor
              · intro hw; simp at hw
              · intro hw; exact absurd hw hp
          · rename_i hx
            simp only [Option.some.injEq] at h; subst h
            simp only [Region.wanted, hg]
            rcases hcase with ⟨hp, hy⟩ | ⟨hp, hy⟩
            · rw [hy]; simpa using hx
            · rw [hy]; rfl
        · rename_i se pcs h1 h2 _
          simp only [Option.some.injEq] at h; subst h
          simp only [Region.wanted, hg]
          rw [Holds.cons]
          by_cases hp : Holds ρ en.pcs
          · obtain ⟨v, hv, hr⟩ := hs.yes hp
            rw [hy, hv]
            constructor
            · intro hw
              refine ⟨?_, hp⟩
              cases v <;> simp at hw
              rename_i x
              subst hw
              exact Rv_bool hr
            · intro hw
              rw [hw.1] at hr
              cases hr
              simp
          · rw [hy, hs.no hp]
            simp only [undef]
            constructor
            · intro hw; simp at hw
            · intro hw; exact absurd hw.2 hp

/-! ### One step -/
variable {P : Program} {ro : Option Nat}

theorem SegWp.append {P : Program} {G : Glob} {K : (Nat → AV) → Prop} : ∀ {xs ys : List Nd} {ρ : Nat → AV}, SegWp P G ρ (xs ++ ys) K → SegWp P G ρ xs (fun ρ' => SegWp P G ρ' ys K)
  | [], _, _, h => h
  | .chk .. :: xs, _, _, h => ⟨h.1, SegWp.append h.2⟩
  | .same .. :: xs, _, _, h => ⟨h.1, SegWp.append h.2⟩
  | .call .. :: xs, _, _, h => by
    obtain ⟨r, h1, h2, h3⟩ := h
    exact ⟨r, h1, h2, SegWp.append h3⟩
  | .isNil .. :: xs, _, _, h => fun b hb => SegWp.append (h b hb)
  | .srt .. :: xs, _, _, h => let ⟨l, h1, h2, h3⟩ := h; ⟨l, h1, h2, SegWp.append h3⟩
  | .bind .. :: xs, _, _, h => SegWp.append (xs := xs) h
  | .cmp .. :: xs, _, _, h => let ⟨l, h1, h2, h3⟩ := h; ⟨l, h1, h2, SegWp.append h3⟩

/-- What need not be asked. -/
theorem SegWp.skip {E : Env} {P : Program} {G : Glob} {pcs : List (SE × Bool)} {K : (Nat → AV) → Prop} {s : Step} {nenv : Nat} {ρ : Nat → AV} (hρ : ∀ i, (ρ i).pure = true) (h : SegWp P G ρ (nodes2 E s nenv pcs) K) :
    ∃ ρ', Agree nenv ρ ρ' ∧ (∀ i, (ρ' i).pure = true) ∧ K ρ' := by
  have tail : ∀ ρ', SegWp P G ρ' (match shapeOf E s nenv with | some e => [.same nenv pcs e] | none => []) K → K ρ' := by
    intro ρ' h
    split at h
    · exact h.2
    · exact h
  unfold nodes2 at h
  have h := SegWp.append h
  unfold Step.nodes at h
  obtain ⟨_, h⟩ := SegWp.chks h
  split at h
  · obtain ⟨r, hr, _, hk⟩ := h
    exact ⟨_, setEnv_agree _ _ _, setEnv_pure hρ _ hr, tail _ hk⟩
  · exact ⟨_, setEnv_agree _ _ _, setEnv_pure hρ _ (v := .bool false) rfl, tail _ (h false (fun _ h => by cases h))⟩
  · exact ⟨ρ, Agree.refl _ _, hρ, tail _ h⟩

theorem fold_den (ρ : Nat → AV) (e : SE) : den ρ e.fold = den ρ e := by
  unfold SE.fold
  split
  · rename_i op k a k' b
    have h : den ρ (.app (.bin op) [.int k a, .int k' b]) = binI op k a b := by simp only [den, dens, pv]
    rw [h]
    split
    · rename_i q n hb; rw [hb]; rfl
    · rename_i v hb; rw [hb]; rfl
    · exact h
  all_goals first | rfl | simp [den, dens, pv]
  · simp [dens_length]
  · rename_i n cs off
    split
    · rename_i f a b hc
      simp [den, dens, pv, AV.cut, List.getD, dens_getElem?, hc]
    · simp [den, dens, pv]
theorem wfs_get : ∀ {n : Nat} {m : Nat → Bool} {cs : List SE} {i : Nat} {e : SE}, SE.wfs n m cs = true → cs[i]? = some e → e.wf n m = true
  | _, _, [], i, e, _, h => by simp at h
  | n, m, c :: cs, 0, e, hw, h => by
    simp only [SE.wfs, Bool.and_eq_true] at hw
    simp only [List.getElem?_cons_zero, Option.some.injEq] at h
    rw [← h]; exact hw.1
  | n, m, c :: cs, i + 1, e, hw, h => by
    simp only [SE.wfs, Bool.and_eq_true] at hw
    simp only [List.getElem?_cons_succ] at h
    exact wfs_get hw.2 h
theorem fold_wf {n : Nat} {m : Nat → Bool} {e : SE} (h : e.wf n m = true) : e.fold.wf n m = true := by
  unfold SE.fold
  split
  · split
    · rfl
    · rfl
    · exact h
  all_goals first | rfl | exact h | skip
  all_goals simp only [SE.wf, SE.wfs, Bool.and_true] at h
  · simpa only [SE.wf] using h
  · split
    · rename_i hc; exact wfs_get h hc
    · simp only [SE.wf, SE.wfs, Bool.and_true]; exact h

/-- A function sorts slices of integers. -/
def SrtOk (P : Program) (f : Nat) : Prop :=
  (∀ (blk off cap : Nat) (zs : List Int) (w : World), Go.Sort.Holds (Value.int .i64) w blk off zs.toArray → blk < w.heap.size → zs.length < 4611686018427387904 →
    Calls P f #[.slice (some ⟨blk, off, none⟩) zs.length cap] w fun e w' => e = .returned (.tuple #[]) ∧
      ∃ n os, w' = Go.Sort.grow (Go.Sort.putRow (Value.int .i64) (Go.Sort.ahead w n) blk off (zs.mergeSort fun x y => decide (x ≤ y)).toArray) os) ∧
  Contract P [] f [.sl []] (.tup [])

/-- A function compacts slices of integers. -/
def CptOk (P : Program) (f : Nat) : Prop :=
  (∀ (blk off cap : Nat) (zs : List Int) (w : World), Go.Sort.Holds (Value.int .i64) w blk off zs.toArray → zs.length ≤ 9223372036854775807 → zs.length ≤ cap →
    Calls P f #[.slice (some ⟨blk, off, none⟩) zs.length cap] w fun e w' => e = .returned (.slice (some ⟨blk, off, none⟩) (Go.Lib.compact zs).length cap) ∧
      ∃ q, w' = Go.Sort.putRow (Value.int .i64) (Go.Sort.ahead w q) blk off (Go.Lib.compact zs ++ List.replicate (zs.length - (Go.Lib.compact zs).length) 0).toArray) ∧
  (∀ (a : Option Addr) (cap : Nat) (w : World), Calls P f #[.slice a 0 cap] w fun e w' => e = .returned (.slice a 0 cap) ∧ w' = w)

/-- A function cuts a part out of slices of elements of so many cells. -/
def DelOk (P : Program) (f sz : Nat) : Prop :=
  ∀ (blk off cap n i j : Nat) (vs : List Value) (T : TypeId) (w : World), w.heap[blk]? = some (.cells ⟨vs⟩ T (0, 0)) → n ≤ cap → off + cap * sz ≤ vs.length → i < j → j ≤ n → n ≤ 4294967296 →
    (∀ k u, k < n * sz → vs[off + k]? = some u → u.oneCell' = true) →
    Calls P f #[.slice (some ⟨blk, off, none⟩) n cap, .int .i64 i, .int .i64 j] w fun e w' => e = .returned (.slice (some ⟨blk, off, none⟩) (n - (j - i)) cap) ∧
      ∃ us, us.length = vs.length ∧ w'.heap[blk]? = some (.cells ⟨us⟩ T (0, 0)) ∧ (∀ k, k ≠ blk → w'.heap[k]? = w.heap[k]?) ∧ w'.heap.size = w.heap.size ∧ w'.os = w.os ∧ w'.tape = w.tape ∧ w'.output = w.output ∧
        (us.drop off).take ((n - (j - i)) * sz) = (vs.drop off).take (i * sz) ++ (vs.drop (off + j * sz)).take ((n - j) * sz)

structure EnvOk (E : Env) : Prop where
  cpt : ∀ f, E.cpt f = true → CptOk E.P f
  srt : ∀ f, E.srt f = true → SrtOk E.P f
  del : ∀ f, 0 < E.del f → DelOk E.P f (E.del f)
  G : ∀ (g : Nat) es, E.G[g]? = some es → SE.wfs 0 (fun _ => false) es = true

theorem Step.nenv_le (s : Step) (n : Nat) : n ≤ s.nenv n := by unfold Step.nenv; split <;> omega

theorem stepSt_spec {E : Env} {pcs : List (SE × Bool)} {o : Oper} {st : St} {s : Step} {st1 : St} (h : stepSt E pcs o st = some (s, st1)) :
    sOp E.P (look st.own) (evS E.G st.slots pcs) st.nenv st.nid o.op = some s ∧ look st.own st.nid = none ∧ look st.own (st.nid + 1) = none ∧ (val2 E s st.nenv).wf st1.nenv st1.D = true ∧ pcsWf st.nenv st.D pcs = true ∧
      st1.slots = st.slots ∧ st1.sz = st.sz ∧ look st1.own = upds (look st.own) s.dl ∧ st1.nenv = s.nenv st.nenv ∧ st1.marks = st.marks := by
  unfold stepSt at h
  split at h
  · rename_i s' hs
    simp only at h
    split at h
    · rename_i hc
      simp only [Option.some.injEq, Prod.mk.injEq] at h
      obtain ⟨rfl, rfl⟩ := h
      refine ⟨hs, Option.isNone_iff_eq_none.1 hc.2.2.1, Option.isNone_iff_eq_none.1 hc.2.2.2, hc.1, hc.2.1, rfl, rfl, look_putOwns _ _, rfl, rfl⟩
    · cases h
  · cases h

theorem GlobOk.ext {E : Env} (hE : EnvOk E) {c c' : Cx} (h : GlobOk E.G c) (hc : c.Le c') : GlobOk E.G c' := h.keeps hc hE.G

theorem Mem.hn0 {c : Cx} {ρ : Nat → AV} {L : Lk} {nenv : Nat} {w : World} (hm : Mem n0 w0 c ρ L nenv w) (h : n0 ≤ w0.w.heap.size) : n0 ≤ w.heap.size := Nat.le_trans h hm.below.size

/-- A wanted step, what it asks known to hold. -/
theorem step_wanted {E : Env} (hE : EnvOk E) (h0 : n0 ≤ w0.w.heap.size) {o : Oper} {a : Act} {w : World} {pcs : List (SE × Bool)} {s : Step} {st1 : St} (hm : MatchSt E.G n0 w0 Y c ρ st a w) (h : stepSt E pcs o st = some (s, st1)) (hp : Holds ρ pcs)
    {K : (Nat → AV) → Prop} (hs : SegWp E.P E.G ρ (nodes2 E s st.nenv pcs) K) {n : Nat} {next : Act → World → Prop} {Q : Exit → Act → World → Prop}
    (hk : ∀ ρ' c' v w', K ρ' → Ext c ρ st.nenv st.D c' ρ' st1.nenv st1.D → Rv c' (den ρ' (val2 E s st.nenv)) v → Mem n0 w0 c' ρ' (look st1.own) st1.nenv w' → GlobOk E.G c' → next (a.put o.dst v) w') : o.wpIn (FW ro) n E.P a w next Q := by
  obtain ⟨h1, h2, h3, h4, h5, h6, h7, h8, h9, _⟩ := stepSt_spec h
  obtain ⟨ρ', a1, a2, a3, a4⟩ := sOp_step (ro := ro) hm.mem (hm.mem.hn0 h0) hm.glob hE.G (xv := evS E.G st.slots pcs) (fun x e hx => evS_sound hm.slots hm.glob hE.G hp hx) h2 h3 h1 hp (SegWp.append hs)
  have hp' : Holds ρ' pcs := (pcsWf_agree a1 h5).2 hp
  refine a4 n next Q fun v w' c' b1 b2 b3 => ?_
  rw [← h8, ← h9] at b3
  have hval : K ρ' ∧ Rv c' (den ρ' (val2 E s st.nenv)) v := by
    unfold val2
    split at a3
    · rename_i e hse
      rw [hse]
      refine ⟨a3.2, ?_⟩
      have hv : s.val = .inp st.nenv := by
        unfold shapeOf at hse
        split at hse
        · split at hse
          · split at hse
            · rename_i hc
              simp only [Bool.and_eq_true] at hc
              exact SE.beq_eq _ _ hc.2
            · cases hse
          · cases hse
        · cases hse
      rw [hv] at b2
      have := a3.1 hp'
      simp only [den] at b2
      rw [this] at b2
      exact b2
    · rename_i hse
      rw [hse]; refine ⟨a3, ?_⟩
      rw [Option.getD_none, fold_den]; exact b2
  refine hk ρ' c' v w' hval.1 ⟨b1, a1, ?_, ?_⟩ hval.2 b3 (hm.glob.ext hE b1.toLe)
  · rw [h9]; exact Step.nenv_le _ _
  · intro i hi
    show (look st1.own).dom i = true
    rw [h8]; exact upds_dom _ _ _ hi

theorem wanted_of {ops : Array Oper} {o : Oper} {a : Act} {w : World} {n : Nat} {K : Act → World → Prop} {Q : Exit → Act → World → Prop} {i : Nat} (hi : ops[i]? = some o) (h : Region.wanted o (yielded ops a.tmps) = true)
    (hk : o.wpIn (FW ro) n P a w K Q) : wpOpIn (FW ro) n P ops Q i K a w := by
  unfold wpOpIn; simp only [hi, h, if_true]; exact hk
theorem unwanted_of {ops : Array Oper} {o : Oper} {a : Act} {w : World} {n : Nat} {K : Act → World → Prop} {Q : Exit → Act → World → Prop} {i : Nat} (hi : ops[i]? = some o) (h : Region.wanted o (yielded ops a.tmps) = false)
    (hk : K (a.put o.dst undef) w) : wpOpIn (FW ro) n P ops Q i K a w := by
  unfold wpOpIn; simp only [hi, h]; exact ⟨fun _ _ => trivial, hk⟩

end Go.Lb

namespace Go.Lb
open Go.RowKit

variable {Y : List (Nat × Rnd)} {G : Glob} {n0 : Nat} {w0 : Base} {c c' : Cx} {ρ ρ' : Nat → AV} {st st' : St} {a : Act} {w : World} {P : Program} {ro : Option Nat}

/-! ### What is known behind a split -/
theorem SE.assume_den {cs : SE} {b : Bool} (hc : den ρ cs = .bool b) : ∀ (n : Nat) (e : SE), den ρ (SE.assume cs b n e) = den ρ e := by
  intro n
  induction n with
  | zero => intro e; rfl
  | succ n ih =>
    intro e
    unfold SE.assume
    split
    · rename_i h
      rw [SE.beq_eq _ _ h, hc]; rfl
    · split
      · rename_i x y z _
        have hx := ih x
        split
        · rename_i h; rw [h] at hx
          simp only [den, dens, ← hx, pv, if_true]; exact ih y
        · rename_i h; rw [h] at hx
          simp only [den, dens, ← hx, pv]; exact ih z
        · simp only [den, dens, ih]
      · rename_i x _
        have hx := ih x
        split
        · rename_i v h; rw [h] at hx
          simp only [den, dens, ← hx, pv]
        · simp only [den, dens, ih]
      · rfl

theorem SE.assume_wf {cs : SE} {b : Bool} {m : Nat} {D : Nat → Bool} : ∀ (n : Nat) (e : SE), e.wf m D = true → (SE.assume cs b n e).wf m D = true := by
  intro n
  induction n with
  | zero => intro e h; exact h
  | succ n ih =>
    intro e h
    unfold SE.assume
    split
    · rfl
    · split
      · rename_i x y z _
        simp only [SE.wf, SE.wfs, Bool.and_eq_true] at h
        split
        · exact ih y h.2.1
        · exact ih z h.2.2.1
        · simp only [SE.wf, SE.wfs, ih x h.1, ih y h.2.1, ih z h.2.2.1, Bool.and_self]
      · rename_i x _
        simp only [SE.wf, SE.wfs, Bool.and_eq_true] at h
        split
        · rfl
        · simp only [SE.wf, SE.wfs, ih x h.1, Bool.and_self]
      · exact h

theorem assumePcs_sound {cs : SE} {b : Bool} (hc : den ρ cs = .bool b) {m : Nat} {D : Nat → Bool} : ∀ (pcs : List (SE × Bool)), pcsWf m D pcs = true →
    match assumePcs cs b pcs with
    | none => ¬ Holds ρ pcs
    | some pcs' => (Holds ρ pcs' ↔ Holds ρ pcs) ∧ pcsWf m D pcs' = true
  | [], _ => ⟨Iff.rfl, rfl⟩
  | (p, v) :: r, hw => by
    have hw' : p.wf m D = true ∧ pcsWf m D r = true := by simpa [pcsWf] using hw
    have ih := assumePcs_sound hc r hw'.2
    simp only [assumePcs]
    cases h : assumePcs cs b r with
    | none =>
      rw [h] at ih
      intro hh; exact ih (Holds.cons.1 hh).2
    | some r' =>
      rw [h] at ih
      have hd := SE.assume_den hc 20 p
      have hpw := SE.assume_wf (cs := cs) (b := b) 20 p hw'.1
      simp only []
      cases hx : SE.assume cs b 20 p with
      | bool x =>
        rw [hx] at hd
        simp only [den] at hd
        by_cases hxv : x = v
        · simp only [hxv, if_true]
          refine ⟨?_, ih.2⟩
          rw [ih.1, Holds.cons]
          simp [← hd, hxv]
        · simp only [hxv, if_false]
          intro hh
          have := (Holds.cons.1 hh).1
          rw [← hd] at this
          exact hxv (by simpa using this)
      | _ =>
        rw [hx] at hd hpw
        simp only []
        refine ⟨?_, ?_⟩
        · rw [Holds.cons, Holds.cons, ih.1, hd]
        · simp only [pcsWf, List.all_cons, Bool.and_eq_true]
          exact ⟨hpw, ih.2⟩

theorem findE_map (f : Ent → Ent) (s : List (Nat × Ent)) (d : Nat) : findE (s.map fun x => (x.1, f x.2)) d = (findE s d).map f := by
  induction s with
  | nil => rfl
  | cons x s ih =>
    obtain ⟨j, e⟩ := x
    simp only [List.map_cons, findE]
    split
    · rfl
    · exact ih

theorem SlotOk.assume {cs : SE} {b : Bool} (hc : den ρ cs = .bool b) {nenv : Nat} {D : Nat → Bool} {t : Array Value} {d : Nat} {e : Ent} (h : SlotOk c ρ nenv D t d e) : SlotOk c ρ nenv D t d (e.assume cs b) := by
  have hs := assumePcs_sound hc e.pcs h.wf.2
  unfold Ent.assume
  split
  · rename_i hn
    rw [hn] at hs
    have := h.no hs
    exact ⟨fun _ => ⟨undef, this, .undef _ (fun _ h => by cases h)⟩, fun hh => absurd (Holds.nil ρ) hh, rfl, rfl⟩
  · rename_i pcs hn
    rw [hn] at hs
    refine ⟨fun hp => ?_, fun hp => h.no fun h' => hp (hs.1.2 h'), SE.assume_wf 20 _ h.wf.1, hs.2⟩
    obtain ⟨v, h1, h2⟩ := h.yes (hs.1.1 hp)
    exact ⟨v, h1, by simp only [SE.assume_den hc]; exact h2⟩

theorem MatchSt.assume {cs : SE} {b : Bool} (hm : MatchSt G n0 w0 Y c ρ st a w) (hc : den ρ cs = .bool b) : MatchSt G n0 w0 Y c ρ (st.assume cs b) a w := by
  refine ⟨hm.mem, hm.glob, hm.sz, ?_, hm.dfr, hm.mdom, hm.rnds⟩
  intro d e hf
  simp only [St.assume, findE_map] at hf
  obtain ⟨e', h1, rfl⟩ := Option.map_eq_some_iff.1 hf
  exact (hm.slots d e' h1).assume hc

theorem stripNot_den (e : SE) : ∀ (b : Bool), den ρ (stripNot e).1 = .bool b → den ρ e = .bool (b != (stripNot e).2) := by
  fun_induction stripNot e with
  | case1 x r ih =>
    intro b h
    have := ih b h
    simp only [den, dens, this, pv]
    cases b <;> cases (stripNot x).2 <;> rfl
  | case2 e _ =>
    intro b h
    simp only [] at h ⊢
    rw [h]; cases b <;> rfl

/-- Two states that differ in what is known alone. -/
structure St.Same (st st' : St) : Prop where
  sz : st'.sz = st.sz
  own : st'.own = st.own
  nenv : st'.nenv = st.nenv
  nid : st'.nid = st.nid
theorem St.Same.refl (st : St) : St.Same st st := ⟨rfl, rfl, rfl, rfl⟩
theorem St.Same.trans {a b c : St} (h : St.Same a b) (k : St.Same b c) : St.Same a c := ⟨k.sz.trans h.sz, k.own.trans h.own, k.nenv.trans h.nenv, k.nid.trans h.nid⟩
theorem St.Same.D {a b : St} (h : St.Same a b) : b.D = a.D := by unfold St.D; rw [h.own]

theorem splitSE_sound {R : AV → Prop} {Lp : Nat → List AV → Prop} {cs : SE} {yes no : St → RT} (hm : MatchSt G n0 w0 Y c ρ st a w) (h : RTwp P G R (splitSE cs st yes no) Lp ρ) :
    ∃ b st', den ρ cs = .bool b ∧ MatchSt G n0 w0 Y c ρ st' a w ∧ St.Same st st' ∧ RTwp P G R (if b then yes st' else no st') Lp ρ := by
  have hsn := stripNot_den (ρ := ρ) cs
  unfold splitSE at h
  split at h
  · rename_i x y hr
    rw [hr] at hsn
    refine ⟨x != y, st, hsn x rfl, hm, St.Same.refl _, ?_⟩
    cases hxy : (x != y) <;> simpa [hxy] using h
  · rename_i e y _ hr
    rw [hr] at hsn
    simp only [RTwp] at h
    obtain ⟨b, hb, h1, h2⟩ := h
    refine ⟨b != y, st.assume e b, hsn b hb, hm.assume hb, ⟨rfl, rfl, rfl, rfl⟩, ?_⟩
    cases b
    · have := h2 rfl
      cases y <;> simpa using this
    · have := h1 rfl
      cases y <;> simpa using this

theorem splitOn_sound {R : AV → Prop} {Lp : Nat → List AV → Prop} {no : St → RT} : ∀ (pcs : List (SE × Bool)) (yes : St → RT) (st : St), MatchSt G n0 w0 Y c ρ st a w → RTwp P G R (splitOn pcs st yes no) Lp ρ →
    ∃ st', MatchSt G n0 w0 Y c ρ st' a w ∧ St.Same st st' ∧ ((Holds ρ pcs ∧ RTwp P G R (yes st') Lp ρ) ∨ (¬ Holds ρ pcs ∧ RTwp P G R (no st') Lp ρ)) := by
  intro pcs
  induction pcs with
  | nil => intro yes st hm h; exact ⟨st, hm, St.Same.refl _, .inl ⟨Holds.nil ρ, h⟩⟩
  | cons x rest ih =>
    obtain ⟨cs, b⟩ := x
    intro yes st hm h
    simp only [splitOn] at h
    obtain ⟨st1, hm1, hs1, h1⟩ := ih _ _ hm h
    rcases h1 with ⟨hh, h1⟩ | ⟨hh, h1⟩
    · cases b with
      | true =>
        simp only [if_true] at h1
        obtain ⟨b', st2, hb, hm2, hs2, h2⟩ := splitSE_sound hm1 h1
        refine ⟨st2, hm2, hs1.trans hs2, ?_⟩
        cases b' with
        | true => exact .inl ⟨Holds.cons.2 ⟨hb, hh⟩, h2⟩
        | false => exact .inr ⟨fun hx => by (have := (Holds.cons.1 hx).1; simp only at this; rw [hb] at this; cases this), h2⟩
      | false =>
        obtain ⟨b', st2, hb, hm2, hs2, h2⟩ := splitSE_sound hm1 h1
        refine ⟨st2, hm2, hs1.trans hs2, ?_⟩
        cases b' with
        | true => exact .inr ⟨fun hx => by (have := (Holds.cons.1 hx).1; simp only at this; rw [hb] at this; cases this), h2⟩
        | false => exact .inl ⟨Holds.cons.2 ⟨hb, hh⟩, h2⟩
    · exact ⟨st1, hm1, hs1, .inr ⟨fun hx => hh (Holds.cons.1 hx).2, h1⟩⟩

/-! ### A choice -/
theorem sPick_sound {E : Env} (hE : EnvOk E) {o : Oper} {x y z : Operand} {pcs : List (SE × Bool)} {e : SE} {ns : List Nd} (hm : MatchSt E.G n0 w0 Y c ρ st a w) (ho : o.op = .pick x y z) (h : sPick E st.slots pcs x y z = some (e, ns))
    (hp : Holds ρ pcs) {K : (Nat → AV) → Prop} (hs : SegWp P E.G ρ ns K) : K ρ ∧ ∃ v, Rv c (den ρ e) v ∧ ∀ (n : Nat) (next : Act → World → Prop) (Q : Exit → Act → World → Prop), next (a.put o.dst v) w → o.wpIn (FW ro) n P a w next Q := by
  have hev : ∀ {pcs} (hp : Holds ρ pcs) {x e}, evS E.G st.slots pcs x = some e → Rv c (den ρ e) (a.eval x) := fun {_} hp {_ _} hx => (evS_sound hm.slots hm.glob hE.G hp hx).1
  have run : ∀ b, a.eval x = .bool b → (execOp a.eval o).run P w = .ok (.value (if b then a.eval y else a.eval z)) w := by
    intro b hb
    simp only [execOp, ho, Sem.run_bind, hb, run_asBool, Result.andThen_ok, Sem.run_pure]
  have fin : ∀ (v : Value), (execOp a.eval o).run P w = .ok (.value v) w → ∀ (n : Nat) (next : Act → World → Prop) (Q : Exit → Act → World → Prop), next (a.put o.dst v) w → o.wpIn (FW ro) n P a w next Q :=
    fun v hr n next Q hn => wpIn_value (by rw [ho]; intro c h; cases h) hr hn
  unfold sPick at h
  split at h
  · rename_i h1
    obtain ⟨e', h2, h3⟩ := Option.map_eq_some_iff.1 h
    simp only [Prod.mk.injEq] at h3
    obtain ⟨rfl, rfl⟩ := h3
    have hx := hev hp h1
    refine ⟨hs, a.eval y, hev hp h2, fin _ ?_⟩
    exact run true (Rv.bool_inv hx)
  · rename_i h1
    obtain ⟨e', h2, h3⟩ := Option.map_eq_some_iff.1 h
    simp only [Prod.mk.injEq] at h3
    obtain ⟨rfl, rfl⟩ := h3
    have hx := hev hp h1
    refine ⟨hs, a.eval z, hev hp h2, fin _ ?_⟩
    exact run false (Rv.bool_inv hx)
  · rename_i ec _ _ h1
    split at h
    · rename_i ea eb h2 h3
      simp only [Option.some.injEq, Prod.mk.injEq] at h
      obtain ⟨rfl, rfl⟩ := h
      obtain ⟨hk1, hk2⟩ := hs
      have hok := hk1 hp
      have hx := hev hp h1
      have hb : ∃ b, den ρ ec = .bool b := by
        simp only [dens] at hok
        generalize den ρ ec = v at hok
        unfold pok at hok
        split at hok <;> first | exact ⟨_, rfl⟩ | cases hok | skip
        all_goals simp_all
      obtain ⟨b, hb⟩ := hb
      rw [hb] at hx
      refine ⟨hk2, if b then a.eval y else a.eval z, ?_, fin _ (run b (Rv.bool_inv hx))⟩
      simp only [den, dens, hb, pv]
      cases b
      · exact weak_sound _ (hev (Holds.cons.2 ⟨hb, hp⟩) h3)
      · exact weak_sound _ (hev (Holds.cons.2 ⟨hb, hp⟩) h2)
    · cases h
  · cases h

end Go.Lb
