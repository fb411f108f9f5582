/-
  DERIVED: THE SHELF's CONTRACTS AT THIS DUMP, IN PLAIN WORDS (tools/lay-plain.mjs out of 'TrydShelf.lean', which tools/lay-shelf.mjs wrote): THE SAME DECLARATIONS UNDER THE SAME NAMES: 'import', 'namespace', 'open', 'def', 'theorem' AND NOTHING ELSE: no command of the shelf's: FOR A HAND-IN. Each laying: the table of numbers ('.._ren') and one theorem, a field a fact of the dump's own or the kernel's comparison; each contract: ONE APPLICATION.
-/
/- The data of the program, and as pure values. -/
/- Contracts over this program. -/
/- Ways through sections; overlaps. -/
/- What steps want, what paths need. -/
/- What functions come to, printed by a program, checked by the kernel. -/
import Derived.Shelf.Small.Bits
import Derived.Shelf.Strconv.Itoa0
import Derived.Shelf.Sort.Plain
import Derived.Ground.Names2Prog
import Derived.Shelf.Slices.CompactI
import Derived.Test.YtlohmpcoffenjaaDoorProg
import Derived.Test.YtlohmpcoffenjaaDoorFw8
import Derived.Test.YtlohmpcoffenjaaDoorCh2
import Derived.Test.YtlohmpcoffenjaaDoorCh1
set_option linter.unusedSimpArgs false
set_option linter.unusedVariables false
namespace Go.Proofs
open Go.Shelf
def Tryd.lays125_ren : Go.Shelf.Ren := ⟨fun | 125 => 43 | 128 => 59 | 129 => 60 | n => n, fun | 46 => 96 | 3 => 3 | 51 => 109 | 53 => 111 | 4 => 4 | 5 => 5 | 9 => 9 | n => n, fun | n => n⟩
theorem Tryd.lays125 : Go.Proofs.Lays.n125 Tryd.prog Tryd.lays125_ren := {
  mixed := by kernel_rfl
  f125 := Tryd.func43.trans (congrArg some (by kernel_rfl))
  f128 := Tryd.func59.trans (congrArg some (by kernel_rfl))
  f129 := Tryd.func60.trans (congrArg some (by kernel_rfl))
  t3 := Tryd.underlying3
  a3 := Tryd.isAgg3
  z3 := Tryd.sizeOf3
  v3 := Tryd.zeroValue3
  t4 := Tryd.underlying4
  a4 := Tryd.isAgg4
  z4 := Tryd.sizeOf4
  v4 := Tryd.zeroValue4
  t5 := Tryd.underlying5
  a5 := Tryd.isAgg5
  z5 := Tryd.sizeOf5
  v5 := Tryd.zeroValue5
  t9 := Tryd.underlying9
  a9 := Tryd.isAgg9
  z9 := Tryd.sizeOf9
  v9 := Tryd.zeroValue9
  t46 := Tryd.underlying96
  a46 := Tryd.isAgg96
  z46 := Tryd.sizeOf96
  v46 := Tryd.zeroValue96
  t51 := Tryd.underlying109
  a51 := Tryd.isAgg109
  z51 := Tryd.sizeOf109
  v51 := Tryd.zeroValue109
  t53 := Tryd.underlying111
  a53 := Tryd.isAgg111
  z53 := Tryd.sizeOf111
  v53 := Tryd.zeroValue111 }
/-- bits.Len: "Len returns the minimum number of bits required to represent x; the result is 0 for x == 0.": IT RETURNS 'Lib.bitLen x'; the world is as it was. (A uint has 64 bits in the model.) ITS CALLEE bits.Len64 IS MET BY ITS OWN CONTRACT OFF THE SHELF (lay that first). (LAID: no walk: one application.) -/
theorem Tryd.bits_Len (x : Int) (w : World) (h0 : 0 ≤ x) (h1 : x ≤ 18446744073709551615) :
    Calls Tryd.prog 43 #[.int .u64 x] w fun e w' => e = .returned (.int .i64 (Lib.bitLen x.toNat)) ∧ w' = w := Any.bits_Len Tryd.lays125 x w h0 h1
def Tryd.lays189_ren : Go.Shelf.Ren := ⟨fun | 189 => 29 | 125 => 43 | 257 => 42 | 128 => 59 | 129 => 60 | 294 => 50 | 295 => 51 | 296 => 52 | 297 => 53 | 298 => 54 | 299 => 55 | 216 => 56 | 300 => 57 | 301 => 58 | 328 => 64 | 329 => 65 | 330 => 66 | 331 => 67 | 332 => 68 | 215 => 69 | 343 => 71 | n => n, fun | 28 => 57 | 3 => 3 | 46 => 96 | 0 => 0 | 51 => 109 | 53 => 111 | 4 => 4 | 183 => 102 | 182 => 101 | 131 => 38 | 5 => 5 | 9 => 9 | 218 => 119 | 222 => 123 | 228 => 130 | 229 => 131 | n => n, fun | n => n⟩
theorem Tryd.lays189 : Go.Proofs.Lays.n189 Tryd.prog Tryd.lays189_ren := {
  mixed := by kernel_rfl
  f125 := Tryd.func43.trans (congrArg some (by kernel_rfl))
  f128 := Tryd.func59.trans (congrArg some (by kernel_rfl))
  f129 := Tryd.func60.trans (congrArg some (by kernel_rfl))
  f189 := Tryd.func29.trans (congrArg some (by kernel_rfl))
  f215 := Tryd.func69.trans (congrArg some (by kernel_rfl))
  f216 := Tryd.func56.trans (congrArg some (by kernel_rfl))
  f257 := Tryd.func42.trans (congrArg some (by kernel_rfl))
  f294 := Tryd.func50.trans (congrArg some (by kernel_rfl))
  f295 := Tryd.func51.trans (congrArg some (by kernel_rfl))
  f296 := Tryd.func52.trans (congrArg some (by kernel_rfl))
  f297 := Tryd.func53.trans (congrArg some (by kernel_rfl))
  f298 := Tryd.func54.trans (congrArg some (by kernel_rfl))
  f299 := Tryd.func55.trans (congrArg some (by kernel_rfl))
  f300 := Tryd.func57.trans (congrArg some (by kernel_rfl))
  f301 := Tryd.func58.trans (congrArg some (by kernel_rfl))
  f328 := Tryd.func64.trans (congrArg some (by kernel_rfl))
  f329 := Tryd.func65.trans (congrArg some (by kernel_rfl))
  f330 := Tryd.func66.trans (congrArg some (by kernel_rfl))
  f331 := Tryd.func67.trans (congrArg some (by kernel_rfl))
  f332 := Tryd.func68.trans (congrArg some (by kernel_rfl))
  f343 := Tryd.func71.trans (congrArg some (by kernel_rfl))
  t0 := Tryd.underlying0
  a0 := Tryd.isAgg0
  z0 := Tryd.sizeOf0
  v0 := Tryd.zeroValue0
  t3 := Tryd.underlying3
  a3 := Tryd.isAgg3
  z3 := Tryd.sizeOf3
  v3 := Tryd.zeroValue3
  t4 := Tryd.underlying4
  a4 := Tryd.isAgg4
  z4 := Tryd.sizeOf4
  v4 := Tryd.zeroValue4
  t5 := Tryd.underlying5
  a5 := Tryd.isAgg5
  z5 := Tryd.sizeOf5
  v5 := Tryd.zeroValue5
  t9 := Tryd.underlying9
  a9 := Tryd.isAgg9
  z9 := Tryd.sizeOf9
  v9 := Tryd.zeroValue9
  t28 := Tryd.underlying57
  a28 := Tryd.isAgg57
  z28 := Tryd.sizeOf57
  v28 := Tryd.zeroValue57
  t46 := Tryd.underlying96
  a46 := Tryd.isAgg96
  z46 := Tryd.sizeOf96
  v46 := Tryd.zeroValue96
  t51 := Tryd.underlying109
  a51 := Tryd.isAgg109
  z51 := Tryd.sizeOf109
  v51 := Tryd.zeroValue109
  t53 := Tryd.underlying111
  a53 := Tryd.isAgg111
  z53 := Tryd.sizeOf111
  v53 := Tryd.zeroValue111
  t131 := Tryd.underlying38
  a131 := Tryd.isAgg38
  z131 := Tryd.sizeOf38
  v131 := Tryd.zeroValue38
  t182 := Tryd.underlying101
  a182 := Tryd.isAgg101
  z182 := Tryd.sizeOf101
  v182 := Tryd.zeroValue101
  t183 := Tryd.underlying102
  a183 := Tryd.isAgg102
  z183 := Tryd.sizeOf102
  v183 := Tryd.zeroValue102
  t218 := Tryd.underlying119
  a218 := Tryd.isAgg119
  z218 := Tryd.sizeOf119
  v218 := Tryd.zeroValue119
  t222 := Tryd.underlying123
  a222 := Tryd.isAgg123
  z222 := Tryd.sizeOf123
  v222 := Tryd.zeroValue123
  t228 := Tryd.underlying130
  a228 := Tryd.isAgg130
  z228 := Tryd.sizeOf130
  v228 := Tryd.zeroValue130
  t229 := Tryd.underlying131
  a229 := Tryd.isAgg131
  z229 := Tryd.sizeOf131
  v229 := Tryd.zeroValue131 }
open Go.Sort Go.RowKit in
theorem Tryd.slices_Sort_int (blk off cap : Nat) (zs : List Int) (w : World) (hH : Holds (Value.int .i64) w blk off zs.toArray) (hblk : blk < w.heap.size) (hsz : zs.length < 4611686018427387904) :
    Calls Tryd.prog 29 #[.slice (some ⟨blk, off, none⟩) zs.length cap] w fun e w' =>
      e = .returned (.tuple #[]) ∧ ∃ n os, w' = grow (putRow (Value.int .i64) (Sort.ahead w n) blk off (zs.mergeSort fun x y => decide (x ≤ y)).toArray) os := Any.slices_Sort_int Tryd.lays189 blk off cap zs w hH hblk hsz
def Tryd.laysNm220_ren : Go.Shelf.Ren := ⟨fun | 20 => 30 | n => n, fun | 22 => 57 | 3 => 3 | 4 => 4 | 0 => 0 | n => n, fun | n => n⟩
theorem Tryd.laysNm220 : Go.Proofs.Lays2.n20 Tryd.prog Tryd.laysNm220_ren := {
  mixed := by kernel_rfl
  f20 := Tryd.func30.trans (congrArg some (by kernel_rfl))
  t0 := Tryd.underlying0
  a0 := Tryd.isAgg0
  z0 := Tryd.sizeOf0
  v0 := Tryd.zeroValue0
  t3 := Tryd.underlying3
  a3 := Tryd.isAgg3
  z3 := Tryd.sizeOf3
  v3 := Tryd.zeroValue3
  t4 := Tryd.underlying4
  a4 := Tryd.isAgg4
  z4 := Tryd.sizeOf4
  v4 := Tryd.zeroValue4
  t22 := Tryd.underlying57
  a22 := Tryd.isAgg57
  z22 := Tryd.sizeOf57
  v22 := Tryd.zeroValue57
  i3 := by kernel_rfl }
open Go.RowKit Go.Lib Go.Sort in
/-- slices.Compact at []int: "Compact replaces consecutive runs of equal elements with a single copy. This is like the uniq command found on Unix. Compact modifies the contents of the slice s and returns the modified slice, which may have a smaller length. Compact zeroes the elements between the new length and the original length. The result preserves the nilness of s.": IT RETURNS THE SLICE CUT TO 'Lib.compact zs'; ITS CELLS HOLD 'Lib.compact zs', THEN ZERO VALUES up to the old length; all else is as it was, but for the count of draws. IN THE WORDS OF slices.Sort's CONTRACT ('Holds', 'putRow'): so the everyday 'slices.Sort(xs); xs = slices.Compact(xs)' goes from the one contract to the other. It asks 'zs.length ≤ cap' (every slice's: the reslicing 's[:k]' looks at it). Length 0, nil: '.._empty'. (LAID: no walk: one application.) -/
theorem Tryd.slices_Compact_int (blk off cap : Nat) (zs : List Int) (w : World) (hH : Holds (Value.int .i64) w blk off zs.toArray) (hsz : zs.length ≤ 9223372036854775807) (hcap : zs.length ≤ cap) :
    Calls Tryd.prog 30 #[.slice (some ⟨blk, off, none⟩) zs.length cap] w fun e w' => e = .returned (.slice (some ⟨blk, off, none⟩) (Lib.compact zs).length cap) ∧ ∃ q, w' = putRow (Value.int .i64) (Sort.ahead w q) blk off (Lib.compact zs ++ List.replicate (zs.length - (Lib.compact zs).length) 0).toArray := Any.slices_Compact_int Tryd.laysNm220 blk off cap zs w hH hsz hcap
open Go.RowKit Go.Lib Go.Sort in
/-- The same at a slice of length 0, a nil one too: it comes back as it is. (LAID: no walk: one application.) -/
theorem Tryd.slices_Compact_int_empty (a : Option Addr) (cap : Nat) (w : World) :
    Calls Tryd.prog 30 #[.slice a 0 cap] w fun e w' => e = .returned (.slice a 0 cap) ∧ w' = w := Any.slices_Compact_int_empty Tryd.laysNm220 a cap w
end Go.Proofs

namespace Go.Lb.LK
open Go Go.Lb

structure Port where
  s : Int
  p : Int
  deriving DecidableEq
def Port.cells (x : Port) : List AV := [I x.s, I x.p]
abbrev Port.av (x : Port) : AV := .agg x.cells

structure Sec where
  kind : Int
  j0 : Port
  j1 : Port
  j2 : Port
  j3 : Port
  c0 : Int
  c1 : Int
  deriving DecidableEq
def Sec.cells (x : Sec) : List AV := [U x.kind, I x.j0.s, I x.j0.p, I x.j1.s, I x.j1.p, I x.j2.s, I x.j2.p, I x.j3.s, I x.j3.p, I x.c0, I x.c1]
abbrev Sec.av (x : Sec) : AV := .agg x.cells

structure Step where
  s : Int
  i : Int
  o : Int
  deriving DecidableEq
def Step.cells (x : Step) : List AV := [I x.s, I x.i, I x.o]
abbrev Step.av (x : Step) : AV := .agg x.cells

structure Exi where
  a : Port
  over : List Step
  deriving DecidableEq
def Exi.cells (x : Exi) : List AV := [I x.a.s, I x.a.p, .sl (x.over.map Step.av)]
abbrev Exi.av (x : Exi) : AV := .agg x.cells

structure Flank where
  s : Int
  way : Int
  point : Int
  pos : Int
  deriving DecidableEq
def Flank.cells (x : Flank) : List AV := [I x.s, I x.way, I x.point, I x.pos]
abbrev Flank.av (x : Flank) : AV := .agg x.cells

structure Lay where
  secs : List Sec
  sigs : List Port
  exits : List Exi
  flanks : List Flank
  clear : Int
  drive : Int
  stale : Int
  approach : Int
  over : Int
  press : Int
  link : Int
  deriving DecidableEq
def Lay.cells (l : Lay) : List AV := [.sl (l.secs.map Sec.av), .sl (l.sigs.map Port.av), .sl (l.exits.map Exi.av), .sl (l.flanks.map Flank.av), I l.clear, I l.drive, I l.stale, I l.approach, I l.over, I l.press, I l.link]
abbrev Lay.av (l : Lay) : AV := .agg l.cells

structure Path where
  sig : Int
  exit : Int
  steps : List Step
  deriving DecidableEq
def Path.cells (x : Path) : List AV := [I x.sig, I x.exit, .sl (x.steps.map Step.av)]
abbrev Path.av (x : Path) : AV := .agg x.cells

structure Need where
  p : Int
  pos : Int
  k : Int
  deriving DecidableEq
def Need.cells (x : Need) : List AV := [I x.p, I x.pos, I x.k]
abbrev Need.av (x : Need) : AV := .agg x.cells
abbrev needs (l : List Need) : AV := .sl (l.map Need.av)
abbrev steps (l : List Step) : AV := .sl (l.map Step.av)

@[simp] theorem Port.pure (x : Port) : AV.pureAll x.cells = true := by simp [Port.cells, AV.pureAll, AV.pure]
@[simp] theorem Sec.pure (x : Sec) : AV.pureAll x.cells = true := by simp [Sec.cells, AV.pureAll, AV.pure]
@[simp] theorem Step.pure (x : Step) : AV.pureAll x.cells = true := by simp [Step.cells, AV.pureAll, AV.pure]
@[simp] theorem steps_pure (l : List Step) : AV.pureAll (l.map Step.av) = true := pureAll_map _ (fun x => by simp [AV.pure]) l
@[simp] theorem Exi.pure (x : Exi) : AV.pureAll x.cells = true := by simp [Exi.cells, AV.pureAll, AV.pure]
@[simp] theorem Flank.pure (x : Flank) : AV.pureAll x.cells = true := by simp [Flank.cells, AV.pureAll, AV.pure]
@[simp] theorem Path.pure (x : Path) : AV.pureAll x.cells = true := by simp [Path.cells, AV.pureAll, AV.pure]
@[simp] theorem Need.pure (x : Need) : AV.pureAll x.cells = true := by simp [Need.cells, AV.pureAll, AV.pure]
@[simp] theorem needs_pure (l : List Need) : AV.pureAll (l.map Need.av) = true := pureAll_map _ (fun x => by simp [AV.pure]) l
@[simp] theorem Lay.pure (l : Lay) : AV.pureAll l.cells = true := by
  simp [Lay.cells, AV.pureAll, AV.pure, pureAll_map Sec.av (fun x => by simp [AV.pure]), pureAll_map Port.av (fun x => by simp [AV.pure]), pureAll_map Exi.av (fun x => by simp [AV.pure]), pureAll_map Flank.av (fun x => by simp [AV.pure])]

/-! ### The form of the data -/
def iT : TS := .int .i64
def portT : TS := .agg [iT, iT]
def secT : TS := .agg [.int .u8, .agg [portT, portT, portT, portT], .agg [iT, iT]]
def sigT : TS := .agg [portT]
def stepT : TS := .agg [iT, iT, iT]
def exitT : TS := .agg [portT, .sl true stepT]
def flankT : TS := .agg [iT, iT, iT, iT]
def timesT : TS := .agg [iT, iT, iT, iT, iT, iT, iT]
def layT : TS := .agg [.sl true secT, .sl true sigT, .sl true exitT, .sl true flankT, timesT]
def pathT : TS := .agg [iT, iT, .sl true stepT]
def needT : TS := .agg [iT, iT, iT]

theorem sec_of {cs : List AV} (h : secT.fits cs) : ∃ s : Sec, AV.agg cs = s.av ∧ 0 ≤ s.kind ∧ s.kind ≤ 255 := by
  simp only [secT, portT, iT, fits_agg, fitsAll_int, fitsAll_agg, fitsAll_nil, List.append_nil, List.cons_append, List.nil_append] at h
  obtain ⟨m, q, rfl, hm, a0, q, rfl, _, a1, q, rfl, _, a2, q, rfl, _, a3, q, rfl, _, a4, q, rfl, _, a5, q, rfl, _, a6, q, rfl, _, a7, q, rfl, _, a8, q, rfl, _, a9, q, rfl, _, rfl⟩ := h
  exact ⟨⟨m, ⟨a0, a1⟩, ⟨a2, a3⟩, ⟨a4, a5⟩, ⟨a6, a7⟩, a8, a9⟩, rfl, by simpa using hm⟩
theorem sig_of {cs : List AV} (h : sigT.fits cs) : ∃ s : Port, AV.agg cs = s.av := by
  simp only [sigT, portT, iT, fits_agg, fitsAll_int, fitsAll_agg, fitsAll_sl, fitsAll_nil, List.append_nil, List.cons_append, List.nil_append] at h
  obtain ⟨a0, q, rfl, _, a1, q, rfl, _, rfl⟩ := h
  exact ⟨⟨a0, a1⟩, rfl⟩
theorem step_of {cs : List AV} (h : stepT.fits cs) : ∃ s : Step, AV.agg cs = s.av := by
  simp only [stepT, iT, fits_agg, fitsAll_int, fitsAll_agg, fitsAll_sl, fitsAll_nil, List.append_nil, List.cons_append, List.nil_append] at h
  obtain ⟨a0, q, rfl, _, a1, q, rfl, _, a2, q, rfl, _, rfl⟩ := h
  exact ⟨⟨a0, a1, a2⟩, rfl⟩
theorem flank_of {cs : List AV} (h : flankT.fits cs) : ∃ s : Flank, AV.agg cs = s.av := by
  simp only [flankT, iT, fits_agg, fitsAll_int, fitsAll_agg, fitsAll_sl, fitsAll_nil, List.append_nil, List.cons_append, List.nil_append] at h
  obtain ⟨a0, q, rfl, _, a1, q, rfl, _, a2, q, rfl, _, a3, q, rfl, _, rfl⟩ := h
  exact ⟨⟨a0, a1, a2, a3⟩, rfl⟩
theorem need_of {cs : List AV} (h : needT.fits cs) : ∃ s : Need, AV.agg cs = s.av := by
  simp only [needT, iT, fits_agg, fitsAll_int, fitsAll_agg, fitsAll_sl, fitsAll_nil, List.append_nil, List.cons_append, List.nil_append] at h
  obtain ⟨a0, q, rfl, _, a1, q, rfl, _, a2, q, rfl, _, rfl⟩ := h
  exact ⟨⟨a0, a1, a2⟩, rfl⟩
theorem exit_of {cs : List AV} (h : exitT.fits cs) : ∃ s : Exi, AV.agg cs = s.av := by
  simp only [exitT, portT, iT, fits_agg, fitsAll_int, fitsAll_agg, fitsAll_sl, fitsAll_nil, List.append_nil, List.cons_append, List.nil_append] at h
  obtain ⟨a0, q, rfl, _, a1, q, rfl, _, es, q, rfl, hs, rfl⟩ := h
  obtain ⟨ov, rfl⟩ := sl_map (g := Step.av) (fun cs h => step_of h) es hs.2
  exact ⟨⟨⟨a0, a1⟩, ov⟩, rfl⟩
/-- Kinds are bytes. -/
def Lay.ok (l : Lay) : Prop := ∀ s ∈ l.secs, 0 ≤ s.kind ∧ s.kind ≤ 255
theorem lay_of {cs : List AV} (h : layT.fits cs) : ∃ l : Lay, AV.agg cs = l.av ∧ l.ok := by
  simp only [layT, timesT, iT, fits_agg, fitsAll_int, fitsAll_agg, fitsAll_sl, fitsAll_nil, List.append_nil, List.cons_append, List.nil_append] at h
  obtain ⟨s1, q, rfl, h1, s2, q, rfl, h2, s3, q, rfl, h3, s4, q, rfl, h4, a0, q, rfl, _, a1, q, rfl, _, a2, q, rfl, _, a3, q, rfl, _, a4, q, rfl, _, a5, q, rfl, _, a6, q, rfl, _, rfl⟩ := h
  obtain ⟨secs, rfl, hs⟩ := sl_mapP (g := Sec.av) (Q := fun s => 0 ≤ s.kind ∧ s.kind ≤ 255) (fun cs h => sec_of h) s1 h1.2
  obtain ⟨sigs, rfl⟩ := sl_map (g := Port.av) (fun cs h => sig_of h) s2 h2.2
  obtain ⟨exits, rfl⟩ := sl_map (g := Exi.av) (fun cs h => exit_of h) s3 h3.2
  obtain ⟨fls, rfl⟩ := sl_map (g := Flank.av) (fun cs h => flank_of h) s4 h4.2
  exact ⟨⟨secs, sigs, exits, fls, a0, a1, a2, a3, a4, a5, a6⟩, rfl, hs⟩
theorem path_of {cs : List AV} (h : pathT.fits cs) : ∃ l : Path, AV.agg cs = l.av := by
  simp only [pathT, iT, fits_agg, fitsAll_int, fitsAll_agg, fitsAll_sl, fitsAll_nil, List.append_nil, List.cons_append, List.nil_append] at h
  obtain ⟨a0, q, rfl, _, a1, q, rfl, _, es, q, rfl, hs, rfl⟩ := h
  obtain ⟨ov, rfl⟩ := sl_map (g := Step.av) (fun cs h => step_of h) es hs.2
  exact ⟨⟨a0, a1, ov⟩, rfl⟩
theorem lay_arg {x : AV} (h : layT.fits x.cells) (h2 : aggIf true x) : ∃ l : Lay, x = l.av ∧ l.ok := by
  obtain ⟨cs, rfl⟩ := h2.1 rfl
  exact lay_of h
theorem path_arg {x : AV} (h : pathT.fits x.cells) (h2 : aggIf true x) : ∃ l : Path, x = l.av := by
  obtain ⟨cs, rfl⟩ := h2.1 rfl
  exact path_of h
theorem need_arg {x : AV} (h : needT.fits x.cells) (h2 : aggIf true x) : ∃ l : Need, x = l.av := by
  obtain ⟨cs, rfl⟩ := h2.1 rfl
  exact need_of h
theorem sl_arg {x : AV} {T : TS} {g : Bool} (h : (TS.sl g T).fits x.cells) (h2 : aggIf false x) : ∃ es, x = .sl es ∧ es.length ≤ maxLen ∧ ∀ x ∈ es, T.fits x.cells ∧ aggIf g x := by
  obtain ⟨es, h1, h0, h3⟩ := fits_sl.1 h
  have : x = .sl es := by
    cases x <;> simp_all [AV.cells, aggIf]
  exact ⟨es, this, h0, h3⟩
theorem needs_arg {x : AV} (h : (TS.sl true needT).fits x.cells) (h2 : aggIf false x) : ∃ l : List Need, x = needs l := by
  obtain ⟨es, rfl, _, h3⟩ := sl_arg h h2
  obtain ⟨l, rfl⟩ := sl_map (g := Need.av) (fun cs h => need_of h) es h3
  exact ⟨l, rfl⟩
theorem int_arg {x : AV} (h : iT.fits x.cells) (h2 : aggIf false x) : ∃ n, x = I n := by
  obtain ⟨n, h1, _⟩ := fits_int.1 h
  have : x = I n := by
    cases x <;> simp_all [AV.cells, aggIf]
  exact ⟨n, this⟩
theorem bool_arg {x : AV} (h : TS.bool.fits x.cells) (h2 : aggIf false x) : ∃ b, x = .bool b := by
  obtain ⟨n, h1⟩ := fits_bool.1 h
  have : x = .bool n := by
    cases x <;> simp_all [AV.cells, aggIf]
  exact ⟨n, this⟩
end Go.Lb.LK

namespace Go.Lb.LK
open Go Go.Lb Go.Proofs Go.RowKit

/-- A function of numbers that leaves the world alone. -/
theorem contract_of_calls {P : Program} {f : FuncId} {avs : List AV} {vs : List Value} {r : AV} {v : Value} (hr : r.pure = true) (ha : ∀ c us, Rvs c avs us → us = vs) (hv : ∀ c, Rv c r v) (h : ∀ w, Calls P f ⟨vs⟩ w fun e w' => e = .returned v ∧ w' = w) : Contract P [] f avs r := by
  refine ⟨hr, fun w c us _ him _ hvs => ?_⟩
  rw [ha c us hvs]
  refine (h w).mono ?_
  rintro e w' ⟨rfl, rfl⟩
  exact ⟨v, c, rfl, Cx.Le.refl c, by assumption, him, fun _ _ => ⟨fun _ _ h => h, fun _ h => h⟩, hv c, Below.refl _ _⟩

theorem EOkS : EnvOk ES := ⟨fun f h => by simp [ES] at h, fun f h => by simp [ES] at h, fun g es h => by simp [ES] at h⟩
theorem bits0 : Contract PR [] f_mathbits_Len [.int .u64 0] (.int .i64 0) := by
  refine contract_of_calls (vs := [.int .u64 0]) (v := .int .i64 0) rfl (fun c us h => ?_) (fun c => .int _ _) (fun w => Tryd.bits_Len 0 w (by omega) (by omega))
  cases h with
  | cons _ v _ vs h1 h2 => cases h1; cases h2; rfl
theorem sort0 : Contract PR [] f_slices_Sort_int [.sl []] (.tup []) := by
  refine contract_of EOkS EmixS [] run_slices_Sort_int rfl rfl rfl ?_ rfl
  unfold rt_slices_Sort_int
  refine RTwp_chk.2 ⟨fun _ => by simp, ?_⟩
  refine RTwp_nil.2 (RTwp_chk.2 ⟨fun _ => by simp, RTwp_nil.2 ?_⟩)
  refine RTwp_call0 (r := .int .i64 0) bits0 (by simp) ?_
  simp
  refine RTwp_loop rfl (fun vs => vs = []) (fun _ => 0) rfl ?_
  rintro vs - rfl
  simp
  refine RTwp_loop rfl (fun vs => vs = []) (fun _ => 0) rfl ?_
  rintro vs - rfl
  simp
theorem srtOk : SrtOk PR f_slices_Sort_int := ⟨fun blk off cap zs w h1 h2 h3 => Tryd.slices_Sort_int blk off cap zs w h1 h2 h3, sort0⟩
theorem cptOk : CptOk PR f_slices_Compact_int := ⟨fun blk off cap zs w h1 h2 h3 => Tryd.slices_Compact_int blk off cap zs w h1 h2 h3, fun a cap w => Tryd.slices_Compact_int_empty a cap w⟩
theorem EOk : EnvOk E := by
  refine ⟨fun f h => ?_, fun f h => ?_, fun g es h => ?_⟩
  · have : f = f_slices_Compact_int := by simpa [E, cptF] using h
    rw [this]; exact cptOk
  · have : f = f_slices_Sort_int := by simpa [E, srtF] using h
    rw [this]; exact srtOk
  · have : g = 0 := by
      have := (List.getElem?_eq_some_iff.1 h).1
      simp [E, GL] at this; omega
    subst this
    have : es = GL[0] := by simpa [E, GL] using h.symm
    rw [this]; rfl
abbrev C (f : Nat) (avs : List AV) (r : AV) : Prop := Contract PR GL f avs r
theorem ctr {f n : Nat} {args : List SE} (vs : List AV) {rt : RT} (hrun : runF E f args n = rt) (hw : SE.wfs n (fun _ => false) args = true)
    (hp : AV.pureAll vs = true) {r : AV} (hr : r.pure = true) (h : RTwp PR GL (fun x => x = r) rt (fun _ _ => False) (envOf vs)) {avs : List AV} (ha : dens (envOf vs) args = avs) : C f avs r :=
  contract_of EOk Emix vs hrun hw hp hr h ha

theorem filter_take {α : Type} (p : α → Bool) (l : List α) {i : Nat} (h : i < l.length) : (l.take (i + 1)).filter p = (l.take i).filter p ++ (if p l[i] = true then [l[i]] else []) := by
  rw [List.take_add_one, List.getElem?_eq_getElem h, List.filter_append]
  congr 1
  simp only [Option.toList_some, List.filter_cons, List.filter_nil]
theorem filter_take_len {α : Type} (p : α → Bool) (l : List α) (i : Nat) : ((l.take i).filter p).length ≤ l.length := by
  have := List.length_filter_le p (l.take i)
  have : (l.take i).length ≤ l.length := by simp; omega
  omega
theorem flatMap_take {α β : Type} (f : α → List β) (l : List α) {i : Nat} (h : i < l.length) : (l.take (i + 1)).flatMap f = (l.take i).flatMap f ++ f l[i] := by
  rw [List.take_add_one, List.getElem?_eq_getElem h, List.flatMap_append]
  simp
theorem map_take {α β : Type} (f : α → β) (l : List α) {i : Nat} (h : i < l.length) : (l.take (i + 1)).map f = (l.take i).map f ++ [f l[i]] := by
  rw [List.take_add_one, List.getElem?_eq_getElem h, List.map_append]
  simp
@[simp] theorem ite_avbool (c : Prop) [Decidable c] (a b : Bool) : (if c then AV.bool a else AV.bool b) = AV.bool (if c then a else b) := by split <;> rfl
@[simp] theorem ite_avint (c : Prop) [Decidable c] (k : IntKind) (a b : Int) : (if c then AV.int k a else AV.int k b) = AV.int k (if c then a else b) := by split <;> rfl

/-- A call that is sure, its arguments reckoned. -/
theorem call {ρ : Nat → AV} {R : AV → Prop} {L : Nat → List AV → Prop} {n f : Nat} {args : List SE} {bo : Bool} {ns : List Nd} {k : RT} {r : AV} {avs : List AV} (hc : C f avs r) (ha : dens ρ args = avs) (hb : bo = true → r.scalar = true)
    (h : RTwp PR GL R (.seg ns k) L (setEnv ρ n r)) : RTwp PR GL R (.seg (.call n [] f args bo :: ns) k) L ρ := RTwp_call0 (by rw [ha]; exact hc) hb h
/-- A call that is wanted under conditions. -/
theorem callIf {ρ : Nat → AV} {R : AV → Prop} {L : Nat → List AV → Prop} {pcs : List (SE × Bool)} {n f : Nat} {args : List SE} {bo : Bool} {ns : List Nd} {k : RT} {avs : List AV} (r : AV) (hr : r.pure = true) (hc : Holds ρ pcs → dens ρ args = avs ∧ C f avs r) (hb : bo = true → r.scalar = true)
    (h : RTwp PR GL R (.seg ns k) L (setEnv ρ n r)) : RTwp PR GL R (.seg (.call n pcs f args bo :: ns) k) L ρ := RTwp_call r hr (fun hp => ⟨by rw [(hc hp).1]; exact (hc hp).2, hb⟩) h
end Go.Lb.LK

namespace Go.Lb.LK
open Go Go.Lb Go.Proofs Go.RowKit

def kindCells (k : Int) : List AV :=
  if k = 1 then [I 2, I 0, I 1, I 0, I 0, I 1, .bool false] else if k = 2 then [I 3, I 0, I 1, I 0, I 2, I 2, .bool true]
  else if k = 3 then [I 4, I 0, I 1, I 2, I 3, I 2, .bool false] else [I 0, I 0, I 0, I 0, I 0, I 0, .bool false]
theorem kind_cases {k : Int} (h0 : 0 ≤ k) (h1 : k ≤ 255) : k = 0 ∨ k = 1 ∨ k = 2 ∨ k = 3 ∨ 4 ≤ k := by omega

theorem c_port_of (k : Int) (h0 : 0 ≤ k) (h1 : k ≤ 255) : C f_port_of [U k] (.agg (kindCells k)) := by
  refine ctr [U k] run_port_of rfl rfl ?_ ?_ rfl
  · unfold kindCells; repeat' split
    all_goals rfl
  · unfold rt_port_of
    have hw : IntKind.i64.wrap k = k := by rw [wrap_i] <;> omega
    rcases kind_cases h0 h1 with rfl | rfl | rfl | rfl | h
    · simp [kindCells, hw]
    · simp [kindCells, hw]
    · simp [kindCells, hw]
    · simp [kindCells, hw]
    · have : ¬ k < 4 := by omega
      simp [hw, this, kindCells, show k ≠ 1 by omega, show k ≠ 2 by omega, show k ≠ 3 by omega]

/-- The way from one port to another one. -/
def way (k i o : Int) : Int × Bool :=
  if (k = 1 ∨ k = 2 ∨ k = 3) ∧ (i = 0 ∧ o = 1 ∨ i = 1 ∧ o = 0) then (0, true)
  else if k = 2 ∧ (i = 0 ∧ o = 2 ∨ i = 2 ∧ o = 0) then (1, true)
  else if k = 3 ∧ (i = 2 ∧ o = 3 ∨ i = 3 ∧ o = 2) then (1, true) else (0, false)
theorem w1 : IntKind.i64.wrap 1 = 1 := by decide
theorem w2 : IntKind.i64.wrap 2 = 2 := by decide
abbrev ib (x : Int × Bool) : AV := .tup [I x.1, .bool x.2]

theorem c_port_Way (k i o : Int) (h0 : 0 ≤ k) (h1 : k ≤ 255) : C f_port_Way [U k, I i, I o] (ib (way k i o)) := by
  refine ctr [U k, I i, I o] run_port_Way rfl rfl rfl ?_ rfl
  unfold rt_port_Way
  simp
  refine RTwp_call0 (c_port_of k h0 h1) (by simp) ?_
  rcases kind_cases h0 h1 with rfl | rfl | rfl | rfl | h
  · simp [kindCells]
    refine RTwp_loop rfl (fun vs => vs = [I 0]) (fun _ => 0) rfl ?_
    rintro vs - rfl
    simp [way]
  · simp [kindCells]
    refine RTwp_loop rfl (fun vs => vs = [I 0] ∨ vs = [I 1] ∧ way 1 i o = (0, false)) (fun vs => match vs with | [.int _ j] => 3 - j.toNat | _ => 0) (.inl rfl) ?_
    rintro vs - (rfl | ⟨rfl, hw⟩)
    · by_cases c1 : i = 0 ∧ o = 1 ∨ i = 1 ∧ o = 0 <;> simp [way, c1, w1] <;> omega
    · simp [hw]
  · simp [kindCells]
    refine RTwp_loop rfl (fun vs => vs = [I 0] ∨ vs = [I 1] ∧ ¬ (i = 0 ∧ o = 1 ∨ i = 1 ∧ o = 0) ∨ vs = [I 2] ∧ way 2 i o = (0, false)) (fun vs => match vs with | [.int _ j] => 3 - j.toNat | _ => 0) (.inl rfl) ?_
    rintro vs - (rfl | ⟨rfl, hw⟩ | ⟨rfl, hw⟩)
    · by_cases c1 : i = 0 ∧ o = 1 ∨ i = 1 ∧ o = 0 <;> simp [way, c1, w1] <;> omega
    · by_cases c1 : i = 0 ∧ o = 2 ∨ i = 2 ∧ o = 0 <;> simp [way, c1, hw, w2] <;> omega
    · simp [hw]
  · simp [kindCells]
    refine RTwp_loop rfl (fun vs => vs = [I 0] ∨ vs = [I 1] ∧ ¬ (i = 0 ∧ o = 1 ∨ i = 1 ∧ o = 0) ∨ vs = [I 2] ∧ way 3 i o = (0, false)) (fun vs => match vs with | [.int _ j] => 3 - j.toNat | _ => 0) (.inl rfl) ?_
    rintro vs - (rfl | ⟨rfl, hw⟩ | ⟨rfl, hw⟩)
    · by_cases c1 : i = 0 ∧ o = 1 ∨ i = 1 ∧ o = 0 <;> simp [way, c1, w1] <;> omega
    · by_cases c1 : i = 2 ∧ o = 3 ∨ i = 3 ∧ o = 2 <;> simp [way, c1, hw, w2] <;> omega
    · simp [hw]
  · simp [kindCells, show k ≠ 1 by omega, show k ≠ 2 by omega, show k ≠ 3 by omega]
    refine RTwp_loop rfl (fun vs => vs = [I 0]) (fun _ => 0) rfl ?_
    rintro vs - rfl
    simp [way, show k ≠ 1 by omega, show k ≠ 2 by omega, show k ≠ 3 by omega]

theorem c_port_Pos (k i o : Int) (h0 : 0 ≤ k) (h1 : k ≤ 255) : C f_port_Pos [U k, I i, I o] (ib (if (way k i o).2 = true ∧ k ≠ 2 then (-1, true) else way k i o)) := by
  refine ctr [U k, I i, I o] run_port_Pos rfl rfl rfl ?_ rfl
  unfold rt_port_Pos
  refine RTwp_call0 (c_port_Way k i o h0 h1) (by simp) ?_
  simp
  refine RTwp_call (.agg (kindCells k)) (c_port_of k h0 h1).1 (fun _ => ⟨c_port_of k h0 h1, by simp⟩) ?_
  generalize way k i o = w
  obtain ⟨a, b⟩ := w
  rcases kind_cases h0 h1 with rfl | rfl | rfl | rfl | h <;> cases b
  any_goals simp [kindCells]
  · simp [kindCells, show k ≠ 1 by omega, show k ≠ 2 by omega, show k ≠ 3 by omega]

/-! ### A layout's places -/
def secAt (l : Lay) (s : Int) : Option Sec := if 0 ≤ s then l.secs[s.toNat]? else none
theorem secAt_in {l : Lay} {s : Int} (h0 : 0 ≤ s) (h1 : s < l.secs.length) : ∃ n : Nat, s = n ∧ ∃ h : n < l.secs.length, secAt l s = some (l.secs[n]) := by
  refine ⟨s.toNat, by omega, by omega, ?_⟩
  unfold secAt
  rw [if_pos h0, List.getElem?_eq_getElem]
theorem secAt_out {l : Lay} {s : Int} (h : ¬ (0 ≤ s ∧ s < l.secs.length)) : secAt l s = none := by
  unfold secAt
  split
  · exact List.getElem?_eq_none (by omega)
  · rfl
theorem secAt_some {l : Lay} {s : Int} {x : Sec} (h : secAt l s = some x) : 0 ≤ s ∧ s < l.secs.length ∧ x ∈ l.secs := by
  by_cases hc : 0 ≤ s ∧ s < l.secs.length
  · obtain ⟨n, hn, hl, h2⟩ := secAt_in hc.1 hc.2
    rw [h2] at h
    simp only [Option.some.injEq] at h; subst h
    exact ⟨hc.1, hc.2, List.getElem_mem hl⟩
  · rw [secAt_out hc] at h; cases h
/-- The way of a step. -/
def lstep (l : Lay) (s : Step) : Int × Bool := match secAt l s.s with
  | some x => way x.kind s.i s.o
  | none => (0, false)

theorem c_layout_Step (l : Lay) (hl : l.ok) (s : Step) : C f_layout_Step [l.av, s.av] (ib (lstep l s)) := by
  refine ctr (l.cells ++ s.cells) run_layout_Step rfl (by simp [pureAll_append]) rfl ?_ rfl
  unfold rt_layout_Step
  simp [Lay.cells, Step.cells]
  by_cases hc : 0 ≤ s.s ∧ s.s < l.secs.length
  · obtain ⟨n, hn, hlt, he⟩ := secAt_in hc.1 hc.2
    have hk := hl _ (List.getElem_mem hlt)
    simp [hn, hlt, Sec.cells]
    refine ⟨?_, fun h => absurd h (by omega)⟩
    refine call (c_port_Way _ s.i s.o hk.1 hk.2) (by simp [hlt, Sec.cells]) (by simp) ?_
    simp [lstep, he]
  · have h2 : 0 ≤ s.s → ¬ s.s < l.secs.length := by omega
    simp [lstep, secAt_out hc]
    exact fun a b => absurd ⟨a, b⟩ hc

/-! ### Overlaps -/
theorem c_slices_Clone_Step (l : List Step) (h : l.length ≤ 4294967296) : C f_slices_Clone_Step [steps l] (steps l) := by
  refine ctr [steps l] run_slices_Clone_Step rfl (by simp [AV.pureAll, AV.pure]) (by simp [AV.pure]) ?_ rfl
  unfold rt_slices_Clone_Step
  simp
  exact ⟨fun x _ => by simp [Step.cells], h⟩

def exitAt (l : Lay) (x : Int) : Option Exi := if 0 ≤ x then l.exits[x.toNat]? else none
theorem exitAt_in {l : Lay} {s : Int} (h0 : 0 ≤ s) (h1 : s < l.exits.length) : ∃ n : Nat, s = n ∧ ∃ h : n < l.exits.length, exitAt l s = some (l.exits[n]) := by
  refine ⟨s.toNat, by omega, by omega, ?_⟩
  unfold exitAt
  rw [if_pos h0, List.getElem?_eq_getElem]
theorem exitAt_out {l : Lay} {s : Int} (h : ¬ (0 ≤ s ∧ s < l.exits.length)) : exitAt l s = none := by
  unfold exitAt
  split
  · exact List.getElem?_eq_none (by omega)
  · rfl
/-- An exit's overlap. -/
def over (l : Lay) (x : Int) : List Step := match exitAt l x with
  | some e => e.over
  | none => []
/-- Overlaps are no longer than the machine bears. -/
def Lay.ovOk (l : Lay) : Prop := ∀ e ∈ l.exits, e.over.length ≤ 4294967296
theorem over_len {l : Lay} (h : l.ovOk) (x : Int) : (over l x).length ≤ 4294967296 := by
  unfold over
  split
  · rename_i e he
    by_cases hc : 0 ≤ x ∧ x < l.exits.length
    · obtain ⟨n, hn, hlt, h2⟩ := exitAt_in hc.1 hc.2
      rw [h2] at he
      simp only [Option.some.injEq] at he; subst he
      exact h _ (List.getElem_mem hlt)
    · rw [exitAt_out hc] at he; cases he
  · simp

theorem c_beyond_Over (l : Lay) (ho : l.ovOk) (x : Int) : C f_beyond_Over [l.av, I x] (steps (over l x)) := by
  refine ctr (l.cells ++ [I x]) run_beyond_Over rfl (by simp [pureAll_append, AV.pureAll, AV.pure]) (by simp [AV.pure]) ?_ rfl
  unfold rt_beyond_Over
  simp [Lay.cells]
  by_cases hc : 0 ≤ x ∧ x < l.exits.length
  · obtain ⟨n, hn, hlt, he⟩ := exitAt_in hc.1 hc.2
    have hk := ho _ (List.getElem_mem hlt)
    subst hn
    simp [hlt, Exi.cells]
    refine ⟨fun h => by omega, ?_⟩
    refine call (c_slices_Clone_Step _ hk) (by simp [hlt, Exi.cells]) (by simp) ?_
    simp [over, he]
  · simp [over, exitAt_out hc]
    exact fun a b => absurd ⟨a, b⟩ hc
end Go.Lb.LK

namespace Go.Lb.LK
open Go Go.Lb Go.Proofs Go.RowKit

/-- A step's point. -/
def point (l : Lay) (s : Step) : Int × Int × Bool := match secAt l s.s with
  | some x => if (way x.kind s.i s.o).2 = true ∧ x.kind = 2 then (s.s, (way 2 s.i s.o).1, true) else (0, 0, false)
  | none => (0, 0, false)
abbrev iib (x : Int × Int × Bool) : AV := .tup [I x.1, I x.2.1, .bool x.2.2]

theorem c_beyond_Point (l : Lay) (hl : l.ok) (s : Step) : C f_beyond_Point [l.av, s.av] (iib (point l s)) := by
  refine ctr (l.cells ++ s.cells) run_beyond_Point rfl (by simp [pureAll_append]) rfl ?_ rfl
  unfold rt_beyond_Point
  simp [Lay.cells, Step.cells]
  refine call (c_layout_Step l hl s) (by simp [Lay.cells, Step.cells]) (by simp) ?_
  by_cases hc : 0 ≤ s.s ∧ s.s < l.secs.length
  · obtain ⟨n, hn, hlt, he⟩ := secAt_in hc.1 hc.2
    have hls : lstep l s = way l.secs[n].kind s.i s.o := by simp [lstep, he]
    have hpt : point l s = if (way l.secs[n].kind s.i s.o).2 = true ∧ l.secs[n].kind = 2 then (s.s, (way 2 s.i s.o).1, true) else (0, 0, false) := by simp [point, he]
    rw [hls, hpt]
    clear hls hpt
    cases hw : (way l.secs[n].kind s.i s.o).2
    · simp [hn, hlt, Sec.cells, hw]
    · by_cases hk : l.secs[n].kind = 2
      · rw [hk] at hw ⊢
        simp [hn, hlt, Sec.cells, hw, hk]
        refine call (c_port_Pos 2 s.i s.o (by omega) (by omega)) (by simp) (by simp) ?_
        simp
      · simp [hn, hlt, Sec.cells, hw, hk]
  · simp [point, lstep, secAt_out hc]

def flankOn (l : Lay) (s : Step) (f : Flank) : Bool := (lstep l s).2 && decide (f.s = s.s) && decide (f.way = (lstep l s).1)
/-- What a step wants. -/
def wants (l : Lay) (s : Step) (k : Int) : List Need :=
  (if (point l s).2.2 = true then [⟨(point l s).1, (point l s).2.1, k⟩] else []) ++ (l.flanks.filter (flankOn l s)).map fun f => ⟨f.point, f.pos, k⟩

theorem c_beyond_Wants (l : Lay) (hl : l.ok) (hf : l.flanks.length ≤ 2147483648) (s : Step) (k : Int) : C f_beyond_Wants [l.av, s.av, I k] (needs (wants l s k)) := by
  refine ctr (l.cells ++ s.cells ++ [I k]) run_beyond_Wants rfl (by simp [pureAll_append, AV.pureAll, AV.pure]) (by simp [AV.pure]) ?_ rfl
  unfold rt_beyond_Wants
  simp [Lay.cells, Step.cells]
  refine call (c_beyond_Point l hl s) (by simp [Lay.cells, Step.cells]) (by simp) ?_
  simp
  have hlen : ∀ i, ((l.flanks.take i).filter (flankOn l s)).length ≤ 2147483648 := fun i => by
    have := List.length_filter_le (flankOn l s) (l.flanks.take i)
    have : (l.flanks.take i).length ≤ l.flanks.length := by simp; omega
    omega
  refine ⟨fun hp => ?_, fun hp => ?_⟩
  all_goals
    refine call (c_layout_Step l hl s) (by simp [Lay.cells, Step.cells]) (by simp) ?_
    simp
    refine RTwp_loop rfl (fun vs => ∃ i : Nat, i ≤ l.flanks.length ∧ vs = [I i, needs ((if (point l s).2.2 = true then [⟨(point l s).1, (point l s).2.1, k⟩] else []) ++ ((l.flanks.take i).filter (flankOn l s)).map (fun f => ⟨f.point, f.pos, k⟩))]) (fun vs => match vs with | .int _ j :: _ => l.flanks.length - j.toNat | _ => 0) ⟨0, by simp, by simp [hp, Need.cells]⟩ ?_
    rintro vs - ⟨i, hi, rfl⟩
    have hli := hlen i
    simp
    refine ⟨fun hlt => ?_, fun hge => ?_⟩
    · have hw := wrap_succ (i := i) (by omega)
      have ht := filter_take (flankOn l s) l.flanks hlt
      cases hon : flankOn l s l.flanks[i]
      · have h3 : ¬ ((lstep l s).2 = true ∧ l.flanks[i].s = s.s ∧ l.flanks[i].way = (lstep l s).1) := by
          intro ⟨h1, h2, h3⟩
          simp [flankOn, h1, h2, h3] at hon
        simp [hlt, Flank.cells, hp]
        refine .inl ⟨fun h1 h2 h4 => h3 ⟨h1, h2, h4⟩, ⟨i + 1, by omega, hw, ?_⟩, by rw [hw]; omega⟩
        rw [ht, hon]; simp
      · have h3 : (lstep l s).2 = true ∧ l.flanks[i].s = s.s ∧ l.flanks[i].way = (lstep l s).1 := by
          simp only [flankOn, Bool.and_eq_true, decide_eq_true_eq] at hon
          exact ⟨hon.1.1, hon.1.2, hon.2⟩
        simp [hlt, Flank.cells, hp]
        refine .inr ⟨⟨⟨h3.1, h3.2.1⟩, h3.2.2⟩, by omega, ⟨i + 1, by omega, hw, ?_⟩, by rw [hw]; omega⟩
        rw [ht, hon]; simp [Need.cells]
    · have : l.flanks.take i = l.flanks := List.take_of_length_le hge
      simp [this, wants, hp, Need.cells]

/-- The steps that a path needs for, and their numbers. -/
def numbered (l : Lay) (p : Path) : List (Int × Step) := p.steps.mapIdx (fun k s => ((k : Int), s)) ++ (over l p.exit).map fun s => ((p.steps.length : Int), s)
/-- What a path needs. -/
def needOf (l : Lay) (p : Path) : List Need := (numbered l p).flatMap fun x => wants l x.2 x.1

theorem wants_len (l : Lay) (s : Step) (k : Int) : (wants l s k).length ≤ l.flanks.length + 1 := by
  unfold wants
  rw [List.length_append, List.length_map]
  have := List.length_filter_le (flankOn l s) l.flanks
  split <;> simp <;> omega
theorem mapIdx_take {α β : Type} (f : Nat → α → β) (l : List α) (i : Nat) : (l.take i).mapIdx f = (l.mapIdx f).take i := by
  apply List.ext_getElem?
  intro j
  by_cases h : j < i
  · simp [List.getElem?_take, h]
  · simp [List.getElem?_take, h]
theorem flat_len {α β : Type} (f : α → List β) (m : Nat) (h : ∀ x, (f x).length ≤ m) : ∀ l : List α, (l.flatMap f).length ≤ l.length * m
  | [] => by simp
  | x :: l => by
    have := flat_len f m h l
    have := h x
    simp only [List.flatMap_cons, List.length_append, List.length_cons, Nat.add_mul]
    omega

theorem c_need_Of (l : Lay) (hl : l.ok) (ho : l.ovOk) (hf : l.flanks.length ≤ 1000) (p : Path) (hp : p.steps.length ≤ 1000) (hov : (over l p.exit).length ≤ 1000) : C f_need_Of [l.av, p.av] (needs (needOf l p)) := by
  refine ctr (l.cells ++ p.cells) run_need_Of rfl (by simp [pureAll_append, AV.pureAll, AV.pure]) (by simp [AV.pure]) ?_ rfl
  unfold rt_need_Of
  simp [Lay.cells, Path.cells]
  have hw1 : ∀ s k, (wants l s k).length ≤ 1001 := fun s k => by have := wants_len l s k; omega
  have hnl : (numbered l p).length = p.steps.length + (over l p.exit).length := by simp [numbered]
  have hN : ∀ m : Nat, (((numbered l p).take m).flatMap fun x => wants l x.2 x.1).length ≤ 2002000 := fun m => by
    have h1 := flat_len (fun x : Int × Step => wants l x.2 x.1) 1001 (fun x => hw1 x.2 x.1) ((numbered l p).take m)
    have h2 : ((numbered l p).take m).length ≤ 2000 := by rw [List.length_take]; omega
    omega
  have hA : ∀ (i : Nat) (h : i < p.steps.length), (numbered l p)[i]'(by rw [hnl]; omega) = ((i : Int), p.steps[i]) := fun i h => by
    simp [numbered, List.getElem_append_left, h]
  have hB : ∀ (i : Nat) (h : i < (over l p.exit).length), (numbered l p)[p.steps.length + i]'(by rw [hnl]; omega) = ((p.steps.length : Int), (over l p.exit)[i]) := fun i h => by
    simp [numbered, List.getElem_append_right]
  refine RTwp_loop rfl (fun vs => ∃ i : Nat, i ≤ p.steps.length ∧ vs = [I i, needs (((numbered l p).take i).flatMap fun x => wants l x.2 x.1)]) (fun vs => match vs with | .int _ j :: _ => p.steps.length - j.toNat | _ => 0) ⟨0, by simp, by simp⟩ ?_
  rintro vs - ⟨i, hi, rfl⟩
  have hNi := hN i
  simp
  refine ⟨fun hlt => ?_, fun hge => ?_⟩
  · have hw := wrap_succ (i := i) (by omega)
    simp [hlt, Step.cells]
    have hx := flatMap_take (fun x : Int × Step => wants l x.2 x.1) (numbered l p) (i := i) (by rw [hnl]; omega)
    rw [hA i hlt] at hx
    have hy := hw1 p.steps[i] i
    refine call (c_beyond_Wants l hl (by omega) p.steps[i] i) (by simp [hlt, Step.cells, Lay.cells]) (by simp) ?_
    simp [-List.length_flatMap]
    refine ⟨fun x _ => by simp [Need.cells], by omega, ⟨i + 1, by omega, hw, ?_⟩, by rw [hw]; omega⟩
    rw [hx]; simp
  · have hi' : i = p.steps.length := by omega
    subst hi'
    refine call (c_beyond_Over l ho p.exit) (by simp [Lay.cells]) (by simp) ?_
    simp
    refine RTwp_loop rfl (fun vs => ∃ i : Nat, i ≤ (over l p.exit).length ∧ vs = [I i, needs (((numbered l p).take (p.steps.length + i)).flatMap fun x => wants l x.2 x.1)]) (fun vs => match vs with | .int _ j :: _ => (over l p.exit).length - j.toNat | _ => 0) ⟨0, by simp, by simp⟩ ?_
    rintro vs - ⟨i, hi, rfl⟩
    have hNi := hN (p.steps.length + i)
    simp
    refine ⟨fun hlt => ?_, fun hge => ?_⟩
    · have hw := wrap_succ (i := i) (by omega)
      simp [hlt, Step.cells]
      have hx := flatMap_take (fun x : Int × Step => wants l x.2 x.1) (numbered l p) (i := p.steps.length + i) (by rw [hnl]; omega)
      rw [hB i hlt] at hx
      have hy := hw1 (over l p.exit)[i] p.steps.length
      refine call (c_beyond_Wants l hl (by omega) (over l p.exit)[i] p.steps.length) (by simp [hlt, Step.cells, Lay.cells]) (by simp) ?_
      simp [-List.length_flatMap]
      refine ⟨fun x _ => by simp [Need.cells], by omega, ⟨i + 1, by omega, hw, ?_⟩, by rw [hw]; omega⟩
      rw [show p.steps.length + (i + 1) = p.steps.length + i + 1 from rfl, hx]; simp
    · have : (numbered l p).take (p.steps.length + i) = numbered l p := List.take_of_length_le (by rw [hnl]; omega)
      simp [this, needOf]
end Go.Lb.LK

namespace Go.Lb.LK
open Go Go.Lb Go.Proofs
noncomputable def rt_lockbarref05_Right : RT :=
 .seg [.chk [] (.isAgg 11) [.agg [.inp 0, .inp 1, .inp 2, .inp 3, .inp 4, .inp 5, .inp 6, .inp 7, .inp 8, .inp 9, .inp 10]]] <|
 .loop 0 11 [.int .i64 0] <|
 .seg [.chk [] (.bin .lss) [.inp 11, .int .i64 4]] <|
  .cond (.app (.bin .lss) [.inp 11, .int .i64 4])
  (.seg [.call 12 [] 44 [.inp 0] false] <|
   .seg [.chk [] (.bin .lss) [.inp 11, .inp 12]] <|
   .seg [.chk [(.app (.bin .lss) [.inp 11, .inp 12], true)] (.inr 4) [.inp 11]] <|
   .seg [.chk [(.app (.bin .lss) [.inp 11, .inp 12], true)] (.aidx 4 2 1 2 true) [.agg [.inp 0, .inp 1, .inp 2, .inp 3, .inp 4, .inp 5, .inp 6, .inp 7, .inp 8, .inp 9, .inp 10], .inp 11]] <|
   .seg [.call 13 [(.app (.bin .lss) [.inp 11, .inp 12], true)] 45 [.app (.aidx 4 2 1 2 true) [.agg [.inp 0, .inp 1, .inp 2, .inp 3, .inp 4, .inp 5, .inp 6, .inp 7, .inp 8, .inp 9, .inp 10], .inp 11]] false] <|
   .seg [.chk [(.app (.bin .lss) [.inp 11, .inp 12], true)] (.un .not) [.inp 13]] <|
   .seg [.chk [] .pick [.app (.bin .lss) [.inp 11, .inp 12], .app (.un .not) [.inp 13], .bool false]] <|
   .seg [.call 14 [(.app .pick [.app (.bin .lss) [.inp 11, .inp 12], .app (.un .not) [.inp 13], .bool false], false)] 44 [.inp 0] false] <|
   .seg [.chk [(.app .pick [.app (.bin .lss) [.inp 11, .inp 12], .app (.un .not) [.inp 13], .bool false], false)] (.bin .geq) [.inp 11, .inp 14]] <|
   .seg [.chk [(.app (.bin .geq) [.inp 11, .inp 14], true), (.app .pick [.app (.bin .lss) [.inp 11, .inp 12], .app (.un .not) [.inp 13], .bool false], false)] (.inr 4) [.inp 11]] <|
   .seg [.chk [(.app (.bin .geq) [.inp 11, .inp 14], true), (.app .pick [.app (.bin .lss) [.inp 11, .inp 12], .app (.un .not) [.inp 13], .bool false], false)] (.aidx 4 2 1 2 true) [.agg [.inp 0, .inp 1, .inp 2, .inp 3, .inp 4, .inp 5, .inp 6, .inp 7, .inp 8, .inp 9, .inp 10], .inp 11]] <|
   .seg [.chk [(.app (.bin .geq) [.inp 11, .inp 14], true), (.app .pick [.app (.bin .lss) [.inp 11, .inp 12], .app (.un .not) [.inp 13], .bool false], false)] (.eqa [some .i64, some .i64] true) [.app (.aidx 4 2 1 2 true) [.agg [.inp 0, .inp 1, .inp 2, .inp 3, .inp 4, .inp 5, .inp 6, .inp 7, .inp 8, .inp 9, .inp 10], .inp 11], .agg [.int .i64 (-1), .int .i64 0]]] <|
   .seg [.chk [(.app .pick [.app (.bin .lss) [.inp 11, .inp 12], .app (.un .not) [.inp 13], .bool false], false)] .pick [.app (.bin .geq) [.inp 11, .inp 14], .app (.eqa [some .i64, some .i64] true) [.app (.aidx 4 2 1 2 true) [.agg [.inp 0, .inp 1, .inp 2, .inp 3, .inp 4, .inp 5, .inp 6, .inp 7, .inp 8, .inp 9, .inp 10], .inp 11], .agg [.int .i64 (-1), .int .i64 0]], .bool false]] <|
   .seg [.chk [] .pick [.app .pick [.app (.bin .lss) [.inp 11, .inp 12], .app (.un .not) [.inp 13], .bool false], .bool true, .app .pick [.app (.bin .geq) [.inp 11, .inp 14], .app (.eqa [some .i64, some .i64] true) [.app (.aidx 4 2 1 2 true) [.agg [.inp 0, .inp 1, .inp 2, .inp 3, .inp 4, .inp 5, .inp 6, .inp 7, .inp 8, .inp 9, .inp 10], .inp 11], .agg [.int .i64 (-1), .int .i64 0]], .bool false]]] <|
   .cond (.app .pick [.app .pick [.app (.bin .lss) [.inp 11, .inp 12], .app (.un .not) [.inp 13], .bool false], .bool true, .app .pick [.app (.bin .geq) [.inp 11, .inp 14], .app (.eqa [some .i64, some .i64] true) [.app (.aidx 4 2 1 2 true) [.agg [.inp 0, .inp 1, .inp 2, .inp 3, .inp 4, .inp 5, .inp 6, .inp 7, .inp 8, .inp 9, .inp 10], .inp 11], .agg [.int .i64 (-1), .int .i64 0]], .bool false]])
   (.ret (.bool false))
   (.seg [.chk [] (.bin .add) [.inp 11, .int .i64 1]] <|
    .again 0 [.app (.bin .add) [.inp 11, .int .i64 1]]))
  (.loop 0 12 [.int .i64 0] <|
   .seg [.chk [] (.bin .lss) [.inp 12, .int .i64 2]] <|
    .cond (.app (.bin .lss) [.inp 12, .int .i64 2])
    (.seg [.chk [] (.inr 2) [.inp 12]] <|
     .seg [.chk [] (.aidx 2 1 9 1 false) [.agg [.inp 0, .inp 1, .inp 2, .inp 3, .inp 4, .inp 5, .inp 6, .inp 7, .inp 8, .inp 9, .inp 10], .inp 12]] <|
     .seg [.chk [] (.bin .lss) [.app (.aidx 2 1 9 1 false) [.agg [.inp 0, .inp 1, .inp 2, .inp 3, .inp 4, .inp 5, .inp 6, .inp 7, .inp 8, .inp 9, .inp 10], .inp 12], .int .i64 0]] <|
     .seg [.chk [(.app (.bin .lss) [.app (.aidx 2 1 9 1 false) [.agg [.inp 0, .inp 1, .inp 2, .inp 3, .inp 4, .inp 5, .inp 6, .inp 7, .inp 8, .inp 9, .inp 10], .inp 12], .int .i64 0], false)] (.inr 2) [.inp 12]] <|
     .seg [.chk [(.app (.bin .lss) [.app (.aidx 2 1 9 1 false) [.agg [.inp 0, .inp 1, .inp 2, .inp 3, .inp 4, .inp 5, .inp 6, .inp 7, .inp 8, .inp 9, .inp 10], .inp 12], .int .i64 0], false)] (.aidx 2 1 9 1 false) [.agg [.inp 0, .inp 1, .inp 2, .inp 3, .inp 4, .inp 5, .inp 6, .inp 7, .inp 8, .inp 9, .inp 10], .inp 12]] <|
     .seg [.chk [(.app (.bin .lss) [.app (.aidx 2 1 9 1 false) [.agg [.inp 0, .inp 1, .inp 2, .inp 3, .inp 4, .inp 5, .inp 6, .inp 7, .inp 8, .inp 9, .inp 10], .inp 12], .int .i64 0], false)] (.bin .gtr) [.app (.aidx 2 1 9 1 false) [.agg [.inp 0, .inp 1, .inp 2, .inp 3, .inp 4, .inp 5, .inp 6, .inp 7, .inp 8, .inp 9, .inp 10], .inp 12], .int .i64 3]] <|
     .seg [.chk [] .pick [.app (.bin .lss) [.app (.aidx 2 1 9 1 false) [.agg [.inp 0, .inp 1, .inp 2, .inp 3, .inp 4, .inp 5, .inp 6, .inp 7, .inp 8, .inp 9, .inp 10], .inp 12], .int .i64 0], .bool true, .app (.bin .gtr) [.app (.aidx 2 1 9 1 false) [.agg [.inp 0, .inp 1, .inp 2, .inp 3, .inp 4, .inp 5, .inp 6, .inp 7, .inp 8, .inp 9, .inp 10], .inp 12], .int .i64 3]]] <|
     .seg [.call 13 [(.app .pick [.app (.bin .lss) [.app (.aidx 2 1 9 1 false) [.agg [.inp 0, .inp 1, .inp 2, .inp 3, .inp 4, .inp 5, .inp 6, .inp 7, .inp 8, .inp 9, .inp 10], .inp 12], .int .i64 0], .bool true, .app (.bin .gtr) [.app (.aidx 2 1 9 1 false) [.agg [.inp 0, .inp 1, .inp 2, .inp 3, .inp 4, .inp 5, .inp 6, .inp 7, .inp 8, .inp 9, .inp 10], .inp 12], .int .i64 3]], false)] 33 [.inp 0] false] <|
     .seg [.chk [(.app .pick [.app (.bin .lss) [.app (.aidx 2 1 9 1 false) [.agg [.inp 0, .inp 1, .inp 2, .inp 3, .inp 4, .inp 5, .inp 6, .inp 7, .inp 8, .inp 9, .inp 10], .inp 12], .int .i64 0], .bool true, .app (.bin .gtr) [.app (.aidx 2 1 9 1 false) [.agg [.inp 0, .inp 1, .inp 2, .inp 3, .inp 4, .inp 5, .inp 6, .inp 7, .inp 8, .inp 9, .inp 10], .inp 12], .int .i64 3]], false)] (.bin .geq) [.inp 12, .inp 13]] <|
     .seg [.chk [(.app (.bin .geq) [.inp 12, .inp 13], true), (.app .pick [.app (.bin .lss) [.app (.aidx 2 1 9 1 false) [.agg [.inp 0, .inp 1, .inp 2, .inp 3, .inp 4, .inp 5, .inp 6, .inp 7, .inp 8, .inp 9, .inp 10], .inp 12], .int .i64 0], .bool true, .app (.bin .gtr) [.app (.aidx 2 1 9 1 false) [.agg [.inp 0, .inp 1, .inp 2, .inp 3, .inp 4, .inp 5, .inp 6, .inp 7, .inp 8, .inp 9, .inp 10], .inp 12], .int .i64 3]], false)] (.inr 2) [.inp 12]] <|
     .seg [.chk [(.app (.bin .geq) [.inp 12, .inp 13], true), (.app .pick [.app (.bin .lss) [.app (.aidx 2 1 9 1 false) [.agg [.inp 0, .inp 1, .inp 2, .inp 3, .inp 4, .inp 5, .inp 6, .inp 7, .inp 8, .inp 9, .inp 10], .inp 12], .int .i64 0], .bool true, .app (.bin .gtr) [.app (.aidx 2 1 9 1 false) [.agg [.inp 0, .inp 1, .inp 2, .inp 3, .inp 4, .inp 5, .inp 6, .inp 7, .inp 8, .inp 9, .inp 10], .inp 12], .int .i64 3]], false)] (.aidx 2 1 9 1 false) [.agg [.inp 0, .inp 1, .inp 2, .inp 3, .inp 4, .inp 5, .inp 6, .inp 7, .inp 8, .inp 9, .inp 10], .inp 12]] <|
     .seg [.chk [(.app (.bin .geq) [.inp 12, .inp 13], true), (.app .pick [.app (.bin .lss) [.app (.aidx 2 1 9 1 false) [.agg [.inp 0, .inp 1, .inp 2, .inp 3, .inp 4, .inp 5, .inp 6, .inp 7, .inp 8, .inp 9, .inp 10], .inp 12], .int .i64 0], .bool true, .app (.bin .gtr) [.app (.aidx 2 1 9 1 false) [.agg [.inp 0, .inp 1, .inp 2, .inp 3, .inp 4, .inp 5, .inp 6, .inp 7, .inp 8, .inp 9, .inp 10], .inp 12], .int .i64 3]], false)] (.bin .neq) [.app (.aidx 2 1 9 1 false) [.agg [.inp 0, .inp 1, .inp 2, .inp 3, .inp 4, .inp 5, .inp 6, .inp 7, .inp 8, .inp 9, .inp 10], .inp 12], .int .i64 0]] <|
     .seg [.chk [(.app .pick [.app (.bin .lss) [.app (.aidx 2 1 9 1 false) [.agg [.inp 0, .inp 1, .inp 2, .inp 3, .inp 4, .inp 5, .inp 6, .inp 7, .inp 8, .inp 9, .inp 10], .inp 12], .int .i64 0], .bool true, .app (.bin .gtr) [.app (.aidx 2 1 9 1 false) [.agg [.inp 0, .inp 1, .inp 2, .inp 3, .inp 4, .inp 5, .inp 6, .inp 7, .inp 8, .inp 9, .inp 10], .inp 12], .int .i64 3]], false)] .pick [.app (.bin .geq) [.inp 12, .inp 13], .app (.bin .neq) [.app (.aidx 2 1 9 1 false) [.agg [.inp 0, .inp 1, .inp 2, .inp 3, .inp 4, .inp 5, .inp 6, .inp 7, .inp 8, .inp 9, .inp 10], .inp 12], .int .i64 0], .bool false]] <|
     .seg [.chk [] .pick [.app .pick [.app (.bin .lss) [.app (.aidx 2 1 9 1 false) [.agg [.inp 0, .inp 1, .inp 2, .inp 3, .inp 4, .inp 5, .inp 6, .inp 7, .inp 8, .inp 9, .inp 10], .inp 12], .int .i64 0], .bool true, .app (.bin .gtr) [.app (.aidx 2 1 9 1 false) [.agg [.inp 0, .inp 1, .inp 2, .inp 3, .inp 4, .inp 5, .inp 6, .inp 7, .inp 8, .inp 9, .inp 10], .inp 12], .int .i64 3]], .bool true, .app .pick [.app (.bin .geq) [.inp 12, .inp 13], .app (.bin .neq) [.app (.aidx 2 1 9 1 false) [.agg [.inp 0, .inp 1, .inp 2, .inp 3, .inp 4, .inp 5, .inp 6, .inp 7, .inp 8, .inp 9, .inp 10], .inp 12], .int .i64 0], .bool false]]] <|
     .cond (.app .pick [.app .pick [.app (.bin .lss) [.app (.aidx 2 1 9 1 false) [.agg [.inp 0, .inp 1, .inp 2, .inp 3, .inp 4, .inp 5, .inp 6, .inp 7, .inp 8, .inp 9, .inp 10], .inp 12], .int .i64 0], .bool true, .app (.bin .gtr) [.app (.aidx 2 1 9 1 false) [.agg [.inp 0, .inp 1, .inp 2, .inp 3, .inp 4, .inp 5, .inp 6, .inp 7, .inp 8, .inp 9, .inp 10], .inp 12], .int .i64 3]], .bool true, .app .pick [.app (.bin .geq) [.inp 12, .inp 13], .app (.bin .neq) [.app (.aidx 2 1 9 1 false) [.agg [.inp 0, .inp 1, .inp 2, .inp 3, .inp 4, .inp 5, .inp 6, .inp 7, .inp 8, .inp 9, .inp 10], .inp 12], .int .i64 0], .bool false]])
     (.ret (.bool false))
     (.seg [.chk [] (.bin .add) [.inp 12, .int .i64 1]] <|
      .again 0 [.app (.bin .add) [.inp 12, .int .i64 1]]))
    (.seg [.call 13 [] 44 [.inp 0] false] <|
     .seg [.chk [] (.bin .gtr) [.inp 13, .int .i64 0]] <|
     .ret (.app (.bin .gtr) [.inp 13, .int .i64 0])))
theorem run_lockbarref05_Right : runF E 31 [.agg [.inp 0, .inp 1, .inp 2, .inp 3, .inp 4, .inp 5, .inp 6, .inp 7, .inp 8, .inp 9, .inp 10]] 11 = rt_lockbarref05_Right := by kernel_rfl

noncomputable def rt_lockbarref06_At : RT :=
 .seg [.chk [] (.isAgg 11) [.agg [.inp 0, .inp 1, .inp 2, .inp 3, .inp 4, .inp 5, .inp 6, .inp 7, .inp 8, .inp 9, .inp 10]]] <|
 .seg [.chk [] (.isAgg 2) [.agg [.inp 11, .inp 12]]] <|
 .seg [.chk [] (.bin .lss) [.inp 11, .int .i64 0],
 .chk [(.app (.bin .lss) [.inp 11, .int .i64 0], false)] .len [.inp 0],
 .chk [(.app (.bin .lss) [.inp 11, .int .i64 0], false)] (.bin .geq) [.inp 11, .app .len [.inp 0]],
 .chk [] .pick [.app (.bin .lss) [.inp 11, .int .i64 0], .bool true, .app (.bin .geq) [.inp 11, .app .len [.inp 0]]],
 .chk [(.app .pick [.app (.bin .lss) [.inp 11, .int .i64 0], .bool true, .app (.bin .geq) [.inp 11, .app .len [.inp 0]]], false)] (.bin .lss) [.inp 12, .int .i64 0],
 .chk [] .pick [.app .pick [.app (.bin .lss) [.inp 11, .int .i64 0], .bool true, .app (.bin .geq) [.inp 11, .app .len [.inp 0]]], .bool true, .app (.bin .lss) [.inp 12, .int .i64 0]],
 .chk [(.app .pick [.app .pick [.app (.bin .lss) [.inp 11, .int .i64 0], .bool true, .app (.bin .geq) [.inp 11, .app .len [.inp 0]]], .bool true, .app (.bin .lss) [.inp 12, .int .i64 0]], false)] (.eidx 11) [.inp 0, .inp 11],
 .chk [(.app .pick [.app .pick [.app (.bin .lss) [.inp 11, .int .i64 0], .bool true, .app (.bin .geq) [.inp 11, .app .len [.inp 0]]], .bool true, .app (.bin .lss) [.inp 12, .int .i64 0]], false)] (.eoff 0) [.app (.eidx 11) [.inp 0, .inp 11]],
 .chk [(.app .pick [.app .pick [.app (.bin .lss) [.inp 11, .int .i64 0], .bool true, .app (.bin .geq) [.inp 11, .app .len [.inp 0]]], .bool true, .app (.bin .lss) [.inp 12, .int .i64 0]], false)] (.eload 1 false) [.app (.eoff 0) [.app (.eidx 11) [.inp 0, .inp 11]]],
 .call 13 [(.app .pick [.app .pick [.app (.bin .lss) [.inp 11, .int .i64 0], .bool true, .app (.bin .geq) [.inp 11, .app .len [.inp 0]]], .bool true, .app (.bin .lss) [.inp 12, .int .i64 0]], false)] 44 [.app (.eload 1 false) [.app (.eoff 0) [.app (.eidx 11) [.inp 0, .inp 11]]]] false,
 .chk [(.app .pick [.app .pick [.app (.bin .lss) [.inp 11, .int .i64 0], .bool true, .app (.bin .geq) [.inp 11, .app .len [.inp 0]]], .bool true, .app (.bin .lss) [.inp 12, .int .i64 0]], false)] (.bin .geq) [.inp 12, .inp 13],
 .chk [] .pick [.app .pick [.app .pick [.app (.bin .lss) [.inp 11, .int .i64 0], .bool true, .app (.bin .geq) [.inp 11, .app .len [.inp 0]]], .bool true, .app (.bin .lss) [.inp 12, .int .i64 0]], .bool true, .app (.bin .geq) [.inp 12, .inp 13]]] <|
 .cond (.app .pick [.app .pick [.app .pick [.app (.bin .lss) [.inp 11, .int .i64 0], .bool true, .app (.bin .geq) [.inp 11, .app .len [.inp 0]]], .bool true, .app (.bin .lss) [.inp 12, .int .i64 0]], .bool true, .app (.bin .geq) [.inp 12, .inp 13]])
 (.ret (.tup [.agg [.int .u8 0, .int .i64 0, .int .i64 0, .int .i64 0, .int .i64 0, .int .i64 0, .int .i64 0, .int .i64 0, .int .i64 0, .int .i64 0, .int .i64 0], .bool false]))
 (.seg [.chk [] (.eidx 11) [.inp 0, .inp 11]] <|
  .seg [.chk [] (.eload 11 true) [.app (.eidx 11) [.inp 0, .inp 11]]] <|
  .seg [.chk [] (.isAgg 11) [.app (.eload 11 true) [.app (.eidx 11) [.inp 0, .inp 11]]]] <|
  .ret (.tup [.agg [.app (.part 0 1 false) [.app (.eload 11 true) [.app (.eidx 11) [.inp 0, .inp 11]]], .app (.part 1 1 false) [.app (.eload 11 true) [.app (.eidx 11) [.inp 0, .inp 11]]], .app (.part 2 1 false) [.app (.eload 11 true) [.app (.eidx 11) [.inp 0, .inp 11]]], .app (.part 3 1 false) [.app (.eload 11 true) [.app (.eidx 11) [.inp 0, .inp 11]]], .app (.part 4 1 false) [.app (.eload 11 true) [.app (.eidx 11) [.inp 0, .inp 11]]], .app (.part 5 1 false) [.app (.eload 11 true) [.app (.eidx 11) [.inp 0, .inp 11]]], .app (.part 6 1 false) [.app (.eload 11 true) [.app (.eidx 11) [.inp 0, .inp 11]]], .app (.part 7 1 false) [.app (.eload 11 true) [.app (.eidx 11) [.inp 0, .inp 11]]], .app (.part 8 1 false) [.app (.eload 11 true) [.app (.eidx 11) [.inp 0, .inp 11]]], .app (.part 9 1 false) [.app (.eload 11 true) [.app (.eidx 11) [.inp 0, .inp 11]]], .app (.part 10 1 false) [.app (.eload 11 true) [.app (.eidx 11) [.inp 0, .inp 11]]]], .bool true]))
theorem run_lockbarref06_At : runF E 32 [.agg [.inp 0, .inp 1, .inp 2, .inp 3, .inp 4, .inp 5, .inp 6, .inp 7, .inp 8, .inp 9, .inp 10], .agg [.inp 11, .inp 12]] 13 = rt_lockbarref06_At := by kernel_rfl

noncomputable def rt_lockbarref06_there : RT :=
 .seg [.chk [] (.isAgg 11) [.agg [.inp 0, .inp 1, .inp 2, .inp 3, .inp 4, .inp 5, .inp 6, .inp 7, .inp 8, .inp 9, .inp 10]]] <|
 .seg [.chk [] (.isAgg 2) [.agg [.inp 11, .inp 12]]] <|
 .seg [.call 13 [] 32 [.agg [.inp 0, .inp 1, .inp 2, .inp 3, .inp 4, .inp 5, .inp 6, .inp 7, .inp 8, .inp 9, .inp 10], .agg [.inp 11, .inp 12]] false] <|
 .seg [.chk [] (.tproj 0) [.inp 13]] <|
 .seg [.chk [] (.tproj 1) [.inp 13]] <|
 .seg [.chk [] (.isAgg 11) [.app (.tproj 0) [.inp 13]]] <|
 .ret (.app (.tproj 1) [.inp 13])
theorem run_lockbarref06_there : runF E 17 [.agg [.inp 0, .inp 1, .inp 2, .inp 3, .inp 4, .inp 5, .inp 6, .inp 7, .inp 8, .inp 9, .inp 10], .agg [.inp 11, .inp 12]] 13 = rt_lockbarref06_there := by kernel_rfl

noncomputable def rt_lockbarref06_Step : RT :=
 .seg [.chk [] (.isAgg 11) [.agg [.inp 0, .inp 1, .inp 2, .inp 3, .inp 4, .inp 5, .inp 6, .inp 7, .inp 8, .inp 9, .inp 10]]] <|
 .seg [.chk [] (.isAgg 3) [.agg [.inp 11, .inp 12, .inp 13]]] <|
 .seg [.chk [] (.bin .lss) [.inp 11, .int .i64 0]] <|
 .seg [.chk [(.app (.bin .lss) [.inp 11, .int .i64 0], false)] .len [.inp 0]] <|
 .seg [.chk [(.app (.bin .lss) [.inp 11, .int .i64 0], false)] (.bin .geq) [.inp 11, .app .len [.inp 0]]] <|
 .seg [.chk [] .pick [.app (.bin .lss) [.inp 11, .int .i64 0], .bool true, .app (.bin .geq) [.inp 11, .app .len [.inp 0]]]] <|
 .cond (.app .pick [.app (.bin .lss) [.inp 11, .int .i64 0], .bool true, .app (.bin .geq) [.inp 11, .app .len [.inp 0]]])
 (.ret (.tup [.int .i64 0, .bool false]))
 (.seg [.chk [] (.eidx 11) [.inp 0, .inp 11],
  .chk [] (.eoff 0) [.app (.eidx 11) [.inp 0, .inp 11]],
  .chk [] (.eload 1 false) [.app (.eoff 0) [.app (.eidx 11) [.inp 0, .inp 11]]],
  .call 14 [] 25 [.app (.eload 1 false) [.app (.eoff 0) [.app (.eidx 11) [.inp 0, .inp 11]]], .inp 12, .inp 13] false,
  .chk [] (.tproj 0) [.inp 14],
  .chk [] (.tproj 1) [.inp 14]] <|
  .ret (.tup [.app (.tproj 0) [.inp 14], .app (.tproj 1) [.inp 14]]))
theorem run_lockbarref06_Step : runF E 12 [.agg [.inp 0, .inp 1, .inp 2, .inp 3, .inp 4, .inp 5, .inp 6, .inp 7, .inp 8, .inp 9, .inp 10], .agg [.inp 11, .inp 12, .inp 13]] 14 = rt_lockbarref06_Step := by kernel_rfl

noncomputable def rt_lockbarref06_section : RT :=
 .seg [.chk [] (.isAgg 11) [.agg [.inp 0, .inp 1, .inp 2, .inp 3, .inp 4, .inp 5, .inp 6, .inp 7, .inp 8, .inp 9, .inp 10]]] <|
 .seg [.chk [] (.isAgg 11) [.agg [.inp 11, .inp 12, .inp 13, .inp 14, .inp 15, .inp 16, .inp 17, .inp 18, .inp 19, .inp 20, .inp 21]]] <|
 .loop 0 22 [.int .i64 0] <|
 .seg [.chk [] (.bin .lss) [.inp 22, .int .i64 4]] <|
  .cond (.app (.bin .lss) [.inp 22, .int .i64 4])
  (.seg [.chk [] (.inr 4) [.inp 22],
   .chk [] (.inr 4) [.inp 22],
   .chk [] (.aidx 4 2 1 1 false) [.agg [.inp 11, .inp 12, .inp 13, .inp 14, .inp 15, .inp 16, .inp 17, .inp 18, .inp 19, .inp 20, .inp 21], .inp 22],
   .chk [] (.bin .geq) [.app (.aidx 4 2 1 1 false) [.agg [.inp 11, .inp 12, .inp 13, .inp 14, .inp 15, .inp 16, .inp 17, .inp 18, .inp 19, .inp 20, .inp 21], .inp 22], .int .i64 0],
   .chk [(.app (.bin .geq) [.app (.aidx 4 2 1 1 false) [.agg [.inp 11, .inp 12, .inp 13, .inp 14, .inp 15, .inp 16, .inp 17, .inp 18, .inp 19, .inp 20, .inp 21], .inp 22], .int .i64 0], true)] (.inr 4) [.inp 22],
   .chk [(.app (.bin .geq) [.app (.aidx 4 2 1 1 false) [.agg [.inp 11, .inp 12, .inp 13, .inp 14, .inp 15, .inp 16, .inp 17, .inp 18, .inp 19, .inp 20, .inp 21], .inp 22], .int .i64 0], true)] (.aidx 4 2 1 2 true) [.agg [.inp 11, .inp 12, .inp 13, .inp 14, .inp 15, .inp 16, .inp 17, .inp 18, .inp 19, .inp 20, .inp 21], .inp 22],
   .call 23 [(.app (.bin .geq) [.app (.aidx 4 2 1 1 false) [.agg [.inp 11, .inp 12, .inp 13, .inp 14, .inp 15, .inp 16, .inp 17, .inp 18, .inp 19, .inp 20, .inp 21], .inp 22], .int .i64 0], true)] 17 [.agg [.inp 0, .inp 1, .inp 2, .inp 3, .inp 4, .inp 5, .inp 6, .inp 7, .inp 8, .inp 9, .inp 10], .app (.aidx 4 2 1 2 true) [.agg [.inp 11, .inp 12, .inp 13, .inp 14, .inp 15, .inp 16, .inp 17, .inp 18, .inp 19, .inp 20, .inp 21], .inp 22]] false,
   .chk [(.app (.bin .geq) [.app (.aidx 4 2 1 1 false) [.agg [.inp 11, .inp 12, .inp 13, .inp 14, .inp 15, .inp 16, .inp 17, .inp 18, .inp 19, .inp 20, .inp 21], .inp 22], .int .i64 0], true)] (.un .not) [.inp 23],
   .chk [] .pick [.app (.bin .geq) [.app (.aidx 4 2 1 1 false) [.agg [.inp 11, .inp 12, .inp 13, .inp 14, .inp 15, .inp 16, .inp 17, .inp 18, .inp 19, .inp 20, .inp 21], .inp 22], .int .i64 0], .app (.un .not) [.inp 23], .bool false]] <|
   .cond (.app .pick [.app (.bin .geq) [.app (.aidx 4 2 1 1 false) [.agg [.inp 11, .inp 12, .inp 13, .inp 14, .inp 15, .inp 16, .inp 17, .inp 18, .inp 19, .inp 20, .inp 21], .inp 22], .int .i64 0], .app (.un .not) [.inp 23], .bool false])
   (.ret (.bool false))
   (.seg [.chk [] (.bin .add) [.inp 22, .int .i64 1]] <|
    .again 0 [.app (.bin .add) [.inp 22, .int .i64 1]]))
  (.seg [.call 23 [] 31 [.agg [.inp 11, .inp 12, .inp 13, .inp 14, .inp 15, .inp 16, .inp 17, .inp 18, .inp 19, .inp 20, .inp 21]] false] <|
   .ret (.inp 23))
theorem run_lockbarref06_section : runF E 16 [.agg [.inp 0, .inp 1, .inp 2, .inp 3, .inp 4, .inp 5, .inp 6, .inp 7, .inp 8, .inp 9, .inp 10], .agg [.inp 11, .inp 12, .inp 13, .inp 14, .inp 15, .inp 16, .inp 17, .inp 18, .inp 19, .inp 20, .inp 21]] 22 = rt_lockbarref06_section := by kernel_rfl

noncomputable def rt_lockbarref06_flank : RT :=
 .seg [.chk [] (.isAgg 11) [.agg [.inp 0, .inp 1, .inp 2, .inp 3, .inp 4, .inp 5, .inp 6, .inp 7, .inp 8, .inp 9, .inp 10]]] <|
 .seg [.chk [] (.isAgg 4) [.agg [.inp 11, .inp 12, .inp 13, .inp 14]]] <|
 .seg [.chk [] .len [.inp 0]] <|
 .seg [.chk [] (.bin .lss) [.inp 11, .int .i64 0]] <|
 .seg [.chk [(.app (.bin .lss) [.inp 11, .int .i64 0], false)] (.bin .geq) [.inp 11, .app .len [.inp 0]]] <|
 .seg [.chk [] .pick [.app (.bin .lss) [.inp 11, .int .i64 0], .bool true, .app (.bin .geq) [.inp 11, .app .len [.inp 0]]]] <|
 .seg [.chk [(.app .pick [.app (.bin .lss) [.inp 11, .int .i64 0], .bool true, .app (.bin .geq) [.inp 11, .app .len [.inp 0]]], false)] (.bin .lss) [.inp 13, .int .i64 0]] <|
 .seg [.chk [] .pick [.app .pick [.app (.bin .lss) [.inp 11, .int .i64 0], .bool true, .app (.bin .geq) [.inp 11, .app .len [.inp 0]]], .bool true, .app (.bin .lss) [.inp 13, .int .i64 0]]] <|
 .seg [.chk [(.app .pick [.app .pick [.app (.bin .lss) [.inp 11, .int .i64 0], .bool true, .app (.bin .geq) [.inp 11, .app .len [.inp 0]]], .bool true, .app (.bin .lss) [.inp 13, .int .i64 0]], false)] (.bin .geq) [.inp 13, .app .len [.inp 0]]] <|
 .seg [.chk [] .pick [.app .pick [.app .pick [.app (.bin .lss) [.inp 11, .int .i64 0], .bool true, .app (.bin .geq) [.inp 11, .app .len [.inp 0]]], .bool true, .app (.bin .lss) [.inp 13, .int .i64 0]], .bool true, .app (.bin .geq) [.inp 13, .app .len [.inp 0]]]] <|
 .seg [.chk [(.app .pick [.app .pick [.app .pick [.app (.bin .lss) [.inp 11, .int .i64 0], .bool true, .app (.bin .geq) [.inp 11, .app .len [.inp 0]]], .bool true, .app (.bin .lss) [.inp 13, .int .i64 0]], .bool true, .app (.bin .geq) [.inp 13, .app .len [.inp 0]]], false)] (.bin .eql) [.inp 11, .inp 13]] <|
 .seg [.chk [] .pick [.app .pick [.app .pick [.app .pick [.app (.bin .lss) [.inp 11, .int .i64 0], .bool true, .app (.bin .geq) [.inp 11, .app .len [.inp 0]]], .bool true, .app (.bin .lss) [.inp 13, .int .i64 0]], .bool true, .app (.bin .geq) [.inp 13, .app .len [.inp 0]]], .bool true, .app (.bin .eql) [.inp 11, .inp 13]]] <|
 .seg [.chk [(.app .pick [.app .pick [.app .pick [.app .pick [.app (.bin .lss) [.inp 11, .int .i64 0], .bool true, .app (.bin .geq) [.inp 11, .app .len [.inp 0]]], .bool true, .app (.bin .lss) [.inp 13, .int .i64 0]], .bool true, .app (.bin .geq) [.inp 13, .app .len [.inp 0]]], .bool true, .app (.bin .eql) [.inp 11, .inp 13]], false)] (.bin .lss) [.inp 14, .int .i64 0]] <|
 .seg [.chk [] .pick [.app .pick [.app .pick [.app .pick [.app .pick [.app (.bin .lss) [.inp 11, .int .i64 0], .bool true, .app (.bin .geq) [.inp 11, .app .len [.inp 0]]], .bool true, .app (.bin .lss) [.inp 13, .int .i64 0]], .bool true, .app (.bin .geq) [.inp 13, .app .len [.inp 0]]], .bool true, .app (.bin .eql) [.inp 11, .inp 13]], .bool true, .app (.bin .lss) [.inp 14, .int .i64 0]]] <|
 .seg [.chk [(.app .pick [.app .pick [.app .pick [.app .pick [.app .pick [.app (.bin .lss) [.inp 11, .int .i64 0], .bool true, .app (.bin .geq) [.inp 11, .app .len [.inp 0]]], .bool true, .app (.bin .lss) [.inp 13, .int .i64 0]], .bool true, .app (.bin .geq) [.inp 13, .app .len [.inp 0]]], .bool true, .app (.bin .eql) [.inp 11, .inp 13]], .bool true, .app (.bin .lss) [.inp 14, .int .i64 0]], false)] (.bin .gtr) [.inp 14, .int .i64 1]] <|
 .seg [.chk [] .pick [.app .pick [.app .pick [.app .pick [.app .pick [.app .pick [.app (.bin .lss) [.inp 11, .int .i64 0], .bool true, .app (.bin .geq) [.inp 11, .app .len [.inp 0]]], .bool true, .app (.bin .lss) [.inp 13, .int .i64 0]], .bool true, .app (.bin .geq) [.inp 13, .app .len [.inp 0]]], .bool true, .app (.bin .eql) [.inp 11, .inp 13]], .bool true, .app (.bin .lss) [.inp 14, .int .i64 0]], .bool true, .app (.bin .gtr) [.inp 14, .int .i64 1]]] <|
 .cond (.app .pick [.app .pick [.app .pick [.app .pick [.app .pick [.app .pick [.app (.bin .lss) [.inp 11, .int .i64 0], .bool true, .app (.bin .geq) [.inp 11, .app .len [.inp 0]]], .bool true, .app (.bin .lss) [.inp 13, .int .i64 0]], .bool true, .app (.bin .geq) [.inp 13, .app .len [.inp 0]]], .bool true, .app (.bin .eql) [.inp 11, .inp 13]], .bool true, .app (.bin .lss) [.inp 14, .int .i64 0]], .bool true, .app (.bin .gtr) [.inp 14, .int .i64 1]])
 (.ret (.bool false))
 (.seg [.chk [] (.bin .geq) [.inp 12, .int .i64 0],
  .chk [(.app (.bin .geq) [.inp 12, .int .i64 0], true)] (.eidx 11) [.inp 0, .inp 11],
  .chk [(.app (.bin .geq) [.inp 12, .int .i64 0], true)] (.eoff 0) [.app (.eidx 11) [.inp 0, .inp 11]],
  .chk [(.app (.bin .geq) [.inp 12, .int .i64 0], true)] (.eload 1 false) [.app (.eoff 0) [.app (.eidx 11) [.inp 0, .inp 11]]],
  .call 15 [(.app (.bin .geq) [.inp 12, .int .i64 0], true)] 33 [.app (.eload 1 false) [.app (.eoff 0) [.app (.eidx 11) [.inp 0, .inp 11]]]] false,
  .chk [(.app (.bin .geq) [.inp 12, .int .i64 0], true)] (.bin .lss) [.inp 12, .inp 15],
  .chk [] .pick [.app (.bin .geq) [.inp 12, .int .i64 0], .app (.bin .lss) [.inp 12, .inp 15], .bool false],
  .chk [(.app .pick [.app (.bin .geq) [.inp 12, .int .i64 0], .app (.bin .lss) [.inp 12, .inp 15], .bool false], true)] (.eidx 11) [.inp 0, .inp 13],
  .chk [(.app .pick [.app (.bin .geq) [.inp 12, .int .i64 0], .app (.bin .lss) [.inp 12, .inp 15], .bool false], true)] (.eoff 0) [.app (.eidx 11) [.inp 0, .inp 13]],
  .chk [(.app .pick [.app (.bin .geq) [.inp 12, .int .i64 0], .app (.bin .lss) [.inp 12, .inp 15], .bool false], true)] (.eload 1 false) [.app (.eoff 0) [.app (.eidx 11) [.inp 0, .inp 13]]],
  .chk [(.app .pick [.app (.bin .geq) [.inp 12, .int .i64 0], .app (.bin .lss) [.inp 12, .inp 15], .bool false], true)] (.bin .eql) [.app (.eload 1 false) [.app (.eoff 0) [.app (.eidx 11) [.inp 0, .inp 13]]], .int .u8 2],
  .chk [] .pick [.app .pick [.app (.bin .geq) [.inp 12, .int .i64 0], .app (.bin .lss) [.inp 12, .inp 15], .bool false], .app (.bin .eql) [.app (.eload 1 false) [.app (.eoff 0) [.app (.eidx 11) [.inp 0, .inp 13]]], .int .u8 2], .bool false]] <|
  .ret (.app .pick [.app .pick [.app (.bin .geq) [.inp 12, .int .i64 0], .app (.bin .lss) [.inp 12, .inp 15], .bool false], .app (.bin .eql) [.app (.eload 1 false) [.app (.eoff 0) [.app (.eidx 11) [.inp 0, .inp 13]]], .int .u8 2], .bool false]))
theorem run_lockbarref06_flank : runF E 19 [.agg [.inp 0, .inp 1, .inp 2, .inp 3, .inp 4, .inp 5, .inp 6, .inp 7, .inp 8, .inp 9, .inp 10], .agg [.inp 11, .inp 12, .inp 13, .inp 14]] 15 = rt_lockbarref06_flank := by kernel_rfl

noncomputable def rt_lockbarref06_times : RT :=
 .seg [.chk [] (.isAgg 7) [.agg [.inp 0, .inp 1, .inp 2, .inp 3, .inp 4, .inp 5, .inp 6]]] <|
 .seg [.chk [] .isOne [.inp 0],
 .chk [] .isOne [.inp 1],
 .chk [] .isOne [.inp 2],
 .chk [] .isOne [.inp 3],
 .chk [] .isOne [.inp 4],
 .chk [] .isOne [.inp 5],
 .chk [] .isOne [.inp 6]] <|
 .seg [.chk [] (.isAgg 7) [.agg [.inp 0, .inp 1, .inp 2, .inp 3, .inp 4, .inp 5, .inp 6]]] <|
 .loop 0 7 [.int .i64 0] <|
 .seg [.chk [] (.bin .lss) [.inp 7, .int .i64 7]] <|
  .cond (.app (.bin .lss) [.inp 7, .int .i64 7])
  (.seg [.chk [] (.inr 7) [.inp 7]] <|
   .seg [.chk [] (.aidx 7 1 0 1 false) [.agg [.inp 0, .inp 1, .inp 2, .inp 3, .inp 4, .inp 5, .inp 6], .inp 7]] <|
   .seg [.chk [] (.bin .lss) [.app (.aidx 7 1 0 1 false) [.agg [.inp 0, .inp 1, .inp 2, .inp 3, .inp 4, .inp 5, .inp 6], .inp 7], .int .i64 1]] <|
   .seg [.chk [(.app (.bin .lss) [.app (.aidx 7 1 0 1 false) [.agg [.inp 0, .inp 1, .inp 2, .inp 3, .inp 4, .inp 5, .inp 6], .inp 7], .int .i64 1], false)] (.inr 7) [.inp 7]] <|
   .seg [.chk [(.app (.bin .lss) [.app (.aidx 7 1 0 1 false) [.agg [.inp 0, .inp 1, .inp 2, .inp 3, .inp 4, .inp 5, .inp 6], .inp 7], .int .i64 1], false)] (.aidx 7 1 0 1 false) [.agg [.inp 0, .inp 1, .inp 2, .inp 3, .inp 4, .inp 5, .inp 6], .inp 7]] <|
   .seg [.chk [(.app (.bin .lss) [.app (.aidx 7 1 0 1 false) [.agg [.inp 0, .inp 1, .inp 2, .inp 3, .inp 4, .inp 5, .inp 6], .inp 7], .int .i64 1], false)] (.bin .gtr) [.app (.aidx 7 1 0 1 false) [.agg [.inp 0, .inp 1, .inp 2, .inp 3, .inp 4, .inp 5, .inp 6], .inp 7], .int .i64 1000]] <|
   .seg [.chk [] .pick [.app (.bin .lss) [.app (.aidx 7 1 0 1 false) [.agg [.inp 0, .inp 1, .inp 2, .inp 3, .inp 4, .inp 5, .inp 6], .inp 7], .int .i64 1], .bool true, .app (.bin .gtr) [.app (.aidx 7 1 0 1 false) [.agg [.inp 0, .inp 1, .inp 2, .inp 3, .inp 4, .inp 5, .inp 6], .inp 7], .int .i64 1000]]] <|
   .cond (.app .pick [.app (.bin .lss) [.app (.aidx 7 1 0 1 false) [.agg [.inp 0, .inp 1, .inp 2, .inp 3, .inp 4, .inp 5, .inp 6], .inp 7], .int .i64 1], .bool true, .app (.bin .gtr) [.app (.aidx 7 1 0 1 false) [.agg [.inp 0, .inp 1, .inp 2, .inp 3, .inp 4, .inp 5, .inp 6], .inp 7], .int .i64 1000]])
   (.ret (.bool false))
   (.seg [.chk [] (.bin .add) [.inp 7, .int .i64 1]] <|
    .again 0 [.app (.bin .add) [.inp 7, .int .i64 1]]))
  (.ret (.bool true))
theorem run_lockbarref06_times : runF E 20 [.agg [.inp 0, .inp 1, .inp 2, .inp 3, .inp 4, .inp 5, .inp 6]] 7 = rt_lockbarref06_times := by kernel_rfl

noncomputable def rt_lockbarref06_exit : RT :=
 .seg [.chk [] (.isAgg 11) [.agg [.inp 0, .inp 1, .inp 2, .inp 3, .inp 4, .inp 5, .inp 6, .inp 7, .inp 8, .inp 9, .inp 10]]] <|
 .seg [.chk [] (.isAgg 3) [.agg [.inp 11, .inp 12, .inp 13]]] <|
 .loop 0 14 [.int .i64 0] <|
 .seg [.chk [] .len [.inp 13]] <|
  .seg [.chk [] (.bin .lss) [.inp 14, .app .len [.inp 13]]] <|
  .cond (.app (.bin .lss) [.inp 14, .app .len [.inp 13]])
  (.seg [.chk [] (.eidx 3) [.inp 13, .inp 14],
   .chk [] (.eload 3 true) [.app (.eidx 3) [.inp 13, .inp 14]],
   .call 15 [] 12 [.agg [.inp 0, .inp 1, .inp 2, .inp 3, .inp 4, .inp 5, .inp 6, .inp 7, .inp 8, .inp 9, .inp 10], .app (.eload 3 true) [.app (.eidx 3) [.inp 13, .inp 14]]] false,
   .chk [] (.tproj 0) [.inp 15],
   .chk [] (.tproj 1) [.inp 15]] <|
   .seg [.chk [] (.un .not) [.app (.tproj 1) [.inp 15]]] <|
   .cond (.app (.tproj 1) [.inp 15])
   (.seg [.chk [] (.bin .add) [.inp 14, .int .i64 1]] <|
    .again 0 [.app (.bin .add) [.inp 14, .int .i64 1]])
   (.ret (.bool false)))
  (.seg [.call 15 [] 17 [.agg [.inp 0, .inp 1, .inp 2, .inp 3, .inp 4, .inp 5, .inp 6, .inp 7, .inp 8, .inp 9, .inp 10], .agg [.inp 11, .inp 12]] false] <|
   .seg [.chk [(.inp 15, true)] .len [.inp 13]] <|
   .seg [.chk [(.inp 15, true)] (.bin .leq) [.app .len [.inp 13], .int .i64 2]] <|
   .seg [.chk [] .pick [.inp 15, .app (.bin .leq) [.app .len [.inp 13], .int .i64 2], .bool false]] <|
   .ret (.app .pick [.inp 15, .app (.bin .leq) [.app .len [.inp 13], .int .i64 2], .bool false]))
theorem run_lockbarref06_exit : runF E 18 [.agg [.inp 0, .inp 1, .inp 2, .inp 3, .inp 4, .inp 5, .inp 6, .inp 7, .inp 8, .inp 9, .inp 10], .agg [.inp 11, .inp 12, .inp 13]] 14 = rt_lockbarref06_exit := by kernel_rfl

noncomputable def rt_lockbarref06_Right : RT :=
 .seg [.chk [] (.isAgg 11) [.agg [.inp 0, .inp 1, .inp 2, .inp 3, .inp 4, .inp 5, .inp 6, .inp 7, .inp 8, .inp 9, .inp 10]]] <|
 .loop 0 11 [.int .i64 0] <|
 .seg [.chk [] .len [.inp 0]] <|
  .seg [.chk [] (.bin .lss) [.inp 11, .app .len [.inp 0]]] <|
  .cond (.app (.bin .lss) [.inp 11, .app .len [.inp 0]])
  (.seg [.chk [] (.eidx 11) [.inp 0, .inp 11],
   .chk [] (.eload 11 true) [.app (.eidx 11) [.inp 0, .inp 11]],
   .call 12 [] 16 [.agg [.inp 0, .inp 1, .inp 2, .inp 3, .inp 4, .inp 5, .inp 6, .inp 7, .inp 8, .inp 9, .inp 10], .app (.eload 11 true) [.app (.eidx 11) [.inp 0, .inp 11]]] false,
   .chk [] (.un .not) [.inp 12]] <|
   .cond (.inp 12)
   (.seg [.chk [] (.bin .add) [.inp 11, .int .i64 1]] <|
    .again 0 [.app (.bin .add) [.inp 11, .int .i64 1]])
   (.ret (.bool false)))
  (.loop 0 12 [.int .i64 0] <|
   .seg [.chk [] .len [.inp 1]] <|
    .seg [.chk [] (.bin .lss) [.inp 12, .app .len [.inp 1]]] <|
    .cond (.app (.bin .lss) [.inp 12, .app .len [.inp 1]])
    (.seg [.chk [] (.eidx 2) [.inp 1, .inp 12],
     .chk [] (.eoff 0) [.app (.eidx 2) [.inp 1, .inp 12]],
     .chk [] (.eload 2 true) [.app (.eoff 0) [.app (.eidx 2) [.inp 1, .inp 12]]],
     .call 13 [] 17 [.agg [.inp 0, .inp 1, .inp 2, .inp 3, .inp 4, .inp 5, .inp 6, .inp 7, .inp 8, .inp 9, .inp 10], .app (.eload 2 true) [.app (.eoff 0) [.app (.eidx 2) [.inp 1, .inp 12]]]] false,
     .chk [] (.un .not) [.inp 13]] <|
     .cond (.inp 13)
     (.seg [.chk [] (.bin .add) [.inp 12, .int .i64 1]] <|
      .again 0 [.app (.bin .add) [.inp 12, .int .i64 1]])
     (.ret (.bool false)))
    (.loop 0 13 [.int .i64 0] <|
     .seg [.chk [] .len [.inp 2]] <|
      .seg [.chk [] (.bin .lss) [.inp 13, .app .len [.inp 2]]] <|
      .cond (.app (.bin .lss) [.inp 13, .app .len [.inp 2]])
      (.seg [.chk [] (.eidx 3) [.inp 2, .inp 13],
       .chk [] (.eload 3 true) [.app (.eidx 3) [.inp 2, .inp 13]],
       .call 14 [] 18 [.agg [.inp 0, .inp 1, .inp 2, .inp 3, .inp 4, .inp 5, .inp 6, .inp 7, .inp 8, .inp 9, .inp 10], .app (.eload 3 true) [.app (.eidx 3) [.inp 2, .inp 13]]] false,
       .chk [] (.un .not) [.inp 14]] <|
       .cond (.inp 14)
       (.seg [.chk [] (.bin .add) [.inp 13, .int .i64 1]] <|
        .again 0 [.app (.bin .add) [.inp 13, .int .i64 1]])
       (.ret (.bool false)))
      (.loop 0 14 [.int .i64 0] <|
       .seg [.chk [] .len [.inp 3]] <|
        .seg [.chk [] (.bin .lss) [.inp 14, .app .len [.inp 3]]] <|
        .cond (.app (.bin .lss) [.inp 14, .app .len [.inp 3]])
        (.seg [.chk [] (.eidx 4) [.inp 3, .inp 14],
         .chk [] (.eload 4 true) [.app (.eidx 4) [.inp 3, .inp 14]],
         .call 15 [] 19 [.agg [.inp 0, .inp 1, .inp 2, .inp 3, .inp 4, .inp 5, .inp 6, .inp 7, .inp 8, .inp 9, .inp 10], .app (.eload 4 true) [.app (.eidx 4) [.inp 3, .inp 14]]] false,
         .chk [] (.un .not) [.inp 15]] <|
         .cond (.inp 15)
         (.seg [.chk [] (.bin .add) [.inp 14, .int .i64 1]] <|
          .again 0 [.app (.bin .add) [.inp 14, .int .i64 1]])
         (.ret (.bool false)))
        (.seg [.chk [] .len [.inp 0]] <|
         .seg [.chk [] (.bin .leq) [.app .len [.inp 0], .int .i64 24]] <|
         .seg [.chk [(.app (.bin .leq) [.app .len [.inp 0], .int .i64 24], true)] .len [.inp 1]] <|
         .seg [.chk [(.app (.bin .leq) [.app .len [.inp 0], .int .i64 24], true)] (.bin .leq) [.app .len [.inp 1], .int .i64 12]] <|
         .seg [.chk [] .pick [.app (.bin .leq) [.app .len [.inp 0], .int .i64 24], .app (.bin .leq) [.app .len [.inp 1], .int .i64 12], .bool false]] <|
         .seg [.chk [(.app .pick [.app (.bin .leq) [.app .len [.inp 0], .int .i64 24], .app (.bin .leq) [.app .len [.inp 1], .int .i64 12], .bool false], true)] .len [.inp 2]] <|
         .seg [.chk [(.app .pick [.app (.bin .leq) [.app .len [.inp 0], .int .i64 24], .app (.bin .leq) [.app .len [.inp 1], .int .i64 12], .bool false], true)] (.bin .leq) [.app .len [.inp 2], .int .i64 12]] <|
         .seg [.chk [] .pick [.app .pick [.app (.bin .leq) [.app .len [.inp 0], .int .i64 24], .app (.bin .leq) [.app .len [.inp 1], .int .i64 12], .bool false], .app (.bin .leq) [.app .len [.inp 2], .int .i64 12], .bool false]] <|
         .seg [.chk [(.app .pick [.app .pick [.app (.bin .leq) [.app .len [.inp 0], .int .i64 24], .app (.bin .leq) [.app .len [.inp 1], .int .i64 12], .bool false], .app (.bin .leq) [.app .len [.inp 2], .int .i64 12], .bool false], true)] .len [.inp 3]] <|
         .seg [.chk [(.app .pick [.app .pick [.app (.bin .leq) [.app .len [.inp 0], .int .i64 24], .app (.bin .leq) [.app .len [.inp 1], .int .i64 12], .bool false], .app (.bin .leq) [.app .len [.inp 2], .int .i64 12], .bool false], true)] (.bin .leq) [.app .len [.inp 3], .int .i64 16]] <|
         .seg [.chk [] .pick [.app .pick [.app .pick [.app (.bin .leq) [.app .len [.inp 0], .int .i64 24], .app (.bin .leq) [.app .len [.inp 1], .int .i64 12], .bool false], .app (.bin .leq) [.app .len [.inp 2], .int .i64 12], .bool false], .app (.bin .leq) [.app .len [.inp 3], .int .i64 16], .bool false]] <|
         .seg [.call 15 [(.app .pick [.app .pick [.app .pick [.app (.bin .leq) [.app .len [.inp 0], .int .i64 24], .app (.bin .leq) [.app .len [.inp 1], .int .i64 12], .bool false], .app (.bin .leq) [.app .len [.inp 2], .int .i64 12], .bool false], .app (.bin .leq) [.app .len [.inp 3], .int .i64 16], .bool false], true)] 20 [.agg [.inp 4, .inp 5, .inp 6, .inp 7, .inp 8, .inp 9, .inp 10]] false] <|
         .seg [.chk [] .pick [.app .pick [.app .pick [.app .pick [.app (.bin .leq) [.app .len [.inp 0], .int .i64 24], .app (.bin .leq) [.app .len [.inp 1], .int .i64 12], .bool false], .app (.bin .leq) [.app .len [.inp 2], .int .i64 12], .bool false], .app (.bin .leq) [.app .len [.inp 3], .int .i64 16], .bool false], .inp 15, .bool false]] <|
         .ret (.app .pick [.app .pick [.app .pick [.app .pick [.app (.bin .leq) [.app .len [.inp 0], .int .i64 24], .app (.bin .leq) [.app .len [.inp 1], .int .i64 12], .bool false], .app (.bin .leq) [.app .len [.inp 2], .int .i64 12], .bool false], .app (.bin .leq) [.app .len [.inp 3], .int .i64 16], .bool false], .inp 15, .bool false])))))
theorem run_lockbarref06_Right : runF E 7 [.agg [.inp 0, .inp 1, .inp 2, .inp 3, .inp 4, .inp 5, .inp 6, .inp 7, .inp 8, .inp 9, .inp 10]] 11 = rt_lockbarref06_Right := by kernel_rfl

noncomputable def rt_lockbarref07_Great : RT :=
 .seg [.chk [] (.isAgg 11) [.agg [.inp 0, .inp 1, .inp 2, .inp 3, .inp 4, .inp 5, .inp 6, .inp 7, .inp 8, .inp 9, .inp 10]]] <|
 .loop 0 11 [.int .i64 0] <|
 .seg [.chk [] .len [.inp 2]] <|
  .seg [.chk [] (.bin .lss) [.inp 11, .app .len [.inp 2]]] <|
  .seg [.chk [(.app (.bin .lss) [.inp 11, .app .len [.inp 2]], true)] (.bin .leq) [.inp 11, .int .i64 20]] <|
  .seg [.chk [] .pick [.app (.bin .lss) [.inp 11, .app .len [.inp 2]], .app (.bin .leq) [.inp 11, .int .i64 20], .bool false]] <|
  .cond (.app .pick [.app (.bin .lss) [.inp 11, .app .len [.inp 2]], .app (.bin .leq) [.inp 11, .int .i64 20], .bool false])
  (.seg [.chk [] (.eidx 3) [.inp 2, .inp 11]] <|
   .seg [.chk [] (.eoff 2) [.app (.eidx 3) [.inp 2, .inp 11]]] <|
   .seg [.chk [] (.eload 1 false) [.app (.eoff 2) [.app (.eidx 3) [.inp 2, .inp 11]]]] <|
   .seg [.chk [] .len [.app (.eload 1 false) [.app (.eoff 2) [.app (.eidx 3) [.inp 2, .inp 11]]]]] <|
   .seg [.chk [] (.bin .gtr) [.app .len [.app (.eload 1 false) [.app (.eoff 2) [.app (.eidx 3) [.inp 2, .inp 11]]]], .int .i64 20]] <|
   .cond (.app (.bin .gtr) [.app .len [.app (.eload 1 false) [.app (.eoff 2) [.app (.eidx 3) [.inp 2, .inp 11]]]], .int .i64 20])
   (.ret (.bool true))
   (.seg [.chk [] (.bin .add) [.inp 11, .int .i64 1]] <|
    .again 0 [.app (.bin .add) [.inp 11, .int .i64 1]]))
  (.seg [.chk [] .len [.inp 0]] <|
   .seg [.chk [] (.bin .gtr) [.app .len [.inp 0], .int .i64 30]] <|
   .seg [.chk [(.app (.bin .gtr) [.app .len [.inp 0], .int .i64 30], false)] .len [.inp 1]] <|
   .seg [.chk [(.app (.bin .gtr) [.app .len [.inp 0], .int .i64 30], false)] (.bin .gtr) [.app .len [.inp 1], .int .i64 20]] <|
   .seg [.chk [] .pick [.app (.bin .gtr) [.app .len [.inp 0], .int .i64 30], .bool true, .app (.bin .gtr) [.app .len [.inp 1], .int .i64 20]]] <|
   .seg [.chk [(.app .pick [.app (.bin .gtr) [.app .len [.inp 0], .int .i64 30], .bool true, .app (.bin .gtr) [.app .len [.inp 1], .int .i64 20]], false)] .len [.inp 2]] <|
   .seg [.chk [(.app .pick [.app (.bin .gtr) [.app .len [.inp 0], .int .i64 30], .bool true, .app (.bin .gtr) [.app .len [.inp 1], .int .i64 20]], false)] (.bin .gtr) [.app .len [.inp 2], .int .i64 20]] <|
   .seg [.chk [] .pick [.app .pick [.app (.bin .gtr) [.app .len [.inp 0], .int .i64 30], .bool true, .app (.bin .gtr) [.app .len [.inp 1], .int .i64 20]], .bool true, .app (.bin .gtr) [.app .len [.inp 2], .int .i64 20]]] <|
   .seg [.chk [(.app .pick [.app .pick [.app (.bin .gtr) [.app .len [.inp 0], .int .i64 30], .bool true, .app (.bin .gtr) [.app .len [.inp 1], .int .i64 20]], .bool true, .app (.bin .gtr) [.app .len [.inp 2], .int .i64 20]], false)] .len [.inp 3]] <|
   .seg [.chk [(.app .pick [.app .pick [.app (.bin .gtr) [.app .len [.inp 0], .int .i64 30], .bool true, .app (.bin .gtr) [.app .len [.inp 1], .int .i64 20]], .bool true, .app (.bin .gtr) [.app .len [.inp 2], .int .i64 20]], false)] (.bin .gtr) [.app .len [.inp 3], .int .i64 30]] <|
   .seg [.chk [] .pick [.app .pick [.app .pick [.app (.bin .gtr) [.app .len [.inp 0], .int .i64 30], .bool true, .app (.bin .gtr) [.app .len [.inp 1], .int .i64 20]], .bool true, .app (.bin .gtr) [.app .len [.inp 2], .int .i64 20]], .bool true, .app (.bin .gtr) [.app .len [.inp 3], .int .i64 30]]] <|
   .ret (.app .pick [.app .pick [.app .pick [.app (.bin .gtr) [.app .len [.inp 0], .int .i64 30], .bool true, .app (.bin .gtr) [.app .len [.inp 1], .int .i64 20]], .bool true, .app (.bin .gtr) [.app .len [.inp 2], .int .i64 20]], .bool true, .app (.bin .gtr) [.app .len [.inp 3], .int .i64 30]]))
theorem run_lockbarref07_Great : runF E 15 [.agg [.inp 0, .inp 1, .inp 2, .inp 3, .inp 4, .inp 5, .inp 6, .inp 7, .inp 8, .inp 9, .inp 10]] 11 = rt_lockbarref07_Great := by kernel_rfl

noncomputable def rt_lockbarlaw13_great : RT :=
 .seg [.chk [] (.isAgg 11) [.agg [.inp 0, .inp 1, .inp 2, .inp 3, .inp 4, .inp 5, .inp 6, .inp 7, .inp 8, .inp 9, .inp 10]]] <|
 .seg [.chk [] (.isAgg 3) [.agg [.inp 11, .inp 12, .inp 13]]] <|
 .seg [.call 14 [] 15 [.agg [.inp 0, .inp 1, .inp 2, .inp 3, .inp 4, .inp 5, .inp 6, .inp 7, .inp 8, .inp 9, .inp 10]] false] <|
 .seg [.chk [(.inp 14, false)] .len [.inp 13]] <|
 .seg [.chk [(.inp 14, false)] (.bin .gtr) [.app .len [.inp 13], .int .i64 30]] <|
 .seg [.chk [] .pick [.inp 14, .bool true, .app (.bin .gtr) [.app .len [.inp 13], .int .i64 30]]] <|
 .ret (.app .pick [.inp 14, .bool true, .app (.bin .gtr) [.app .len [.inp 13], .int .i64 30]])
theorem run_lockbarlaw13_great : runF E 6 [.agg [.inp 0, .inp 1, .inp 2, .inp 3, .inp 4, .inp 5, .inp 6, .inp 7, .inp 8, .inp 9, .inp 10], .agg [.inp 11, .inp 12, .inp 13]] 14 = rt_lockbarlaw13_great := by kernel_rfl


end Go.Lb.LK
