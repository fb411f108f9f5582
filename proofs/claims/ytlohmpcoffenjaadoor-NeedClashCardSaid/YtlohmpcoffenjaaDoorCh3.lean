/-
  DERIVED: THE SHELF's CONTRACTS AT THIS DUMP, IN PLAIN WORDS (tools/lay-plain.mjs out of 'TrydShelf.lean', which tools/lay-shelf.mjs wrote): THE SAME DECLARATIONS UNDER THE SAME NAMES: 'import', 'namespace', 'open', 'def', 'theorem' AND NOTHING ELSE: no command of the shelf's: FOR A HAND-IN. Each laying: the table of numbers ('.._ren') and one theorem, a field a fact of the dump's own or the kernel's comparison; each contract: ONE APPLICATION.
-/
/- The data of the program, and as pure values. -/
/- Contracts over this program. -/
/- Ways through sections; overlaps. -/
/- What steps want, what paths need. -/
/- Needs: joined, where a point is wanted, whether they clash, points, the same. -/
/- Chapter 13: what the document says of 3 at 0 and 1. -/
/- Chapter 13: clashes, points: the plain law. -/
/- Chapter 13: NeedClash, of pure values. -/
import Derived.Shelf.Small.Bits
import Derived.Shelf.Strconv.Itoa0
import Derived.Shelf.Sort.Plain
import Derived.Ground.Names2Prog
import Derived.Shelf.Slices.CompactI
import Derived.Test.YtlohmpcoffenjaaDoorProg
import Derived.Test.YtlohmpcoffenjaaDoorFw8
import Derived.Test.YtlohmpcoffenjaaDoorCh2
set_option linter.unusedSimpArgs false
set_option linter.unusedVariables false
namespace Go.Proofs
open Go.Shelf
def Tryd.lays125_ren : Go.Shelf.Ren := ⟨fun | 125 => 43 | 128 => 59 | 129 => 60 | n => n, fun | 46 => 96 | 3 => 3 | 51 => 109 | 53 => 111 | 4 => 4 | 5 => 5 | 9 => 9 | n => n, fun | n => n⟩
theorem Tryd.lays125 : Go.Proofs.Lays.n125 Tryd.prog Tryd.lays125_ren := {
  mixed := by kernel_rfl
  f125 := Tryd.func43.trans (congrArg some (by kernel_rfl))
  f128 := Tryd.func59.trans (congrArg some (by kernel_rfl))
  f129 := Tryd.func60.trans (congrArg some (by kernel_rfl))
  t3 := Tryd.underlying3
  a3 := Tryd.isAgg3
  z3 := Tryd.sizeOf3
  v3 := Tryd.zeroValue3
  t4 := Tryd.underlying4
  a4 := Tryd.isAgg4
  z4 := Tryd.sizeOf4
  v4 := Tryd.zeroValue4
  t5 := Tryd.underlying5
  a5 := Tryd.isAgg5
  z5 := Tryd.sizeOf5
  v5 := Tryd.zeroValue5
  t9 := Tryd.underlying9
  a9 := Tryd.isAgg9
  z9 := Tryd.sizeOf9
  v9 := Tryd.zeroValue9
  t46 := Tryd.underlying96
  a46 := Tryd.isAgg96
  z46 := Tryd.sizeOf96
  v46 := Tryd.zeroValue96
  t51 := Tryd.underlying109
  a51 := Tryd.isAgg109
  z51 := Tryd.sizeOf109
  v51 := Tryd.zeroValue109
  t53 := Tryd.underlying111
  a53 := Tryd.isAgg111
  z53 := Tryd.sizeOf111
  v53 := Tryd.zeroValue111 }
/-- bits.Len: "Len returns the minimum number of bits required to represent x; the result is 0 for x == 0.": IT RETURNS 'Lib.bitLen x'; the world is as it was. (A uint has 64 bits in the model.) ITS CALLEE bits.Len64 IS MET BY ITS OWN CONTRACT OFF THE SHELF (lay that first). (LAID: no walk: one application.) -/
theorem Tryd.bits_Len (x : Int) (w : World) (h0 : 0 ≤ x) (h1 : x ≤ 18446744073709551615) :
    Calls Tryd.prog 43 #[.int .u64 x] w fun e w' => e = .returned (.int .i64 (Lib.bitLen x.toNat)) ∧ w' = w := Any.bits_Len Tryd.lays125 x w h0 h1
def Tryd.lays189_ren : Go.Shelf.Ren := ⟨fun | 189 => 29 | 125 => 43 | 257 => 42 | 128 => 59 | 129 => 60 | 294 => 50 | 295 => 51 | 296 => 52 | 297 => 53 | 298 => 54 | 299 => 55 | 216 => 56 | 300 => 57 | 301 => 58 | 328 => 64 | 329 => 65 | 330 => 66 | 331 => 67 | 332 => 68 | 215 => 69 | 343 => 71 | n => n, fun | 28 => 57 | 3 => 3 | 46 => 96 | 0 => 0 | 51 => 109 | 53 => 111 | 4 => 4 | 183 => 102 | 182 => 101 | 131 => 38 | 5 => 5 | 9 => 9 | 218 => 119 | 222 => 123 | 228 => 130 | 229 => 131 | n => n, fun | n => n⟩
theorem Tryd.lays189 : Go.Proofs.Lays.n189 Tryd.prog Tryd.lays189_ren := {
  mixed := by kernel_rfl
  f125 := Tryd.func43.trans (congrArg some (by kernel_rfl))
  f128 := Tryd.func59.trans (congrArg some (by kernel_rfl))
  f129 := Tryd.func60.trans (congrArg some (by kernel_rfl))
  f189 := Tryd.func29.trans (congrArg some (by kernel_rfl))
  f215 := Tryd.func69.trans (congrArg some (by kernel_rfl))
  f216 := Tryd.func56.trans (congrArg some (by kernel_rfl))
  f257 := Tryd.func42.trans (congrArg some (by kernel_rfl))
  f294 := Tryd.func50.trans (congrArg some (by kernel_rfl))
  f295 := Tryd.func51.trans (congrArg some (by kernel_rfl))
  f296 := Tryd.func52.trans (congrArg some (by kernel_rfl))
  f297 := Tryd.func53.trans (congrArg some (by kernel_rfl))
  f298 := Tryd.func54.trans (congrArg some (by kernel_rfl))
  f299 := Tryd.func55.trans (congrArg some (by kernel_rfl))
  f300 := Tryd.func57.trans (congrArg some (by kernel_rfl))
  f301 := Tryd.func58.trans (congrArg some (by kernel_rfl))
  f328 := Tryd.func64.trans (congrArg some (by kernel_rfl))
  f329 := Tryd.func65.trans (congrArg some (by kernel_rfl))
  f330 := Tryd.func66.trans (congrArg some (by kernel_rfl))
  f331 := Tryd.func67.trans (congrArg some (by kernel_rfl))
  f332 := Tryd.func68.trans (congrArg some (by kernel_rfl))
  f343 := Tryd.func71.trans (congrArg some (by kernel_rfl))
  t0 := Tryd.underlying0
  a0 := Tryd.isAgg0
  z0 := Tryd.sizeOf0
  v0 := Tryd.zeroValue0
  t3 := Tryd.underlying3
  a3 := Tryd.isAgg3
  z3 := Tryd.sizeOf3
  v3 := Tryd.zeroValue3
  t4 := Tryd.underlying4
  a4 := Tryd.isAgg4
  z4 := Tryd.sizeOf4
  v4 := Tryd.zeroValue4
  t5 := Tryd.underlying5
  a5 := Tryd.isAgg5
  z5 := Tryd.sizeOf5
  v5 := Tryd.zeroValue5
  t9 := Tryd.underlying9
  a9 := Tryd.isAgg9
  z9 := Tryd.sizeOf9
  v9 := Tryd.zeroValue9
  t28 := Tryd.underlying57
  a28 := Tryd.isAgg57
  z28 := Tryd.sizeOf57
  v28 := Tryd.zeroValue57
  t46 := Tryd.underlying96
  a46 := Tryd.isAgg96
  z46 := Tryd.sizeOf96
  v46 := Tryd.zeroValue96
  t51 := Tryd.underlying109
  a51 := Tryd.isAgg109
  z51 := Tryd.sizeOf109
  v51 := Tryd.zeroValue109
  t53 := Tryd.underlying111
  a53 := Tryd.isAgg111
  z53 := Tryd.sizeOf111
  v53 := Tryd.zeroValue111
  t131 := Tryd.underlying38
  a131 := Tryd.isAgg38
  z131 := Tryd.sizeOf38
  v131 := Tryd.zeroValue38
  t182 := Tryd.underlying101
  a182 := Tryd.isAgg101
  z182 := Tryd.sizeOf101
  v182 := Tryd.zeroValue101
  t183 := Tryd.underlying102
  a183 := Tryd.isAgg102
  z183 := Tryd.sizeOf102
  v183 := Tryd.zeroValue102
  t218 := Tryd.underlying119
  a218 := Tryd.isAgg119
  z218 := Tryd.sizeOf119
  v218 := Tryd.zeroValue119
  t222 := Tryd.underlying123
  a222 := Tryd.isAgg123
  z222 := Tryd.sizeOf123
  v222 := Tryd.zeroValue123
  t228 := Tryd.underlying130
  a228 := Tryd.isAgg130
  z228 := Tryd.sizeOf130
  v228 := Tryd.zeroValue130
  t229 := Tryd.underlying131
  a229 := Tryd.isAgg131
  z229 := Tryd.sizeOf131
  v229 := Tryd.zeroValue131 }
open Go.Sort Go.RowKit in
theorem Tryd.slices_Sort_int (blk off cap : Nat) (zs : List Int) (w : World) (hH : Holds (Value.int .i64) w blk off zs.toArray) (hblk : blk < w.heap.size) (hsz : zs.length < 4611686018427387904) :
    Calls Tryd.prog 29 #[.slice (some ⟨blk, off, none⟩) zs.length cap] w fun e w' =>
      e = .returned (.tuple #[]) ∧ ∃ n os, w' = grow (putRow (Value.int .i64) (Sort.ahead w n) blk off (zs.mergeSort fun x y => decide (x ≤ y)).toArray) os := Any.slices_Sort_int Tryd.lays189 blk off cap zs w hH hblk hsz
def Tryd.laysNm220_ren : Go.Shelf.Ren := ⟨fun | 20 => 30 | n => n, fun | 22 => 57 | 3 => 3 | 4 => 4 | 0 => 0 | n => n, fun | n => n⟩
theorem Tryd.laysNm220 : Go.Proofs.Lays2.n20 Tryd.prog Tryd.laysNm220_ren := {
  mixed := by kernel_rfl
  f20 := Tryd.func30.trans (congrArg some (by kernel_rfl))
  t0 := Tryd.underlying0
  a0 := Tryd.isAgg0
  z0 := Tryd.sizeOf0
  v0 := Tryd.zeroValue0
  t3 := Tryd.underlying3
  a3 := Tryd.isAgg3
  z3 := Tryd.sizeOf3
  v3 := Tryd.zeroValue3
  t4 := Tryd.underlying4
  a4 := Tryd.isAgg4
  z4 := Tryd.sizeOf4
  v4 := Tryd.zeroValue4
  t22 := Tryd.underlying57
  a22 := Tryd.isAgg57
  z22 := Tryd.sizeOf57
  v22 := Tryd.zeroValue57
  i3 := by kernel_rfl }
open Go.RowKit Go.Lib Go.Sort in
/-- slices.Compact at []int: "Compact replaces consecutive runs of equal elements with a single copy. This is like the uniq command found on Unix. Compact modifies the contents of the slice s and returns the modified slice, which may have a smaller length. Compact zeroes the elements between the new length and the original length. The result preserves the nilness of s.": IT RETURNS THE SLICE CUT TO 'Lib.compact zs'; ITS CELLS HOLD 'Lib.compact zs', THEN ZERO VALUES up to the old length; all else is as it was, but for the count of draws. IN THE WORDS OF slices.Sort's CONTRACT ('Holds', 'putRow'): so the everyday 'slices.Sort(xs); xs = slices.Compact(xs)' goes from the one contract to the other. It asks 'zs.length ≤ cap' (every slice's: the reslicing 's[:k]' looks at it). Length 0, nil: '.._empty'. (LAID: no walk: one application.) -/
theorem Tryd.slices_Compact_int (blk off cap : Nat) (zs : List Int) (w : World) (hH : Holds (Value.int .i64) w blk off zs.toArray) (hsz : zs.length ≤ 9223372036854775807) (hcap : zs.length ≤ cap) :
    Calls Tryd.prog 30 #[.slice (some ⟨blk, off, none⟩) zs.length cap] w fun e w' => e = .returned (.slice (some ⟨blk, off, none⟩) (Lib.compact zs).length cap) ∧ ∃ q, w' = putRow (Value.int .i64) (Sort.ahead w q) blk off (Lib.compact zs ++ List.replicate (zs.length - (Lib.compact zs).length) 0).toArray := Any.slices_Compact_int Tryd.laysNm220 blk off cap zs w hH hsz hcap
open Go.RowKit Go.Lib Go.Sort in
/-- The same at a slice of length 0, a nil one too: it comes back as it is. (LAID: no walk: one application.) -/
theorem Tryd.slices_Compact_int_empty (a : Option Addr) (cap : Nat) (w : World) :
    Calls Tryd.prog 30 #[.slice a 0 cap] w fun e w' => e = .returned (.slice a 0 cap) ∧ w' = w := Any.slices_Compact_int_empty Tryd.laysNm220 a cap w
end Go.Proofs

namespace Go.Lb.LK
open Go Go.Lb

structure Port where
  s : Int
  p : Int
  deriving DecidableEq
def Port.cells (x : Port) : List AV := [I x.s, I x.p]
abbrev Port.av (x : Port) : AV := .agg x.cells

structure Sec where
  kind : Int
  j0 : Port
  j1 : Port
  j2 : Port
  j3 : Port
  c0 : Int
  c1 : Int
  deriving DecidableEq
def Sec.cells (x : Sec) : List AV := [U x.kind, I x.j0.s, I x.j0.p, I x.j1.s, I x.j1.p, I x.j2.s, I x.j2.p, I x.j3.s, I x.j3.p, I x.c0, I x.c1]
abbrev Sec.av (x : Sec) : AV := .agg x.cells

structure Step where
  s : Int
  i : Int
  o : Int
  deriving DecidableEq
def Step.cells (x : Step) : List AV := [I x.s, I x.i, I x.o]
abbrev Step.av (x : Step) : AV := .agg x.cells

structure Exi where
  a : Port
  over : List Step
  deriving DecidableEq
def Exi.cells (x : Exi) : List AV := [I x.a.s, I x.a.p, .sl (x.over.map Step.av)]
abbrev Exi.av (x : Exi) : AV := .agg x.cells

structure Flank where
  s : Int
  way : Int
  point : Int
  pos : Int
  deriving DecidableEq
def Flank.cells (x : Flank) : List AV := [I x.s, I x.way, I x.point, I x.pos]
abbrev Flank.av (x : Flank) : AV := .agg x.cells

structure Lay where
  secs : List Sec
  sigs : List Port
  exits : List Exi
  flanks : List Flank
  clear : Int
  drive : Int
  stale : Int
  approach : Int
  over : Int
  press : Int
  link : Int
  deriving DecidableEq
def Lay.cells (l : Lay) : List AV := [.sl (l.secs.map Sec.av), .sl (l.sigs.map Port.av), .sl (l.exits.map Exi.av), .sl (l.flanks.map Flank.av), I l.clear, I l.drive, I l.stale, I l.approach, I l.over, I l.press, I l.link]
abbrev Lay.av (l : Lay) : AV := .agg l.cells

structure Path where
  sig : Int
  exit : Int
  steps : List Step
  deriving DecidableEq
def Path.cells (x : Path) : List AV := [I x.sig, I x.exit, .sl (x.steps.map Step.av)]
abbrev Path.av (x : Path) : AV := .agg x.cells

structure Need where
  p : Int
  pos : Int
  k : Int
  deriving DecidableEq
def Need.cells (x : Need) : List AV := [I x.p, I x.pos, I x.k]
abbrev Need.av (x : Need) : AV := .agg x.cells
abbrev needs (l : List Need) : AV := .sl (l.map Need.av)
abbrev steps (l : List Step) : AV := .sl (l.map Step.av)

@[simp] theorem Port.pure (x : Port) : AV.pureAll x.cells = true := by simp [Port.cells, AV.pureAll, AV.pure]
@[simp] theorem Sec.pure (x : Sec) : AV.pureAll x.cells = true := by simp [Sec.cells, AV.pureAll, AV.pure]
@[simp] theorem Step.pure (x : Step) : AV.pureAll x.cells = true := by simp [Step.cells, AV.pureAll, AV.pure]
@[simp] theorem steps_pure (l : List Step) : AV.pureAll (l.map Step.av) = true := pureAll_map _ (fun x => by simp [AV.pure]) l
@[simp] theorem Exi.pure (x : Exi) : AV.pureAll x.cells = true := by simp [Exi.cells, AV.pureAll, AV.pure]
@[simp] theorem Flank.pure (x : Flank) : AV.pureAll x.cells = true := by simp [Flank.cells, AV.pureAll, AV.pure]
@[simp] theorem Path.pure (x : Path) : AV.pureAll x.cells = true := by simp [Path.cells, AV.pureAll, AV.pure]
@[simp] theorem Need.pure (x : Need) : AV.pureAll x.cells = true := by simp [Need.cells, AV.pureAll, AV.pure]
@[simp] theorem needs_pure (l : List Need) : AV.pureAll (l.map Need.av) = true := pureAll_map _ (fun x => by simp [AV.pure]) l
@[simp] theorem Lay.pure (l : Lay) : AV.pureAll l.cells = true := by
  simp [Lay.cells, AV.pureAll, AV.pure, pureAll_map Sec.av (fun x => by simp [AV.pure]), pureAll_map Port.av (fun x => by simp [AV.pure]), pureAll_map Exi.av (fun x => by simp [AV.pure]), pureAll_map Flank.av (fun x => by simp [AV.pure])]

/-! ### The form of the data -/
def iT : TS := .int .i64
def portT : TS := .agg [iT, iT]
def secT : TS := .agg [.int .u8, .agg [portT, portT, portT, portT], .agg [iT, iT]]
def sigT : TS := .agg [portT]
def stepT : TS := .agg [iT, iT, iT]
def exitT : TS := .agg [portT, .sl true stepT]
def flankT : TS := .agg [iT, iT, iT, iT]
def timesT : TS := .agg [iT, iT, iT, iT, iT, iT, iT]
def layT : TS := .agg [.sl true secT, .sl true sigT, .sl true exitT, .sl true flankT, timesT]
def pathT : TS := .agg [iT, iT, .sl true stepT]
def needT : TS := .agg [iT, iT, iT]

theorem sec_of {cs : List AV} (h : secT.fits cs) : ∃ s : Sec, AV.agg cs = s.av ∧ 0 ≤ s.kind ∧ s.kind ≤ 255 := by
  simp only [secT, portT, iT, fits_agg, fitsAll_int, fitsAll_agg, fitsAll_nil, List.append_nil, List.cons_append, List.nil_append] at h
  obtain ⟨m, q, rfl, hm, a0, q, rfl, _, a1, q, rfl, _, a2, q, rfl, _, a3, q, rfl, _, a4, q, rfl, _, a5, q, rfl, _, a6, q, rfl, _, a7, q, rfl, _, a8, q, rfl, _, a9, q, rfl, _, rfl⟩ := h
  exact ⟨⟨m, ⟨a0, a1⟩, ⟨a2, a3⟩, ⟨a4, a5⟩, ⟨a6, a7⟩, a8, a9⟩, rfl, by simpa using hm⟩
theorem sig_of {cs : List AV} (h : sigT.fits cs) : ∃ s : Port, AV.agg cs = s.av := by
  simp only [sigT, portT, iT, fits_agg, fitsAll_int, fitsAll_agg, fitsAll_sl, fitsAll_nil, List.append_nil, List.cons_append, List.nil_append] at h
  obtain ⟨a0, q, rfl, _, a1, q, rfl, _, rfl⟩ := h
  exact ⟨⟨a0, a1⟩, rfl⟩
theorem step_of {cs : List AV} (h : stepT.fits cs) : ∃ s : Step, AV.agg cs = s.av := by
  simp only [stepT, iT, fits_agg, fitsAll_int, fitsAll_agg, fitsAll_sl, fitsAll_nil, List.append_nil, List.cons_append, List.nil_append] at h
  obtain ⟨a0, q, rfl, _, a1, q, rfl, _, a2, q, rfl, _, rfl⟩ := h
  exact ⟨⟨a0, a1, a2⟩, rfl⟩
theorem flank_of {cs : List AV} (h : flankT.fits cs) : ∃ s : Flank, AV.agg cs = s.av := by
  simp only [flankT, iT, fits_agg, fitsAll_int, fitsAll_agg, fitsAll_sl, fitsAll_nil, List.append_nil, List.cons_append, List.nil_append] at h
  obtain ⟨a0, q, rfl, _, a1, q, rfl, _, a2, q, rfl, _, a3, q, rfl, _, rfl⟩ := h
  exact ⟨⟨a0, a1, a2, a3⟩, rfl⟩
theorem need_of {cs : List AV} (h : needT.fits cs) : ∃ s : Need, AV.agg cs = s.av := by
  simp only [needT, iT, fits_agg, fitsAll_int, fitsAll_agg, fitsAll_sl, fitsAll_nil, List.append_nil, List.cons_append, List.nil_append] at h
  obtain ⟨a0, q, rfl, _, a1, q, rfl, _, a2, q, rfl, _, rfl⟩ := h
  exact ⟨⟨a0, a1, a2⟩, rfl⟩
theorem exit_of {cs : List AV} (h : exitT.fits cs) : ∃ s : Exi, AV.agg cs = s.av := by
  simp only [exitT, portT, iT, fits_agg, fitsAll_int, fitsAll_agg, fitsAll_sl, fitsAll_nil, List.append_nil, List.cons_append, List.nil_append] at h
  obtain ⟨a0, q, rfl, _, a1, q, rfl, _, es, q, rfl, hs, rfl⟩ := h
  obtain ⟨ov, rfl⟩ := sl_map (g := Step.av) (fun cs h => step_of h) es hs.2
  exact ⟨⟨⟨a0, a1⟩, ov⟩, rfl⟩
/-- Kinds are bytes. -/
def Lay.ok (l : Lay) : Prop := ∀ s ∈ l.secs, 0 ≤ s.kind ∧ s.kind ≤ 255
theorem lay_of {cs : List AV} (h : layT.fits cs) : ∃ l : Lay, AV.agg cs = l.av ∧ l.ok := by
  simp only [layT, timesT, iT, fits_agg, fitsAll_int, fitsAll_agg, fitsAll_sl, fitsAll_nil, List.append_nil, List.cons_append, List.nil_append] at h
  obtain ⟨s1, q, rfl, h1, s2, q, rfl, h2, s3, q, rfl, h3, s4, q, rfl, h4, a0, q, rfl, _, a1, q, rfl, _, a2, q, rfl, _, a3, q, rfl, _, a4, q, rfl, _, a5, q, rfl, _, a6, q, rfl, _, rfl⟩ := h
  obtain ⟨secs, rfl, hs⟩ := sl_mapP (g := Sec.av) (Q := fun s => 0 ≤ s.kind ∧ s.kind ≤ 255) (fun cs h => sec_of h) s1 h1.2
  obtain ⟨sigs, rfl⟩ := sl_map (g := Port.av) (fun cs h => sig_of h) s2 h2.2
  obtain ⟨exits, rfl⟩ := sl_map (g := Exi.av) (fun cs h => exit_of h) s3 h3.2
  obtain ⟨fls, rfl⟩ := sl_map (g := Flank.av) (fun cs h => flank_of h) s4 h4.2
  exact ⟨⟨secs, sigs, exits, fls, a0, a1, a2, a3, a4, a5, a6⟩, rfl, hs⟩
theorem path_of {cs : List AV} (h : pathT.fits cs) : ∃ l : Path, AV.agg cs = l.av := by
  simp only [pathT, iT, fits_agg, fitsAll_int, fitsAll_agg, fitsAll_sl, fitsAll_nil, List.append_nil, List.cons_append, List.nil_append] at h
  obtain ⟨a0, q, rfl, _, a1, q, rfl, _, es, q, rfl, hs, rfl⟩ := h
  obtain ⟨ov, rfl⟩ := sl_map (g := Step.av) (fun cs h => step_of h) es hs.2
  exact ⟨⟨a0, a1, ov⟩, rfl⟩
theorem lay_arg {x : AV} (h : layT.fits x.cells) (h2 : aggIf true x) : ∃ l : Lay, x = l.av ∧ l.ok := by
  obtain ⟨cs, rfl⟩ := h2.1 rfl
  exact lay_of h
theorem path_arg {x : AV} (h : pathT.fits x.cells) (h2 : aggIf true x) : ∃ l : Path, x = l.av := by
  obtain ⟨cs, rfl⟩ := h2.1 rfl
  exact path_of h
theorem need_arg {x : AV} (h : needT.fits x.cells) (h2 : aggIf true x) : ∃ l : Need, x = l.av := by
  obtain ⟨cs, rfl⟩ := h2.1 rfl
  exact need_of h
theorem sl_arg {x : AV} {T : TS} {g : Bool} (h : (TS.sl g T).fits x.cells) (h2 : aggIf false x) : ∃ es, x = .sl es ∧ es.length ≤ maxLen ∧ ∀ x ∈ es, T.fits x.cells ∧ aggIf g x := by
  obtain ⟨es, h1, h0, h3⟩ := fits_sl.1 h
  have : x = .sl es := by
    cases x <;> simp_all [AV.cells, aggIf]
  exact ⟨es, this, h0, h3⟩
theorem needs_arg {x : AV} (h : (TS.sl true needT).fits x.cells) (h2 : aggIf false x) : ∃ l : List Need, x = needs l := by
  obtain ⟨es, rfl, _, h3⟩ := sl_arg h h2
  obtain ⟨l, rfl⟩ := sl_map (g := Need.av) (fun cs h => need_of h) es h3
  exact ⟨l, rfl⟩
theorem int_arg {x : AV} (h : iT.fits x.cells) (h2 : aggIf false x) : ∃ n, x = I n := by
  obtain ⟨n, h1, _⟩ := fits_int.1 h
  have : x = I n := by
    cases x <;> simp_all [AV.cells, aggIf]
  exact ⟨n, this⟩
theorem bool_arg {x : AV} (h : TS.bool.fits x.cells) (h2 : aggIf false x) : ∃ b, x = .bool b := by
  obtain ⟨n, h1⟩ := fits_bool.1 h
  have : x = .bool n := by
    cases x <;> simp_all [AV.cells, aggIf]
  exact ⟨n, this⟩
end Go.Lb.LK

namespace Go.Lb.LK
open Go Go.Lb Go.Proofs Go.RowKit

/-- A function of numbers that leaves the world alone. -/
theorem contract_of_calls {P : Program} {f : FuncId} {avs : List AV} {vs : List Value} {r : AV} {v : Value} (hr : r.pure = true) (ha : ∀ c us, Rvs c avs us → us = vs) (hv : ∀ c, Rv c r v) (h : ∀ w, Calls P f ⟨vs⟩ w fun e w' => e = .returned v ∧ w' = w) : Contract P [] f avs r := by
  refine ⟨hr, fun w c us _ him _ hvs => ?_⟩
  rw [ha c us hvs]
  refine (h w).mono ?_
  rintro e w' ⟨rfl, rfl⟩
  exact ⟨v, c, rfl, Cx.Le.refl c, by assumption, him, fun _ _ => ⟨fun _ _ h => h, fun _ h => h⟩, hv c, Below.refl _ _⟩

theorem EOkS : EnvOk ES := ⟨fun f h => by simp [ES] at h, fun f h => by simp [ES] at h, fun g es h => by simp [ES] at h⟩
theorem bits0 : Contract PR [] f_mathbits_Len [.int .u64 0] (.int .i64 0) := by
  refine contract_of_calls (vs := [.int .u64 0]) (v := .int .i64 0) rfl (fun c us h => ?_) (fun c => .int _ _) (fun w => Tryd.bits_Len 0 w (by omega) (by omega))
  cases h with
  | cons _ v _ vs h1 h2 => cases h1; cases h2; rfl
theorem sort0 : Contract PR [] f_slices_Sort_int [.sl []] (.tup []) := by
  refine contract_of EOkS EmixS [] run_slices_Sort_int rfl rfl rfl ?_ rfl
  unfold rt_slices_Sort_int
  refine RTwp_chk.2 ⟨fun _ => by simp, ?_⟩
  refine RTwp_nil.2 (RTwp_chk.2 ⟨fun _ => by simp, RTwp_nil.2 ?_⟩)
  refine RTwp_call0 (r := .int .i64 0) bits0 (by simp) ?_
  simp
  refine RTwp_loop rfl (fun vs => vs = []) (fun _ => 0) rfl ?_
  rintro vs - rfl
  simp
  refine RTwp_loop rfl (fun vs => vs = []) (fun _ => 0) rfl ?_
  rintro vs - rfl
  simp
theorem srtOk : SrtOk PR f_slices_Sort_int := ⟨fun blk off cap zs w h1 h2 h3 => Tryd.slices_Sort_int blk off cap zs w h1 h2 h3, sort0⟩
theorem cptOk : CptOk PR f_slices_Compact_int := ⟨fun blk off cap zs w h1 h2 h3 => Tryd.slices_Compact_int blk off cap zs w h1 h2 h3, fun a cap w => Tryd.slices_Compact_int_empty a cap w⟩
theorem EOk : EnvOk E := by
  refine ⟨fun f h => ?_, fun f h => ?_, fun g es h => ?_⟩
  · have : f = f_slices_Compact_int := by simpa [E, cptF] using h
    rw [this]; exact cptOk
  · have : f = f_slices_Sort_int := by simpa [E, srtF] using h
    rw [this]; exact srtOk
  · have : g = 0 := by
      have := (List.getElem?_eq_some_iff.1 h).1
      simp [E, GL] at this; omega
    subst this
    have : es = GL[0] := by simpa [E, GL] using h.symm
    rw [this]; rfl
abbrev C (f : Nat) (avs : List AV) (r : AV) : Prop := Contract PR GL f avs r
theorem ctr {f n : Nat} {args : List SE} (vs : List AV) {rt : RT} (hrun : runF E f args n = rt) (hw : SE.wfs n (fun _ => false) args = true)
    (hp : AV.pureAll vs = true) {r : AV} (hr : r.pure = true) (h : RTwp PR GL (fun x => x = r) rt (fun _ _ => False) (envOf vs)) {avs : List AV} (ha : dens (envOf vs) args = avs) : C f avs r :=
  contract_of EOk Emix vs hrun hw hp hr h ha

theorem filter_take {α : Type} (p : α → Bool) (l : List α) {i : Nat} (h : i < l.length) : (l.take (i + 1)).filter p = (l.take i).filter p ++ (if p l[i] = true then [l[i]] else []) := by
  rw [List.take_add_one, List.getElem?_eq_getElem h, List.filter_append]
  congr 1
  simp only [Option.toList_some, List.filter_cons, List.filter_nil]
theorem filter_take_len {α : Type} (p : α → Bool) (l : List α) (i : Nat) : ((l.take i).filter p).length ≤ l.length := by
  have := List.length_filter_le p (l.take i)
  have : (l.take i).length ≤ l.length := by simp; omega
  omega
theorem flatMap_take {α β : Type} (f : α → List β) (l : List α) {i : Nat} (h : i < l.length) : (l.take (i + 1)).flatMap f = (l.take i).flatMap f ++ f l[i] := by
  rw [List.take_add_one, List.getElem?_eq_getElem h, List.flatMap_append]
  simp
theorem map_take {α β : Type} (f : α → β) (l : List α) {i : Nat} (h : i < l.length) : (l.take (i + 1)).map f = (l.take i).map f ++ [f l[i]] := by
  rw [List.take_add_one, List.getElem?_eq_getElem h, List.map_append]
  simp
@[simp] theorem ite_avbool (c : Prop) [Decidable c] (a b : Bool) : (if c then AV.bool a else AV.bool b) = AV.bool (if c then a else b) := by split <;> rfl
@[simp] theorem ite_avint (c : Prop) [Decidable c] (k : IntKind) (a b : Int) : (if c then AV.int k a else AV.int k b) = AV.int k (if c then a else b) := by split <;> rfl

/-- A call that is sure, its arguments reckoned. -/
theorem call {ρ : Nat → AV} {R : AV → Prop} {L : Nat → List AV → Prop} {n f : Nat} {args : List SE} {bo : Bool} {ns : List Nd} {k : RT} {r : AV} {avs : List AV} (hc : C f avs r) (ha : dens ρ args = avs) (hb : bo = true → r.scalar = true)
    (h : RTwp PR GL R (.seg ns k) L (setEnv ρ n r)) : RTwp PR GL R (.seg (.call n [] f args bo :: ns) k) L ρ := RTwp_call0 (by rw [ha]; exact hc) hb h
/-- A call that is wanted under conditions. -/
theorem callIf {ρ : Nat → AV} {R : AV → Prop} {L : Nat → List AV → Prop} {pcs : List (SE × Bool)} {n f : Nat} {args : List SE} {bo : Bool} {ns : List Nd} {k : RT} {avs : List AV} (r : AV) (hr : r.pure = true) (hc : Holds ρ pcs → dens ρ args = avs ∧ C f avs r) (hb : bo = true → r.scalar = true)
    (h : RTwp PR GL R (.seg ns k) L (setEnv ρ n r)) : RTwp PR GL R (.seg (.call n pcs f args bo :: ns) k) L ρ := RTwp_call r hr (fun hp => ⟨by rw [(hc hp).1]; exact (hc hp).2, hb⟩) h
end Go.Lb.LK

namespace Go.Lb.LK
open Go Go.Lb Go.Proofs Go.RowKit

def kindCells (k : Int) : List AV :=
  if k = 1 then [I 2, I 0, I 1, I 0, I 0, I 1, .bool false] else if k = 2 then [I 3, I 0, I 1, I 0, I 2, I 2, .bool true]
  else if k = 3 then [I 4, I 0, I 1, I 2, I 3, I 2, .bool false] else [I 0, I 0, I 0, I 0, I 0, I 0, .bool false]
theorem kind_cases {k : Int} (h0 : 0 ≤ k) (h1 : k ≤ 255) : k = 0 ∨ k = 1 ∨ k = 2 ∨ k = 3 ∨ 4 ≤ k := by omega

theorem c_port_of (k : Int) (h0 : 0 ≤ k) (h1 : k ≤ 255) : C f_port_of [U k] (.agg (kindCells k)) := by
  refine ctr [U k] run_port_of rfl rfl ?_ ?_ rfl
  · unfold kindCells; repeat' split
    all_goals rfl
  · unfold rt_port_of
    have hw : IntKind.i64.wrap k = k := by rw [wrap_i] <;> omega
    rcases kind_cases h0 h1 with rfl | rfl | rfl | rfl | h
    · simp [kindCells, hw]
    · simp [kindCells, hw]
    · simp [kindCells, hw]
    · simp [kindCells, hw]
    · have : ¬ k < 4 := by omega
      simp [hw, this, kindCells, show k ≠ 1 by omega, show k ≠ 2 by omega, show k ≠ 3 by omega]

/-- The way from one port to another one. -/
def way (k i o : Int) : Int × Bool :=
  if (k = 1 ∨ k = 2 ∨ k = 3) ∧ (i = 0 ∧ o = 1 ∨ i = 1 ∧ o = 0) then (0, true)
  else if k = 2 ∧ (i = 0 ∧ o = 2 ∨ i = 2 ∧ o = 0) then (1, true)
  else if k = 3 ∧ (i = 2 ∧ o = 3 ∨ i = 3 ∧ o = 2) then (1, true) else (0, false)
theorem w1 : IntKind.i64.wrap 1 = 1 := by decide
theorem w2 : IntKind.i64.wrap 2 = 2 := by decide
abbrev ib (x : Int × Bool) : AV := .tup [I x.1, .bool x.2]

theorem c_port_Way (k i o : Int) (h0 : 0 ≤ k) (h1 : k ≤ 255) : C f_port_Way [U k, I i, I o] (ib (way k i o)) := by
  refine ctr [U k, I i, I o] run_port_Way rfl rfl rfl ?_ rfl
  unfold rt_port_Way
  simp
  refine RTwp_call0 (c_port_of k h0 h1) (by simp) ?_
  rcases kind_cases h0 h1 with rfl | rfl | rfl | rfl | h
  · simp [kindCells]
    refine RTwp_loop rfl (fun vs => vs = [I 0]) (fun _ => 0) rfl ?_
    rintro vs - rfl
    simp [way]
  · simp [kindCells]
    refine RTwp_loop rfl (fun vs => vs = [I 0] ∨ vs = [I 1] ∧ way 1 i o = (0, false)) (fun vs => match vs with | [.int _ j] => 3 - j.toNat | _ => 0) (.inl rfl) ?_
    rintro vs - (rfl | ⟨rfl, hw⟩)
    · by_cases c1 : i = 0 ∧ o = 1 ∨ i = 1 ∧ o = 0 <;> simp [way, c1, w1] <;> omega
    · simp [hw]
  · simp [kindCells]
    refine RTwp_loop rfl (fun vs => vs = [I 0] ∨ vs = [I 1] ∧ ¬ (i = 0 ∧ o = 1 ∨ i = 1 ∧ o = 0) ∨ vs = [I 2] ∧ way 2 i o = (0, false)) (fun vs => match vs with | [.int _ j] => 3 - j.toNat | _ => 0) (.inl rfl) ?_
    rintro vs - (rfl | ⟨rfl, hw⟩ | ⟨rfl, hw⟩)
    · by_cases c1 : i = 0 ∧ o = 1 ∨ i = 1 ∧ o = 0 <;> simp [way, c1, w1] <;> omega
    · by_cases c1 : i = 0 ∧ o = 2 ∨ i = 2 ∧ o = 0 <;> simp [way, c1, hw, w2] <;> omega
    · simp [hw]
  · simp [kindCells]
    refine RTwp_loop rfl (fun vs => vs = [I 0] ∨ vs = [I 1] ∧ ¬ (i = 0 ∧ o = 1 ∨ i = 1 ∧ o = 0) ∨ vs = [I 2] ∧ way 3 i o = (0, false)) (fun vs => match vs with | [.int _ j] => 3 - j.toNat | _ => 0) (.inl rfl) ?_
    rintro vs - (rfl | ⟨rfl, hw⟩ | ⟨rfl, hw⟩)
    · by_cases c1 : i = 0 ∧ o = 1 ∨ i = 1 ∧ o = 0 <;> simp [way, c1, w1] <;> omega
    · by_cases c1 : i = 2 ∧ o = 3 ∨ i = 3 ∧ o = 2 <;> simp [way, c1, hw, w2] <;> omega
    · simp [hw]
  · simp [kindCells, show k ≠ 1 by omega, show k ≠ 2 by omega, show k ≠ 3 by omega]
    refine RTwp_loop rfl (fun vs => vs = [I 0]) (fun _ => 0) rfl ?_
    rintro vs - rfl
    simp [way, show k ≠ 1 by omega, show k ≠ 2 by omega, show k ≠ 3 by omega]

theorem c_port_Pos (k i o : Int) (h0 : 0 ≤ k) (h1 : k ≤ 255) : C f_port_Pos [U k, I i, I o] (ib (if (way k i o).2 = true ∧ k ≠ 2 then (-1, true) else way k i o)) := by
  refine ctr [U k, I i, I o] run_port_Pos rfl rfl rfl ?_ rfl
  unfold rt_port_Pos
  refine RTwp_call0 (c_port_Way k i o h0 h1) (by simp) ?_
  simp
  refine RTwp_call (.agg (kindCells k)) (c_port_of k h0 h1).1 (fun _ => ⟨c_port_of k h0 h1, by simp⟩) ?_
  generalize way k i o = w
  obtain ⟨a, b⟩ := w
  rcases kind_cases h0 h1 with rfl | rfl | rfl | rfl | h <;> cases b
  any_goals simp [kindCells]
  · simp [kindCells, show k ≠ 1 by omega, show k ≠ 2 by omega, show k ≠ 3 by omega]

/-! ### A layout's places -/
def secAt (l : Lay) (s : Int) : Option Sec := if 0 ≤ s then l.secs[s.toNat]? else none
theorem secAt_in {l : Lay} {s : Int} (h0 : 0 ≤ s) (h1 : s < l.secs.length) : ∃ n : Nat, s = n ∧ ∃ h : n < l.secs.length, secAt l s = some (l.secs[n]) := by
  refine ⟨s.toNat, by omega, by omega, ?_⟩
  unfold secAt
  rw [if_pos h0, List.getElem?_eq_getElem]
theorem secAt_out {l : Lay} {s : Int} (h : ¬ (0 ≤ s ∧ s < l.secs.length)) : secAt l s = none := by
  unfold secAt
  split
  · exact List.getElem?_eq_none (by omega)
  · rfl
theorem secAt_some {l : Lay} {s : Int} {x : Sec} (h : secAt l s = some x) : 0 ≤ s ∧ s < l.secs.length ∧ x ∈ l.secs := by
  by_cases hc : 0 ≤ s ∧ s < l.secs.length
  · obtain ⟨n, hn, hl, h2⟩ := secAt_in hc.1 hc.2
    rw [h2] at h
    simp only [Option.some.injEq] at h; subst h
    exact ⟨hc.1, hc.2, List.getElem_mem hl⟩
  · rw [secAt_out hc] at h; cases h
/-- The way of a step. -/
def lstep (l : Lay) (s : Step) : Int × Bool := match secAt l s.s with
  | some x => way x.kind s.i s.o
  | none => (0, false)

theorem c_layout_Step (l : Lay) (hl : l.ok) (s : Step) : C f_layout_Step [l.av, s.av] (ib (lstep l s)) := by
  refine ctr (l.cells ++ s.cells) run_layout_Step rfl (by simp [pureAll_append]) rfl ?_ rfl
  unfold rt_layout_Step
  simp [Lay.cells, Step.cells]
  by_cases hc : 0 ≤ s.s ∧ s.s < l.secs.length
  · obtain ⟨n, hn, hlt, he⟩ := secAt_in hc.1 hc.2
    have hk := hl _ (List.getElem_mem hlt)
    simp [hn, hlt, Sec.cells]
    refine ⟨?_, fun h => absurd h (by omega)⟩
    refine call (c_port_Way _ s.i s.o hk.1 hk.2) (by simp [hlt, Sec.cells]) (by simp) ?_
    simp [lstep, he]
  · have h2 : 0 ≤ s.s → ¬ s.s < l.secs.length := by omega
    simp [lstep, secAt_out hc]
    exact fun a b => absurd ⟨a, b⟩ hc

/-! ### Overlaps -/
theorem c_slices_Clone_Step (l : List Step) (h : l.length ≤ 4294967296) : C f_slices_Clone_Step [steps l] (steps l) := by
  refine ctr [steps l] run_slices_Clone_Step rfl (by simp [AV.pureAll, AV.pure]) (by simp [AV.pure]) ?_ rfl
  unfold rt_slices_Clone_Step
  simp
  exact ⟨fun x _ => by simp [Step.cells], h⟩

def exitAt (l : Lay) (x : Int) : Option Exi := if 0 ≤ x then l.exits[x.toNat]? else none
theorem exitAt_in {l : Lay} {s : Int} (h0 : 0 ≤ s) (h1 : s < l.exits.length) : ∃ n : Nat, s = n ∧ ∃ h : n < l.exits.length, exitAt l s = some (l.exits[n]) := by
  refine ⟨s.toNat, by omega, by omega, ?_⟩
  unfold exitAt
  rw [if_pos h0, List.getElem?_eq_getElem]
theorem exitAt_out {l : Lay} {s : Int} (h : ¬ (0 ≤ s ∧ s < l.exits.length)) : exitAt l s = none := by
  unfold exitAt
  split
  · exact List.getElem?_eq_none (by omega)
  · rfl
/-- An exit's overlap. -/
def over (l : Lay) (x : Int) : List Step := match exitAt l x with
  | some e => e.over
  | none => []
/-- Overlaps are no longer than the machine bears. -/
def Lay.ovOk (l : Lay) : Prop := ∀ e ∈ l.exits, e.over.length ≤ 4294967296
theorem over_len {l : Lay} (h : l.ovOk) (x : Int) : (over l x).length ≤ 4294967296 := by
  unfold over
  split
  · rename_i e he
    by_cases hc : 0 ≤ x ∧ x < l.exits.length
    · obtain ⟨n, hn, hlt, h2⟩ := exitAt_in hc.1 hc.2
      rw [h2] at he
      simp only [Option.some.injEq] at he; subst he
      exact h _ (List.getElem_mem hlt)
    · rw [exitAt_out hc] at he; cases he
  · simp

theorem c_beyond_Over (l : Lay) (ho : l.ovOk) (x : Int) : C f_beyond_Over [l.av, I x] (steps (over l x)) := by
  refine ctr (l.cells ++ [I x]) run_beyond_Over rfl (by simp [pureAll_append, AV.pureAll, AV.pure]) (by simp [AV.pure]) ?_ rfl
  unfold rt_beyond_Over
  simp [Lay.cells]
  by_cases hc : 0 ≤ x ∧ x < l.exits.length
  · obtain ⟨n, hn, hlt, he⟩ := exitAt_in hc.1 hc.2
    have hk := ho _ (List.getElem_mem hlt)
    subst hn
    simp [hlt, Exi.cells]
    refine ⟨fun h => by omega, ?_⟩
    refine call (c_slices_Clone_Step _ hk) (by simp [hlt, Exi.cells]) (by simp) ?_
    simp [over, he]
  · simp [over, exitAt_out hc]
    exact fun a b => absurd ⟨a, b⟩ hc
end Go.Lb.LK

namespace Go.Lb.LK
open Go Go.Lb Go.Proofs Go.RowKit

/-- A step's point. -/
def point (l : Lay) (s : Step) : Int × Int × Bool := match secAt l s.s with
  | some x => if (way x.kind s.i s.o).2 = true ∧ x.kind = 2 then (s.s, (way 2 s.i s.o).1, true) else (0, 0, false)
  | none => (0, 0, false)
abbrev iib (x : Int × Int × Bool) : AV := .tup [I x.1, I x.2.1, .bool x.2.2]

theorem c_beyond_Point (l : Lay) (hl : l.ok) (s : Step) : C f_beyond_Point [l.av, s.av] (iib (point l s)) := by
  refine ctr (l.cells ++ s.cells) run_beyond_Point rfl (by simp [pureAll_append]) rfl ?_ rfl
  unfold rt_beyond_Point
  simp [Lay.cells, Step.cells]
  refine call (c_layout_Step l hl s) (by simp [Lay.cells, Step.cells]) (by simp) ?_
  by_cases hc : 0 ≤ s.s ∧ s.s < l.secs.length
  · obtain ⟨n, hn, hlt, he⟩ := secAt_in hc.1 hc.2
    have hls : lstep l s = way l.secs[n].kind s.i s.o := by simp [lstep, he]
    have hpt : point l s = if (way l.secs[n].kind s.i s.o).2 = true ∧ l.secs[n].kind = 2 then (s.s, (way 2 s.i s.o).1, true) else (0, 0, false) := by simp [point, he]
    rw [hls, hpt]
    clear hls hpt
    cases hw : (way l.secs[n].kind s.i s.o).2
    · simp [hn, hlt, Sec.cells, hw]
    · by_cases hk : l.secs[n].kind = 2
      · rw [hk] at hw ⊢
        simp [hn, hlt, Sec.cells, hw, hk]
        refine call (c_port_Pos 2 s.i s.o (by omega) (by omega)) (by simp) (by simp) ?_
        simp
      · simp [hn, hlt, Sec.cells, hw, hk]
  · simp [point, lstep, secAt_out hc]

def flankOn (l : Lay) (s : Step) (f : Flank) : Bool := (lstep l s).2 && decide (f.s = s.s) && decide (f.way = (lstep l s).1)
/-- What a step wants. -/
def wants (l : Lay) (s : Step) (k : Int) : List Need :=
  (if (point l s).2.2 = true then [⟨(point l s).1, (point l s).2.1, k⟩] else []) ++ (l.flanks.filter (flankOn l s)).map fun f => ⟨f.point, f.pos, k⟩

theorem c_beyond_Wants (l : Lay) (hl : l.ok) (hf : l.flanks.length ≤ 2147483648) (s : Step) (k : Int) : C f_beyond_Wants [l.av, s.av, I k] (needs (wants l s k)) := by
  refine ctr (l.cells ++ s.cells ++ [I k]) run_beyond_Wants rfl (by simp [pureAll_append, AV.pureAll, AV.pure]) (by simp [AV.pure]) ?_ rfl
  unfold rt_beyond_Wants
  simp [Lay.cells, Step.cells]
  refine call (c_beyond_Point l hl s) (by simp [Lay.cells, Step.cells]) (by simp) ?_
  simp
  have hlen : ∀ i, ((l.flanks.take i).filter (flankOn l s)).length ≤ 2147483648 := fun i => by
    have := List.length_filter_le (flankOn l s) (l.flanks.take i)
    have : (l.flanks.take i).length ≤ l.flanks.length := by simp; omega
    omega
  refine ⟨fun hp => ?_, fun hp => ?_⟩
  all_goals
    refine call (c_layout_Step l hl s) (by simp [Lay.cells, Step.cells]) (by simp) ?_
    simp
    refine RTwp_loop rfl (fun vs => ∃ i : Nat, i ≤ l.flanks.length ∧ vs = [I i, needs ((if (point l s).2.2 = true then [⟨(point l s).1, (point l s).2.1, k⟩] else []) ++ ((l.flanks.take i).filter (flankOn l s)).map (fun f => ⟨f.point, f.pos, k⟩))]) (fun vs => match vs with | .int _ j :: _ => l.flanks.length - j.toNat | _ => 0) ⟨0, by simp, by simp [hp, Need.cells]⟩ ?_
    rintro vs - ⟨i, hi, rfl⟩
    have hli := hlen i
    simp
    refine ⟨fun hlt => ?_, fun hge => ?_⟩
    · have hw := wrap_succ (i := i) (by omega)
      have ht := filter_take (flankOn l s) l.flanks hlt
      cases hon : flankOn l s l.flanks[i]
      · have h3 : ¬ ((lstep l s).2 = true ∧ l.flanks[i].s = s.s ∧ l.flanks[i].way = (lstep l s).1) := by
          intro ⟨h1, h2, h3⟩
          simp [flankOn, h1, h2, h3] at hon
        simp [hlt, Flank.cells, hp]
        refine .inl ⟨fun h1 h2 h4 => h3 ⟨h1, h2, h4⟩, ⟨i + 1, by omega, hw, ?_⟩, by rw [hw]; omega⟩
        rw [ht, hon]; simp
      · have h3 : (lstep l s).2 = true ∧ l.flanks[i].s = s.s ∧ l.flanks[i].way = (lstep l s).1 := by
          simp only [flankOn, Bool.and_eq_true, decide_eq_true_eq] at hon
          exact ⟨hon.1.1, hon.1.2, hon.2⟩
        simp [hlt, Flank.cells, hp]
        refine .inr ⟨⟨⟨h3.1, h3.2.1⟩, h3.2.2⟩, by omega, ⟨i + 1, by omega, hw, ?_⟩, by rw [hw]; omega⟩
        rw [ht, hon]; simp [Need.cells]
    · have : l.flanks.take i = l.flanks := List.take_of_length_le hge
      simp [this, wants, hp, Need.cells]

/-- The steps that a path needs for, and their numbers. -/
def numbered (l : Lay) (p : Path) : List (Int × Step) := p.steps.mapIdx (fun k s => ((k : Int), s)) ++ (over l p.exit).map fun s => ((p.steps.length : Int), s)
/-- What a path needs. -/
def needOf (l : Lay) (p : Path) : List Need := (numbered l p).flatMap fun x => wants l x.2 x.1

theorem wants_len (l : Lay) (s : Step) (k : Int) : (wants l s k).length ≤ l.flanks.length + 1 := by
  unfold wants
  rw [List.length_append, List.length_map]
  have := List.length_filter_le (flankOn l s) l.flanks
  split <;> simp <;> omega
theorem mapIdx_take {α β : Type} (f : Nat → α → β) (l : List α) (i : Nat) : (l.take i).mapIdx f = (l.mapIdx f).take i := by
  apply List.ext_getElem?
  intro j
  by_cases h : j < i
  · simp [List.getElem?_take, h]
  · simp [List.getElem?_take, h]
theorem flat_len {α β : Type} (f : α → List β) (m : Nat) (h : ∀ x, (f x).length ≤ m) : ∀ l : List α, (l.flatMap f).length ≤ l.length * m
  | [] => by simp
  | x :: l => by
    have := flat_len f m h l
    have := h x
    simp only [List.flatMap_cons, List.length_append, List.length_cons, Nat.add_mul]
    omega

theorem c_need_Of (l : Lay) (hl : l.ok) (ho : l.ovOk) (hf : l.flanks.length ≤ 1000) (p : Path) (hp : p.steps.length ≤ 1000) (hov : (over l p.exit).length ≤ 1000) : C f_need_Of [l.av, p.av] (needs (needOf l p)) := by
  refine ctr (l.cells ++ p.cells) run_need_Of rfl (by simp [pureAll_append, AV.pureAll, AV.pure]) (by simp [AV.pure]) ?_ rfl
  unfold rt_need_Of
  simp [Lay.cells, Path.cells]
  have hw1 : ∀ s k, (wants l s k).length ≤ 1001 := fun s k => by have := wants_len l s k; omega
  have hnl : (numbered l p).length = p.steps.length + (over l p.exit).length := by simp [numbered]
  have hN : ∀ m : Nat, (((numbered l p).take m).flatMap fun x => wants l x.2 x.1).length ≤ 2002000 := fun m => by
    have h1 := flat_len (fun x : Int × Step => wants l x.2 x.1) 1001 (fun x => hw1 x.2 x.1) ((numbered l p).take m)
    have h2 : ((numbered l p).take m).length ≤ 2000 := by rw [List.length_take]; omega
    omega
  have hA : ∀ (i : Nat) (h : i < p.steps.length), (numbered l p)[i]'(by rw [hnl]; omega) = ((i : Int), p.steps[i]) := fun i h => by
    simp [numbered, List.getElem_append_left, h]
  have hB : ∀ (i : Nat) (h : i < (over l p.exit).length), (numbered l p)[p.steps.length + i]'(by rw [hnl]; omega) = ((p.steps.length : Int), (over l p.exit)[i]) := fun i h => by
    simp [numbered, List.getElem_append_right]
  refine RTwp_loop rfl (fun vs => ∃ i : Nat, i ≤ p.steps.length ∧ vs = [I i, needs (((numbered l p).take i).flatMap fun x => wants l x.2 x.1)]) (fun vs => match vs with | .int _ j :: _ => p.steps.length - j.toNat | _ => 0) ⟨0, by simp, by simp⟩ ?_
  rintro vs - ⟨i, hi, rfl⟩
  have hNi := hN i
  simp
  refine ⟨fun hlt => ?_, fun hge => ?_⟩
  · have hw := wrap_succ (i := i) (by omega)
    simp [hlt, Step.cells]
    have hx := flatMap_take (fun x : Int × Step => wants l x.2 x.1) (numbered l p) (i := i) (by rw [hnl]; omega)
    rw [hA i hlt] at hx
    have hy := hw1 p.steps[i] i
    refine call (c_beyond_Wants l hl (by omega) p.steps[i] i) (by simp [hlt, Step.cells, Lay.cells]) (by simp) ?_
    simp [-List.length_flatMap]
    refine ⟨fun x _ => by simp [Need.cells], by omega, ⟨i + 1, by omega, hw, ?_⟩, by rw [hw]; omega⟩
    rw [hx]; simp
  · have hi' : i = p.steps.length := by omega
    subst hi'
    refine call (c_beyond_Over l ho p.exit) (by simp [Lay.cells]) (by simp) ?_
    simp
    refine RTwp_loop rfl (fun vs => ∃ i : Nat, i ≤ (over l p.exit).length ∧ vs = [I i, needs (((numbered l p).take (p.steps.length + i)).flatMap fun x => wants l x.2 x.1)]) (fun vs => match vs with | .int _ j :: _ => (over l p.exit).length - j.toNat | _ => 0) ⟨0, by simp, by simp⟩ ?_
    rintro vs - ⟨i, hi, rfl⟩
    have hNi := hN (p.steps.length + i)
    simp
    refine ⟨fun hlt => ?_, fun hge => ?_⟩
    · have hw := wrap_succ (i := i) (by omega)
      simp [hlt, Step.cells]
      have hx := flatMap_take (fun x : Int × Step => wants l x.2 x.1) (numbered l p) (i := p.steps.length + i) (by rw [hnl]; omega)
      rw [hB i hlt] at hx
      have hy := hw1 (over l p.exit)[i] p.steps.length
      refine call (c_beyond_Wants l hl (by omega) (over l p.exit)[i] p.steps.length) (by simp [hlt, Step.cells, Lay.cells]) (by simp) ?_
      simp [-List.length_flatMap]
      refine ⟨fun x _ => by simp [Need.cells], by omega, ⟨i + 1, by omega, hw, ?_⟩, by rw [hw]; omega⟩
      rw [show p.steps.length + (i + 1) = p.steps.length + i + 1 from rfl, hx]; simp
    · have : (numbered l p).take (p.steps.length + i) = numbered l p := List.take_of_length_le (by rw [hnl]; omega)
      simp [this, needOf]
end Go.Lb.LK

namespace Go.Lb.LK
open Go Go.Lb Go.Proofs Go.RowKit

def total (xs : List (List Need)) : Nat := (xs.map List.length).sum
theorem total_flat (xs : List (List Need)) : xs.flatten.length = total xs := by simp [total, List.length_flatten]
theorem flatten_take (xs : List (List Need)) {i : Nat} (h : i < xs.length) : (xs.take (i + 1)).flatten = (xs.take i).flatten ++ xs[i] := by
  rw [List.take_add_one, List.getElem?_eq_getElem h, List.flatten_append]; simp
theorem total_take (xs : List (List Need)) {i : Nat} (h : i < xs.length) : total (xs.take (i + 1)) = total (xs.take i) + xs[i].length := by
  rw [← total_flat, ← total_flat, flatten_take xs h, List.length_append]
theorem total_le (xs : List (List Need)) (i : Nat) : total (xs.take i) ≤ total xs := by
  unfold total
  conv => rhs; rw [← List.take_append_drop i xs, List.map_append, List.sum_append]
  omega

theorem c_slices_Concat_Need (xs : List (List Need)) (hx : xs.length ≤ 1000000) (ht : total xs ≤ 1000000000) : C f_slices_Concat_Need [.sl (xs.map needs)] (needs xs.flatten) := by
  refine ctr [.sl (xs.map needs)] run_slices_Concat_Need rfl (by simp [AV.pureAll, AV.pure, pureAll_map needs (fun x => by simp [AV.pure])]) (by simp only [AV.pure]; exact needs_pure _) ?_ rfl
  unfold rt_slices_Concat_Need
  simp
  refine RTwp_loop rfl (fun vs => ∃ i : Nat, i ≤ xs.length ∧ vs = [I (total (xs.take i)), I i]) (fun vs => match vs with | [_, .int _ j] => xs.length - j.toNat | _ => 0) ⟨0, by simp, by simp [total]⟩ ?_
  rintro vs - ⟨i, hi, rfl⟩
  have hti := total_le xs i
  simp
  refine ⟨fun hlt => ?_, fun hge => ?_⟩
  · have hw := wrap_succ (i := i) (by omega)
    have ht1 := total_take xs hlt
    have ht2 := total_le xs (i + 1)
    have hw2 : IntKind.i64.wrap ((total (xs.take i) : Int) + xs[i].length) = (total (xs.take (i + 1)) : Int) := by rw [wrap_i] <;> omega
    simp [hlt, hw2]
    exact ⟨⟨i + 1, by omega, rfl, hw⟩, by rw [hw]; omega⟩
  · have hti : xs.take i = xs := List.take_of_length_le hge
    have w0 : IntKind.i64.wrap 0 = 0 := by decide
    have wt : IntKind.i64.wrap (total xs : Int) = total xs := by rw [wrap_i] <;> omega
    simp [hti, w0, wt]
    refine ⟨fun hpos => ⟨by omega, ?_⟩, fun hz => ?_⟩
    all_goals
      refine RTwp_loop rfl (fun vs => ∃ i : Nat, i ≤ xs.length ∧ vs = [needs (xs.take i).flatten, I i]) (fun vs => match vs with | [_, .int _ j] => xs.length - j.toNat | _ => 0) ⟨0, by simp, by simp⟩ ?_
      rintro vs - ⟨j, hj, rfl⟩
      have htj := total_le xs j
      rw [← total_flat] at htj
      simp only [envOf, List.cons_append, List.nil_append]
      have hfl := fun h => flatten_take xs (i := j) h
      generalize hcur : (xs.take j).flatten = cur at htj hfl ⊢
      simp
      refine ⟨fun hlt => ?_, fun hge => ?_⟩
      · have hw := wrap_succ (i := j) (by omega)
        have ht1 := total_take xs hlt
        have ht2 := total_le xs (j + 1)
        rw [← total_flat (xs.take j), hcur] at ht1
        simp [hlt]
        refine ⟨fun x _ => by simp [Need.cells], by omega, ⟨j + 1, by omega, ?_, hw⟩, by rw [hw]; omega⟩
        have := congrArg (List.map Need.av) (hfl hlt)
        simpa using this.symm
      · have : xs.take j = xs := List.take_of_length_le hge
        simp [← hcur, this]

/-- Where a point is wanted. -/
def at' (a : List Need) (p : Int) : Int × Bool := match a.find? (fun x => decide (x.p = p)) with
  | some x => (x.pos, true)
  | none => (0, false)
theorem find_take {α : Type} {q : α → Bool} {l : List α} {i : Nat} (h : ∀ x ∈ l.take i, q x = false) (hi : i < l.length) (hq : q l[i] = true) : l.find? q = some l[i] := by
  conv => lhs; rw [← List.take_append_drop i l]
  rw [List.find?_append, List.find?_eq_none.2 (fun x hx => by rw [h x hx]; simp), Option.none_or, List.drop_eq_getElem_cons hi, List.find?_cons, hq]
theorem none_take {α : Type} {q : α → Bool} {l : List α} {i : Nat} (h : ∀ x ∈ l.take i, q x = false) (hi : i < l.length) (hq : q l[i] = false) : ∀ x ∈ l.take (i + 1), q x = false := by
  intro x hx
  rw [List.take_add_one, List.getElem?_eq_getElem hi] at hx
  rcases List.mem_append.1 hx with hx | hx
  · exact h x hx
  · simp at hx; subst hx; exact hq

theorem c_need_At (a : List Need) (ha : a.length ≤ 1000000000) (p : Int) : C f_need_At [needs a, I p] (ib (at' a p)) := by
  refine ctr [needs a, I p] run_need_At rfl (by simp [AV.pureAll, AV.pure]) rfl ?_ rfl
  unfold rt_need_At
  simp
  refine RTwp_loop rfl (fun vs => ∃ i : Nat, i ≤ a.length ∧ vs = [I i] ∧ ∀ x ∈ a.take i, decide (x.p = p) = false) (fun vs => match vs with | [.int _ j] => a.length - j.toNat | _ => 0) ⟨0, by simp⟩ ?_
  rintro vs - ⟨i, hi, rfl, hno⟩
  simp
  refine ⟨fun hlt => ?_, fun hge => ?_⟩
  · have hw := wrap_succ (i := i) (by omega)
    simp [hlt, Need.cells]
    by_cases hq : a[i].p = p
    · have := find_take hno hlt (by simp [hq])
      refine .inr ⟨hq, ?_⟩
      simp [at', this]
    · refine .inl ⟨hq, ⟨i + 1, by omega, hw, ?_⟩, by rw [hw]; omega⟩
      have := none_take hno hlt (by simp [hq])
      intro x hx
      simpa using this x hx
  · have hti : a.take i = a := List.take_of_length_le hge
    rw [hti] at hno
    have : a.find? (fun x => decide (x.p = p)) = none := List.find?_eq_none.2 (fun x hx => by rw [hno x hx]; simp)
    simp [at', this]

/-- Whether needs clash. -/
def clash (a b : List Need) : Bool := (a ++ b).any fun x => decide ((at' (a ++ b) x.p).1 ≠ x.pos)
theorem any_take {α : Type} {q : α → Bool} {l : List α} {i : Nat} (hi : i < l.length) (hq : q l[i] = true) : l.any q = true := List.any_eq_true.2 ⟨l[i], List.getElem_mem hi, hq⟩

theorem c_need_Clash (a b : List Need) (ha : a.length + b.length ≤ 1000000) : C f_need_Clash [needs a, needs b] (.bool (clash a b)) := by
  refine ctr [needs a, needs b] run_need_Clash rfl (by simp [AV.pureAll, AV.pure]) rfl ?_ rfl
  unfold rt_need_Clash
  simp
  refine call (c_slices_Concat_Need [a, b] (by simp) (by simp [total]; omega)) (by simp) (by simp) ?_
  simp
  have hl : (a ++ b).length ≤ 1000000 := by simp; omega
  have hcl : clash a b = (a ++ b).any fun x => decide ((at' (a ++ b) x.p).1 ≠ x.pos) := rfl
  generalize a ++ b = c at hl hcl ⊢
  rw [hcl]
  refine RTwp_loop rfl (fun vs => ∃ i : Nat, i ≤ c.length ∧ vs = [I i] ∧ ∀ x ∈ c.take i, decide ((at' c x.p).1 ≠ x.pos) = false) (fun vs => match vs with | [.int _ j] => c.length - j.toNat | _ => 0) ⟨0, by simp⟩ ?_
  rintro vs - ⟨i, hi, rfl, hno⟩
  simp
  refine ⟨fun hlt => ?_, fun hge => ?_⟩
  · have hw := wrap_succ (i := i) (by omega)
    simp [hlt, Need.cells]
    refine call (c_need_At c (by omega) c[i].p) (by simp [hlt, Need.cells]) (by simp) ?_
    simp [hlt, Need.cells]
    refine ⟨fun hne => ⟨c[i], List.getElem_mem hlt, hne⟩, fun heq => ⟨⟨i + 1, by omega, hw, fun x hx => ?_⟩, by rw [hw]; omega⟩⟩
    have := none_take hno hlt (by simp [heq]) x hx
    simpa using this
  · have hti : c.take i = c := List.take_of_length_le hge
    rw [hti] at hno
    exact fun x hx => by simpa using hno x hx

/-- Whether a path can be locked. -/
def fine (l : Lay) (p : Path) : Bool := !clash (needOf l p) []
theorem numbered_len (l : Lay) (p : Path) : (numbered l p).length = p.steps.length + (over l p.exit).length := by simp [numbered]
theorem needOf_len (l : Lay) (hf : l.flanks.length ≤ 30) (p : Path) (hp : p.steps.length ≤ 1000) (ho : (over l p.exit).length ≤ 1000) : (needOf l p).length ≤ 62000 := by
  have h1 := flat_len (fun x : Int × Step => wants l x.2 x.1) 31 (fun x => by have := wants_len l x.2 x.1; omega) (numbered l p)
  have := numbered_len l p
  unfold needOf; omega

theorem c_need_Fine (l : Lay) (hl : l.ok) (ho : l.ovOk) (hf : l.flanks.length ≤ 30) (p : Path) (hp : p.steps.length ≤ 1000) (hov : (over l p.exit).length ≤ 1000) : C f_need_Fine [l.av, p.av] (.bool (fine l p)) := by
  refine ctr (l.cells ++ p.cells) run_need_Fine rfl (by simp [pureAll_append, AV.pureAll, AV.pure]) rfl ?_ rfl
  unfold rt_need_Fine
  simp [Lay.cells, Path.cells]
  refine call (c_need_Of l hl ho (by omega) p hp hov) (by simp [Lay.cells, Path.cells]) (by simp) ?_
  simp
  refine call (c_need_Clash (needOf l p) [] (by have := needOf_len l hf p hp hov; simp; omega)) (by simp) (by simp) ?_
  simp [fine]

/-- The points that are wanted. -/
def points (a : List Need) : List Int := compactI (sortI (a.map Need.p))
theorem sortI_len (l : List Int) : (sortI l).length = l.length := by simp [sortI]
theorem points_len (a : List Need) : (points a).length ≤ a.length := by
  have := compactI_le (sortI (a.map Need.p))
  rw [sortI_len, List.length_map] at this
  exact this

theorem c_need_Points (a : List Need) (ha : a.length ≤ 1000000000) : C f_need_Points [needs a] (ints (points a)) := by
  refine ctr [needs a] run_need_Points rfl (by simp [AV.pureAll, AV.pure]) (ints_pure' _) ?_ rfl
  unfold rt_need_Points
  simp
  refine RTwp_loop rfl (fun vs => ∃ i : Nat, i ≤ a.length ∧ vs = [ints ((a.take i).map Need.p), I i]) (fun vs => match vs with | [_, .int _ j] => a.length - j.toNat | _ => 0) ⟨0, by simp, by simp⟩ ?_
  rintro vs - ⟨i, hi, rfl⟩
  have hti : (a.take i).length = i := by simp; omega
  simp
  refine ⟨fun hlt => ?_, fun hge => ?_⟩
  · have hw := wrap_succ (i := i) (by omega)
    have hm := map_take Need.p a hlt
    simp [hlt, Need.cells]
    refine ⟨by omega, ⟨i + 1, by omega, ?_, hw⟩, by rw [hw]; omega⟩
    have := map_take (I ∘ Need.p) a hlt
    rw [List.map_take, List.map_take] at this
    rw [this]; rfl
  · refine ⟨a.map Need.p, by simp; omega, ?_, sortI (a.map Need.p), by rw [sortI_len]; simp; omega, rfl, rfl⟩
    rw [List.take_of_length_le (by simpa using hge), List.map_map]

theorem need_eq {x y : Need} : x = y ↔ x.p = y.p ∧ x.pos = y.pos ∧ x.k = y.k := by
  cases x; cases y; simp

theorem c_slices_Equal_Need (a b : List Need) (ha : a.length ≤ 4294967296) : C f_slices_Equal_Need [needs a, needs b] (.bool (a == b)) := by
  refine ctr [needs a, needs b] run_slices_Equal_Need rfl (by simp [AV.pureAll, AV.pure]) rfl ?_ rfl
  unfold rt_slices_Equal_Need
  simp
  refine ⟨fun h hab => h (by rw [hab]), fun h => ?_⟩
  refine RTwp_loop rfl (fun vs => ∃ i : Nat, vs = [I i] ∧ i ≤ a.length ∧ a.take i = b.take i) (fun vs => match vs with | [.int _ i] => a.length - i.toNat | _ => 0) ⟨0, by simp⟩ ?_
  rintro vs - ⟨i, rfl, hi, htk⟩
  simp
  refine ⟨fun hlt => ?_, fun hge => ?_⟩
  · have hlb : i < b.length := by omega
    have hw := wrap_succ (i := i) (by omega)
    simp [hlt, hlb, Need.cells]
    by_cases hne : a[i] = b[i]
    · refine .inl ⟨need_eq.1 hne, ⟨i + 1, hw, by omega, ?_⟩, by rw [hw]; omega⟩
      rw [List.take_add_one, List.take_add_one, htk, List.getElem?_eq_getElem hlt, List.getElem?_eq_getElem hlb, hne]
    · exact .inr ⟨fun h1 h2 h3 => hne (need_eq.2 ⟨h1, h2, h3⟩), fun hab => hne (by subst hab; rfl)⟩
  · have h1 : a.take i = a := List.take_of_length_le (by omega)
    have h2 : b.take i = b := List.take_of_length_le (by omega)
    rw [← h1, ← h2, htk]

theorem c_need_Same (a b : List Need) (ha : a.length ≤ 4294967296) : C f_need_Same [needs a, needs b] (.bool (a == b)) := by
  refine ctr [needs a, needs b] run_need_Same rfl (by simp [AV.pureAll, AV.pure]) rfl ?_ rfl
  unfold rt_need_Same
  refine call (c_slices_Equal_Need a b ha) (by simp) (by simp) ?_
  simp
end Go.Lb.LK

namespace Go.Lb.LK
open Go Go.Lb Go.Proofs Go.RowKit

def lay1 : Lay := ⟨[⟨2, ⟨-1, 0⟩, ⟨-1, 0⟩, ⟨-1, 0⟩, ⟨-1, 0⟩, 0, 0⟩], [⟨0, 0⟩], [⟨⟨0, 2⟩, []⟩], [], 1, 1, 1, 1, 1, 1, 1⟩
theorem lay1_ok : lay1.ok := by intro s hs; simp [lay1] at hs; subst hs; simp
theorem lay1_ov : lay1.ovOk := by intro s hs; simp [lay1] at hs; subst hs; simp
theorem c_lockbarlaw13_point : C f_lockbarlaw13_point [] lay1.av := by
  refine ctr [] run_lockbarlaw13_point rfl rfl (by simp [AV.pure]) ?_ rfl
  unfold rt_lockbarlaw13_point
  simp [lay1, Lay.cells, Sec.cells, Port.cells, Exi.cells]

def na : List Need := [⟨3, 0, 0⟩, ⟨1, 1, 2⟩]
theorem w_of : needOf lay1 ⟨0, 0, [⟨0, 0, 2⟩]⟩ = [⟨0, 1, 0⟩] := by decide +kernel
theorem w_points : points [⟨3, 0, 0⟩, ⟨1, 1, 2⟩, ⟨3, 0, 0⟩] = [1, 3] := by
  have s1 : sortI [3, 1, 3] = [1, 3, 3] := by simp [sortI, List.mergeSort, List.MergeSort.Internal.splitInTwo, List.merge]
  have s2 : compactI [1, 3, 3] = [1, 3] := by decide +kernel
  simp [points, s1, s2]
theorem w_fine : fine lay1 ⟨0, 0, []⟩ = true := by decide +kernel

theorem c_lockbarlaw13_wakes : C f_lockbarlaw13_wakes [] (.bool true) := by
  refine ctr [] run_lockbarlaw13_wakes rfl rfl rfl ?_ rfl
  unfold rt_lockbarlaw13_wakes
  refine call c_lockbarlaw13_point (by simp) (by simp) ?_
  simp
  refine call (c_need_Of lay1 lay1_ok lay1_ov (by simp [lay1]) ⟨0, 0, [⟨0, 0, 2⟩]⟩ (by simp) (by simp [over, lay1, exitAt])) (by simp [Path.cells, Step.cells]) (by simp) ?_
  rw [w_of]
  simp
  refine call (c_need_At na (by simp [na]) 1) (by simp [na, Need.cells]) (fun _ => rfl) ?_
  simp [na, at', Need.cells]
  refine call (c_need_At na (by simp [na]) 2) (by simp [na, Need.cells]) (fun _ => rfl) ?_
  simp [na, at', Need.cells]
  refine call (c_need_Points [⟨3, 0, 0⟩, ⟨1, 1, 2⟩, ⟨3, 0, 0⟩] (by simp)) (by simp [Need.cells]) (by simp) ?_
  rw [w_points]
  simp
  refine call (c_need_Clash na [⟨3, 1, 0⟩] (by simp [na])) (by simp [na, Need.cells]) (fun _ => rfl) ?_
  rw [show clash na [⟨3, 1, 0⟩] = true by decide +kernel]
  refine callIf (.bool false) rfl (fun _ => ⟨?_, show C f_need_Clash [needs na, needs na] _ by rw [show (false : Bool) = clash na na by decide +kernel]; exact c_need_Clash na na (by simp [na])⟩) (fun _ => rfl) ?_
  · simp [na, Need.cells]
  simp [Need.cells]
  refine callIf lay1.av (by simp [AV.pure]) (fun _ => ⟨rfl, c_lockbarlaw13_point⟩) (by simp) ?_
  simp
  refine callIf (.bool true) rfl (fun _ => ⟨?_, show C f_need_Fine [lay1.av, Path.av ⟨0, 0, []⟩] _ by rw [← w_fine]; exact c_need_Fine lay1 lay1_ok lay1_ov (by simp [lay1]) _ (by simp) (by simp [over, lay1, exitAt])⟩) (fun _ => rfl) ?_
  · simp [Path.cells]
  simp
  refine callIf (.bool true) rfl (fun _ => ⟨?_, show C f_need_Same [needs na, needs na] _ by rw [show (true : Bool) = (na == na) by decide +kernel]; exact c_need_Same na na (by simp [na])⟩) (fun _ => rfl) ?_
  · simp [na, Need.cells]
  simp
  refine callIf (.bool false) rfl (fun _ => ⟨?_, show C f_need_Same [needs na, needs []] _ by rw [show (false : Bool) = (na == []) by decide +kernel]; exact c_need_Same na [] (by simp [na])⟩) (fun _ => rfl) ?_
  · simp [na, Need.cells]
  simp [Need.cells]
end Go.Lb.LK

namespace Go.Lb.LK
open Go Go.Lb Go.Proofs Go.RowKit

/-! ### Points -/
theorem sortI_mem {l : List Int} {n : Int} : n ∈ sortI l ↔ n ∈ l := by unfold sortI; exact List.mem_mergeSort
theorem sortI_sorted (l : List Int) : (sortI l).Pairwise (fun x y => x ≤ y) := by
  have := List.pairwise_mergeSort (le := fun x y : Int => decide (x ≤ y)) (fun a b c h1 h2 => by simp at *; omega) (fun a b => by simp; omega) l
  exact this.imp (fun h => by simpa using h)
theorem compact_upTo {l : List Int} (hs : l.Pairwise (fun x y => x ≤ y)) : ∀ m, m ≤ l.length → (∀ n, n ∈ Go.Lib.compactUpTo l.toArray m ↔ n ∈ l.take m) ∧ (Go.Lib.compactUpTo l.toArray m).Pairwise (fun x y => x < y)
  | 0, _ => by simp [Go.Lib.compactUpTo]
  | m + 1, h => by
    obtain ⟨h1, h2⟩ := compact_upTo hs m (by omega)
    have hm : l.toArray[m]! = l[m] := by simp [show m < l.length by omega]
    rw [Go.Lib.compactUpTo_succ, hm]
    have ht : l.take (m + 1) = l.take m ++ [l[m]] := by rw [List.take_add_one, List.getElem?_eq_getElem (by omega)]; rfl
    have hle : ∀ x ∈ l.take m, x ≤ l[m] := by
      intro x hx
      obtain ⟨j, hj, rfl⟩ := List.mem_iff_getElem.1 hx
      rw [List.getElem_take]
      rw [List.length_take] at hj
      exact List.pairwise_iff_getElem.1 hs j m (by omega) (by omega) (by omega)
    cases hk : Go.Lib.keeps l.toArray m with
    | true =>
      refine ⟨fun n => ?_, ?_⟩
      · rw [ht]; simp only [h1, if_true, List.mem_append, List.mem_singleton]
      · simp only [if_true]
        rw [List.pairwise_append]
        refine ⟨h2, by simp, fun x hx y hy => ?_⟩
        simp only [List.mem_singleton] at hy; subst hy
        have hx' := (h1 x).1 hx
        have := hle x hx'
        simp only [Go.Lib.keeps, decide_eq_true_eq] at hk
        rcases hk with h0 | hk
        · subst h0; simp at hx'
        · have hm1 : l.toArray[m - 1]! = l[m - 1] := by simp [show m - 1 < l.length by omega]
          rw [hm, hm1] at hk
          obtain ⟨j, hj, rfl⟩ := List.mem_iff_getElem.1 hx'
          rw [List.getElem_take]
          rw [List.length_take] at hj
          have a1 : l[j] ≤ l[m - 1] := by
            rcases Nat.lt_or_ge j (m - 1) with hlt | hge
            · exact List.pairwise_iff_getElem.1 hs j (m - 1) (by omega) (by omega) hlt
            · have : j = m - 1 := by omega
              subst this; exact Int.le_refl _
          have a2 : l[m - 1] ≤ l[m] := by
            rcases Nat.eq_zero_or_pos m with h0 | h0
            · subst h0; exact Int.le_refl _
            · exact List.pairwise_iff_getElem.1 hs (m - 1) m (by omega) (by omega) (by omega)
          omega
    | false =>
      refine ⟨fun n => ?_, by simpa using h2⟩
      rw [ht]
      simp only [Bool.false_eq_true, if_false, List.append_nil, List.mem_append, List.mem_singleton, h1]
      refine ⟨.inl, fun h => h.elim id ?_⟩
      rintro rfl
      have hk' : ¬ (m = 0 ∨ l.toArray[m]! ≠ l.toArray[m - 1]!) := by simpa [Go.Lib.keeps] using hk
      have hm0 : m ≠ 0 := fun h => hk' (.inl h)
      have hm1 : l.toArray[m - 1]! = l[m - 1] := by simp [show m - 1 < l.length by omega]
      rw [hm, hm1] at hk'
      have : l[m] = l[m - 1] := Classical.byContradiction fun h => hk' (.inr h)
      rw [this]
      exact List.mem_iff_getElem.2 ⟨m - 1, by rw [List.length_take]; omega, by rw [List.getElem_take]⟩
theorem compactI_spec {l : List Int} (hs : l.Pairwise (fun x y => x ≤ y)) : (∀ n, n ∈ compactI l ↔ n ∈ l) ∧ (compactI l).Pairwise (fun x y => x < y) := by
  have := compact_upTo hs l.length (Nat.le_refl _)
  rwa [List.take_length] at this
theorem points_mem {a : List Need} {n : Int} : n ∈ points a ↔ ∃ x ∈ a, x.p = n := by
  unfold points
  rw [(compactI_spec (sortI_sorted _)).1, sortI_mem, List.mem_map]
theorem points_rise (a : List Need) : (points a).Pairwise (fun x y => x < y) := (compactI_spec (sortI_sorted _)).2
theorem at_iff {a : List Need} {n : Int} : (at' a n).2 = true ↔ ∃ x ∈ a, x.p = n := by
  unfold at'
  cases h : a.find? (fun x => decide (x.p = n)) with
  | none =>
    have := List.find?_eq_none.1 h
    simp only [Bool.false_eq_true, false_iff]
    rintro ⟨x, hx, hp⟩
    exact this x hx (by simp [hp])
  | some x =>
    simp only [true_iff]
    exact ⟨x, List.mem_of_find?_eq_some h, by simpa using List.find?_some h⟩

theorem mem_take_or {l : List Int} {n : Int} {i : Nat} (h : i < l.length) : (decide (n ∈ l.take i) || l[i] == n) = decide (n ∈ l.take (i + 1)) := by
  rw [Bool.eq_iff_iff, show l.take (i + 1) = l.take i ++ [l[i]] by rw [List.take_add_one, List.getElem?_eq_getElem h]; rfl]
  simp only [Bool.or_eq_true, decide_eq_true_eq, beq_iff_eq, List.mem_append, List.mem_singleton]
  exact or_congr Iff.rfl eq_comm

theorem c_NeedPoints (a : List Need) (n : Int) : C f_lockbarlaw13_NeedPoints [needs a, I n] (.bool true) := by
  refine ctr [needs a, I n] run_lockbarlaw13_NeedPoints rfl (by simp [AV.pureAll, AV.pure]) rfl ?_ rfl
  unfold rt_lockbarlaw13_NeedPoints
  simp
  refine ⟨fun hgr => ?_, fun hsm => ?_⟩
  · refine call c_lockbarlaw13_wakes (by simp) (by simp) ?_
    simp
  refine call (c_need_Points a (by omega)) (by simp) (by simp) ?_
  have hmem := fun n => points_mem (a := a) (n := n)
  have hrise := points_rise a
  have hlen := points_len a
  generalize points a = l at hmem hrise hlen ⊢
  simp
  refine RTwp_loop rfl (fun vs => ∃ i : Nat, i ≤ l.length ∧ vs = [.bool (decide (n ∈ l.take i)), I i]) (fun vs => match vs with | [_, .int _ j] => l.length - j.toNat | _ => 0) ⟨0, by simp, by simp⟩ ?_
  rintro vs - ⟨i, hi, rfl⟩
  simp
  refine ⟨fun hlt => ?_, fun hge => ?_⟩
  · have hw := wrap_succ (i := i) (by omega)
    simp [hlt]
    refine call (c_need_At a (by omega) l[i]) (by simp [hlt]) (by simp) ?_
    have hat : (at' a l[i]).2 = true := at_iff.2 ((hmem _).1 (List.getElem_mem hlt))
    have hin := mem_take_or (n := n) hlt
    cases i with
    | zero =>
      simp [hlt, hat]
      exact ⟨⟨1, by omega, by simpa using hin, w1⟩, by rw [w1]; omega⟩
    | succ j =>
      have hj : j < l.length := by omega
      have wj : IntKind.i64.wrap ((j : Int)) = j := by rw [wrap_i] <;> omega
      have hlt2 := List.pairwise_iff_getElem.1 hrise j (j + 1) hj hlt (by omega)
      simp [hlt, hat, wj, hj]
      have hw' : IntKind.i64.wrap ((j : Int) + 1 + 1) = ((j + 1 + 1 : Nat) : Int) := by rw [wrap_i] <;> omega
      exact ⟨by omega, hlt2, fun _ => ⟨fun _ => by omega, ⟨j + 1 + 1, by omega, hin, hw'⟩, by rw [hw']; omega⟩⟩
  · have hti : l.take i = l := List.take_of_length_le hge
    simp only [hti]
    refine call (c_need_At a (by omega) n) (by simp) (by simp) ?_
    simp
    refine RTwp_loop rfl (fun vs => ∃ i : Nat, i ≤ a.length ∧ vs = [I i]) (fun vs => match vs with | [.int _ j] => a.length - j.toNat | _ => 0) ⟨0, by simp, by simp⟩ ?_
    rintro vs - ⟨j, hj, rfl⟩
    simp
    refine ⟨fun hlt => ?_, fun hge => ?_⟩
    · refine RTwp_loop rfl (fun vs => ∃ i : Nat, i ≤ l.length ∧ vs = [.bool (decide (a[j].p ∈ l.take i)), I i]) (fun vs => match vs with | [_, .int _ j] => l.length - j.toNat | _ => 0) ⟨0, by simp, by simp⟩ ?_
      rintro vs - ⟨k, hk, rfl⟩
      simp
      refine ⟨fun hk2 => ?_, fun hk2 => ?_⟩
      · have hw := wrap_succ (i := k) (by omega)
        have hin := mem_take_or (n := a[j].p) hk2
        simp [hk2, hlt, Need.cells]
        exact ⟨⟨k + 1, by omega, hin, hw⟩, by rw [hw]; omega⟩
      · have hti : l.take k = l := List.take_of_length_le hk2
        have hw := wrap_succ (i := j) (by omega)
        have : a[j].p ∈ l := (hmem _).2 ⟨a[j], List.getElem_mem hlt, rfl⟩
        simp only [hti, this, true_implies, and_true]
        exact ⟨⟨j + 1, by omega, hw⟩, by rw [hw]; omega⟩
    · have he : decide (n ∈ l) = (at' a n).2 := by
        rw [Bool.eq_iff_iff, at_iff, ← hmem, decide_eq_true_eq]
      rw [he]
      refine callIf (.bool true) rfl (fun _ => ⟨rfl, c_lockbarlaw13_wakes⟩) (by simp) ?_
      simp
end Go.Lb.LK

namespace Go.Lb.LK
open Go Go.Lb Go.Proofs Go.RowKit

/-- Two that want one point both ways. -/
def vs (x y : Need) : Bool := decide (x.p = y.p) && decide (x.pos ≠ y.pos)
def dbl (c : List Need) : Bool := c.any fun x => c.any (vs x)
theorem dbl_iff {c : List Need} : dbl c = true ↔ ∃ x ∈ c, ∃ y ∈ c, x.p = y.p ∧ x.pos ≠ y.pos := by
  simp [dbl, vs]
theorem at_some {a : List Need} {x : Need} (hx : x ∈ a) : ∃ y ∈ a, y.p = x.p ∧ (at' a x.p) = (y.pos, true) := by
  cases h : a.find? (fun y => decide (y.p = x.p)) with
  | none => exact absurd (List.find?_eq_none.1 h x hx) (by simp)
  | some y => exact ⟨y, List.mem_of_find?_eq_some h, by simpa using List.find?_some h, by simp [at', h]⟩
theorem clash_dbl (a b : List Need) : clash a b = dbl (a ++ b) := by
  rw [Bool.eq_iff_iff, dbl_iff]
  unfold clash
  generalize a ++ b = c
  simp only [List.any_eq_true, decide_eq_true_eq]
  constructor
  · rintro ⟨x, hx, hne⟩
    obtain ⟨y, hy, hp, he⟩ := at_some hx
    exact ⟨y, hy, x, hx, hp, by rw [he] at hne; exact hne⟩
  · rintro ⟨x, hx, y, hy, hp, hne⟩
    obtain ⟨z, hz, hzp, he⟩ := at_some hx
    by_cases h : z.pos = x.pos
    · refine ⟨y, hy, ?_⟩
      rw [← hp, he]; simp only; omega
    · exact ⟨x, hx, by rw [he]; exact h⟩
theorem dbl_comm (a b : List Need) : dbl (a ++ b) = dbl (b ++ a) := by
  rw [Bool.eq_iff_iff, dbl_iff, dbl_iff]
  simp only [List.mem_append]
  constructor
  · rintro ⟨x, hx, y, hy, h⟩; exact ⟨x, hx.symm, y, hy.symm, h⟩
  · rintro ⟨x, hx, y, hy, h⟩; exact ⟨x, hx.symm, y, hy.symm, h⟩
theorem dbl_more {a b : List Need} (h : dbl a = true) : dbl (a ++ b) = true := by
  rw [dbl_iff] at h ⊢
  obtain ⟨x, hx, y, hy, h⟩ := h
  exact ⟨x, List.mem_append_left _ hx, y, List.mem_append_left _ hy, h⟩

theorem any_take_or {q : Need → Bool} {l : List Need} {i : Nat} (h : i < l.length) : (l.take (i + 1)).any q = ((l.take i).any q || q l[i]) := by
  rw [List.take_add_one, List.getElem?_eq_getElem h, List.any_append]
  simp

theorem c_NeedClash (a b : List Need) : C f_lockbarlaw13_NeedClash [needs a, needs b] (.bool true) := by
  refine ctr [needs a, needs b] run_lockbarlaw13_NeedClash rfl (by simp [AV.pureAll, AV.pure]) rfl ?_ rfl
  unfold rt_lockbarlaw13_NeedClash
  simp
  refine ⟨fun hgr => ?_, fun h1 h2 => ?_⟩
  · refine call c_lockbarlaw13_wakes (by simp) (by simp) ?_
    simp
  refine ⟨fun x _ => by simp [Need.cells], by omega, fun x _ => by simp [Need.cells], by omega, ?_⟩
  have hc : List.map Need.av a ++ List.map Need.av b = List.map Need.av (a ++ b) := by simp
  have hlen : (a ++ b).length ≤ 120 := by simp; omega
  have hcl := clash_dbl a b
  have hcl2 := clash_dbl b a
  have hcl3 := clash_dbl a []
  have hcl4 := clash_dbl (a ++ b) []
  rw [← dbl_comm] at hcl2
  rw [List.append_nil] at hcl3 hcl4
  have hmore : dbl a = true → dbl (a ++ b) = true := dbl_more
  have call1 := c_need_Clash a b (by omega)
  have call2 := c_need_Clash b a (by omega)
  have call3 := c_need_Clash a [] (by simp; omega)
  have call4 := c_need_Clash (a ++ b) [] (by simp; omega)
  rw [hcl] at call1
  rw [hcl2] at call2
  rw [hcl3] at call3
  rw [hcl4] at call4
  clear hcl hcl2 hcl3 hcl4
  generalize hcc : a ++ b = c at *
  refine RTwp_loop rfl (fun us => ∃ i : Nat, i ≤ c.length ∧ us = [.bool ((c.take i).any fun x => c.any (vs x)), I i]) (fun vs => match vs with | [_, .int _ j] => c.length - j.toNat | _ => 0) ⟨0, by simp, by simp⟩ ?_
  rintro us - ⟨i, hi, rfl⟩
  simp [hc]
  refine ⟨fun hlt => ?_, fun hge => ?_⟩
  · refine RTwp_loop rfl (fun us => ∃ k : Nat, k ≤ c.length ∧ us = [.bool (((c.take i).any fun x => c.any (vs x)) || (c.take k).any (vs c[i])), I k]) (fun vs => match vs with | [_, .int _ j] => c.length - j.toNat | _ => 0) ⟨0, by simp, by simp⟩ ?_
    rintro us - ⟨k, hk, rfl⟩
    have hbi := any_take_or (q := fun x => c.any (vs x)) hlt
    generalize ((c.take i).any fun x => c.any (vs x)) = before at hbi ⊢
    have hin : ∀ h : k < c.length, (c.take (k + 1)).any (vs c[i]) = ((c.take k).any (vs c[i]) || vs c[i] c[k]) := fun h => any_take_or h
    generalize hso : (c.take k).any (vs c[i]) = so at hin ⊢
    simp [hc]
    refine ⟨fun hk2 => ?_, fun hk2 => ?_⟩
    · have hw := wrap_succ (i := k) (by omega)
      have hin := hin hk2
      simp [hk2, hlt, Need.cells]
      have hv : (decide (c[i].p = c[k].p) && c[i].pos != c[k].pos) = vs c[i] c[k] := by simp [vs, bne, BEq.beq]
      refine ⟨fun _ _ => by omega, fun _ _ => by omega, fun _ _ _ => by omega, fun _ _ _ => by omega, ⟨k + 1, by omega, ?_, hw⟩, by rw [hw]; omega⟩
      rw [hin, hv, Bool.or_assoc]
    · have hti : c.take k = c := List.take_of_length_le hk2
      have hw := wrap_succ (i := i) (by omega)
      rw [hti] at hso
      refine ⟨⟨i + 1, by omega, ?_, hw⟩, by rw [hw]; omega⟩
      rw [hbi, hso]
  · have hti : c.take i = c := List.take_of_length_le hge
    rw [hti]
    have hd : (c.any fun x => c.any (vs x)) = dbl c := rfl
    rw [hd]
    refine call call1 (by simp) (by simp) ?_
    simp
    refine callIf (.bool (dbl c)) rfl (fun _ => ⟨by simp, call2⟩) (by simp) ?_
    simp
    refine callIf (.bool (dbl a)) rfl (fun _ => ⟨by simp, call3⟩) (by simp) ?_
    simp
    have hm : (dbl a = false ∨ dbl c = true) := by
      cases h : dbl a
      · exact .inl rfl
      · exact .inr (hmore h)
    refine callIf (.bool (dbl c)) rfl (fun _ => ⟨by simp [hc], call4⟩) (fun _ => rfl) ?_
    simp
    refine callIf (.bool true) rfl (fun _ => ⟨rfl, c_lockbarlaw13_wakes⟩) (by simp) ?_
    simp
    exact hm
end Go.Lb.LK
