/-
  DERIVED: THE SHELF's CONTRACTS AT THIS DUMP, IN PLAIN WORDS (tools/lay-zc9.mjs out of 'TryzShelf.lean', which tools/lay-shelf.mjs wrote): THE SAME DECLARATIONS UNDER THE SAME NAMES: 'import', 'namespace', 'open', 'def', 'theorem' AND NOTHING ELSE: no command of the shelf's: FOR A HAND-IN. Each laying: the table of numbers ('.._ren') and one theorem, a field a fact of the dump's own or the kernel's comparison; each contract: ONE APPLICATION.
-/
import Derived.Shelf.Small.Bits
import Derived.Shelf.Strconv.Itoa0
import Derived.Shelf.Sort.Plain
import Derived.Ground.Names2Prog
import Derived.Shelf.Slices.CompactI
import Derived.Test.YtahohjgfkabacaaGreatDoorProg
import Derived.Test.YtahohjgfkabacaaGreatDoorFw11
import Derived.Test.YtahohjgfkabacaaGreatDoorCh1
import Derived.Test.YtahohjgfkabacaaGreatDoorCh4
set_option linter.unusedSimpArgs false
set_option linter.unusedVariables false
namespace Go.Proofs
open Go.Shelf
def Tryz.lays125_ren : Go.Shelf.Ren := ⟨fun | 125 => 165 | 128 => 193 | 129 => 194 | n => n, fun | 46 => 66 | 3 => 3 | 51 => 31 | 53 => 210 | 4 => 4 | 5 => 5 | 9 => 9 | n => n, fun | n => n⟩
theorem Tryz.lays125 : Go.Proofs.Lays.n125 Tryz.prog Tryz.lays125_ren := {
 mixed := by kernel_rfl
 f125 := Tryz.func165.trans (congrArg some (by kernel_rfl))
 f128 := Tryz.func193.trans (congrArg some (by kernel_rfl))
 f129 := Tryz.func194.trans (congrArg some (by kernel_rfl))
 t3 := Tryz.underlying3
 a3 := Tryz.isAgg3
 z3 := Tryz.sizeOf3
 v3 := Tryz.zeroValue3
 t4 := Tryz.underlying4
 a4 := Tryz.isAgg4
 z4 := Tryz.sizeOf4
 v4 := Tryz.zeroValue4
 t5 := Tryz.underlying5
 a5 := Tryz.isAgg5
 z5 := Tryz.sizeOf5
 v5 := Tryz.zeroValue5
 t9 := Tryz.underlying9
 a9 := Tryz.isAgg9
 z9 := Tryz.sizeOf9
 v9 := Tryz.zeroValue9
 t46 := Tryz.underlying66
 a46 := Tryz.isAgg66
 z46 := Tryz.sizeOf66
 v46 := Tryz.zeroValue66
 t51 := Tryz.underlying31
 a51 := Tryz.isAgg31
 z51 := Tryz.sizeOf31
 v51 := Tryz.zeroValue31
 t53 := Tryz.underlying210
 a53 := Tryz.isAgg210
 z53 := Tryz.sizeOf210
 v53 := Tryz.zeroValue210 }
theorem Tryz.bits_Len (x : Int) (w : World) (h0 : 0 ≤ x) (h1 : x ≤ 18446744073709551615) :
  Calls Tryz.prog 165 #[.int .u64 x] w fun e w' => e = .returned (.int .i64 (Lib.bitLen x.toNat)) ∧ w' = w := Any.bits_Len Tryz.lays125 x w h0 h1
def Tryz.lays189_ren : Go.Shelf.Ren := ⟨fun | 189 => 129 | 125 => 165 | 257 => 164 | 128 => 193 | 129 => 194 | 294 => 184 | 295 => 185 | 296 => 186 | 297 => 187 | 298 => 188 | 299 => 189 | 216 => 190 | 300 => 191 | 301 => 192 | 328 => 209 | 329 => 210 | 330 => 211 | 331 => 212 | 332 => 213 | 215 => 214 | 343 => 226 | n => n, fun | 28 => 44 | 3 => 3 | 46 => 66 | 0 => 0 | 51 => 31 | 53 => 210 | 4 => 4 | 183 => 203 | 182 => 202 | 131 => 86 | 5 => 5 | 9 => 9 | 218 => 218 | 222 => 222 | 228 => 230 | 229 => 231 | n => n, fun | n => n⟩
theorem Tryz.lays189 : Go.Proofs.Lays.n189 Tryz.prog Tryz.lays189_ren := {
 mixed := by kernel_rfl
 f125 := Tryz.func165.trans (congrArg some (by kernel_rfl))
 f128 := Tryz.func193.trans (congrArg some (by kernel_rfl))
 f129 := Tryz.func194.trans (congrArg some (by kernel_rfl))
 f189 := Tryz.func129.trans (congrArg some (by kernel_rfl))
 f215 := Tryz.func214.trans (congrArg some (by kernel_rfl))
 f216 := Tryz.func190.trans (congrArg some (by kernel_rfl))
 f257 := Tryz.func164.trans (congrArg some (by kernel_rfl))
 f294 := Tryz.func184.trans (congrArg some (by kernel_rfl))
 f295 := Tryz.func185.trans (congrArg some (by kernel_rfl))
 f296 := Tryz.func186.trans (congrArg some (by kernel_rfl))
 f297 := Tryz.func187.trans (congrArg some (by kernel_rfl))
 f298 := Tryz.func188.trans (congrArg some (by kernel_rfl))
 f299 := Tryz.func189.trans (congrArg some (by kernel_rfl))
 f300 := Tryz.func191.trans (congrArg some (by kernel_rfl))
 f301 := Tryz.func192.trans (congrArg some (by kernel_rfl))
 f328 := Tryz.func209.trans (congrArg some (by kernel_rfl))
 f329 := Tryz.func210.trans (congrArg some (by kernel_rfl))
 f330 := Tryz.func211.trans (congrArg some (by kernel_rfl))
 f331 := Tryz.func212.trans (congrArg some (by kernel_rfl))
 f332 := Tryz.func213.trans (congrArg some (by kernel_rfl))
 f343 := Tryz.func226.trans (congrArg some (by kernel_rfl))
 t0 := Tryz.underlying0
 a0 := Tryz.isAgg0
 z0 := Tryz.sizeOf0
 v0 := Tryz.zeroValue0
 t3 := Tryz.underlying3
 a3 := Tryz.isAgg3
 z3 := Tryz.sizeOf3
 v3 := Tryz.zeroValue3
 t4 := Tryz.underlying4
 a4 := Tryz.isAgg4
 z4 := Tryz.sizeOf4
 v4 := Tryz.zeroValue4
 t5 := Tryz.underlying5
 a5 := Tryz.isAgg5
 z5 := Tryz.sizeOf5
 v5 := Tryz.zeroValue5
 t9 := Tryz.underlying9
 a9 := Tryz.isAgg9
 z9 := Tryz.sizeOf9
 v9 := Tryz.zeroValue9
 t28 := Tryz.underlying44
 a28 := Tryz.isAgg44
 z28 := Tryz.sizeOf44
 v28 := Tryz.zeroValue44
 t46 := Tryz.underlying66
 a46 := Tryz.isAgg66
 z46 := Tryz.sizeOf66
 v46 := Tryz.zeroValue66
 t51 := Tryz.underlying31
 a51 := Tryz.isAgg31
 z51 := Tryz.sizeOf31
 v51 := Tryz.zeroValue31
 t53 := Tryz.underlying210
 a53 := Tryz.isAgg210
 z53 := Tryz.sizeOf210
 v53 := Tryz.zeroValue210
 t131 := Tryz.underlying86
 a131 := Tryz.isAgg86
 z131 := Tryz.sizeOf86
 v131 := Tryz.zeroValue86
 t182 := Tryz.underlying202
 a182 := Tryz.isAgg202
 z182 := Tryz.sizeOf202
 v182 := Tryz.zeroValue202
 t183 := Tryz.underlying203
 a183 := Tryz.isAgg203
 z183 := Tryz.sizeOf203
 v183 := Tryz.zeroValue203
 t218 := Tryz.underlying218
 a218 := Tryz.isAgg218
 z218 := Tryz.sizeOf218
 v218 := Tryz.zeroValue218
 t222 := Tryz.underlying222
 a222 := Tryz.isAgg222
 z222 := Tryz.sizeOf222
 v222 := Tryz.zeroValue222
 t228 := Tryz.underlying230
 a228 := Tryz.isAgg230
 z228 := Tryz.sizeOf230
 v228 := Tryz.zeroValue230
 t229 := Tryz.underlying231
 a229 := Tryz.isAgg231
 z229 := Tryz.sizeOf231
 v229 := Tryz.zeroValue231 }
open Go.Sort Go.RowKit in
theorem Tryz.slices_Sort_int (blk off cap : Nat) (zs : List Int) (w : World) (hH : Holds (Value.int .i64) w blk off zs.toArray) (hblk : blk < w.heap.size) (hsz : zs.length < 4611686018427387904) :
  Calls Tryz.prog 129 #[.slice (some ⟨blk, off, none⟩) zs.length cap] w fun e w' =>
   e = .returned (.tuple #[]) ∧ ∃ n os, w' = grow (putRow (Value.int .i64) (Sort.ahead w n) blk off (zs.mergeSort fun x y => decide (x ≤ y)).toArray) os := Any.slices_Sort_int Tryz.lays189 blk off cap zs w hH hblk hsz
def Tryz.laysNm220_ren : Go.Shelf.Ren := ⟨fun | 20 => 130 | n => n, fun | 22 => 44 | 3 => 3 | 4 => 4 | 0 => 0 | n => n, fun | n => n⟩
theorem Tryz.laysNm220 : Go.Proofs.Lays2.n20 Tryz.prog Tryz.laysNm220_ren := {
 mixed := by kernel_rfl
 f20 := Tryz.func130.trans (congrArg some (by kernel_rfl))
 t0 := Tryz.underlying0
 a0 := Tryz.isAgg0
 z0 := Tryz.sizeOf0
 v0 := Tryz.zeroValue0
 t3 := Tryz.underlying3
 a3 := Tryz.isAgg3
 z3 := Tryz.sizeOf3
 v3 := Tryz.zeroValue3
 t4 := Tryz.underlying4
 a4 := Tryz.isAgg4
 z4 := Tryz.sizeOf4
 v4 := Tryz.zeroValue4
 t22 := Tryz.underlying44
 a22 := Tryz.isAgg44
 z22 := Tryz.sizeOf44
 v22 := Tryz.zeroValue44
 i3 := by kernel_rfl }
open Go.RowKit Go.Lib Go.Sort in
theorem Tryz.slices_Compact_int (blk off cap : Nat) (zs : List Int) (w : World) (hH : Holds (Value.int .i64) w blk off zs.toArray) (hsz : zs.length ≤ 9223372036854775807) (hcap : zs.length ≤ cap) :
  Calls Tryz.prog 130 #[.slice (some ⟨blk, off, none⟩) zs.length cap] w fun e w' => e = .returned (.slice (some ⟨blk, off, none⟩) (Lib.compact zs).length cap) ∧ ∃ q, w' = putRow (Value.int .i64) (Sort.ahead w q) blk off (Lib.compact zs ++ List.replicate (zs.length - (Lib.compact zs).length) 0).toArray := Any.slices_Compact_int Tryz.laysNm220 blk off cap zs w hH hsz hcap
open Go.RowKit Go.Lib Go.Sort in
theorem Tryz.slices_Compact_int_empty (a : Option Addr) (cap : Nat) (w : World) :
  Calls Tryz.prog 130 #[.slice a 0 cap] w fun e w' => e = .returned (.slice a 0 cap) ∧ w' = w := Any.slices_Compact_int_empty Tryz.laysNm220 a cap w
end Go.Proofs
namespace Go.Lb.LK
open Go Go.Lb
structure Port where
 s : Int
 p : Int
 deriving DecidableEq
def Port.cells (x : Port) : List AV := [I x.s, I x.p]
abbrev Port.av (x : Port) : AV := .agg x.cells
structure Sec where
 kind : Int
 j0 : Port
 j1 : Port
 j2 : Port
 j3 : Port
 c0 : Int
 c1 : Int
 deriving DecidableEq
def Sec.cells (x : Sec) : List AV := [U x.kind, I x.j0.s, I x.j0.p, I x.j1.s, I x.j1.p, I x.j2.s, I x.j2.p, I x.j3.s, I x.j3.p, I x.c0, I x.c1]
abbrev Sec.av (x : Sec) : AV := .agg x.cells
structure Step where
 s : Int
 i : Int
 o : Int
 deriving DecidableEq
def Step.cells (x : Step) : List AV := [I x.s, I x.i, I x.o]
abbrev Step.av (x : Step) : AV := .agg x.cells
structure Exi where
 a : Port
 over : List Step
 deriving DecidableEq
def Exi.cells (x : Exi) : List AV := [I x.a.s, I x.a.p, .sl (x.over.map Step.av)]
abbrev Exi.av (x : Exi) : AV := .agg x.cells
structure Flank where
 s : Int
 way : Int
 point : Int
 pos : Int
 deriving DecidableEq
def Flank.cells (x : Flank) : List AV := [I x.s, I x.way, I x.point, I x.pos]
abbrev Flank.av (x : Flank) : AV := .agg x.cells
structure Lay where
 secs : List Sec
 sigs : List Port
 exits : List Exi
 flanks : List Flank
 clear : Int
 drive : Int
 stale : Int
 approach : Int
 over : Int
 press : Int
 link : Int
 deriving DecidableEq
def Lay.cells (l : Lay) : List AV := [.sl (l.secs.map Sec.av), .sl (l.sigs.map Port.av), .sl (l.exits.map Exi.av), .sl (l.flanks.map Flank.av), I l.clear, I l.drive, I l.stale, I l.approach, I l.over, I l.press, I l.link]
abbrev Lay.av (l : Lay) : AV := .agg l.cells
structure Path where
 sig : Int
 exit : Int
 steps : List Step
 deriving DecidableEq
def Path.cells (x : Path) : List AV := [I x.sig, I x.exit, .sl (x.steps.map Step.av)]
abbrev Path.av (x : Path) : AV := .agg x.cells
structure Need where
 p : Int
 pos : Int
 k : Int
 deriving DecidableEq
def Need.cells (x : Need) : List AV := [I x.p, I x.pos, I x.k]
abbrev Need.av (x : Need) : AV := .agg x.cells
abbrev needs (l : List Need) : AV := .sl (l.map Need.av)
abbrev steps (l : List Step) : AV := .sl (l.map Step.av)
@[simp] theorem Port.pure (x : Port) : AV.pureAll x.cells = true := by simp [Port.cells, AV.pureAll, AV.pure]
@[simp] theorem Sec.pure (x : Sec) : AV.pureAll x.cells = true := by simp [Sec.cells, AV.pureAll, AV.pure]
@[simp] theorem Step.pure (x : Step) : AV.pureAll x.cells = true := by simp [Step.cells, AV.pureAll, AV.pure]
@[simp] theorem zn0 (l : List Step) : AV.pureAll (l.map Step.av) = true := zbJ _ (fun x => by simp [AV.pure]) l
@[simp] theorem Exi.pure (x : Exi) : AV.pureAll x.cells = true := by simp [Exi.cells, AV.pureAll, AV.pure]
@[simp] theorem Flank.pure (x : Flank) : AV.pureAll x.cells = true := by simp [Flank.cells, AV.pureAll, AV.pure]
@[simp] theorem Path.pure (x : Path) : AV.pureAll x.cells = true := by simp [Path.cells, AV.pureAll, AV.pure]
@[simp] theorem Need.pure (x : Need) : AV.pureAll x.cells = true := by simp [Need.cells, AV.pureAll, AV.pure]
@[simp] theorem zsl (l : List Need) : AV.pureAll (l.map Need.av) = true := zbJ _ (fun x => by simp [AV.pure]) l
@[simp] theorem Lay.pure (l : Lay) : AV.pureAll l.cells = true := by
 simp [Lay.cells, AV.pureAll, AV.pure, zbJ Sec.av (fun x => by simp [AV.pure]), zbJ Port.av (fun x => by simp [AV.pure]), zbJ Exi.av (fun x => by simp [AV.pure]), zbJ Flank.av (fun x => by simp [AV.pure])]
def iT : TS := .int .i64
def zjO : TS := .agg [iT, iT]
def secT : TS := .agg [.int .u8, .agg [zjO, zjO, zjO, zjO], .agg [iT, iT]]
def sigT : TS := .agg [zjO]
def zpB : TS := .agg [iT, iT, iT]
def zrp : TS := .agg [zjO, .sl true zpB]
def zoS : TS := .agg [iT, iT, iT, iT]
def zrg : TS := .agg [iT, iT, iT, iT, iT, iT, iT]
def layT : TS := .agg [.sl true secT, .sl true sigT, .sl true zrp, .sl true zoS, zrg]
def zs4 : TS := .agg [iT, iT, .sl true zpB]
def zr8 : TS := .agg [iT, iT, iT]
theorem zsS {cs : List AV} (h : secT.fits cs) : ∃ s : Sec, AV.agg cs = s.av ∧ 0 ≤ s.kind ∧ s.kind ≤ 255 := by
 simp only [secT, zjO, iT, zcd, za3, zaY, za2, List.append_nil, List.cons_append, List.nil_append] at h
 obtain ⟨m, q, rfl, hm, a0, q, rfl, _, a1, q, rfl, _, a2, q, rfl, _, a3, q, rfl, _, a4, q, rfl, _, a5, q, rfl, _, a6, q, rfl, _, a7, q, rfl, _, a8, q, rfl, _, a9, q, rfl, _, rfl⟩ := h
 exact ⟨⟨m, ⟨a0, a1⟩, ⟨a2, a3⟩, ⟨a4, a5⟩, ⟨a6, a7⟩, a8, a9⟩, rfl, by simpa using hm⟩
theorem zsK {cs : List AV} (h : sigT.fits cs) : ∃ s : Port, AV.agg cs = s.av := by
 simp only [sigT, zjO, iT, zcd, za3, zaY, zb7, za2, List.append_nil, List.cons_append, List.nil_append] at h
 obtain ⟨a0, q, rfl, _, a1, q, rfl, _, rfl⟩ := h
 exact ⟨⟨a0, a1⟩, rfl⟩
theorem zmv {cs : List AV} (h : zpB.fits cs) : ∃ s : Step, AV.agg cs = s.av := by
 simp only [zpB, iT, zcd, za3, zaY, zb7, za2, List.append_nil, List.cons_append, List.nil_append] at h
 obtain ⟨a0, q, rfl, _, a1, q, rfl, _, a2, q, rfl, _, rfl⟩ := h
 exact ⟨⟨a0, a1, a2⟩, rfl⟩
theorem zql {cs : List AV} (h : zoS.fits cs) : ∃ s : Flank, AV.agg cs = s.av := by
 simp only [zoS, iT, zcd, za3, zaY, zb7, za2, List.append_nil, List.cons_append, List.nil_append] at h
 obtain ⟨a0, q, rfl, _, a1, q, rfl, _, a2, q, rfl, _, a3, q, rfl, _, rfl⟩ := h
 exact ⟨⟨a0, a1, a2, a3⟩, rfl⟩
theorem zrI {cs : List AV} (h : zr8.fits cs) : ∃ s : Need, AV.agg cs = s.av := by
 simp only [zr8, iT, zcd, za3, zaY, zb7, za2, List.append_nil, List.cons_append, List.nil_append] at h
 obtain ⟨a0, q, rfl, _, a1, q, rfl, _, a2, q, rfl, _, rfl⟩ := h
 exact ⟨⟨a0, a1, a2⟩, rfl⟩
theorem zr0 {cs : List AV} (h : zrp.fits cs) : ∃ s : Exi, AV.agg cs = s.av := by
 simp only [zrp, zjO, iT, zcd, za3, zaY, zb7, za2, List.append_nil, List.cons_append, List.nil_append] at h
 obtain ⟨a0, q, rfl, _, a1, q, rfl, _, es, q, rfl, hs, rfl⟩ := h
 obtain ⟨ov, rfl⟩ := zgQ (g := Step.av) (fun cs h => zmv h) es hs.2
 exact ⟨⟨⟨a0, a1⟩, ov⟩, rfl⟩
def Lay.ok (l : Lay) : Prop := ∀ s ∈ l.secs, 0 ≤ s.kind ∧ s.kind ≤ 255
theorem zsL {cs : List AV} (h : layT.fits cs) : ∃ l : Lay, AV.agg cs = l.av ∧ l.ok := by
 simp only [layT, zrg, iT, zcd, za3, zaY, zb7, za2, List.append_nil, List.cons_append, List.nil_append] at h
 obtain ⟨s1, q, rfl, h1, s2, q, rfl, h2, s3, q, rfl, h3, s4, q, rfl, h4, a0, q, rfl, _, a1, q, rfl, _, a2, q, rfl, _, a3, q, rfl, _, a4, q, rfl, _, a5, q, rfl, _, a6, q, rfl, _, rfl⟩ := h
 obtain ⟨secs, rfl, hs⟩ := zmr (g := Sec.av) (Q := fun s => 0 ≤ s.kind ∧ s.kind ≤ 255) (fun cs h => zsS h) s1 h1.2
 obtain ⟨sigs, rfl⟩ := zgQ (g := Port.av) (fun cs h => zsK h) s2 h2.2
 obtain ⟨exits, rfl⟩ := zgQ (g := Exi.av) (fun cs h => zr0 h) s3 h3.2
 obtain ⟨fls, rfl⟩ := zgQ (g := Flank.av) (fun cs h => zql h) s4 h4.2
 exact ⟨⟨secs, sigs, exits, fls, a0, a1, a2, a3, a4, a5, a6⟩, rfl, hs⟩
theorem zl3 {x : AV} (h : layT.fits x.cells) (h2 : zgg true x) : ∃ l : Lay, x = l.av ∧ l.ok := by
 obtain ⟨cs, rfl⟩ := h2.1 rfl
 exact zsL h
theorem zml {x : AV} (h : iT.fits x.cells) (h2 : zgg false x) : ∃ n, x = I n := by
 obtain ⟨n, h1, _⟩ := zhs.1 h
 have : x = I n := by
  cases x <;> simp_all [AV.cells, zgg]
 exact ⟨n, this⟩
end Go.Lb.LK
namespace Go.Lb.LK
open Go Go.Lb
abbrev W (n : Int) : AV := .int .u32 n
abbrev B (b : Bool) : AV := .bool b
structure Img where
 age : Int
 free : Nat → Int
 occ : Int
 nor : Int
 rev : Int
 lamp : Int
def Img.cells (x : Img) : List AV := [I x.age, I (x.free 0), I (x.free 1), I (x.free 2), I (x.free 3), I (x.free 4), I (x.free 5), I (x.free 6), I (x.free 7), I (x.free 8), I (x.free 9), I (x.free 10), I (x.free 11), I (x.free 12), I (x.free 13), I (x.free 14), I (x.free 15), I (x.free 16), I (x.free 17), I (x.free 18), I (x.free 19), I (x.free 20), I (x.free 21), I (x.free 22), I (x.free 23), W x.occ, W x.nor, W x.rev, W x.lamp]
abbrev Img.av (x : Img) : AV := .agg x.cells
def Img.ok (x : Img) : Prop := (0 ≤ x.occ ∧ x.occ ≤ 4294967295) ∧ (0 ≤ x.nor ∧ x.nor ≤ 4294967295) ∧ (0 ≤ x.rev ∧ x.rev ≤ 4294967295) ∧ (0 ≤ x.lamp ∧ x.lamp ≤ 4294967295)
structure Hd where
 id : Int
 path : Path
 over : List Step
 needs : List Need
 stage : Int
 gone : Int
 was : Nat → Bool
 opn : Bool
 timer : Int
 shown : Bool
def Hd.cells (x : Hd) : List AV := [I x.id, I x.path.sig, I x.path.exit, steps x.path.steps, steps x.over, Go.Lb.LK.needs x.needs, U x.stage, I x.gone, .bool (x.was 0), .bool (x.was 1), .bool (x.was 2), .bool (x.was 3), .bool (x.was 4), .bool (x.was 5), .bool (x.was 6), .bool (x.was 7), .bool (x.was 8), .bool (x.was 9), .bool (x.was 10), .bool (x.was 11), .bool x.opn, I x.timer, .bool x.shown]
abbrev Hd.av (x : Hd) : AV := .agg x.cells
@[simp] theorem Img.pure (x : Img) : AV.pureAll x.cells = true := by simp [Img.cells, AV.pureAll, AV.pure]
@[simp] theorem Hd.pure (x : Hd) : AV.pureAll x.cells = true := by simp [Hd.cells, AV.pureAll, AV.pure]
@[simp] theorem zso (b len n j : Nat) (k : IntKind) (u v : AV) : pv (.cellset b len 1 0 1 j) [.int k (n : Nat), u, .agg [v]] = if j = b + n then v else u := by
 simp only [pv, AV.cells, Int.toNat_natCast, Nat.mul_one, Nat.add_zero]
 by_cases h : j = b + n
 ·subst h; simp
 ·have : ¬ (b + n ≤ j ∧ j < b + n + 1) := by omega
  simp [this, h]
@[simp] theorem zrL (b len n j : Nat) (k : IntKind) (i : Int) (u v : AV) : pok (.cellset b len 1 0 n j) [.int k i, u, v] = (0 ≤ i ∧ i < len ∧ v.cells.length = n ∧ AV.ones v.cells = true ∧ j < b + len * 1 ∧ 0 + n ≤ 1) := rfl
theorem zq1 (x : Img) {i : Nat} (h : i < 24) (d : AV) : x.cells.getD (i + 1) d = I (x.free i) := by
 match i, h with
 | 0, _ => rfl
 | 1, _ => rfl
 | 2, _ => rfl
 | 3, _ => rfl
 | 4, _ => rfl
 | 5, _ => rfl
 | 6, _ => rfl
 | 7, _ => rfl
 | 8, _ => rfl
 | 9, _ => rfl
 | 10, _ => rfl
 | 11, _ => rfl
 | 12, _ => rfl
 | 13, _ => rfl
 | 14, _ => rfl
 | 15, _ => rfl
 | 16, _ => rfl
 | 17, _ => rfl
 | 18, _ => rfl
 | 19, _ => rfl
 | 20, _ => rfl
 | 21, _ => rfl
 | 22, _ => rfl
 | 23, _ => rfl
 | n + 24, h => exact absurd h (by omega)
theorem zrC (x : Hd) {i : Nat} (h : i < 12) (d : AV) : x.cells.getD (i + 8) d = .bool (x.was i) := by
 match i, h with
 | 0, _ => rfl
 | 1, _ => rfl
 | 2, _ => rfl
 | 3, _ => rfl
 | 4, _ => rfl
 | 5, _ => rfl
 | 6, _ => rfl
 | 7, _ => rfl
 | 8, _ => rfl
 | 9, _ => rfl
 | 10, _ => rfl
 | 11, _ => rfl
def zeb (w : Nat → Bool) : List AV := [.bool (w 0), .bool (w 1), .bool (w 2), .bool (w 3), .bool (w 4), .bool (w 5), .bool (w 6), .bool (w 7), .bool (w 8), .bool (w 9), .bool (w 10), .bool (w 11)]
theorem wget (w : Nat → Bool) {i : Nat} (h : i < 12) (d : AV) : (zeb w).getD i d = .bool (w i) := by
 match i, h with
 | 0, _ => rfl
 | 1, _ => rfl
 | 2, _ => rfl
 | 3, _ => rfl
 | 4, _ => rfl
 | 5, _ => rfl
 | 6, _ => rfl
 | 7, _ => rfl
 | 8, _ => rfl
 | 9, _ => rfl
 | 10, _ => rfl
 | 11, _ => rfl
def upd {α : Type} (w : Nat → α) (k : Nat) (v : α) : Nat → α := fun j => if j = k then v else w j
def uT : TS := .int .u32
def inT : TS := .agg [uT, uT, uT, uT]
def imgT : TS := .agg [iT, .agg [iT, iT, iT, iT, iT, iT, iT, iT, iT, iT, iT, iT, iT, iT, iT, iT, iT, iT, iT, iT, iT, iT, iT, iT], inT]
def zsa : TS := .agg [iT, zs4, .sl true zpB, .sl true zr8, .int .u8, iT, .agg [.bool, .bool, .bool, .bool, .bool, .bool, .bool, .bool, .bool, .bool, .bool, .bool], .bool, iT, .bool]
end Go.Lb.LK
namespace Go.Lb.LK
open Go Go.Lb
theorem delOk : ∀ f, 0 < E.del f → zrO E.P f (E.del f) := fun f h => by simp [E] at h
end Go.Lb.LK
namespace Go.Lb.LK
open Go Go.Lb Go.Proofs Go.RowKit
theorem zgs {P : Program} {f : FuncId} {avs : List AV} {vs : List Value} {r : AV} {v : Value} (hr : r.pure = true) (ha : ∀ c us, Rvs c avs us → us = vs) (hv : ∀ c, Rv c r v) (h : ∀ w, Calls P f ⟨vs⟩ w fun e w' => e = .returned v ∧ w' = w) : zbR P [] f avs r := by
 refine ⟨hr, fun w c us _ him _ hvs => ?_⟩
 rw [ha c us hvs]
 refine (h w).mono ?_
 rintro e w' ⟨rfl, rfl⟩
 exact ⟨v, c, rfl, Cx.Le.refl c, by assumption, him, fun _ _ => ⟨fun _ _ h => h, fun _ h => h⟩, hv c, Below.refl _ _⟩
theorem EOkS : EnvOk ES := ⟨fun f h => by simp [ES] at h, fun f h => by simp [ES] at h, fun f h => by simp [ES] at h, fun g es h => by simp [ES] at h⟩
theorem bits0 : zbR PR [] f_mathbits_Len [.int .u64 0] (.int .i64 0) := by
 refine zgs (vs := [.int .u64 0]) (v := .int .i64 0) rfl (fun c us h => ?_) (fun c => .int _ _) (fun w => Tryz.bits_Len 0 w (by omega) (by omega))
 cases h with
 | cons _ v _ vs h1 h2 => cases h1; cases h2; rfl
theorem sort0 : zbR PR [] f_slices_Sort_int [.sl []] (.tup []) := by
 refine zil EOkS EmixS [] run_slices_Sort_int rfl rfl rfl ?_ rfl
 unfold rt_slices_Sort_int
 refine zfY.2 ⟨fun _ => by simp, ?_⟩
 refine zeM.2 (zfY.2 ⟨fun _ => by simp, zeM.2 ?_⟩)
 refine ziY (r := .int .i64 0) bits0 (by simp) ?_
 simp
 refine zac rfl (fun vs => vs = []) (fun _ => 0) rfl ?_
 rintro vs - rfl
 simp
 refine zac rfl (fun vs => vs = []) (fun _ => 0) rfl ?_
 rintro vs - rfl
 simp
theorem srtOk : zr6 PR f_slices_Sort_int := ⟨fun blk off cap zs w h1 h2 h3 => Tryz.slices_Sort_int blk off cap zs w h1 h2 h3, sort0⟩
theorem cptOk : zrx PR f_slices_Compact_int := ⟨fun blk off cap zs w h1 h2 h3 => Tryz.slices_Compact_int blk off cap zs w h1 h2 h3, fun a cap w => Tryz.slices_Compact_int_empty a cap w⟩
theorem EOk : EnvOk E := by
 refine ⟨fun f h => ?_, fun f h => ?_, delOk, fun g es h => ?_⟩
 ·have : f = f_slices_Compact_int := by simpa [E, cptF] using h
  rw [this]; exact cptOk
 ·have : f = f_slices_Sort_int := by simpa [E, srtF] using h
  rw [this]; exact srtOk
 ·have hall : (GL.all fun es => SE.wfs 0 (fun _ => false) es) = true := by kernel_rfl
  have hm : es ∈ GL := by
   have h : GL[g]? = some es := h
   exact List.mem_of_getElem? h
  exact List.all_eq_true.1 hall es hm
abbrev C (f : Nat) (avs : List AV) (r : AV) : Prop := zbR PR GL f avs r
theorem ctr {f n : Nat} {args : List SE} (vs : List AV) {rt : RT} (hrun : runF E f args n = rt) (hw : SE.wfs n (fun _ => false) args = true)
  (hp : AV.pureAll vs = true) {r : AV} (hr : r.pure = true) (h : RTwp PR GL (fun x => x = r) rt (fun _ _ => False) (zaH vs)) {avs : List AV} (ha : dens (zaH vs) args = avs) : C f avs r :=
 zil EOk Emix vs hrun hw hp hr h ha
theorem zbN {α : Type} (p : α → Bool) (l : List α) {i : Nat} (h : i < l.length) : (l.take (i + 1)).filter p = (l.take i).filter p ++ (if p l[i] = true then [l[i]] else []) := by
 rw [List.take_add_one, List.getElem?_eq_getElem h, List.filter_append]
 congr 1
 simp only [Option.toList_some, List.filter_cons, List.filter_nil]
theorem zcj {α : Type} (p : α → Bool) (l : List α) (i : Nat) : ((l.take i).filter p).length ≤ l.length := by
 have := List.length_filter_le p (l.take i)
 have : (l.take i).length ≤ l.length := by simp; omega
 omega
theorem zds {α β : Type} (f : α → List β) (l : List α) {i : Nat} (h : i < l.length) : (l.take (i + 1)).flatMap f = (l.take i).flatMap f ++ f l[i] := by
 rw [List.take_add_one, List.getElem?_eq_getElem h, List.flatMap_append]
 simp
theorem map_take {α β : Type} (f : α → β) (l : List α) {i : Nat} (h : i < l.length) : (l.take (i + 1)).map f = (l.take i).map f ++ [f l[i]] := by
 rw [List.take_add_one, List.getElem?_eq_getElem h, List.map_append]
 simp
@[simp] theorem zsh (c : Prop) [Decidable c] (a b : Bool) : (if c then AV.bool a else AV.bool b) = AV.bool (if c then a else b) := by split <;> rfl
@[simp] theorem zsA (c : Prop) [Decidable c] (k : IntKind) (a b : Int) : (if c then AV.int k a else AV.int k b) = AV.int k (if c then a else b) := by split <;> rfl
theorem call {ρ : Nat → AV} {R : AV → Prop} {L : Nat → List AV → Prop} {n f : Nat} {args : List SE} {bo : Bool} {ns : List Nd} {k : RT} {r : AV} {avs : List AV} (hc : C f avs r) (ha : dens ρ args = avs) (hb : bo = true → r.scalar = true)
  (h : RTwp PR GL R (.seg ns k) L (zaX ρ n r)) : RTwp PR GL R (.seg (.call n [] f args bo :: ns) k) L ρ := ziY (by rw [ha]; exact hc) hb h
theorem zak {ρ : Nat → AV} {R : AV → Prop} {L : Nat → List AV → Prop} {pcs : List (SE × Bool)} {n f : Nat} {args : List SE} {bo : Bool} {ns : List Nd} {k : RT} {avs : List AV} (r : AV) (hr : r.pure = true) (hc : Holds ρ pcs → dens ρ args = avs ∧ C f avs r) (hb : bo = true → r.scalar = true)
  (h : RTwp PR GL R (.seg ns k) L (zaX ρ n r)) : RTwp PR GL R (.seg (.call n pcs f args bo :: ns) k) L ρ := zp6 r hr (fun hp => ⟨by rw [(hc hp).1]; exact (hc hp).2, hb⟩) h
end Go.Lb.LK
namespace Go.Lb.LK
open Go Go.Lb Go.Proofs Go.RowKit
def stale (l : Lay) (im : Img) : Bool := decide (l.stale < im.age)
def zb0 (x n : Int) : Bool := decide (0 ≤ n) && (decide (n < 32) && x.toNat.testBit n.toNat)
theorem zpi {n : Int} (h0 : 0 ≤ n) (h1 : n ≤ 4294967295) : IntKind.u32.wrap n = n := by
 simp only [IntKind.wrap, IntKind.signed, IntKind.bits]
 simp
 omega
theorem zrl {n : Int} (h0 : 0 ≤ n) (h1 : n ≤ 4294967295) : IntKind.u64.wrap n = n := by
 simp only [IntKind.wrap, IntKind.signed, IntKind.bits]
 simp
 omega
theorem zth (n : Nat) : (2 : Int) ^ n = ((2 ^ n : Nat) : Int) := by simp
theorem zru (x n : Nat) : (((x &&& 2 ^ n : Nat) : Int) != 0) = x.testBit n := by
 cases h : x.testBit n
 ·have : x &&& 2 ^ n = 0 := by
   apply Nat.eq_of_testBit_eq
   intro i
   rw [Nat.testBit_and, Nat.testBit_two_pow, Nat.zero_testBit]
   by_cases hi : n = i
   ·subst hi; simp [h]
   ·simp [hi]
  rw [this]; rfl
 ·have : x &&& 2 ^ n ≠ 0 := by
   intro h0
   have := congrArg (Nat.testBit · n) h0
   simp [Nat.testBit_and, h] at this
  simpa using this
theorem g1 (x n : Nat) (hx : x ≤ 4294967295) (hn : n < 32) : (IntKind.u32.wrap ((x % 2 ^ IntKind.u32.bits &&& (IntKind.u32.wrap (2 ^ min n IntKind.u32.bits) % 2 ^ IntKind.u32.bits).toNat : Nat) : Int) != 0) = x.testBit n := by
 have hb : IntKind.u32.bits = 32 := rfl
 have h2 : 2 ^ n ≤ 2 ^ 31 := Nat.pow_le_pow_right (by omega) (by omega)
 have h1 : min n 32 = n := by omega
 have h4 : 2 ^ n ≤ 4294967295 := by omega
 generalize hp : 2 ^ n = p at h4
 rw [hb, h1, zth, hp, zpi (n := (p : Int)) (by omega) (by omega)]
 have e1 : ((p : Int) % 2 ^ 32).toNat = p := by omega
 have e2 : x % 2 ^ 32 = x := by omega
 have e3 : x &&& p ≤ x := Nat.and_le_left
 rw [e1, e2, zpi (by omega) (by omega), ← hp]
 exact zru x n
theorem g2 (x n : Nat) (hx : x ≤ 4294967295) (hn : n < 32) : (IntKind.u32.wrap ((((x : Int).fdiv (2 ^ min n IntKind.u32.bits) % 2 ^ IntKind.u32.bits).toNat &&& 1 % 2 ^ IntKind.u32.bits : Nat) : Int) == 1) = x.testBit n := by
 have hb : IntKind.u32.bits = 32 := rfl
 have h1 : min n 32 = n := by omega
 have e4 : Int.fdiv (x : Int) (2 ^ n) = ((x / 2 ^ n : Nat) : Int) := by
  rw [zth]
  exact (Int.ofNat_fdiv x (2 ^ n)).symm
 have h6 : x / 2 ^ n ≤ x := Nat.div_le_self _ _
 rw [hb, h1, e4]
 have e1 : (((x / 2 ^ n : Nat) : Int) % 2 ^ 32).toNat = x / 2 ^ n := by generalize x / 2 ^ n = q at h6; omega
 have e2 : 1 % 2 ^ 32 = 1 := rfl
 rw [e1, e2, Nat.and_one_is_mod, Nat.testBit_eq_decide_div_mod_eq]
 have := Nat.mod_two_eq_zero_or_one (x / 2 ^ n)
 rcases this with h | h <;> simp [h] <;> decide
theorem zqQ (x : Int) : C f_image_bit [W x] (.clo f_image_bit_1 [] [.ref [W x] 0]) := by
 refine ctr [W x] run_image_bit rfl rfl rfl ?_ rfl
 unfold rt_image_bit
 simp
theorem znf (x n : Int) (h0 : 0 ≤ x) (h1 : x ≤ 4294967295) : C f_image_bit_1 [I n, .ref [W x] 0] (.bool (zb0 x n)) := by
 refine ctr [I n, W x] run_image_bit_1 rfl rfl rfl ?_ rfl
 unfold rt_image_bit_1
 obtain ⟨x, rfl⟩ : ∃ k : Nat, x = k := ⟨x.toNat, by omega⟩
 by_cases hn : 0 ≤ n
 ·obtain ⟨n, rfl⟩ : ∃ k : Nat, n = k := ⟨n.toNat, by omega⟩
  by_cases hn2 : n < 32
  ·have h3 : ((n : Nat) : Int) < 32 := by omega
   simp [zb0, h3]
   exact g1 x n (by omega) hn2
  ·have h3 : ¬ ((n : Nat) : Int) < 32 := by omega
   simp [zb0, h3]
 ·have h3 : ¬ (n ≥ 0) := by omega
  simp [zb0, hn, h3]
theorem zfS (x n : Int) (h0 : 0 ≤ x) (h1 : x ≤ 4294967295) : C f_lockbarref15_bit [W x, I n] (.bool (zb0 x n)) := by
 refine ctr [W x, I n] run_lockbarref15_bit rfl rfl rfl ?_ rfl
 unfold rt_lockbarref15_bit
 obtain ⟨x, rfl⟩ : ∃ k : Nat, x = k := ⟨x.toNat, by omega⟩
 by_cases hn : 0 ≤ n
 ·obtain ⟨n, rfl⟩ : ∃ k : Nat, n = k := ⟨n.toNat, by omega⟩
  by_cases hn2 : n < 32
  ·have h3 : ((n : Nat) : Int) < 32 := by omega
   have e1 : IntKind.u64.wrap (n : Int) = n := zrl (by omega) (by omega)
   simp [zb0, h3, e1]
   exact g2 x n (by omega) hn2
  ·have h3 : ¬ ((n : Nat) : Int) < 32 := by omega
   simp [zb0, h3]
 ·have h3 : ¬ (n ≥ 0) := by omega
  simp [zb0, hn, h3]
end Go.Lb.LK
namespace Go.Lb.LK
open Go Go.Lb Go.Proofs Go.RowKit
theorem zlY (a t : Int) : C f_tick_Late [I a, I t] (.bool (decide (t < a))) := by
 refine ctr [I a, I t] run_tick_Late rfl rfl rfl ?_ rfl
 unfold rt_tick_Late
 simp
theorem zpF (a t : Int) : C f_lockbarref03_Late [I a, I t] (.bool (decide (t < a))) := by
 refine ctr [I a, I t] run_lockbarref03_Late rfl rfl rfl ?_ rfl
 unfold rt_lockbarref03_Late
 simp
theorem li (l : Lay) (im : Img) : AV.pureAll (l.cells ++ im.cells) = true := by simp [zaf]
theorem lii (l : Lay) (im : Img) (s : Int) : AV.pureAll (l.cells ++ im.cells ++ [I s]) = true := by simp [zaf, AV.pureAll, AV.pure]
theorem zbe (l : Lay) (im : Img) : C f_image_Stale [l.av, im.av] (.bool (stale l im)) := by
 refine ctr (l.cells ++ im.cells) run_image_Stale rfl (li l im) rfl ?_ rfl
 unfold rt_image_Stale
 simp [Lay.cells, Img.cells]
 refine call (zlY im.age l.stale) (by simp) (by simp) ?_
 simp [stale]
theorem zbn (l : Lay) (im : Img) : C f_lockbarref15_Stale [l.av, im.av] (.bool (stale l im)) := by
 refine ctr (l.cells ++ im.cells) run_lockbarref15_Stale rfl (li l im) rfl ?_ rfl
 unfold rt_lockbarref15_Stale
 simp [Lay.cells, Img.cells]
 refine call (zpF im.age l.stale) (by simp) (by simp) ?_
 simp [stale]
abbrev cloB (x : Int) : AV := .clo f_image_bit_1 [] [.ref [W x] 0]
theorem zjZ (l : Lay) (im : Img) : C f_image_clear [l.av, im.av] (.clo f_image_clear_1 [] [.ref [.bool (stale l im)] 0, .ref [cloB im.occ] 0]) := by
 refine ctr (l.cells ++ im.cells) run_image_clear rfl (li l im) rfl ?_ rfl
 unfold rt_image_clear
 simp [Lay.cells, Img.cells]
 refine call (zbe l im) (by simp [Lay.cells, Img.cells]) (by simp) ?_
 simp
 refine call (zqQ im.occ) (by simp) (by simp) ?_
 simp
theorem ziC (s occ : Int) (st : Bool) (h0 : 0 ≤ occ) (h1 : occ ≤ 4294967295) : C f_image_clear_1 [I s, .ref [.bool st] 0, .ref [cloB occ] 0] (.bool (!st && !zb0 occ s)) := by
 refine ctr [I s, .bool st, W occ] run_image_clear_1 rfl rfl rfl ?_ rfl
 unfold rt_image_clear_1
 simp
 refine zak (avs := [I s, .ref [W occ] 0]) (.bool (zb0 occ s)) rfl (fun _ => ⟨by simp, znf occ s h0 h1⟩) (by simp) ?_
 cases st <;> simp
def told (l : Lay) (im : Img) (s : Int) : Bool := decide (0 ≤ s ∧ s < l.secs.length ∧ s < 24) && (!stale l im && zb0 im.occ s)
def zag (l : Lay) (im : Img) (s : Int) : Bool := !decide (0 ≤ s ∧ s < l.secs.length ∧ s < 24) || (stale l im || (zb0 im.occ s || decide (im.free s.toNat < l.clear)))
theorem zo3 {x s : Int} (h : ¬ 0 ≤ s) : zb0 x s = false := by simp [zb0, h]
theorem zeg (l : Lay) (im : Img) (hi : im.ok) (s : Int) : C f_image_Told [l.av, im.av, I s] (.bool (told l im s)) := by
 refine ctr (l.cells ++ im.cells ++ [I s]) run_image_Told rfl (lii l im s) rfl ?_ rfl
 unfold rt_image_Told
 simp [Lay.cells, Img.cells]
 refine zak (avs := [W im.occ]) (cloB im.occ) rfl (fun _ => ⟨by simp, zqQ im.occ⟩) (by simp) ?_
 simp
 refine zak (avs := [I s, .ref [W im.occ] 0]) (.bool (zb0 im.occ s)) rfl (fun _ => ⟨by simp, znf im.occ s hi.1.1 hi.1.2⟩) (by simp) ?_
 simp
 refine zak (avs := [l.av, im.av]) (.bool (stale l im)) rfl (fun _ => ⟨by simp [Lay.cells, Img.cells], zbe l im⟩) (by simp) ?_
 by_cases h1 : s < l.secs.length <;> by_cases h2 : s < 24 <;> by_cases h0 : 0 ≤ s
 all_goals first | simp [told, h1, h2, h0, zo3 h0, Int.lt_min] | simp [told, h1, h2, h0, Int.lt_min]
 ·cases stale l im <;> cases zb0 im.occ s <;> simp
theorem zh8 (l : Lay) (im : Img) (hi : im.ok) (s : Int) : C f_lockbarref15_Told [l.av, im.av, I s] (.bool (told l im s)) := by
 refine ctr (l.cells ++ im.cells ++ [I s]) run_lockbarref15_Told rfl (lii l im s) rfl ?_ rfl
 unfold rt_lockbarref15_Told
 simp [Lay.cells, Img.cells]
 refine zak (avs := [l.av, im.av]) (.bool (stale l im)) rfl (fun _ => ⟨by simp [Lay.cells, Img.cells], zbn l im⟩) (by simp) ?_
 simp
 refine zak (avs := [W im.occ, I s]) (.bool (zb0 im.occ s)) rfl (fun _ => ⟨by simp, zfS im.occ s hi.1.1 hi.1.2⟩) (by simp) ?_
 by_cases h1 : s < l.secs.length <;> by_cases h2 : s < 24 <;> by_cases h0 : 0 ≤ s
 all_goals simp [told, h1, h2, h0]
 all_goals cases stale l im <;> cases zb0 im.occ s <;> simp
end Go.Lb.LK
namespace Go.Lb.LK
open Go Go.Lb Go.Proofs Go.RowKit
theorem zoJ (im : Img) (s : Int) (h0 : 0 ≤ s) (h1 : s < 24) : im.cells.getD (s.toNat * 1 + 1) .undef = I (im.free s.toNat) := by
 rw [Nat.mul_one]; exact zq1 im (by omega) _
theorem zgy (im : Img) (s : Int) (h0 : 0 ≤ s) (h1 : s < 24) : (im.cells[s.toNat * 1 + 1]?).getD .undef = I (im.free s.toNat) := by
 rw [← List.getD_eq_getElem?_getD]; exact zoJ im s h0 h1
def atP (l : Lay) (im : Img) (p : Int) : Int :=
 if 0 ≤ p ∧ p < l.secs.length ∧ (l.secs[p.toNat]?.map (·.kind)) = some 2 ∧ stale l im = false then
  (if zb0 im.nor p = zb0 im.rev p then -1 else if zb0 im.nor p = true then 0 else 1) else -1
theorem zaq (l : Lay) (im : Img) (hi : im.ok) (s : Int) : C f_image_Occupied [l.av, im.av, I s] (.bool (zag l im s)) := by
 refine ctr (l.cells ++ im.cells ++ [I s]) run_image_Occupied rfl (lii l im s) rfl ?_ rfl
 unfold rt_image_Occupied
 simp [Lay.cells, Img.cells]
 by_cases hr : 0 ≤ s ∧ s < l.secs.length ∧ s < 24
 ·have h1 : ¬ s < 0 := by omega
  have h2 : ¬ min (l.secs.length : Int) 24 ≤ s := by omega
  simp [h1, h2]
  intro _ _
  refine call (zjZ l im) (by simp [Lay.cells, Img.cells]) (by simp) ?_
  simp [stale]
  refine call (ziC s im.occ (stale l im) hi.1.1 hi.1.2) (by simp [stale]) (by simp) ?_
  have hc := zgy im s hr.1 hr.2.2
  simp only [Img.cells] at hc
  simp at hc
  simp [hc, zag, hr]
  refine ⟨fun _ => by omega, ?_⟩
  cases stale l im <;> cases zb0 im.occ s <;> simp
 ·have h1 : s < 0 ∨ min (l.secs.length : Int) 24 ≤ s := by omega
  rcases h1 with h1 | h1
  ·have h2 : ¬ 0 ≤ s := by omega
   simp [zag, h1, h2]
  ·have h2 : 0 ≤ s := by omega
   have h3 : ¬ s < 0 := by omega
   have h5 : ¬ s < min (l.secs.length : Int) 24 := by omega
   simp [zag, h1, h2, h3, h5]
   exact .inl (by omega)
theorem zaW (l : Lay) (im : Img) (hi : im.ok) (s : Int) : C f_lockbarref15_Occupied [l.av, im.av, I s] (.bool (zag l im s)) := by
 refine ctr (l.cells ++ im.cells ++ [I s]) run_lockbarref15_Occupied rfl (lii l im s) rfl ?_ rfl
 unfold rt_lockbarref15_Occupied
 simp [Lay.cells, Img.cells]
 by_cases hr : 0 ≤ s ∧ s < l.secs.length ∧ s < 24
 ·have h1 : ¬ s < 0 := by omega
  have h2 : ¬ (l.secs.length : Int) ≤ s := by omega
  have h3 : ¬ 24 ≤ s := by omega
  simp [h1, h2, h3]
  intro _ _ _
  refine call (zbn l im) (by simp [Lay.cells, Img.cells]) (by simp) ?_
  simp
  refine zak (avs := [W im.occ, I s]) (.bool (zb0 im.occ s)) rfl (fun _ => ⟨by simp, zfS im.occ s hi.1.1 hi.1.2⟩) (by simp) ?_
  have hc := zgy im s hr.1 hr.2.2
  simp only [Img.cells] at hc
  simp at hc
  simp [hc, zag, hr]
  refine ⟨?_, ?_⟩
  ·intros; omega
  ·cases stale l im <;> cases zb0 im.occ s <;> simp
 ·have h1 : s < 0 ∨ (l.secs.length : Int) ≤ s ∨ 24 ≤ s := by omega
  by_cases h2 : s < 0
  ·have h0 : ¬ 0 ≤ s := by omega
   simp [zag, h2, h0]
  ·by_cases h3 : (l.secs.length : Int) ≤ s
   ·simp [zag, h2, h3]
    intros; omega
   ·have h4 : 24 ≤ s := by omega
    simp [zag, h2, h3, h4]
    intros; omega
theorem zc5 (l : Lay) (im : Img) (hi : im.ok) (p : Int) : C f_image_At [l.av, im.av, I p] (I (atP l im p)) := by
 refine ctr (l.cells ++ im.cells ++ [I p]) run_image_At rfl (lii l im p) rfl ?_ rfl
 unfold rt_image_At
 simp [Lay.cells, Img.cells]
 by_cases hr : 0 ≤ p ∧ p < l.secs.length
 ·obtain ⟨n, rfl⟩ : ∃ n : Nat, p = n := ⟨p.toNat, by omega⟩
  have hlt : n < l.secs.length := by omega
  have h1 : ¬ ((n : Nat) : Int) < 0 := by omega
  have h2 : ¬ (l.secs.length : Int) ≤ n := by omega
  simp [h1, h2, hlt, Sec.cells]
  refine zak (avs := [l.av, im.av]) (.bool (stale l im)) rfl (fun _ => ⟨by simp [Lay.cells, Img.cells], zbe l im⟩) (by simp) ?_
  by_cases hk : (l.secs[n]).kind = 2
  ·simp [hk, hlt, Sec.cells]
   cases hs : stale l im
   ·simp
    refine ⟨fun h => absurd h (by omega), ?_⟩
    refine call (zqQ im.nor) (by simp) (by simp) ?_
    simp
    refine call (znf im.nor n hi.2.1.1 hi.2.1.2) (by simp) (by simp) ?_
    simp
    refine call (zqQ im.rev) (by simp) (by simp) ?_
    simp
    refine call (znf im.rev n hi.2.2.1.1 hi.2.2.1.2) (by simp) (by simp) ?_
    simp [atP, hlt, hk, hs]
    cases zb0 im.nor n <;> cases zb0 im.rev n <;> simp
   ·simp [atP, hs]
  ·simp [hk, hlt, Sec.cells, atP]
 ·have h3 : p < 0 ∨ (l.secs.length : Int) ≤ p := by omega
  have ha : atP l im p = -1 := by
   unfold atP; rw [if_neg (by omega)]
  rw [ha]
  rcases h3 with h3 | h3
  ·have h5 : ¬ 0 ≤ p := by omega
   simp [h3, h5]
   refine zak (avs := [l.av, im.av]) (.bool (stale l im)) rfl (fun _ => ⟨by simp [Lay.cells, Img.cells], zbe l im⟩) (by simp) ?_
   simp [h3, h5]
  ·have h4 : ¬ p < 0 := by omega
   have h5 : ¬ p < l.secs.length := by omega
   simp [h3, h4, h5]
   refine zak (avs := [l.av, im.av]) (.bool (stale l im)) rfl (fun _ => ⟨by simp [Lay.cells, Img.cells], zbe l im⟩) (by simp) ?_
   simp [h3, h4, h5]
theorem zfi (l : Lay) (im : Img) (hi : im.ok) (p : Int) : C f_lockbarref15_At [l.av, im.av, I p] (I (atP l im p)) := by
 refine ctr (l.cells ++ im.cells ++ [I p]) run_lockbarref15_At rfl (lii l im p) rfl ?_ rfl
 unfold rt_lockbarref15_At
 simp [Lay.cells, Img.cells]
 by_cases hr : 0 ≤ p ∧ p < l.secs.length
 ·obtain ⟨n, rfl⟩ : ∃ n : Nat, p = n := ⟨p.toNat, by omega⟩
  have hlt : n < l.secs.length := by omega
  have h1 : ¬ ((n : Nat) : Int) < 0 := by omega
  have h2 : ¬ (l.secs.length : Int) ≤ n := by omega
  simp [h1, h2, hlt, Sec.cells]
  refine zak (avs := [l.av, im.av]) (.bool (stale l im)) rfl (fun _ => ⟨by simp [Lay.cells, Img.cells], zbn l im⟩) (by simp) ?_
  by_cases hk : (l.secs[n]).kind = 2
  ·simp [hk, hlt, Sec.cells]
   cases hs : stale l im
   ·simp
    refine ⟨fun h => absurd h (by omega), ?_⟩
    refine call (zfS im.nor n hi.2.1.1 hi.2.1.2) (by simp) (by simp) ?_
    simp
    refine call (zfS im.rev n hi.2.2.1.1 hi.2.2.1.2) (by simp) (by simp) ?_
    simp [atP, hlt, hk, hs]
    cases zb0 im.nor n <;> cases zb0 im.rev n <;> simp
   ·simp [atP, hs]
  ·simp [hk, hlt, Sec.cells, atP]
 ·have h3 : p < 0 ∨ (l.secs.length : Int) ≤ p := by omega
  have ha : atP l im p = -1 := by
   unfold atP; rw [if_neg (by omega)]
  rw [ha]
  rcases h3 with h3 | h3
  ·have h5 : ¬ 0 ≤ p := by omega
   simp [h3, h5]
   refine zak (avs := [l.av, im.av]) (.bool (stale l im)) rfl (fun _ => ⟨by simp [Lay.cells, Img.cells], zbn l im⟩) (by simp) ?_
   simp [h3, h5]
  ·have h4 : ¬ p < 0 := by omega
   have h5 : ¬ p < l.secs.length := by omega
   simp [h3, h4, h5]
   refine zak (avs := [l.av, im.av]) (.bool (stale l im)) rfl (fun _ => ⟨by simp [Lay.cells, Img.cells], zbn l im⟩) (by simp) ?_
   simp [h3, h4, h5]
end Go.Lb.LK
namespace Go.Lb.LK
open Go Go.Lb Go.Proofs Go.RowKit
theorem zpU {α : Type} {c d : Prop} [Decidable c] [Decidable d] (h : c ↔ d) (x y : α) : (if c then x else y) = if d then x else y := by
 by_cases hc : c
 ·rw [if_pos hc, if_pos (h.1 hc)]
 ·rw [if_neg hc, if_neg (fun hd => hc (h.2 hd))]
def ziQ (n : Int) : Int := min (max n 0) 65535
def zti (n k : Int) : Int := min (ziQ n + ziQ k) 65535
def rowT (b : Bool) (n : Int) : Int := if b = true then zti n 1 else 0
theorem zid (n t : Int) : C f_lockbarref03_within [I n, I t] (I (min (max n 0) t)) := by
 refine ctr [I n, I t] run_lockbarref03_within rfl rfl rfl ?_ rfl
 unfold rt_lockbarref03_within
 simp
theorem ziZ (n : Int) : C f_lockbarref03_Count [I n] (I (ziQ n)) := by
 refine ctr [I n] run_lockbarref03_Count rfl rfl rfl ?_ rfl
 unfold rt_lockbarref03_Count
 refine call (zid n 65535) (by simp) (by simp) ?_
 simp [ziQ]
theorem zoR (n k : Int) : C f_lockbarref03_More [I n, I k] (I (zti n k)) := by
 refine ctr [I n, I k] run_lockbarref03_More rfl rfl rfl ?_ rfl
 unfold rt_lockbarref03_More
 refine call (ziZ n) (by simp) (by simp) ?_
 simp
 refine call (ziZ k) (by simp) (by simp) ?_
 simp
 rw [zaI (by simp only [ziQ]; omega) (by simp only [ziQ]; omega)]; rfl
theorem zqV (b : Bool) (n : Int) : C f_lockbarref03_Row [.bool b, I n] (I (rowT b n)) := by
 refine ctr [.bool b, I n] run_lockbarref03_Row rfl rfl rfl ?_ rfl
 unfold rt_lockbarref03_Row
 simp
 cases b
 ·simp [rowT]
 ·simp
  refine call (zoR n 1) (by simp) (by simp) ?_
  simp [rowT]
def zk7 : Img := ⟨65535, fun _ => 0, 0, 0, 0, 0⟩
theorem zqy : C f_lockbarref15_New [] zk7.av := by
 refine ctr [] run_lockbarref15_New rfl rfl (by simp [AV.pure]) ?_ rfl
 unfold rt_lockbarref15_New
 simp [Img.cells, zk7]
def zed (l : Lay) (im : Img) (m : Nat) : Img := { im with free := fun i => if i < m then rowT (!stale l im && !zb0 im.occ i) (im.free i) else im.free i }
theorem zn1 (l : Lay) (im : Img) : zed l im 0 = im := by simp [zed]
theorem znN (l : Lay) (im : Img) (m j : Nat) : (zed l im (m + 1)).free j = if j = m then rowT (!stale l im && !zb0 im.occ m) (im.free m) else (zed l im m).free j := by
 simp only [zed]
 by_cases h : j = m
 ·subst h; simp
 ·by_cases h2 : j < m
  ·simp [h, h2, show j < m + 1 by omega]
  ·simp [h, h2, show ¬ j < m + 1 by omega]
theorem zog (l : Lay) (im : Img) (m : Nat) : stale l (zed l im m) = stale l im := rfl
def zmd (l : Lay) (im : Img) (o n r p : Int) : Img := zed l { im with age := 0, occ := o, nor := n, rev := r, lamp := p } 24
def zrE (f : Img) : List AV := [I (f.free 0), I (f.free 1), I (f.free 2), I (f.free 3), I (f.free 4), I (f.free 5), I (f.free 6), I (f.free 7), I (f.free 8), I (f.free 9), I (f.free 10), I (f.free 11), I (f.free 12), I (f.free 13), I (f.free 14), I (f.free 15), I (f.free 16), I (f.free 17), I (f.free 18), I (f.free 19), I (f.free 20), I (f.free 21), I (f.free 22), I (f.free 23)]
@[simp] theorem ite_I (c : Prop) [Decidable c] (a b : Int) : (if c then I a else I b) = I (if c then a else b) := by split <;> rfl
theorem zpG (l : Lay) (im : Img) (hi : im.ok) : C f_lockbarref15_rows [l.av, im.av] (zed l im 24).av := by
 refine ctr (l.cells ++ im.cells) run_lockbarref15_rows rfl (li l im) (by simp [AV.pure]) ?_ rfl
 unfold rt_lockbarref15_rows
 simp [Lay.cells, Img.cells]
 refine zac rfl (fun vs => ∃ m : Nat, m ≤ 24 ∧ vs = I m :: zrE (zed l im m)) (fun vs => match vs with | .int _ m :: _ => 24 - m.toNat | _ => 0) ⟨0, by omega, by simp [zrE, zn1]⟩ ?_
 rintro vs - ⟨m, hm, rfl⟩
 simp [zrE]
 refine ⟨fun hlt => ?_, fun hge => ?_⟩
 ·have hlt' : m < 24 := by omega
  refine call (zbn l (zed l im m)) (by simp [Lay.cells, Img.cells]; exact ⟨rfl, rfl, rfl, rfl, rfl⟩) (by simp) ?_
  simp [zog]
  refine zak (avs := [W im.occ, I m]) (.bool (zb0 im.occ m)) rfl (fun _ => ⟨by simp, zfS im.occ m hi.1.1 hi.1.2⟩) (by simp) ?_
  simp
  have hc := zgy (zed l im m) m (by omega) (by omega)
  simp only [Img.cells] at hc
  simp at hc
  simp only [show (zed l im m).occ = im.occ from rfl, show (zed l im m).nor = im.nor from rfl, show (zed l im m).rev = im.rev from rfl, show (zed l im m).lamp = im.lamp from rfl] at hc
  refine ⟨hlt, ⟨hlt, by omega⟩, ?_⟩
  refine call (avs := [.bool (!stale l im && !zb0 im.occ m), I (im.free m)]) (zqV _ _) (by
   have h1 : (zed l im m).free m = im.free m := by simp [zed]
   simp [hc, h1]) (by simp) ?_
  simp [hlt]
  refine ⟨⟨m + 1, by omega, ?_⟩, ?_⟩
  ·rw [zad (by omega)]
   simp [znN]
   and_intros <;> exact zpU (by omega) _ _
  ·rw [zad (by omega)]
   simp; omega
 ·have : m = 24 := by omega
  subst this
  simp [Img.cells, zed]
theorem zk4 (l : Lay) (im : Img) (o n r p : Int) (h0 : 0 ≤ o) (h1 : o ≤ 4294967295) (n0 : 0 ≤ n) (n1 : n ≤ 4294967295) (r0 : 0 ≤ r) (r1 : r ≤ 4294967295) (p0 : 0 ≤ p) (p1 : p ≤ 4294967295) :
  C f_lockbarref15_Take [l.av, im.av, .agg [W o, W n, W r, W p]] (zmd l im o n r p).av := by
 refine ctr (l.cells ++ im.cells ++ [W o, W n, W r, W p]) run_lockbarref15_Take rfl (by simp [zaf, AV.pureAll, AV.pure]) (by simp [AV.pure]) ?_ rfl
 unfold rt_lockbarref15_Take
 simp [Lay.cells, Img.cells]
 refine call (zpG l { im with age := 0, occ := o, nor := n, rev := r, lamp := p } ⟨⟨h0, h1⟩, ⟨n0, n1⟩, ⟨r0, r1⟩, ⟨p0, p1⟩⟩) (by simp [Lay.cells, Img.cells]) (by simp [Img.cells, AV.scalar, AV.scalars]) ?_
 simp [Img.cells, zmd]
end Go.Lb.LK
namespace Go.Lb.LK
open Go Go.Lb Go.Proofs Go.RowKit
theorem zkw (l : List Int) : (zcg l).Pairwise (fun x y => x ≤ y) := by
 have := List.pairwise_mergeSort (le := fun x y : Int => decide (x ≤ y)) (fun a b c h1 h2 => by simp at *; omega) (fun a b => by simp; omega) l
 exact this.imp (fun h => by simpa using h)
theorem zgS {l : List Int} (hs : l.Pairwise (fun x y => x ≤ y)) : ∀ m, m ≤ l.length → (∀ n, n ∈ Go.Lib.compactUpTo l.toArray m ↔ n ∈ l.take m) ∧ (Go.Lib.compactUpTo l.toArray m).Pairwise (fun x y => x < y)
 | 0, _ => by simp [Go.Lib.compactUpTo]
 | m + 1, h => by
  obtain ⟨h1, h2⟩ := zgS hs m (by omega)
  have hm : l.toArray[m]! = l[m] := by simp [show m < l.length by omega]
  rw [Go.Lib.compactUpTo_succ, hm]
  have ht : l.take (m + 1) = l.take m ++ [l[m]] := by rw [List.take_add_one, List.getElem?_eq_getElem (by omega)]; rfl
  have hle : ∀ x ∈ l.take m, x ≤ l[m] := by
   intro x hx
   obtain ⟨j, hj, rfl⟩ := List.mem_iff_getElem.1 hx
   rw [List.getElem_take]
   rw [List.length_take] at hj
   exact List.pairwise_iff_getElem.1 hs j m (by omega) (by omega) (by omega)
  cases hk : Go.Lib.keeps l.toArray m with
  | true =>
   refine ⟨fun n => ?_, ?_⟩
   ·rw [ht]; simp only [h1, if_true, List.mem_append, List.mem_singleton]
   ·simp only [if_true]
    rw [List.pairwise_append]
    refine ⟨h2, by simp, fun x hx y hy => ?_⟩
    simp only [List.mem_singleton] at hy; subst hy
    have hx' := (h1 x).1 hx
    have := hle x hx'
    simp only [Go.Lib.keeps, decide_eq_true_eq] at hk
    rcases hk with h0 | hk
    ·subst h0; simp at hx'
    ·have hm1 : l.toArray[m - 1]! = l[m - 1] := by simp [show m - 1 < l.length by omega]
     rw [hm, hm1] at hk
     obtain ⟨j, hj, rfl⟩ := List.mem_iff_getElem.1 hx'
     rw [List.getElem_take]
     rw [List.length_take] at hj
     have a1 : l[j] ≤ l[m - 1] := by
      rcases Nat.lt_or_ge j (m - 1) with hlt | hge
      ·exact List.pairwise_iff_getElem.1 hs j (m - 1) (by omega) (by omega) hlt
      ·have : j = m - 1 := by omega
       subst this; exact Int.le_refl _
     have a2 : l[m - 1] ≤ l[m] := by
      rcases Nat.eq_zero_or_pos m with h0 | h0
      ·subst h0; exact Int.le_refl _
      ·exact List.pairwise_iff_getElem.1 hs (m - 1) m (by omega) (by omega) (by omega)
     omega
  | false =>
   refine ⟨fun n => ?_, by simpa using h2⟩
   rw [ht]
   simp only [Bool.false_eq_true, if_false, List.append_nil, List.mem_append, List.mem_singleton, h1]
   refine ⟨.inl, fun h => h.elim id ?_⟩
   rintro rfl
   have hk' : ¬ (m = 0 ∨ l.toArray[m]! ≠ l.toArray[m - 1]!) := by simpa [Go.Lib.keeps] using hk
   have hm0 : m ≠ 0 := fun h => hk' (.inl h)
   have hm1 : l.toArray[m - 1]! = l[m - 1] := by simp [show m - 1 < l.length by omega]
   rw [hm, hm1] at hk'
   have : l[m] = l[m - 1] := Classical.byContradiction fun h => hk' (.inr h)
   rw [this]
   exact List.mem_iff_getElem.2 ⟨m - 1, by rw [List.length_take]; omega, by rw [List.getElem_take]⟩
theorem zjE {l : List Int} (hs : l.Pairwise (fun x y => x ≤ y)) : (∀ n, n ∈ zbd l ↔ n ∈ l) ∧ (zbd l).Pairwise (fun x y => x < y) := by
 have := zgS hs l.length (Nat.le_refl _)
 rwa [List.take_length] at this
theorem zhZ (l : List Int) : ∀ m, m ≤ l.length → (Go.Lib.compactUpTo l.toArray m).Sublist (l.take m)
 | 0, _ => by simp [Go.Lib.compactUpTo]
 | m + 1, h => by
  have ih := zhZ l m (by omega)
  have hm : l.toArray[m]! = l[m] := by simp [show m < l.length by omega]
  rw [Go.Lib.compactUpTo_succ, hm]
  have ht : l.take (m + 1) = l.take m ++ [l[m]] := by rw [List.take_add_one, List.getElem?_eq_getElem (by omega)]; rfl
  rw [ht]
  split
  ·exact ih.append (List.Sublist.refl _)
  ·exact ih.append (List.nil_sublist [l[m]])
theorem zg6 {l : List Int} (hs : l.Pairwise (fun x y => x < y)) : ∀ m, m ≤ l.length → (Go.Lib.compactUpTo l.toArray m).length = m
 | 0, _ => by simp [Go.Lib.compactUpTo]
 | m + 1, h => by
  have ih := zg6 hs m (by omega)
  have hm : l.toArray[m]! = l[m] := by simp [show m < l.length by omega]
  rw [Go.Lib.compactUpTo_succ]
  have hk : Go.Lib.keeps l.toArray m = true := by
   simp only [Go.Lib.keeps, decide_eq_true_eq]
   rcases Nat.eq_zero_or_pos m with h0 | h0
   ·exact .inl h0
   ·right
    have hm1 : l.toArray[m - 1]! = l[m - 1] := by simp [show m - 1 < l.length by omega]
    rw [hm, hm1]
    have := List.pairwise_iff_getElem.1 hs (m - 1) m (by omega) (by omega) (by omega)
    omega
  simp [hk, ih]
theorem zjW (l : List Int) : (zbd (zcg l)).length < l.length ↔ ¬ l.Nodup := by
 have hp : (zcg l).Perm l := List.mergeSort_perm _ _
 have hlen : (zcg l).length = l.length := hp.length_eq
 have hs := zkw l
 constructor
 ·intro h hn
  have hn2 : (zcg l).Nodup := hp.nodup_iff.2 hn
  have hlt : (zcg l).Pairwise (fun x y => x < y) := by
   refine List.Pairwise.imp₂ (R := fun x y => x ≤ y) (S := fun x y => x ≠ y) (fun a b h1 h2 => by omega) hs hn2
  have := zg6 hlt (zcg l).length (Nat.le_refl _)
  have e : zbd (zcg l) = Go.Lib.compactUpTo (zcg l).toArray (zcg l).length := by simp [zbd, Go.Lib.compact]
  rw [e] at h
  omega
 ·intro hn
  refine Classical.byContradiction fun h => hn ?_
  have hsub := zhZ (zcg l) (zcg l).length (Nat.le_refl _)
  have e : zbd (zcg l) = Go.Lib.compactUpTo (zcg l).toArray (zcg l).length := by simp [zbd, Go.Lib.compact]
  rw [← e, List.take_length] at hsub
  have heq := hsub.eq_of_length_le (by omega)
  have h2 := (zjE hs).2
  rw [heq] at h2
  exact hp.nodup_iff.1 (h2.imp (fun h => by omega))
end Go.Lb.LK
namespace Go.Lb.LK
open Go Go.Lb Go.Proofs Go.RowKit
theorem zdd (l : List Step) (h : l.length ≤ 4294967296) : C f_slices_Clone_Step [steps l] (steps l) := by
 refine ctr [steps l] run_slices_Clone_Step rfl (by simp [AV.pureAll, AV.pure]) (by simp [AV.pure]) ?_ rfl
 unfold rt_slices_Clone_Step
 simp
 exact ⟨fun x _ => by simp [Step.cells], h⟩
theorem zfv (l : List Need) (h : l.length ≤ 4294967296) : C f_slices_Clone_Need [needs l] (needs l) := by
 refine ctr [needs l] run_slices_Clone_Need rfl (by simp [AV.pureAll, AV.pure]) (by simp [AV.pure]) ?_ rfl
 unfold rt_slices_Clone_Need
 simp
 exact ⟨fun x _ => by simp [Need.cells], h⟩
def zcR (xs : List (List Step)) : Nat := (xs.map List.length).sum
theorem zeI (xs : List (List Step)) : xs.flatten.length = zcR xs := by simp [zcR, List.length_flatten]
theorem zgJ (xs : List (List Step)) {i : Nat} (h : i < xs.length) : (xs.take (i + 1)).flatten = (xs.take i).flatten ++ xs[i] := by
 rw [List.take_add_one, List.getElem?_eq_getElem h, List.flatten_append]; simp
theorem zjf (xs : List (List Step)) {i : Nat} (h : i < xs.length) : zcR (xs.take (i + 1)) = zcR (xs.take i) + xs[i].length := by
 rw [← zeI, ← zeI, zgJ xs h, List.length_append]
theorem zho (xs : List (List Step)) (i : Nat) : zcR (xs.take i) ≤ zcR xs := by
 unfold zcR
 conv => rhs; rw [← List.take_append_drop i xs, List.map_append, List.sum_append]
 omega
theorem ze0 (xs : List (List Step)) (hx : xs.length ≤ 1000000) (ht : zcR xs ≤ 1000000000) : C f_slices_Concat_Step [.sl (xs.map steps)] (steps xs.flatten) := by
 refine ctr [.sl (xs.map steps)] run_slices_Concat_Step rfl (by simp [AV.pureAll, AV.pure, zbJ steps (fun x => by simp [AV.pure])]) (by simp only [AV.pure]; exact zn0 _) ?_ rfl
 unfold rt_slices_Concat_Step
 simp
 refine zac rfl (fun vs => ∃ i : Nat, i ≤ xs.length ∧ vs = [I (zcR (xs.take i)), I i]) (fun vs => match vs with | [_, .int _ j] => xs.length - j.toNat | _ => 0) ⟨0, by simp, by simp [zcR]⟩ ?_
 rintro vs - ⟨i, hi, rfl⟩
 have hti := zho xs i
 simp
 refine ⟨fun hlt => ?_, fun hge => ?_⟩
 ·have hw := zad (i := i) (by omega)
  have ht1 := zjf xs hlt
  have ht2 := zho xs (i + 1)
  have hw2 : IntKind.i64.wrap ((zcR (xs.take i) : Int) + xs[i].length) = (zcR (xs.take (i + 1)) : Int) := by rw [zaI] <;> omega
  simp [hlt, hw2]
  exact ⟨⟨i + 1, by omega, rfl, hw⟩, by rw [hw]; omega⟩
 ·have hti : xs.take i = xs := List.take_of_length_le hge
  have w0 : IntKind.i64.wrap 0 = 0 := by decide
  have wt : IntKind.i64.wrap (zcR xs : Int) = zcR xs := by rw [zaI] <;> omega
  simp [hti, w0, wt]
  refine ⟨fun hpos => ⟨by omega, ?_⟩, fun hz => ?_⟩
  all_goals
   refine zac rfl (fun vs => ∃ i : Nat, i ≤ xs.length ∧ vs = [steps (xs.take i).flatten, I i]) (fun vs => match vs with | [_, .int _ j] => xs.length - j.toNat | _ => 0) ⟨0, by simp, by simp⟩ ?_
   rintro vs - ⟨j, hj, rfl⟩
   have htj := zho xs j
   rw [← zeI] at htj
   simp only [zaH, List.cons_append, List.nil_append]
   have hfl := fun h => zgJ xs (i := j) h
   generalize hcur : (xs.take j).flatten = cur at htj hfl ⊢
   simp
   refine ⟨fun hlt => ?_, fun hge => ?_⟩
   ·have hw := zad (i := j) (by omega)
    have ht1 := zjf xs hlt
    have ht2 := zho xs (j + 1)
    rw [← zeI (xs.take j), hcur] at ht1
    simp [hlt]
    refine ⟨fun x _ => by simp [Step.cells], by omega, ⟨j + 1, by omega, ?_, hw⟩, by rw [hw]; omega⟩
    have := congrArg (List.map Step.av) (hfl hlt)
    simpa using this.symm
   ·have : xs.take j = xs := List.take_of_length_le hge
    simp [← hcur, this]
def zar {α : Type} (q : α → Bool) (l : List α) : Prop := l.any q = false
theorem zar.nil {α : Type} (q : α → Bool) : zar q [] := rfl
theorem zcc {α : Type} {q : α → Bool} {l : List α} {i : Nat} (hi : i < l.length) (hq : q l[i] = true) : l.any q = true := List.any_eq_true.2 ⟨l[i], List.getElem_mem hi, hq⟩
theorem zao {α : Type} {q : α → Bool} {l : List α} {i : Nat} (hi : i < l.length) (h : zar q (l.take i)) (hq : q l[i] = false) : zar q (l.take (i + 1)) := by
 unfold zar at *
 rw [List.take_add_one, List.getElem?_eq_getElem hi, List.any_append, h]; simp [hq]
def both (x y : Need) : Bool := decide (x.p = y.p) && !decide (x.pos = y.pos)
def ze6 (a b : List Need) : Bool := a.any fun x => b.any fun y => both x y
theorem zg1 (a b : List Need) (ha : a.length ≤ 4294967296) (hb : b.length ≤ 4294967296) : C f_held_clash [needs a, needs b] (.bool (ze6 a b)) := by
 refine ctr [needs a, needs b] run_held_clash rfl (by simp [AV.pureAll, AV.pure]) rfl ?_ rfl
 unfold rt_held_clash
 simp
 refine zac rfl (fun vs => ∃ i : Nat, i ≤ a.length ∧ vs = [I i] ∧ zar (fun x => b.any fun y => both x y) (a.take i)) (fun vs => match vs with | [.int _ j] => a.length - j.toNat | _ => 0) ⟨0, by simp, by simp, rfl⟩ ?_
 rintro vs - ⟨i, hi, rfl, hn⟩
 simp
 refine ⟨fun hlt => ?_, fun hge => ?_⟩
 ·simp [hlt, Need.cells]
  refine zac rfl (fun vs => ∃ j : Nat, j ≤ b.length ∧ vs = [I j] ∧ zar (fun y => both a[i] y) (b.take j)) (fun vs => match vs with | [.int _ k] => b.length - k.toNat | _ => 0) ⟨0, by simp, by simp, rfl⟩ ?_
  rintro vs - ⟨j, hj, rfl, hm⟩
  simp
  refine ⟨fun hlt2 => ?_, fun hge2 => ?_⟩
  ·have hw := zad (i := j) (by omega)
   simp [hlt, hlt2, Need.cells]
   by_cases h1 : a[i].p = b[j].p <;> by_cases h2 : a[i].pos = b[j].pos
   ·simp [h1, h2, hw]
    exact ⟨⟨j + 1, by omega, rfl, zao hlt2 hm (by simp [both, h1, h2])⟩, by omega⟩
   ·simp [h1, h2]
    exact zcc hlt (zcc hlt2 (by simp [both, h1, h2]))
   ·simp [h1, hw]
    exact ⟨⟨j + 1, by omega, rfl, zao hlt2 hm (by simp [both, h1])⟩, by omega⟩
   ·simp [h1, hw]
    exact ⟨⟨j + 1, by omega, rfl, zao hlt2 hm (by simp [both, h1])⟩, by omega⟩
  ·have hb2 : b.take j = b := List.take_of_length_le (by omega)
   rw [hb2] at hm
   have hw := zad (i := i) (by omega)
   simp [hw]
   exact ⟨⟨i + 1, by omega, rfl, zao hlt hn hm⟩, by omega⟩
 ·have ha2 : a.take i = a := List.take_of_length_le (by omega)
  rw [ha2] at hn
  have hn2 : ze6 a b = false := hn
  simp [hn2]
theorem zlV (p : Path) (h : p.steps.length ≤ 4294967296) : C f_route_Own [p.av] p.av := by
 refine ctr p.cells run_route_Own rfl (by simp) (by simp [AV.pure]) ?_ rfl
 unfold rt_route_Own
 simp [Path.cells]
 refine call (zdd p.steps h) (by simp) (by simp) ?_
 simp [Path.cells]
def Hd.len (h : Hd) : Prop := h.path.steps.length ≤ 1048576 ∧ h.over.length ≤ 1048576 ∧ h.needs.length ≤ 1048576
theorem zca (h : Hd) (hl : h.len) : C f_held_Own [h.av] h.av := by
 obtain ⟨h1, h2, h3⟩ := hl
 refine ctr h.cells run_held_Own rfl (by simp) (by simp [AV.pure]) ?_ rfl
 unfold rt_held_Own
 simp [Hd.cells]
 refine call (zlV h.path (by omega)) (by simp [Path.cells]) (by simp) ?_
 simp
 refine call (zdd h.over (by omega)) (by simp) (by simp) ?_
 simp
 refine call (zfv h.needs (by omega)) (by simp) (by simp) ?_
 simp [Path.cells, Hd.cells]
def zdo (h : Hd) (x : Need) : Bool := decide (max h.gone 0 ≤ x.k) && (!decide (x.k = h.path.steps.length) || !h.opn)
def zai (h : Hd) : List Need := h.needs.filter (zdo h)
theorem zb8 (h : Hd) (hl : h.len) : C f_held_Needs [h.av] (needs (zai h)) := by
 obtain ⟨h1, h2, h3⟩ := hl
 refine ctr h.cells run_held_Needs rfl (by simp) (by simp [AV.pure]) ?_ rfl
 unfold rt_held_Needs
 simp [Hd.cells]
 refine zac rfl (fun vs => ∃ i : Nat, i ≤ h.needs.length ∧ vs = [needs ((h.needs.take i).filter (zdo h)), I i]) (fun vs => match vs with | [_, .int _ j] => h.needs.length - j.toNat | _ => 0) ⟨0, by simp, by simp⟩ ?_
 rintro vs - ⟨i, hi, rfl⟩
 simp
 refine ⟨fun hlt => ?_, fun hge => ?_⟩
 ·have hw := zad (i := i) (by omega)
  have hfl := zcj (zdo h) h.needs i
  have hft := zbN (zdo h) h.needs hlt
  simp [hlt, Need.cells]
  rw [hw]
  cases hq : zdo h h.needs[i]
  ·left
   refine ⟨?_, ⟨i + 1, by omega, by rw [hft, hq]; simp, rfl⟩, by omega⟩
   intro hk
   simpa [zdo, hk] using hq
  ·right
   refine ⟨by simpa [zdo] using hq, by omega, ⟨i + 1, by omega, by rw [hft, hq]; simp [Need.cells], rfl⟩, by omega⟩
 ·have : h.needs.take i = h.needs := List.take_of_length_le (by omega)
  simp [this, zai]
end Go.Lb.LK
namespace Go.Lb.LK
open Go Go.Lb Go.Proofs Go.RowKit
def Hd.g1 (h : Hd) : Prop := 1 ≤ h.id ∧ h.id ≤ 1073741824 ∧ 0 ≤ h.timer ∧ h.timer ≤ 1073741824 ∧ 1 ≤ h.path.steps.length ∧ h.path.steps.length ≤ 12 ∧ h.over.length ≤ 2
def Hd.g2 (h : Hd) : Prop := 1 ≤ h.stage ∧ h.stage < 5 ∧ 0 ≤ h.gone ∧ h.gone ≤ h.path.steps.length
def Hd.wasOk (h : Hd) : Bool := (List.range 12).all fun k => decide (k < h.path.steps.length) || !h.was k
def zdP (n : Nat) (x : Need) : Bool := decide (0 ≤ x.k ∧ x.k ≤ n ∧ 0 ≤ x.p ∧ x.p < 24 ∧ 0 ≤ x.pos ∧ x.pos ≤ 1)
def Hd.secs (h : Hd) : List Int := (h.path.steps ++ h.over).map (·.s)
instance (h : Hd) : Decidable h.g1 := by unfold Hd.g1; infer_instance
instance (h : Hd) : Decidable h.g2 := by unfold Hd.g2; infer_instance
def zay (h : Hd) : Bool := decide h.g1 && (decide h.g2 && (!ze6 h.needs h.needs && (h.wasOk && (decide h.secs.Nodup && h.needs.all (zdP h.path.steps.length)))))
theorem wc (w : Nat → Bool) (n j : Nat) (hn : n ≤ 12) (hj : j < 12) : (if j < min n 12 then ((List.take n (zeb w))[j]?.getD .undef).cells[0]?.getD .undef else B false) = B (decide (j < n) && w j) := by
 by_cases h : j < n
 ·have h2 : j < min n 12 := by omega
  rw [if_pos h2, List.getElem?_take, if_pos h]
  have := wget w hj .undef
  rw [List.getD_eq_getElem?_getD] at this
  rw [this]; simp [h]
 ·have h2 : ¬ j < min n 12 := by omega
  rw [if_neg h2]; simp [h]
theorem wci (w : Nat → Bool) (n j : Nat) (i : Int) (hi : i = j) (hn : n ≤ 12) (hj : j < 12) : (if i < ((min n 12 : Nat) : Int) then ((List.take n (zeb w))[j]?.getD .undef).cells[0]?.getD .undef else B false) = B (decide (j < n) && w j) := by
 rw [← wc w n j hn hj]
 exact zpU (by omega) _ _
theorem zrN (w : Nat → Bool) (n : Nat) : ∀ e ∈ List.take n (zeb w), e.cells.length = 1 ∧ AV.ones e.cells = true := by
 intro e he
 have := List.mem_of_mem_take he
 simp only [zeb, List.mem_cons, List.not_mem_nil, or_false] at this
 rcases this with rfl | rfl | rfl | rfl | rfl | rfl | rfl | rfl | rfl | rfl | rfl | rfl <;> simp
theorem zgX (h : Hd) (hl : h.len) (hs : 0 ≤ h.stage ∧ h.stage ≤ 255) : C f_held_Right [h.av] (.bool (zay h)) := by
 obtain ⟨l1, l2, l3⟩ := hl
 refine ctr h.cells run_held_Right rfl (by simp) rfl ?_ rfl
 unfold rt_held_Right
 simp [Hd.cells]
 by_cases g1 : h.g1
 ·have g1' := g1
  obtain ⟨a1, a2, a3, a4, a5, a6, a7⟩ := g1
  have b1 : ¬ h.id < 1 := by omega
  have b2 : ¬ 1073741824 < max h.id h.timer := by omega
  have b3 : ¬ h.timer < 0 := by omega
  have b4 : ¬ ((h.path.steps.length : Int) < 1) := by omega
  have b5 : ¬ (12 < (h.path.steps.length : Int)) := by omega
  have b6 : ¬ (2 < (h.over.length : Int)) := by omega
  have b7 : (0 : Int) < h.path.steps.length := by omega
  refine ⟨fun hh => by simp [b1, b2, b3, b5, b6] at hh; omega, ?_⟩
  intro _ _ _ _ _ _
  refine zak (avs := [needs h.needs, needs h.needs]) (.bool (ze6 h.needs h.needs)) rfl (fun _ => ⟨by simp, zg1 _ _ (by omega) (by omega)⟩) (by simp) ?_
  by_cases g2 : h.g2
  ·have g2' := g2
   obtain ⟨d1, d2, d3, d4⟩ := g2
   have e1 : ¬ h.stage = 0 := by omega
   have e2 : ¬ 5 ≤ h.stage := by omega
   have e3 : ¬ h.gone < 0 := by omega
   have e4 : ¬ (h.path.steps.length : Int) < h.gone := by omega
   cases hc : ze6 h.needs h.needs
   ·have tk := zrN h.was h.path.steps.length
    have c0 := wc h.was h.path.steps.length 0 a6 (by omega)
    have c1 := wci h.was h.path.steps.length 1 1 rfl a6 (by omega)
    have c2 := wci h.was h.path.steps.length 2 2 rfl a6 (by omega)
    have c3 := wci h.was h.path.steps.length 3 3 rfl a6 (by omega)
    have c4 := wci h.was h.path.steps.length 4 4 rfl a6 (by omega)
    have c5 := wci h.was h.path.steps.length 5 5 rfl a6 (by omega)
    have c6 := wci h.was h.path.steps.length 6 6 rfl a6 (by omega)
    have c7 := wci h.was h.path.steps.length 7 7 rfl a6 (by omega)
    have c8 := wci h.was h.path.steps.length 8 8 rfl a6 (by omega)
    have c9 := wci h.was h.path.steps.length 9 9 rfl a6 (by omega)
    have c10 := wci h.was h.path.steps.length 10 10 rfl a6 (by omega)
    have c11 := wci h.was h.path.steps.length 11 11 rfl a6 (by omega)
    simp only [AV.cells, zeb] at tk c0 c1 c2 c3 c4 c5 c6 c7 c8 c9 c10 c11
    simp [e1, e2, e3, e4, c0, c1, c2, c3, c4, c5, c6, c7, c8, c9, c10, c11]
    refine ⟨by omega, tk, fun hh => ?_, ?_⟩
    ·have hw : h.wasOk = false := by
      cases hq : h.wasOk
      ·rfl
      ·exfalso
       simp only [Hd.wasOk, List.all_eq_true, List.mem_range, Bool.or_eq_true, decide_eq_true_eq, Bool.not_eq_true'] at hq
       have hstep : ∀ k, k < 12 → h.was k = true → h.path.steps.length ≤ k → False := fun k hk h1 h2 => by
        rcases hq k hk with h3 | h3
        ·omega
        ·rw [h1] at h3; cases h3
       rcases hh with ⟨h1, h2⟩ | ⟨h1, h2⟩ | ⟨h1, h2⟩ | ⟨h1, h2⟩ | ⟨h1, h2⟩ | ⟨h1, h2⟩ | ⟨h1, h2⟩ | ⟨h1, h2⟩ | ⟨h1, h2⟩ | ⟨h1, h2⟩ | ⟨h1, h2⟩ | ⟨h1, h2⟩
       ·rw [h2] at a5; simp at a5
       all_goals exact hstep _ (by omega) h1 h2
     simp [zay, hw]
    ·intro w0 w1 w2 w3 w4 w5 w6 w7 w8 w9 w10 w11
     have hw : h.wasOk = true := by
      simp only [Hd.wasOk, List.all_eq_true, List.mem_range, Bool.or_eq_true, decide_eq_true_eq, Bool.not_eq_true']
      intro k hk
      cases hq : h.was k
      ·exact .inr rfl
      ·left
       match k, hk, hq with
       | 0, _, hq => exact w0 hq
       | 1, _, hq => exact w1 hq
       | 2, _, hq => exact w2 hq
       | 3, _, hq => exact w3 hq
       | 4, _, hq => exact w4 hq
       | 5, _, hq => exact w5 hq
       | 6, _, hq => exact w6 hq
       | 7, _, hq => exact w7 hq
       | 8, _, hq => exact w8 hq
       | 9, _, hq => exact w9 hq
       | 10, _, hq => exact w10 hq
       | 11, _, hq => exact w11 hq
     refine call (ze0 [h.path.steps, h.over] (by simp) (by simp [zcR]; omega)) (by simp) (by simp) ?_
     generalize hall : [h.path.steps, h.over].flatten = all
     have hal : all = h.path.steps ++ h.over := by rw [← hall]; simp
     have hlen : all.length = h.path.steps.length + h.over.length := by rw [hal]; simp
     simp
     refine zac rfl (fun vs => ∃ i : Nat, i ≤ all.length ∧ vs = [ints ((all.take i).map (·.s)), I i]) (fun vs => match vs with | [_, .int _ j] => all.length - j.toNat | _ => 0) ⟨0, by simp, by simp⟩ ?_
     rintro vs - ⟨i, hi, rfl⟩
     simp
     refine ⟨fun hlt => ?_, fun hge => ?_⟩
     ·have hwr := zad (i := i) (by omega)
      have hmt := map_take (fun x : Step => x.s) all hlt
      simp [hlt, Step.cells, hwr]
      refine ⟨by omega, ⟨i + 1, by omega, ?_, by omega⟩, by omega⟩
      rw [List.take_add_one, List.getElem?_map, List.getElem?_eq_getElem hlt]; rfl
     ·have hta : List.take i (List.map (I ∘ fun x : Step => x.s) all) = (all.map (·.s)).map I := by
       rw [List.take_of_length_le (by simp; omega), List.map_map]
      rw [hta]
      refine ⟨all.map (·.s), by simp; omega, by simp, ?_⟩
      refine ⟨zcg (all.map (·.s)), by simp [zcg]; omega, rfl, ?_⟩
      have hsec : h.secs = all.map (·.s) := by rw [hal]; rfl
      have hcl := zfA (zcg (all.map (·.s)))
      have hsl : (zcg (all.map (·.s))).length = all.length := by simp [zcg]
      have hwa : IntKind.i64.wrap ((h.path.steps.length : Int) + h.over.length) = h.path.steps.length + h.over.length := by rw [zaI] <;> omega
      simp [hwa]
      have hnd := zjW (all.map (·.s))
      rw [List.length_map, hlen] at hnd
      refine ⟨fun hh => ?_, fun hh => ?_⟩
      ·have : ¬ h.secs.Nodup := by rw [hsec]; exact hnd.1 (by omega)
       simp [zay, this]
      ·have hno : h.secs.Nodup := by
        rw [hsec]
        refine Classical.byContradiction fun hn => ?_
        have := hnd.2 hn
        omega
       have hr : zay h = h.needs.all (zdP h.path.steps.length) := by simp [zay, g1', g2', hc, hw, hno]
       rw [hr]
       refine zac rfl (fun vs => ∃ i : Nat, i ≤ h.needs.length ∧ vs = [I i] ∧ zar (fun x => !zdP h.path.steps.length x) (h.needs.take i)) (fun vs => match vs with | [.int _ j] => h.needs.length - j.toNat | _ => 0) ⟨0, by simp, by simp, rfl⟩ ?_
       rintro vs - ⟨k, hk, rfl, hq⟩
       simp
       refine ⟨fun hlt => ?_, fun hge => ?_⟩
       ·have hwr := zad (i := k) (by omega)
        simp [hlt, Need.cells, hwr]
        have hf : h.needs[k].pos.fdiv (2 ^ min 1 IntKind.i64.bits) = 0 ↔ 0 ≤ h.needs[k].pos ∧ h.needs[k].pos ≤ 1 := by
         have e : (2 : Int) ^ min 1 IntKind.i64.bits = 2 := by decide
         rw [e, Int.fdiv_eq_ediv_of_nonneg _ (by omega)]; omega
        rw [hf]
        cases hok : zdP h.path.steps.length h.needs[k]
        ·right
         refine ⟨?_, h.needs[k], List.getElem_mem hlt, hok⟩
         simp only [zdP, decide_eq_false_iff_not] at hok
         omega
        ·left
         have hok2 := hok
         simp only [zdP, decide_eq_true_eq] at hok2
         exact ⟨by omega, ⟨k + 1, by omega, by omega, zao hlt hq (by simp [hok])⟩, by omega⟩
       ·have : h.needs.take k = h.needs := List.take_of_length_le (by omega)
        rw [this] at hq
        unfold zar at hq
        simp at hq
        exact fun x hx => hq x hx
   ·have hr : zay h = false := by simp [zay, g1', g2', hc]
    simp [e1, e2, e3, e4, hr]
  ·have hr : zay h = false := by simp [zay, g2]
   rw [hr]
   have hg : h.stage = 0 ∨ 5 ≤ h.stage ∨ h.gone < 0 ∨ (h.path.steps.length : Int) < h.gone := by
    unfold Hd.g2 at g2; omega
   by_cases e1 : h.stage = 0
   ·simp [e1]
   ·by_cases e2 : 5 ≤ h.stage
    ·simp [e1, e2]
    ·by_cases e3 : h.gone < 0
     ·simp [e1, e2, e3]
     ·have e4 : (h.path.steps.length : Int) < h.gone := by omega
      simp [e1, e2, e3, e4]
 ·have hr : zay h = false := by simp [zay, g1]
  rw [hr]
  refine ⟨fun _ => rfl, ?_⟩
  intro h1 h2 h3 h4 h5 h6
  exfalso
  unfold Hd.g1 at g1
  omega
end Go.Lb.LK
namespace Go.Lb.LK
open Go Go.Lb Go.Proofs Go.RowKit
theorem ziT (a b : List Need) (ha : a.length ≤ 4294967296) (hb : b.length ≤ 4294967296) : C f_lockbarref17_clash [needs a, needs b] (.bool (ze6 a b)) := by
 refine ctr [needs a, needs b] run_lockbarref17_clash rfl (by simp [AV.pureAll, AV.pure]) rfl ?_ rfl
 unfold rt_lockbarref17_clash
 refine zac rfl (fun vs => ∃ i : Nat, i ≤ a.length ∧ vs = [I i] ∧ zar (fun x => b.any fun y => both x y) (a.take i)) (fun vs => match vs with | [.int _ j] => a.length - j.toNat | _ => 0) ⟨0, by simp, by simp, rfl⟩ ?_
 rintro vs - ⟨i, hi, rfl, hn⟩
 simp
 refine ⟨fun hlt => ?_, fun hge => ?_⟩
 ·refine zac rfl (fun vs => ∃ j : Nat, j ≤ b.length ∧ vs = [I j] ∧ zar (fun y => both a[i] y) (b.take j)) (fun vs => match vs with | [.int _ k] => b.length - k.toNat | _ => 0) ⟨0, by simp, by simp, rfl⟩ ?_
  rintro vs - ⟨j, hj, rfl, hm⟩
  simp
  refine ⟨fun hlt2 => ?_, fun hge2 => ?_⟩
  ·have hw := zad (i := j) (by omega)
   simp [hlt, hlt2, Need.cells]
   by_cases h1 : a[i].p = b[j].p <;> by_cases h2 : a[i].pos = b[j].pos
   ·simp [h1, h2, hw]
    exact ⟨⟨j + 1, by omega, rfl, zao hlt2 hm (by simp [both, h1, h2])⟩, by omega⟩
   ·simp [h1, h2]
    exact zcc hlt (zcc hlt2 (by simp [both, h1, h2]))
   ·simp [h1, hw]
    exact ⟨⟨j + 1, by omega, rfl, zao hlt2 hm (by simp [both, h1])⟩, by omega⟩
   ·simp [h1, hw]
    exact ⟨⟨j + 1, by omega, rfl, zao hlt2 hm (by simp [both, h1])⟩, by omega⟩
  ·have hb2 : b.take j = b := List.take_of_length_le (by omega)
   rw [hb2] at hm
   have hw := zad (i := i) (by omega)
   simp [hw]
   exact ⟨⟨i + 1, by omega, rfl, zao hlt hn hm⟩, by omega⟩
 ·have ha2 : a.take i = a := List.take_of_length_le (by omega)
  rw [ha2] at hn
  have hn2 : ze6 a b = false := hn
  simp [hn2]
theorem zc6 (h : Hd) (hl : h.len) : C f_lockbarref17_Needs [h.av] (needs (zai h)) := by
 obtain ⟨h1, h2, h3⟩ := hl
 refine ctr h.cells run_lockbarref17_Needs rfl (by simp) (by simp [AV.pure]) ?_ rfl
 unfold rt_lockbarref17_Needs
 simp [Hd.cells]
 refine zac rfl (fun vs => ∃ i : Nat, i ≤ h.needs.length ∧ vs = [needs ((h.needs.take i).filter (zdo h)), I i]) (fun vs => match vs with | [_, .int _ j] => h.needs.length - j.toNat | _ => 0) ⟨0, by simp, by simp⟩ ?_
 rintro vs - ⟨i, hi, rfl⟩
 simp
 refine ⟨fun hlt => ?_, fun hge => ?_⟩
 ·have hw := zad (i := i) (by omega)
  have hfl := zcj (zdo h) h.needs i
  have hft := zbN (zdo h) h.needs hlt
  simp [hlt, Need.cells]
  rw [hw]
  cases hq : zdo h h.needs[i]
  ·left
   refine ⟨?_, ⟨i + 1, by omega, by rw [hft, hq]; simp, rfl⟩, by omega⟩
   intro hk
   simpa [zdo, hk] using hq
  ·right
   refine ⟨by simpa [zdo] using hq, by omega, ⟨i + 1, by omega, by rw [hft, hq]; simp [Need.cells], rfl⟩, by omega⟩
 ·have : h.needs.take i = h.needs := List.take_of_length_le (by omega)
  simp [this, zai]
theorem znz (p : Path) (h : p.steps.length ≤ 4294967296) : C f_lockbarref11_Own [p.av] p.av := by
 refine ctr p.cells run_lockbarref11_Own rfl (by simp) (by simp [AV.pure]) ?_ rfl
 unfold rt_lockbarref11_Own
 simp [Path.cells]
 exact ⟨fun x _ => by simp [Step.cells], h⟩
theorem zeT (h : Hd) (hl : h.len) : C f_lockbarref17_Own [h.av] h.av := by
 obtain ⟨h1, h2, h3⟩ := hl
 refine ctr h.cells run_lockbarref17_Own rfl (by simp) (by simp [AV.pure]) ?_ rfl
 unfold rt_lockbarref17_Own
 simp [Hd.cells]
 refine call (znz h.path (by omega)) (by simp [Path.cells]) (by simp) ?_
 simp [Path.cells, Hd.cells]
 exact ⟨fun x _ => by simp [Step.cells], by omega, fun x _ => by simp [Need.cells], by omega⟩
theorem zqn (x y : Step) : AV.eqs x.cells y.cells = decide (x = y) := by
 obtain ⟨a, b, c⟩ := x
 obtain ⟨d, e, f⟩ := y
 simp [Step.cells, AV.eqs, AV.eq1]
 by_cases h1 : a = d <;> by_cases h2 : b = e <;> by_cases h3 : c = f <;> simp [h1, h2, h3]
theorem zqP (x y : Need) : AV.eqs x.cells y.cells = decide (x = y) := by
 obtain ⟨a, b, c⟩ := x
 obtain ⟨d, e, f⟩ := y
 simp [Need.cells, AV.eqs, AV.eq1]
 by_cases h1 : a = d <;> by_cases h2 : b = e <;> by_cases h3 : c = f <;> simp [h1, h2, h3]
theorem zq3 {x y : Step} (h1 : x.s = y.s) (h2 : x.i = y.i) (h3 : x.o = y.o) : x = y := by
 obtain ⟨a, b, c⟩ := x
 obtain ⟨d, e, f⟩ := y
 simp only at h1 h2 h3
 rw [h1, h2, h3]
theorem zcU (a b : List Step) (ha : a.length ≤ 4294967296) : C f_lockbarref11_Steps [steps a, steps b] (.bool (decide (a = b))) := by
 refine ctr [steps a, steps b] run_lockbarref11_Steps rfl (by simp [AV.pureAll, AV.pure]) rfl ?_ rfl
 unfold rt_lockbarref11_Steps
 simp
 by_cases hl : a.length = b.length
 ·simp [hl]
  refine zac rfl (fun vs => ∃ i : Nat, i ≤ a.length ∧ vs = [I i] ∧ a.take i = b.take i) (fun vs => match vs with | [.int _ j] => a.length - j.toNat | _ => 0) ⟨0, by simp, by simp, by simp⟩ ?_
  rintro vs - ⟨i, hi, rfl, hq⟩
  simp
  refine ⟨fun hlt => ?_, fun hge => ?_⟩
  ·have hlt2 : i < b.length := by omega
   have hw := zad (i := i) (by omega)
   have he := zqn a[i] b[i]
   simp [hlt, hlt2, Step.cells] at he ⊢
   by_cases hab : a[i] = b[i]
   ·simp [hab] at he ⊢
    rw [hw]
    refine ⟨⟨i + 1, by omega, rfl, ?_⟩, by omega⟩
    rw [List.take_add_one, List.take_add_one, List.getElem?_eq_getElem hlt, List.getElem?_eq_getElem hlt2, hq, hab]
   ·right
    refine ⟨fun h1 h2 h3 => hab (zq3 h1 h2 h3), ?_⟩
    rintro rfl
    exact hab rfl
  ·have h1 : a.take i = a := List.take_of_length_le (by omega)
   have h2 : b.take i = b := List.take_of_length_le (by omega)
   rw [h1, h2] at hq
   simp [hq]
 ·have hne : a ≠ b := fun h => hl (by rw [h])
  have hl2 : ¬ (a.length : Int) = b.length := by omega
  simp [hne]
  exact fun h => absurd h hl2
theorem zq4 {x y : Need} (h1 : x.p = y.p) (h2 : x.pos = y.pos) (h3 : x.k = y.k) : x = y := by
 obtain ⟨a, b, c⟩ := x
 obtain ⟨d, e, f⟩ := y
 simp only at h1 h2 h3
 rw [h1, h2, h3]
theorem zf0 (a b : List Need) (ha : a.length ≤ 4294967296) : C f_lockbarref17_All [needs a, needs b] (.bool (decide (a = b))) := by
 refine ctr [needs a, needs b] run_lockbarref17_All rfl (by simp [AV.pureAll, AV.pure]) rfl ?_ rfl
 unfold rt_lockbarref17_All
 simp
 by_cases hl : a.length = b.length
 ·simp [hl]
  refine zac rfl (fun vs => ∃ i : Nat, i ≤ a.length ∧ vs = [I i] ∧ a.take i = b.take i) (fun vs => match vs with | [.int _ j] => a.length - j.toNat | _ => 0) ⟨0, by simp, by simp, by simp⟩ ?_
  rintro vs - ⟨i, hi, rfl, hq⟩
  simp
  refine ⟨fun hlt => ?_, fun hge => ?_⟩
  ·have hlt2 : i < b.length := by omega
   have hw := zad (i := i) (by omega)
   have he := zqP a[i] b[i]
   simp [hlt, hlt2, Need.cells] at he ⊢
   by_cases hab : a[i] = b[i]
   ·simp [hab] at he ⊢
    rw [hw]
    refine ⟨⟨i + 1, by omega, rfl, ?_⟩, by omega⟩
    rw [List.take_add_one, List.take_add_one, List.getElem?_eq_getElem hlt, List.getElem?_eq_getElem hlt2, hq, hab]
   ·right
    refine ⟨fun h1 h2 h3 => hab (zq4 h1 h2 h3), ?_⟩
    rintro rfl
    exact hab rfl
  ·have h1 : a.take i = a := List.take_of_length_le (by omega)
   have h2 : b.take i = b := List.take_of_length_le (by omega)
   rw [h1, h2] at hq
   simp [hq]
 ·have hne : a ≠ b := fun h => hl (by rw [h])
  have hl2 : ¬ (a.length : Int) = b.length := by omega
  simp [hne]
  exact fun h => absurd h hl2
def zfK (a b : Path) : Bool := decide (a.sig = b.sig) && (decide (a.exit = b.exit) && decide (a.steps = b.steps))
theorem zpx (a b : Path) (ha : a.steps.length ≤ 4294967296) : C f_lockbarref11_Same [a.av, b.av] (.bool (zfK a b)) := by
 refine ctr (a.cells ++ b.cells) run_lockbarref11_Same rfl (by simp [zaf]) rfl ?_ rfl
 unfold rt_lockbarref11_Same
 simp [Path.cells]
 refine zak (avs := [steps a.steps, steps b.steps]) (.bool (decide (a.steps = b.steps))) rfl (fun _ => ⟨by simp, zcU _ _ ha⟩) (by simp) ?_
 by_cases h1 : a.sig = b.sig <;> by_cases h2 : a.exit = b.exit <;> simp [zfK, h1, h2]
theorem bdec (x y : Bool) : decide (x = y) = (x == y) := by cases x <;> cases y <;> rfl
def zkb (a b : Hd) : Bool := AV.eqs [.bool (a.was 0), .bool (a.was 1), .bool (a.was 2), .bool (a.was 3), .bool (a.was 4), .bool (a.was 5), .bool (a.was 6), .bool (a.was 7), .bool (a.was 8), .bool (a.was 9), .bool (a.was 10), .bool (a.was 11)] [.bool (b.was 0), .bool (b.was 1), .bool (b.was 2), .bool (b.was 3), .bool (b.was 4), .bool (b.was 5), .bool (b.was 6), .bool (b.was 7), .bool (b.was 8), .bool (b.was 9), .bool (b.was 10), .bool (b.was 11)]
theorem zkB (a : Hd) : zkb a a = true := by simp [zkb]
def zgv (a b : Hd) : Bool := decide (a.id = b.id) && (zfK a.path b.path && (decide (a.over = b.over) && (decide (a.needs = b.needs) && (decide (a.stage = b.stage) && (decide (a.gone = b.gone) && (zkb a b && ((a.opn == b.opn) && (decide (a.timer = b.timer) && (a.shown == b.shown)))))))))
theorem zoo (a : Hd) : zgv a a = true := by simp [zgv, zkB, zfK]
theorem zpn (a b : Hd) (ha : a.len) : C f_lockbarref17_Same [a.av, b.av] (.bool (zgv a b)) := by
 obtain ⟨l1, l2, l3⟩ := ha
 refine ctr (a.cells ++ b.cells) run_lockbarref17_Same rfl (by simp [zaf]) rfl ?_ rfl
 unfold rt_lockbarref17_Same
 simp [Hd.cells]
 refine zak (avs := [a.path.av, b.path.av]) (.bool (zfK a.path b.path)) rfl (fun _ => ⟨by simp [Path.cells], zpx _ _ (by omega)⟩) (by simp) ?_
 simp
 refine zak (avs := [steps a.over, steps b.over]) (.bool (decide (a.over = b.over))) rfl (fun _ => ⟨by simp, zcU _ _ (by omega)⟩) (by simp) ?_
 simp
 refine zak (avs := [needs a.needs, needs b.needs]) (.bool (decide (a.needs = b.needs))) rfl (fun _ => ⟨by simp, zf0 _ _ (by omega)⟩) (by simp) ?_
 simp [zgv, zkb, Bool.and_assoc]
 simp only [bdec]
end Go.Lb.LK
namespace Go.Lb.LK
open Go Go.Lb Go.Proofs Go.RowKit
theorem lih (l : Lay) (im : Img) (h : Hd) : AV.pureAll (l.cells ++ im.cells ++ h.cells) = true := by simp [zaf]
theorem zbb (h : Hd) : (zai h).length ≤ h.needs.length := List.length_filter_le _ _
def zaG (h : Hd) : List Int := (h.path.steps.drop h.gone.toNat).map (·.s) ++ if h.opn = true then [] else h.over.map (·.s)
theorem zdA {α : Type} (l : List α) {g i : Nat} (hg : g ≤ i) (h : i < l.length) : (l.take (i + 1)).drop g = (l.take i).drop g ++ [l[i]] := by
 rw [List.take_add_one, List.getElem?_eq_getElem h, List.drop_append_of_le_length (by rw [List.length_take]; omega)]; rfl
theorem zh2 (h : Hd) : (zaG h).length ≤ h.path.steps.length + h.over.length := by
 unfold zaG
 rw [List.length_append, List.length_map, List.length_drop]
 split <;> simp <;> omega
theorem zfV (h : Hd) (hl : h.len) : C f_lockbarref17_Sections [h.av] (ints (zaG h)) := by
 obtain ⟨h1, h2, h3⟩ := hl
 refine ctr h.cells run_lockbarref17_Sections rfl (by simp) (by simp) ?_ rfl
 unfold rt_lockbarref17_Sections
 simp [Hd.cells]
 obtain ⟨g, hg⟩ : ∃ g : Nat, g = h.gone.toNat := ⟨_, rfl⟩
 refine zac rfl (fun vs => ∃ i : Nat, g ≤ i ∧ vs = [ints (((h.path.steps.take i).drop g).map (·.s)), I i]) (fun vs => match vs with | [_, .int _ j] => h.path.steps.length - j.toNat | _ => 0) ⟨g, by omega, by simp; omega⟩ ?_
 rintro vs - ⟨i, hgi, rfl⟩
 simp
 refine ⟨fun hlt => ?_, fun hge => ?_⟩
 ·have hw := zad (i := i) (by omega)
  have := zdA h.path.steps hgi hlt
  simp [hlt, Step.cells, hw]
  refine ⟨by omega, ⟨i + 1, by omega, ?_, by omega⟩, by omega⟩
  have e := congrArg (List.map (I ∘ fun x : Step => x.s)) this
  simp at e
  exact e.symm
 ·have ht : (h.path.steps.map (fun x => x.s)).take i = h.path.steps.map (fun x => x.s) := List.take_of_length_le (by simp; omega)
  rw [ht]
  refine zac rfl (fun vs => ∃ k : Nat, k ≤ h.over.length ∧ (h.opn = true → k = 0) ∧ vs = [ints ((h.path.steps.drop g).map (·.s) ++ (h.over.take k).map (·.s)), I k]) (fun vs => match vs with | [_, .int _ j] => h.over.length - j.toNat | _ => 0) ⟨0, by omega, by simp, by simp⟩ ?_
  rintro vs - ⟨k, hk, hko, rfl⟩
  simp
  cases ho : h.opn
  ·simp
   refine ⟨fun hlt => ?_, fun hge => ?_⟩
   ·have hw := zad (i := k) (by omega)
    have hmt := map_take (I ∘ fun x : Step => x.s) h.over hlt
    simp [hlt, Step.cells, hw]
    refine ⟨by omega, ⟨k + 1, by omega, ?_, by omega⟩, by omega⟩
    simpa using hmt.symm
   ·have : h.over.take k = h.over := List.take_of_length_le (by omega)
    simp [zaG, ho, this, hg]
    rw [List.take_of_length_le (by simpa using hge)]
  ·simp [zaG, ho, hg, hko ho]
theorem znE (h : Hd) (hl : h.len) (s : Int) : C f_lockbarref17_Has [h.av, I s] (.bool (decide (s ∈ zaG h))) := by
 have hl' := hl
 obtain ⟨h1, h2, h3⟩ := hl
 have hsl := zh2 h
 refine ctr (h.cells ++ [I s]) run_lockbarref17_Has rfl (by simp [zaf, AV.pureAll, AV.pure]) rfl ?_ rfl
 unfold rt_lockbarref17_Has
 simp [Hd.cells]
 refine call (zfV h hl') (by simp [Hd.cells]) (by simp) ?_
 simp
 refine zac rfl (fun vs => ∃ i : Nat, i ≤ (zaG h).length ∧ vs = [I i] ∧ zar (fun x => decide (x = s)) ((zaG h).take i)) (fun vs => match vs with | [.int _ j] => (zaG h).length - j.toNat | _ => 0) ⟨0, by simp, by simp, rfl⟩ ?_
 rintro vs - ⟨i, hik, rfl, hq⟩
 simp
 refine ⟨fun hlt => ?_, fun hge => ?_⟩
 ·have hw := zad (i := i) (by omega)
  simp [hlt, hw]
  by_cases he : (zaG h)[i] = s
  ·right
   exact ⟨he, he ▸ List.getElem_mem hlt⟩
  ·left
   exact ⟨he, ⟨i + 1, by omega, by omega, zao hlt hq (by simpa using he)⟩, by omega⟩
 ·have : (zaG h).take i = zaG h := List.take_of_length_le (by omega)
  rw [this] at hq
  unfold zar at hq
  simp at hq
  exact fun hm => hq s hm rfl
end Go.Lb.LK
