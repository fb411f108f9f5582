/- The data of the program, and as pure values. -/
import Derived.Test.YtbofccnennefnaaGreatDoorFw11
import Derived.Test.YtbofccnennefnaaGreatDoorCh1
import Derived.Test.YtbofccnennefnaaGreatDoorCh4
set_option linter.unusedSimpArgs false
set_option linter.unusedVariables false
namespace Go.Lb.LK
open Go Go.Lb
structure Port where
 s : Int
 p : Int
 deriving DecidableEq
def Port.cells (x : Port) : List AV := [I x.s, I x.p]
abbrev Port.av (x : Port) : AV := .agg x.cells
structure Sec where
 kind : Int
 j0 : Port
 j1 : Port
 j2 : Port
 j3 : Port
 c0 : Int
 c1 : Int
 deriving DecidableEq
def Sec.cells (x : Sec) : List AV := [U x.kind, I x.j0.s, I x.j0.p, I x.j1.s, I x.j1.p, I x.j2.s, I x.j2.p, I x.j3.s, I x.j3.p, I x.c0, I x.c1]
abbrev Sec.av (x : Sec) : AV := .agg x.cells
structure Step where
 s : Int
 i : Int
 o : Int
 deriving DecidableEq
def Step.cells (x : Step) : List AV := [I x.s, I x.i, I x.o]
abbrev Step.av (x : Step) : AV := .agg x.cells
structure Exi where
 a : Port
 over : List Step
 deriving DecidableEq
def Exi.cells (x : Exi) : List AV := [I x.a.s, I x.a.p, .sl (x.over.map Step.av)]
abbrev Exi.av (x : Exi) : AV := .agg x.cells
structure Flank where
 s : Int
 way : Int
 point : Int
 pos : Int
 deriving DecidableEq
def Flank.cells (x : Flank) : List AV := [I x.s, I x.way, I x.point, I x.pos]
abbrev Flank.av (x : Flank) : AV := .agg x.cells
structure Lay where
 secs : List Sec
 sigs : List Port
 exits : List Exi
 flanks : List Flank
 clear : Int
 drive : Int
 stale : Int
 approach : Int
 over : Int
 press : Int
 link : Int
 deriving DecidableEq
def Lay.cells (l : Lay) : List AV := [.sl (l.secs.map Sec.av), .sl (l.sigs.map Port.av), .sl (l.exits.map Exi.av), .sl (l.flanks.map Flank.av), I l.clear, I l.drive, I l.stale, I l.approach, I l.over, I l.press, I l.link]
abbrev Lay.av (l : Lay) : AV := .agg l.cells
structure Path where
 sig : Int
 exit : Int
 steps : List Step
 deriving DecidableEq
def Path.cells (x : Path) : List AV := [I x.sig, I x.exit, .sl (x.steps.map Step.av)]
abbrev Path.av (x : Path) : AV := .agg x.cells
structure Need where
 p : Int
 pos : Int
 k : Int
 deriving DecidableEq
def Need.cells (x : Need) : List AV := [I x.p, I x.pos, I x.k]
abbrev Need.av (x : Need) : AV := .agg x.cells
abbrev needs (l : List Need) : AV := .sl (l.map Need.av)
abbrev steps (l : List Step) : AV := .sl (l.map Step.av)
@[simp] theorem Port.pure (x : Port) : AV.pureAll x.cells = true := by simp [Port.cells, AV.pureAll, AV.pure]
@[simp] theorem Sec.pure (x : Sec) : AV.pureAll x.cells = true := by simp [Sec.cells, AV.pureAll, AV.pure]
@[simp] theorem Step.pure (x : Step) : AV.pureAll x.cells = true := by simp [Step.cells, AV.pureAll, AV.pure]
@[simp] theorem znk (l : List Step) : AV.pureAll (l.map Step.av) = true := zaV _ (fun x => by simp [AV.pure]) l
@[simp] theorem Exi.pure (x : Exi) : AV.pureAll x.cells = true := by simp [Exi.cells, AV.pureAll, AV.pure]
@[simp] theorem Flank.pure (x : Flank) : AV.pureAll x.cells = true := by simp [Flank.cells, AV.pureAll, AV.pure]
@[simp] theorem Path.pure (x : Path) : AV.pureAll x.cells = true := by simp [Path.cells, AV.pureAll, AV.pure]
@[simp] theorem Need.pure (x : Need) : AV.pureAll x.cells = true := by simp [Need.cells, AV.pureAll, AV.pure]
@[simp] theorem zm6 (l : List Need) : AV.pureAll (l.map Need.av) = true := zaV _ (fun x => by simp [AV.pure]) l
@[simp] theorem Lay.pure (l : Lay) : AV.pureAll l.cells = true := by
 simp [Lay.cells, AV.pureAll, AV.pure, zaV Sec.av (fun x => by simp [AV.pure]), zaV Port.av (fun x => by simp [AV.pure]), zaV Exi.av (fun x => by simp [AV.pure]), zaV Flank.av (fun x => by simp [AV.pure])]
def iT : TS := .int .i64
def zjH : TS := .agg [iT, iT]
def secT : TS := .agg [.int .u8, .agg [zjH, zjH, zjH, zjH], .agg [iT, iT]]
def sigT : TS := .agg [zjH]
def zoD : TS := .agg [iT, iT, iT]
def zp4 : TS := .agg [zjH, .sl true zoD]
def zn4 : TS := .agg [iT, iT, iT, iT]
def zpJ : TS := .agg [iT, iT, iT, iT, iT, iT, iT]
def layT : TS := .agg [.sl true secT, .sl true sigT, .sl true zp4, .sl true zn4, zpJ]
def znc : TS := .agg [iT, iT, .sl true zoD]
def zqk : TS := .agg [iT, iT, iT]
theorem zrM {cs : List AV} (h : secT.fits cs) : ∃ s : Sec, AV.agg cs = s.av ∧ 0 ≤ s.kind ∧ s.kind ≤ 255 := by
 simp only [secT, zjH, iT, zbN, zaS, zaR, zaT, List.append_nil, List.cons_append, List.nil_append] at h
 obtain ⟨m, q, rfl, hm, a0, q, rfl, _, a1, q, rfl, _, a2, q, rfl, _, a3, q, rfl, _, a4, q, rfl, _, a5, q, rfl, _, a6, q, rfl, _, a7, q, rfl, _, a8, q, rfl, _, a9, q, rfl, _, rfl⟩ := h
 exact ⟨⟨m, ⟨a0, a1⟩, ⟨a2, a3⟩, ⟨a4, a5⟩, ⟨a6, a7⟩, a8, a9⟩, rfl, by simpa using hm⟩
theorem zrN {cs : List AV} (h : sigT.fits cs) : ∃ s : Port, AV.agg cs = s.av := by
 simp only [sigT, zjH, iT, zbN, zaS, zaR, zbE, zaT, List.append_nil, List.cons_append, List.nil_append] at h
 obtain ⟨a0, q, rfl, _, a1, q, rfl, _, rfl⟩ := h
 exact ⟨⟨a0, a1⟩, rfl⟩
theorem zjT {cs : List AV} (h : zoD.fits cs) : ∃ s : Step, AV.agg cs = s.av := by
 simp only [zoD, iT, zbN, zaS, zaR, zbE, zaT, List.append_nil, List.cons_append, List.nil_append] at h
 obtain ⟨a0, q, rfl, _, a1, q, rfl, _, a2, q, rfl, _, rfl⟩ := h
 exact ⟨⟨a0, a1, a2⟩, rfl⟩
theorem zo5 {cs : List AV} (h : zn4.fits cs) : ∃ s : Flank, AV.agg cs = s.av := by
 simp only [zn4, iT, zbN, zaS, zaR, zbE, zaT, List.append_nil, List.cons_append, List.nil_append] at h
 obtain ⟨a0, q, rfl, _, a1, q, rfl, _, a2, q, rfl, _, a3, q, rfl, _, rfl⟩ := h
 exact ⟨⟨a0, a1, a2, a3⟩, rfl⟩
theorem zql {cs : List AV} (h : zqk.fits cs) : ∃ s : Need, AV.agg cs = s.av := by
 simp only [zqk, iT, zbN, zaS, zaR, zbE, zaT, List.append_nil, List.cons_append, List.nil_append] at h
 obtain ⟨a0, q, rfl, _, a1, q, rfl, _, a2, q, rfl, _, rfl⟩ := h
 exact ⟨⟨a0, a1, a2⟩, rfl⟩
theorem zp5 {cs : List AV} (h : zp4.fits cs) : ∃ s : Exi, AV.agg cs = s.av := by
 simp only [zp4, zjH, iT, zbN, zaS, zaR, zbE, zaT, List.append_nil, List.cons_append, List.nil_append] at h
 obtain ⟨a0, q, rfl, _, a1, q, rfl, _, es, q, rfl, hs, rfl⟩ := h
 obtain ⟨ov, rfl⟩ := zfL (g := Step.av) (fun cs h => zjT h) es hs.2
 exact ⟨⟨⟨a0, a1⟩, ov⟩, rfl⟩
def Lay.ok (l : Lay) : Prop := ∀ s ∈ l.secs, 0 ≤ s.kind ∧ s.kind ≤ 255
theorem zrp {cs : List AV} (h : layT.fits cs) : ∃ l : Lay, AV.agg cs = l.av ∧ l.ok := by
 simp only [layT, zpJ, iT, zbN, zaS, zaR, zbE, zaT, List.append_nil, List.cons_append, List.nil_append] at h
 obtain ⟨s1, q, rfl, h1, s2, q, rfl, h2, s3, q, rfl, h3, s4, q, rfl, h4, a0, q, rfl, _, a1, q, rfl, _, a2, q, rfl, _, a3, q, rfl, _, a4, q, rfl, _, a5, q, rfl, _, a6, q, rfl, _, rfl⟩ := h
 obtain ⟨secs, rfl, hs⟩ := zlY (g := Sec.av) (Q := fun s => 0 ≤ s.kind ∧ s.kind ≤ 255) (fun cs h => zrM h) s1 h1.2
 obtain ⟨sigs, rfl⟩ := zfL (g := Port.av) (fun cs h => zrN h) s2 h2.2
 obtain ⟨exits, rfl⟩ := zfL (g := Exi.av) (fun cs h => zp5 h) s3 h3.2
 obtain ⟨fls, rfl⟩ := zfL (g := Flank.av) (fun cs h => zo5 h) s4 h4.2
 exact ⟨⟨secs, sigs, exits, fls, a0, a1, a2, a3, a4, a5, a6⟩, rfl, hs⟩
theorem zqq {cs : List AV} (h : znc.fits cs) : ∃ l : Path, AV.agg cs = l.av := by
 simp only [znc, iT, zbN, zaS, zaR, zbE, zaT, List.append_nil, List.cons_append, List.nil_append] at h
 obtain ⟨a0, q, rfl, _, a1, q, rfl, _, es, q, rfl, hs, rfl⟩ := h
 obtain ⟨ov, rfl⟩ := zfL (g := Step.av) (fun cs h => zjT h) es hs.2
 exact ⟨⟨a0, a1, ov⟩, rfl⟩
theorem zqg {x : AV} (h : layT.fits x.cells) (h2 : zgO true x) : ∃ l : Lay, x = l.av ∧ l.ok := by
 obtain ⟨cs, rfl⟩ := h2.1 rfl
 exact zrp h
theorem zpp {x : AV} (h : znc.fits x.cells) (h2 : zgO true x) : ∃ l : Path, x = l.av := by
 obtain ⟨cs, rfl⟩ := h2.1 rfl
 exact zqq h
theorem zof {x : AV} (h : iT.fits x.cells) (h2 : zgO false x) : ∃ n, x = I n := by
 obtain ⟨n, h1, _⟩ := zjq.1 h
 have : x = I n := by
  cases x <;> simp_all [AV.cells, zgO]
 exact ⟨n, this⟩
end Go.Lb.LK
namespace Go.Lb.LK
open Go Go.Lb
abbrev W (n : Int) : AV := .int .u32 n
abbrev B (b : Bool) : AV := .bool b
structure Img where
 age : Int
 free : Nat → Int
 occ : Int
 nor : Int
 rev : Int
 lamp : Int
def Img.cells (x : Img) : List AV := [I x.age, I (x.free 0), I (x.free 1), I (x.free 2), I (x.free 3), I (x.free 4), I (x.free 5), I (x.free 6), I (x.free 7), I (x.free 8), I (x.free 9), I (x.free 10), I (x.free 11), I (x.free 12), I (x.free 13), I (x.free 14), I (x.free 15), I (x.free 16), I (x.free 17), I (x.free 18), I (x.free 19), I (x.free 20), I (x.free 21), I (x.free 22), I (x.free 23), W x.occ, W x.nor, W x.rev, W x.lamp]
abbrev Img.av (x : Img) : AV := .agg x.cells
def Img.ok (x : Img) : Prop := (0 ≤ x.occ ∧ x.occ ≤ 4294967295) ∧ (0 ≤ x.nor ∧ x.nor ≤ 4294967295) ∧ (0 ≤ x.rev ∧ x.rev ≤ 4294967295) ∧ (0 ≤ x.lamp ∧ x.lamp ≤ 4294967295)
structure Hd where
 id : Int
 path : Path
 over : List Step
 needs : List Need
 stage : Int
 gone : Int
 was : Nat → Bool
 opn : Bool
 timer : Int
 shown : Bool
def Hd.cells (x : Hd) : List AV := [I x.id, I x.path.sig, I x.path.exit, steps x.path.steps, steps x.over, Go.Lb.LK.needs x.needs, U x.stage, I x.gone, .bool (x.was 0), .bool (x.was 1), .bool (x.was 2), .bool (x.was 3), .bool (x.was 4), .bool (x.was 5), .bool (x.was 6), .bool (x.was 7), .bool (x.was 8), .bool (x.was 9), .bool (x.was 10), .bool (x.was 11), .bool x.opn, I x.timer, .bool x.shown]
abbrev Hd.av (x : Hd) : AV := .agg x.cells
@[simp] theorem Img.pure (x : Img) : AV.pureAll x.cells = true := by simp [Img.cells, AV.pureAll, AV.pure]
@[simp] theorem Hd.pure (x : Hd) : AV.pureAll x.cells = true := by simp [Hd.cells, AV.pureAll, AV.pure]
@[simp] theorem zqX (b len n j : Nat) (k : IntKind) (u v : AV) : pv (.cellset b len 1 0 1 j) [.int k (n : Nat), u, .agg [v]] = if j = b + n then v else u := by
 simp only [pv, AV.cells, Int.toNat_natCast, Nat.mul_one, Nat.add_zero]
 by_cases h : j = b + n
 ·subst h; simp
 ·have : ¬ (b + n ≤ j ∧ j < b + n + 1) := by omega
  simp [this, h]
@[simp] theorem zqs (b len n j : Nat) (k : IntKind) (i : Int) (u v : AV) : pok (.cellset b len 1 0 n j) [.int k i, u, v] = (0 ≤ i ∧ i < len ∧ v.cells.length = n ∧ AV.ones v.cells = true ∧ j < b + len * 1 ∧ 0 + n ≤ 1) := rfl
theorem zo9 (x : Img) {i : Nat} (h : i < 24) (d : AV) : x.cells.getD (i + 1) d = I (x.free i) := by
 match i, h with
 | 0, _ => rfl
 | 1, _ => rfl
 | 2, _ => rfl
 | 3, _ => rfl
 | 4, _ => rfl
 | 5, _ => rfl
 | 6, _ => rfl
 | 7, _ => rfl
 | 8, _ => rfl
 | 9, _ => rfl
 | 10, _ => rfl
 | 11, _ => rfl
 | 12, _ => rfl
 | 13, _ => rfl
 | 14, _ => rfl
 | 15, _ => rfl
 | 16, _ => rfl
 | 17, _ => rfl
 | 18, _ => rfl
 | 19, _ => rfl
 | 20, _ => rfl
 | 21, _ => rfl
 | 22, _ => rfl
 | 23, _ => rfl
 | n + 24, h => exact absurd h (by omega)
theorem zqG (x : Hd) {i : Nat} (h : i < 12) (d : AV) : x.cells.getD (i + 8) d = .bool (x.was i) := by
 match i, h with
 | 0, _ => rfl
 | 1, _ => rfl
 | 2, _ => rfl
 | 3, _ => rfl
 | 4, _ => rfl
 | 5, _ => rfl
 | 6, _ => rfl
 | 7, _ => rfl
 | 8, _ => rfl
 | 9, _ => rfl
 | 10, _ => rfl
 | 11, _ => rfl
def ziT (w : Nat → Bool) : List AV := [.bool (w 0), .bool (w 1), .bool (w 2), .bool (w 3), .bool (w 4), .bool (w 5), .bool (w 6), .bool (w 7), .bool (w 8), .bool (w 9), .bool (w 10), .bool (w 11)]
theorem wget (w : Nat → Bool) {i : Nat} (h : i < 12) (d : AV) : (ziT w).getD i d = .bool (w i) := by
 match i, h with
 | 0, _ => rfl
 | 1, _ => rfl
 | 2, _ => rfl
 | 3, _ => rfl
 | 4, _ => rfl
 | 5, _ => rfl
 | 6, _ => rfl
 | 7, _ => rfl
 | 8, _ => rfl
 | 9, _ => rfl
 | 10, _ => rfl
 | 11, _ => rfl
def upd {α : Type} (w : Nat → α) (k : Nat) (v : α) : Nat → α := fun j => if j = k then v else w j
def uT : TS := .int .u32
def inT : TS := .agg [uT, uT, uT, uT]
def imgT : TS := .agg [iT, .agg [iT, iT, iT, iT, iT, iT, iT, iT, iT, iT, iT, iT, iT, iT, iT, iT, iT, iT, iT, iT, iT, iT, iT, iT], inT]
def zp8 : TS := .agg [iT, znc, .sl true zoD, .sl true zqk, .int .u8, iT, .agg [.bool, .bool, .bool, .bool, .bool, .bool, .bool, .bool, .bool, .bool, .bool, .bool], .bool, iT, .bool]
end Go.Lb.LK
namespace Go.Lb.LK
open Go Go.Lb
theorem delOk : ∀ f, 0 < E.del f → zpM E.P f (E.del f) := fun f h => by simp [E] at h
end Go.Lb.LK
namespace Go.Lb.LK
open Go Go.Lb Go.Proofs Go.RowKit
theorem zf2 {P : Program} {f : FuncId} {avs : List AV} {vs : List Value} {r : AV} {v : Value} (hr : r.pure = true) (ha : ∀ c us, Rvs c avs us → us = vs) (hv : ∀ c, Rv c r v) (h : ∀ w, Calls P f ⟨vs⟩ w fun e w' => e = .returned v ∧ w' = w) : zbC P [] f avs r := by
 refine ⟨hr, fun w c us _ him _ hvs => ?_⟩
 rw [ha c us hvs]
 refine (h w).mono ?_
 rintro e w' ⟨rfl, rfl⟩
 exact ⟨v, c, rfl, Cx.Le.refl c, by assumption, him, fun _ _ => ⟨fun _ _ h => h, fun _ h => h⟩, hv c, Below.refl _ _⟩
theorem EOkS : EnvOk ES := ⟨fun f h => by simp [ES] at h, fun f h => by simp [ES] at h, fun f h => by simp [ES] at h, fun g es h => by simp [ES] at h⟩
theorem bits0 : zbC PR [] f_mathbits_Len [.int .u64 0] (.int .i64 0) := by
 refine zf2 (vs := [.int .u64 0]) (v := .int .i64 0) rfl (fun c us h => ?_) (fun c => .int _ _) (fun w => Tryz.bits_Len 0 w (by omega) (by omega))
 cases h with
 | cons _ v _ vs h1 h2 => cases h1; cases h2; rfl
theorem sort0 : zbC PR [] f_slices_Sort_int [.sl []] (.tup []) := by
 refine zhs EOkS EmixS [] run_slices_Sort_int rfl rfl rfl ?_ rfl
 unfold rt_slices_Sort_int
 refine zl6.2 ⟨fun _ => by simp, ?_⟩
 refine zl7.2 (zl6.2 ⟨fun _ => by simp, zl7.2 ?_⟩)
 refine zew (r := .int .i64 0) bits0 (by simp) ?_
 simp
 refine zaa rfl (fun vs => vs = []) (fun _ => 0) rfl ?_
 rintro vs - rfl
 simp
 refine zaa rfl (fun vs => vs = []) (fun _ => 0) rfl ?_
 rintro vs - rfl
 simp
theorem srtOk : zpP PR f_slices_Sort_int := ⟨fun blk off cap zs w h1 h2 h3 => Tryz.slices_Sort_int blk off cap zs w h1 h2 h3, sort0⟩
theorem cptOk : zpL PR f_slices_Compact_int := ⟨fun blk off cap zs w h1 h2 h3 => Tryz.slices_Compact_int blk off cap zs w h1 h2 h3, fun a cap w => Tryz.slices_Compact_int_empty a cap w⟩
theorem EOk : EnvOk E := by
 refine ⟨fun f h => ?_, fun f h => ?_, delOk, fun g es h => ?_⟩
 ·have : f = f_slices_Compact_int := by simpa [E, cptF] using h
  rw [this]; exact cptOk
 ·have : f = f_slices_Sort_int := by simpa [E, srtF] using h
  rw [this]; exact srtOk
 ·have hall : (GL.all fun es => SE.wfs 0 (fun _ => false) es) = true := by kernel_rfl
  have hm : es ∈ GL := by
   have h : GL[g]? = some es := h
   exact List.mem_of_getElem? h
  exact List.all_eq_true.1 hall es hm
abbrev C (f : Nat) (avs : List AV) (r : AV) : Prop := zbC PR GL f avs r
theorem ctr {f n : Nat} {args : List SE} (vs : List AV) {rt : RT} (hrun : runF E f args n = rt) (hw : SE.wfs n (fun _ => false) args = true)
  (hp : AV.pureAll vs = true) {r : AV} (hr : r.pure = true) (h : RTwp PR GL (fun x => x = r) rt (fun _ _ => False) (zaL vs)) {avs : List AV} (ha : dens (zaL vs) args = avs) : C f avs r :=
 zhs EOk Emix vs hrun hw hp hr h ha
theorem zcX {α : Type} (p : α → Bool) (l : List α) {i : Nat} (h : i < l.length) : (l.take (i + 1)).filter p = (l.take i).filter p ++ (if p l[i] = true then [l[i]] else []) := by
 rw [List.take_add_one, List.getElem?_eq_getElem h, List.filter_append]
 congr 1
 simp only [Option.toList_some, List.filter_cons, List.filter_nil]
theorem zed {α : Type} (p : α → Bool) (l : List α) (i : Nat) : ((l.take i).filter p).length ≤ l.length := by
 have := List.length_filter_le p (l.take i)
 have : (l.take i).length ≤ l.length := by simp; omega
 omega
theorem zdd {α β : Type} (f : α → List β) (l : List α) {i : Nat} (h : i < l.length) : (l.take (i + 1)).flatMap f = (l.take i).flatMap f ++ f l[i] := by
 rw [List.take_add_one, List.getElem?_eq_getElem h, List.flatMap_append]
 simp
theorem map_take {α β : Type} (f : α → β) (l : List α) {i : Nat} (h : i < l.length) : (l.take (i + 1)).map f = (l.take i).map f ++ [f l[i]] := by
 rw [List.take_add_one, List.getElem?_eq_getElem h, List.map_append]
 simp
@[simp] theorem zqO (c : Prop) [Decidable c] (a b : Bool) : (if c then AV.bool a else AV.bool b) = AV.bool (if c then a else b) := by split <;> rfl
@[simp] theorem zrl (c : Prop) [Decidable c] (k : IntKind) (a b : Int) : (if c then AV.int k a else AV.int k b) = AV.int k (if c then a else b) := by split <;> rfl
theorem call {ρ : Nat → AV} {R : AV → Prop} {L : Nat → List AV → Prop} {n f : Nat} {args : List SE} {bo : Bool} {ns : List Nd} {k : RT} {r : AV} {avs : List AV} (hc : C f avs r) (ha : dens ρ args = avs) (hb : bo = true → r.scalar = true)
  (h : RTwp PR GL R (.seg ns k) L (zaZ ρ n r)) : RTwp PR GL R (.seg (.call n [] f args bo :: ns) k) L ρ := zew (by rw [ha]; exact hc) hb h
theorem zaj {ρ : Nat → AV} {R : AV → Prop} {L : Nat → List AV → Prop} {pcs : List (SE × Bool)} {n f : Nat} {args : List SE} {bo : Bool} {ns : List Nd} {k : RT} {avs : List AV} (r : AV) (hr : r.pure = true) (hc : Holds ρ pcs → dens ρ args = avs ∧ C f avs r) (hb : bo = true → r.scalar = true)
  (h : RTwp PR GL R (.seg ns k) L (zaZ ρ n r)) : RTwp PR GL R (.seg (.call n pcs f args bo :: ns) k) L ρ := zj0 r hr (fun hp => ⟨by rw [(hc hp).1]; exact (hc hp).2, hb⟩) h
end Go.Lb.LK
namespace Go.Lb.LK
open Go Go.Lb Go.Proofs Go.RowKit
def stale (l : Lay) (im : Img) : Bool := decide (l.stale < im.age)
def zcp (x n : Int) : Bool := decide (0 ≤ n) && (decide (n < 32) && x.toNat.testBit n.toNat)
theorem zoM {n : Int} (h0 : 0 ≤ n) (h1 : n ≤ 4294967295) : IntKind.u32.wrap n = n := by
 simp only [IntKind.wrap, IntKind.signed, IntKind.bits]
 simp
 omega
theorem zqF {n : Int} (h0 : 0 ≤ n) (h1 : n ≤ 4294967295) : IntKind.u64.wrap n = n := by
 simp only [IntKind.wrap, IntKind.signed, IntKind.bits]
 simp
 omega
theorem zrC (n : Nat) : (2 : Int) ^ n = ((2 ^ n : Nat) : Int) := by simp
theorem zpT (x n : Nat) : (((x &&& 2 ^ n : Nat) : Int) != 0) = x.testBit n := by
 cases h : x.testBit n
 ·have : x &&& 2 ^ n = 0 := by
   apply Nat.eq_of_testBit_eq
   intro i
   rw [Nat.testBit_and, Nat.testBit_two_pow, Nat.zero_testBit]
   by_cases hi : n = i
   ·subst hi; simp [h]
   ·simp [hi]
  rw [this]; rfl
 ·have : x &&& 2 ^ n ≠ 0 := by
   intro h0
   have := congrArg (Nat.testBit · n) h0
   simp [Nat.testBit_and, h] at this
  simpa using this
theorem g1 (x n : Nat) (hx : x ≤ 4294967295) (hn : n < 32) : (IntKind.u32.wrap ((x % 2 ^ IntKind.u32.bits &&& (IntKind.u32.wrap (2 ^ min n IntKind.u32.bits) % 2 ^ IntKind.u32.bits).toNat : Nat) : Int) != 0) = x.testBit n := by
 have hb : IntKind.u32.bits = 32 := rfl
 have h2 : 2 ^ n ≤ 2 ^ 31 := Nat.pow_le_pow_right (by omega) (by omega)
 have h1 : min n 32 = n := by omega
 have h4 : 2 ^ n ≤ 4294967295 := by omega
 generalize hp : 2 ^ n = p at h4
 rw [hb, h1, zrC, hp, zoM (n := (p : Int)) (by omega) (by omega)]
 have e1 : ((p : Int) % 2 ^ 32).toNat = p := by omega
 have e2 : x % 2 ^ 32 = x := by omega
 have e3 : x &&& p ≤ x := Nat.and_le_left
 rw [e1, e2, zoM (by omega) (by omega), ← hp]
 exact zpT x n
theorem g2 (x n : Nat) (hx : x ≤ 4294967295) (hn : n < 32) : (IntKind.u32.wrap ((((x : Int).fdiv (2 ^ min n IntKind.u32.bits) % 2 ^ IntKind.u32.bits).toNat &&& 1 % 2 ^ IntKind.u32.bits : Nat) : Int) == 1) = x.testBit n := by
 have hb : IntKind.u32.bits = 32 := rfl
 have h1 : min n 32 = n := by omega
 have e4 : Int.fdiv (x : Int) (2 ^ n) = ((x / 2 ^ n : Nat) : Int) := by
  rw [zrC]
  exact (Int.ofNat_fdiv x (2 ^ n)).symm
 have h6 : x / 2 ^ n ≤ x := Nat.div_le_self _ _
 rw [hb, h1, e4]
 have e1 : (((x / 2 ^ n : Nat) : Int) % 2 ^ 32).toNat = x / 2 ^ n := by generalize x / 2 ^ n = q at h6; omega
 have e2 : 1 % 2 ^ 32 = 1 := rfl
 rw [e1, e2, Nat.and_one_is_mod, Nat.testBit_eq_decide_div_mod_eq]
 have := Nat.mod_two_eq_zero_or_one (x / 2 ^ n)
 rcases this with h | h <;> simp [h] <;> decide
theorem zpV (x : Int) : C f_image_bit [W x] (.clo f_image_bit_1 [] [.ref [W x] 0]) := by
 refine ctr [W x] run_image_bit rfl rfl rfl ?_ rfl
 unfold rt_image_bit
 simp
theorem znx (x n : Int) (h0 : 0 ≤ x) (h1 : x ≤ 4294967295) : C f_image_bit_1 [I n, .ref [W x] 0] (.bool (zcp x n)) := by
 refine ctr [I n, W x] run_image_bit_1 rfl rfl rfl ?_ rfl
 unfold rt_image_bit_1
 obtain ⟨x, rfl⟩ : ∃ k : Nat, x = k := ⟨x.toNat, by omega⟩
 by_cases hn : 0 ≤ n
 ·obtain ⟨n, rfl⟩ : ∃ k : Nat, n = k := ⟨n.toNat, by omega⟩
  by_cases hn2 : n < 32
  ·have h3 : ((n : Nat) : Int) < 32 := by omega
   simp [zcp, h3]
   exact g1 x n (by omega) hn2
  ·have h3 : ¬ ((n : Nat) : Int) < 32 := by omega
   simp [zcp, h3]
 ·have h3 : ¬ (n ≥ 0) := by omega
  simp [zcp, hn, h3]
theorem zg4 (x n : Int) (h0 : 0 ≤ x) (h1 : x ≤ 4294967295) : C f_lockbarref15_bit [W x, I n] (.bool (zcp x n)) := by
 refine ctr [W x, I n] run_lockbarref15_bit rfl rfl rfl ?_ rfl
 unfold rt_lockbarref15_bit
 obtain ⟨x, rfl⟩ : ∃ k : Nat, x = k := ⟨x.toNat, by omega⟩
 by_cases hn : 0 ≤ n
 ·obtain ⟨n, rfl⟩ : ∃ k : Nat, n = k := ⟨n.toNat, by omega⟩
  by_cases hn2 : n < 32
  ·have h3 : ((n : Nat) : Int) < 32 := by omega
   have e1 : IntKind.u64.wrap (n : Int) = n := zqF (by omega) (by omega)
   simp [zcp, h3, e1]
   exact g2 x n (by omega) hn2
  ·have h3 : ¬ ((n : Nat) : Int) < 32 := by omega
   simp [zcp, h3]
 ·have h3 : ¬ (n ≥ 0) := by omega
  simp [zcp, hn, h3]
end Go.Lb.LK
namespace Go.Lb.LK
open Go Go.Lb Go.Proofs Go.RowKit
theorem zlz (a t : Int) : C f_tick_Late [I a, I t] (.bool (decide (t < a))) := by
 refine ctr [I a, I t] run_tick_Late rfl rfl rfl ?_ rfl
 unfold rt_tick_Late
 simp
theorem znz (a t : Int) : C f_lockbarref03_Late [I a, I t] (.bool (decide (t < a))) := by
 refine ctr [I a, I t] run_lockbarref03_Late rfl rfl rfl ?_ rfl
 unfold rt_lockbarref03_Late
 simp
theorem li (l : Lay) (im : Img) : AV.pureAll (l.cells ++ im.cells) = true := by simp [zac]
theorem lii (l : Lay) (im : Img) (s : Int) : AV.pureAll (l.cells ++ im.cells ++ [I s]) = true := by simp [zac, AV.pureAll, AV.pure]
theorem zcK (l : Lay) (im : Img) : C f_image_Stale [l.av, im.av] (.bool (stale l im)) := by
 refine ctr (l.cells ++ im.cells) run_image_Stale rfl (li l im) rfl ?_ rfl
 unfold rt_image_Stale
 simp [Lay.cells, Img.cells]
 refine call (zlz im.age l.stale) (by simp) (by simp) ?_
 simp [stale]
theorem zdr (l : Lay) (im : Img) : C f_lockbarref15_Stale [l.av, im.av] (.bool (stale l im)) := by
 refine ctr (l.cells ++ im.cells) run_lockbarref15_Stale rfl (li l im) rfl ?_ rfl
 unfold rt_lockbarref15_Stale
 simp [Lay.cells, Img.cells]
 refine call (znz im.age l.stale) (by simp) (by simp) ?_
 simp [stale]
abbrev cloB (x : Int) : AV := .clo f_image_bit_1 [] [.ref [W x] 0]
theorem zi6 (l : Lay) (im : Img) : C f_image_clear [l.av, im.av] (.clo f_image_clear_1 [] [.ref [.bool (stale l im)] 0, .ref [cloB im.occ] 0]) := by
 refine ctr (l.cells ++ im.cells) run_image_clear rfl (li l im) rfl ?_ rfl
 unfold rt_image_clear
 simp [Lay.cells, Img.cells]
 refine call (zcK l im) (by simp [Lay.cells, Img.cells]) (by simp) ?_
 simp
 refine call (zpV im.occ) (by simp) (by simp) ?_
 simp
theorem zh7 (s occ : Int) (st : Bool) (h0 : 0 ≤ occ) (h1 : occ ≤ 4294967295) : C f_image_clear_1 [I s, .ref [.bool st] 0, .ref [cloB occ] 0] (.bool (!st && !zcp occ s)) := by
 refine ctr [I s, .bool st, W occ] run_image_clear_1 rfl rfl rfl ?_ rfl
 unfold rt_image_clear_1
 simp
 refine zaj (avs := [I s, .ref [W occ] 0]) (.bool (zcp occ s)) rfl (fun _ => ⟨by simp, znx occ s h0 h1⟩) (by simp) ?_
 cases st <;> simp
def zbO (l : Lay) (im : Img) (s : Int) : Bool := !decide (0 ≤ s ∧ s < l.secs.length ∧ s < 24) || (stale l im || (zcp im.occ s || decide (im.free s.toNat < l.clear)))
end Go.Lb.LK
namespace Go.Lb.LK
open Go Go.Lb Go.Proofs Go.RowKit
theorem zn7 (im : Img) (s : Int) (h0 : 0 ≤ s) (h1 : s < 24) : im.cells.getD (s.toNat * 1 + 1) .undef = I (im.free s.toNat) := by
 rw [Nat.mul_one]; exact zo9 im (by omega) _
theorem zf7 (im : Img) (s : Int) (h0 : 0 ≤ s) (h1 : s < 24) : (im.cells[s.toNat * 1 + 1]?).getD .undef = I (im.free s.toNat) := by
 rw [← List.getD_eq_getElem?_getD]; exact zn7 im s h0 h1
def atP (l : Lay) (im : Img) (p : Int) : Int :=
 if 0 ≤ p ∧ p < l.secs.length ∧ (l.secs[p.toNat]?.map (·.kind)) = some 2 ∧ stale l im = false then
  (if zcp im.nor p = zcp im.rev p then -1 else if zcp im.nor p = true then 0 else 1) else -1
theorem zgQ (l : Lay) (im : Img) (hi : im.ok) (s : Int) : C f_image_Occupied [l.av, im.av, I s] (.bool (zbO l im s)) := by
 refine ctr (l.cells ++ im.cells ++ [I s]) run_image_Occupied rfl (lii l im s) rfl ?_ rfl
 unfold rt_image_Occupied
 simp [Lay.cells, Img.cells]
 by_cases hr : 0 ≤ s ∧ s < l.secs.length ∧ s < 24
 ·have h1 : ¬ s < 0 := by omega
  have h2 : ¬ min (l.secs.length : Int) 24 ≤ s := by omega
  simp [h1, h2]
  intro _ _
  refine call (zi6 l im) (by simp [Lay.cells, Img.cells]) (by simp) ?_
  simp [stale]
  refine call (zh7 s im.occ (stale l im) hi.1.1 hi.1.2) (by simp [stale]) (by simp) ?_
  have hc := zf7 im s hr.1 hr.2.2
  simp only [Img.cells] at hc
  simp at hc
  simp [hc, zbO, hr]
  refine ⟨fun _ => by omega, ?_⟩
  cases stale l im <;> cases zcp im.occ s <;> simp
 ·have h1 : s < 0 ∨ min (l.secs.length : Int) 24 ≤ s := by omega
  rcases h1 with h1 | h1
  ·have h2 : ¬ 0 ≤ s := by omega
   simp [zbO, h1, h2]
  ·have h2 : 0 ≤ s := by omega
   have h3 : ¬ s < 0 := by omega
   have h5 : ¬ s < min (l.secs.length : Int) 24 := by omega
   simp [zbO, h1, h2, h3, h5]
   exact .inl (by omega)
theorem zjc (l : Lay) (im : Img) (hi : im.ok) (s : Int) : C f_lockbarref15_Occupied [l.av, im.av, I s] (.bool (zbO l im s)) := by
 refine ctr (l.cells ++ im.cells ++ [I s]) run_lockbarref15_Occupied rfl (lii l im s) rfl ?_ rfl
 unfold rt_lockbarref15_Occupied
 simp [Lay.cells, Img.cells]
 by_cases hr : 0 ≤ s ∧ s < l.secs.length ∧ s < 24
 ·have h1 : ¬ s < 0 := by omega
  have h2 : ¬ (l.secs.length : Int) ≤ s := by omega
  have h3 : ¬ 24 ≤ s := by omega
  simp [h1, h2, h3]
  intro _ _ _
  refine call (zdr l im) (by simp [Lay.cells, Img.cells]) (by simp) ?_
  simp
  refine zaj (avs := [W im.occ, I s]) (.bool (zcp im.occ s)) rfl (fun _ => ⟨by simp, zg4 im.occ s hi.1.1 hi.1.2⟩) (by simp) ?_
  have hc := zf7 im s hr.1 hr.2.2
  simp only [Img.cells] at hc
  simp at hc
  simp [hc, zbO, hr]
  refine ⟨?_, ?_⟩
  ·intros; omega
  ·cases stale l im <;> cases zcp im.occ s <;> simp
 ·have h1 : s < 0 ∨ (l.secs.length : Int) ≤ s ∨ 24 ≤ s := by omega
  by_cases h2 : s < 0
  ·have h0 : ¬ 0 ≤ s := by omega
   simp [zbO, h2, h0]
  ·by_cases h3 : (l.secs.length : Int) ≤ s
   ·simp [zbO, h2, h3]
    intros; omega
   ·have h4 : 24 ≤ s := by omega
    simp [zbO, h2, h3, h4]
    intros; omega
theorem zfV (l : Lay) (im : Img) (hi : im.ok) (p : Int) : C f_image_At [l.av, im.av, I p] (I (atP l im p)) := by
 refine ctr (l.cells ++ im.cells ++ [I p]) run_image_At rfl (lii l im p) rfl ?_ rfl
 unfold rt_image_At
 simp [Lay.cells, Img.cells]
 by_cases hr : 0 ≤ p ∧ p < l.secs.length
 ·obtain ⟨n, rfl⟩ : ∃ n : Nat, p = n := ⟨p.toNat, by omega⟩
  have hlt : n < l.secs.length := by omega
  have h1 : ¬ ((n : Nat) : Int) < 0 := by omega
  have h2 : ¬ (l.secs.length : Int) ≤ n := by omega
  simp [h1, h2, hlt, Sec.cells]
  refine zaj (avs := [l.av, im.av]) (.bool (stale l im)) rfl (fun _ => ⟨by simp [Lay.cells, Img.cells], zcK l im⟩) (by simp) ?_
  by_cases hk : (l.secs[n]).kind = 2
  ·simp [hk, hlt, Sec.cells]
   cases hs : stale l im
   ·simp
    refine ⟨fun h => absurd h (by omega), ?_⟩
    refine call (zpV im.nor) (by simp) (by simp) ?_
    simp
    refine call (znx im.nor n hi.2.1.1 hi.2.1.2) (by simp) (by simp) ?_
    simp
    refine call (zpV im.rev) (by simp) (by simp) ?_
    simp
    refine call (znx im.rev n hi.2.2.1.1 hi.2.2.1.2) (by simp) (by simp) ?_
    simp [atP, hlt, hk, hs]
    cases zcp im.nor n <;> cases zcp im.rev n <;> simp
   ·simp [atP, hs]
  ·simp [hk, hlt, Sec.cells, atP]
 ·have h3 : p < 0 ∨ (l.secs.length : Int) ≤ p := by omega
  have ha : atP l im p = -1 := by
   unfold atP; rw [if_neg (by omega)]
  rw [ha]
  rcases h3 with h3 | h3
  ·have h5 : ¬ 0 ≤ p := by omega
   simp [h3, h5]
   refine zaj (avs := [l.av, im.av]) (.bool (stale l im)) rfl (fun _ => ⟨by simp [Lay.cells, Img.cells], zcK l im⟩) (by simp) ?_
   simp [h3, h5]
  ·have h4 : ¬ p < 0 := by omega
   have h5 : ¬ p < l.secs.length := by omega
   simp [h3, h4, h5]
   refine zaj (avs := [l.av, im.av]) (.bool (stale l im)) rfl (fun _ => ⟨by simp [Lay.cells, Img.cells], zcK l im⟩) (by simp) ?_
   simp [h3, h4, h5]
theorem znF (l : Lay) (im : Img) (hi : im.ok) (p : Int) : C f_lockbarref15_At [l.av, im.av, I p] (I (atP l im p)) := by
 refine ctr (l.cells ++ im.cells ++ [I p]) run_lockbarref15_At rfl (lii l im p) rfl ?_ rfl
 unfold rt_lockbarref15_At
 simp [Lay.cells, Img.cells]
 by_cases hr : 0 ≤ p ∧ p < l.secs.length
 ·obtain ⟨n, rfl⟩ : ∃ n : Nat, p = n := ⟨p.toNat, by omega⟩
  have hlt : n < l.secs.length := by omega
  have h1 : ¬ ((n : Nat) : Int) < 0 := by omega
  have h2 : ¬ (l.secs.length : Int) ≤ n := by omega
  simp [h1, h2, hlt, Sec.cells]
  refine zaj (avs := [l.av, im.av]) (.bool (stale l im)) rfl (fun _ => ⟨by simp [Lay.cells, Img.cells], zdr l im⟩) (by simp) ?_
  by_cases hk : (l.secs[n]).kind = 2
  ·simp [hk, hlt, Sec.cells]
   cases hs : stale l im
   ·simp
    refine ⟨fun h => absurd h (by omega), ?_⟩
    refine call (zg4 im.nor n hi.2.1.1 hi.2.1.2) (by simp) (by simp) ?_
    simp
    refine call (zg4 im.rev n hi.2.2.1.1 hi.2.2.1.2) (by simp) (by simp) ?_
    simp [atP, hlt, hk, hs]
    cases zcp im.nor n <;> cases zcp im.rev n <;> simp
   ·simp [atP, hs]
  ·simp [hk, hlt, Sec.cells, atP]
 ·have h3 : p < 0 ∨ (l.secs.length : Int) ≤ p := by omega
  have ha : atP l im p = -1 := by
   unfold atP; rw [if_neg (by omega)]
  rw [ha]
  rcases h3 with h3 | h3
  ·have h5 : ¬ 0 ≤ p := by omega
   simp [h3, h5]
   refine zaj (avs := [l.av, im.av]) (.bool (stale l im)) rfl (fun _ => ⟨by simp [Lay.cells, Img.cells], zdr l im⟩) (by simp) ?_
   simp [h3, h5]
  ·have h4 : ¬ p < 0 := by omega
   have h5 : ¬ p < l.secs.length := by omega
   simp [h3, h4, h5]
   refine zaj (avs := [l.av, im.av]) (.bool (stale l im)) rfl (fun _ => ⟨by simp [Lay.cells, Img.cells], zdr l im⟩) (by simp) ?_
   simp [h3, h4, h5]
end Go.Lb.LK
namespace Go.Lb.LK
open Go Go.Lb Go.Proofs Go.RowKit
theorem zoi {α : Type} {c d : Prop} [Decidable c] [Decidable d] (h : c ↔ d) (x y : α) : (if c then x else y) = if d then x else y := by
 by_cases hc : c
 ·rw [if_pos hc, if_pos (h.1 hc)]
 ·rw [if_neg hc, if_neg (fun hd => hc (h.2 hd))]
def zis (n : Int) : Int := min (max n 0) 65535
def zrs (n k : Int) : Int := min (zis n + zis k) 65535
def rowT (b : Bool) (n : Int) : Int := if b = true then zrs n 1 else 0
theorem zlk (n t : Int) : C f_lockbarref03_within [I n, I t] (I (min (max n 0) t)) := by
 refine ctr [I n, I t] run_lockbarref03_within rfl rfl rfl ?_ rfl
 unfold rt_lockbarref03_within
 simp
theorem zii (n : Int) : C f_lockbarref03_Count [I n] (I (zis n)) := by
 refine ctr [I n] run_lockbarref03_Count rfl rfl rfl ?_ rfl
 unfold rt_lockbarref03_Count
 refine call (zlk n 65535) (by simp) (by simp) ?_
 simp [zis]
theorem znA (n k : Int) : C f_lockbarref03_More [I n, I k] (I (zrs n k)) := by
 refine ctr [I n, I k] run_lockbarref03_More rfl rfl rfl ?_ rfl
 unfold rt_lockbarref03_More
 refine call (zii n) (by simp) (by simp) ?_
 simp
 refine call (zii k) (by simp) (by simp) ?_
 simp
 rw [zbB (by simp only [zis]; omega) (by simp only [zis]; omega)]; rfl
theorem zoV (b : Bool) (n : Int) : C f_lockbarref03_Row [.bool b, I n] (I (rowT b n)) := by
 refine ctr [.bool b, I n] run_lockbarref03_Row rfl rfl rfl ?_ rfl
 unfold rt_lockbarref03_Row
 simp
 cases b
 ·simp [rowT]
 ·simp
  refine call (znA n 1) (by simp) (by simp) ?_
  simp [rowT]
def zgW : Img := ⟨65535, fun _ => 0, 0, 0, 0, 0⟩
theorem zpc : zgW.ok := by simp [Img.ok, zgW]
theorem zmb : C f_lockbarref15_New [] zgW.av := by
 refine ctr [] run_lockbarref15_New rfl rfl (by simp [AV.pure]) ?_ rfl
 unfold rt_lockbarref15_New
 simp [Img.cells, zgW]
def zdY (l : Lay) (im : Img) (m : Nat) : Img := { im with free := fun i => if i < m then rowT (!stale l im && !zcp im.occ i) (im.free i) else im.free i }
theorem znf (l : Lay) (im : Img) : zdY l im 0 = im := by simp [zdY]
theorem zne (l : Lay) (im : Img) (m j : Nat) : (zdY l im (m + 1)).free j = if j = m then rowT (!stale l im && !zcp im.occ m) (im.free m) else (zdY l im m).free j := by
 simp only [zdY]
 by_cases h : j = m
 ·subst h; simp
 ·by_cases h2 : j < m
  ·simp [h, h2, show j < m + 1 by omega]
  ·simp [h, h2, show ¬ j < m + 1 by omega]
theorem znj (l : Lay) (im : Img) (m : Nat) : stale l (zdY l im m) = stale l im := rfl
def zoH (l : Lay) (im : Img) (o n r p : Int) : Img := zdY l { im with age := 0, occ := o, nor := n, rev := r, lamp := p } 24
def zqc (f : Img) : List AV := [I (f.free 0), I (f.free 1), I (f.free 2), I (f.free 3), I (f.free 4), I (f.free 5), I (f.free 6), I (f.free 7), I (f.free 8), I (f.free 9), I (f.free 10), I (f.free 11), I (f.free 12), I (f.free 13), I (f.free 14), I (f.free 15), I (f.free 16), I (f.free 17), I (f.free 18), I (f.free 19), I (f.free 20), I (f.free 21), I (f.free 22), I (f.free 23)]
@[simp] theorem ite_I (c : Prop) [Decidable c] (a b : Int) : (if c then I a else I b) = I (if c then a else b) := by split <;> rfl
theorem znH (l : Lay) (im : Img) (hi : im.ok) : C f_lockbarref15_rows [l.av, im.av] (zdY l im 24).av := by
 refine ctr (l.cells ++ im.cells) run_lockbarref15_rows rfl (li l im) (by simp [AV.pure]) ?_ rfl
 unfold rt_lockbarref15_rows
 simp [Lay.cells, Img.cells]
 refine zaa rfl (fun vs => ∃ m : Nat, m ≤ 24 ∧ vs = I m :: zqc (zdY l im m)) (fun vs => match vs with | .int _ m :: _ => 24 - m.toNat | _ => 0) ⟨0, by omega, by simp [zqc, znf]⟩ ?_
 rintro vs - ⟨m, hm, rfl⟩
 simp [zqc]
 refine ⟨fun hlt => ?_, fun hge => ?_⟩
 ·have hlt' : m < 24 := by omega
  refine call (zdr l (zdY l im m)) (by simp [Lay.cells, Img.cells]; exact ⟨rfl, rfl, rfl, rfl, rfl⟩) (by simp) ?_
  simp [znj]
  refine zaj (avs := [W im.occ, I m]) (.bool (zcp im.occ m)) rfl (fun _ => ⟨by simp, zg4 im.occ m hi.1.1 hi.1.2⟩) (by simp) ?_
  simp
  have hc := zf7 (zdY l im m) m (by omega) (by omega)
  simp only [Img.cells] at hc
  simp at hc
  simp only [show (zdY l im m).occ = im.occ from rfl, show (zdY l im m).nor = im.nor from rfl, show (zdY l im m).rev = im.rev from rfl, show (zdY l im m).lamp = im.lamp from rfl] at hc
  refine ⟨hlt, ⟨hlt, by omega⟩, ?_⟩
  refine call (avs := [.bool (!stale l im && !zcp im.occ m), I (im.free m)]) (zoV _ _) (by
   have h1 : (zdY l im m).free m = im.free m := by simp [zdY]
   simp [hc, h1]) (by simp) ?_
  simp [hlt]
  refine ⟨⟨m + 1, by omega, ?_⟩, ?_⟩
  ·rw [zab (by omega)]
   simp [zne]
   and_intros <;> exact zoi (by omega) _ _
  ·rw [zab (by omega)]
   simp; omega
 ·have : m = 24 := by omega
  subst this
  simp [Img.cells, zdY]
theorem znG (l : Lay) (im : Img) (o n r p : Int) (h0 : 0 ≤ o) (h1 : o ≤ 4294967295) (n0 : 0 ≤ n) (n1 : n ≤ 4294967295) (r0 : 0 ≤ r) (r1 : r ≤ 4294967295) (p0 : 0 ≤ p) (p1 : p ≤ 4294967295) :
  C f_lockbarref15_Take [l.av, im.av, .agg [W o, W n, W r, W p]] (zoH l im o n r p).av := by
 refine ctr (l.cells ++ im.cells ++ [W o, W n, W r, W p]) run_lockbarref15_Take rfl (by simp [zac, AV.pureAll, AV.pure]) (by simp [AV.pure]) ?_ rfl
 unfold rt_lockbarref15_Take
 simp [Lay.cells, Img.cells]
 refine call (znH l { im with age := 0, occ := o, nor := n, rev := r, lamp := p } ⟨⟨h0, h1⟩, ⟨n0, n1⟩, ⟨r0, r1⟩, ⟨p0, p1⟩⟩) (by simp [Lay.cells, Img.cells]) (by simp [Img.cells, AV.scalar, AV.scalars]) ?_
 simp [Img.cells, zoH]
end Go.Lb.LK
namespace Go.Lb.LK
open Go Go.Lb Go.Proofs Go.RowKit
theorem zk2 (l : List Int) : (zb4 l).Pairwise (fun x y => x ≤ y) := by
 have := List.pairwise_mergeSort (le := fun x y : Int => decide (x ≤ y)) (fun a b c h1 h2 => by simp at *; omega) (fun a b => by simp; omega) l
 exact this.imp (fun h => by simpa using h)
theorem zgy {l : List Int} (hs : l.Pairwise (fun x y => x ≤ y)) : ∀ m, m ≤ l.length → (∀ n, n ∈ Go.Lib.compactUpTo l.toArray m ↔ n ∈ l.take m) ∧ (Go.Lib.compactUpTo l.toArray m).Pairwise (fun x y => x < y)
 | 0, _ => by simp [Go.Lib.compactUpTo]
 | m + 1, h => by
  obtain ⟨h1, h2⟩ := zgy hs m (by omega)
  have hm : l.toArray[m]! = l[m] := by simp [show m < l.length by omega]
  rw [Go.Lib.compactUpTo_succ, hm]
  have ht : l.take (m + 1) = l.take m ++ [l[m]] := by rw [List.take_add_one, List.getElem?_eq_getElem (by omega)]; rfl
  have hle : ∀ x ∈ l.take m, x ≤ l[m] := by
   intro x hx
   obtain ⟨j, hj, rfl⟩ := List.mem_iff_getElem.1 hx
   rw [List.getElem_take]
   rw [List.length_take] at hj
   exact List.pairwise_iff_getElem.1 hs j m (by omega) (by omega) (by omega)
  cases hk : Go.Lib.keeps l.toArray m with
  | true =>
   refine ⟨fun n => ?_, ?_⟩
   ·rw [ht]; simp only [h1, if_true, List.mem_append, List.mem_singleton]
   ·simp only [if_true]
    rw [List.pairwise_append]
    refine ⟨h2, by simp, fun x hx y hy => ?_⟩
    simp only [List.mem_singleton] at hy; subst hy
    have hx' := (h1 x).1 hx
    have := hle x hx'
    simp only [Go.Lib.keeps, decide_eq_true_eq] at hk
    rcases hk with h0 | hk
    ·subst h0; simp at hx'
    ·have hm1 : l.toArray[m - 1]! = l[m - 1] := by simp [show m - 1 < l.length by omega]
     rw [hm, hm1] at hk
     obtain ⟨j, hj, rfl⟩ := List.mem_iff_getElem.1 hx'
     rw [List.getElem_take]
     rw [List.length_take] at hj
     have a1 : l[j] ≤ l[m - 1] := by
      rcases Nat.lt_or_ge j (m - 1) with hlt | hge
      ·exact List.pairwise_iff_getElem.1 hs j (m - 1) (by omega) (by omega) hlt
      ·have : j = m - 1 := by omega
       subst this; exact Int.le_refl _
     have a2 : l[m - 1] ≤ l[m] := by
      rcases Nat.eq_zero_or_pos m with h0 | h0
      ·subst h0; exact Int.le_refl _
      ·exact List.pairwise_iff_getElem.1 hs (m - 1) m (by omega) (by omega) (by omega)
     omega
  | false =>
   refine ⟨fun n => ?_, by simpa using h2⟩
   rw [ht]
   simp only [Bool.false_eq_true, if_false, List.append_nil, List.mem_append, List.mem_singleton, h1]
   refine ⟨.inl, fun h => h.elim id ?_⟩
   rintro rfl
   have hk' : ¬ (m = 0 ∨ l.toArray[m]! ≠ l.toArray[m - 1]!) := by simpa [Go.Lib.keeps] using hk
   have hm0 : m ≠ 0 := fun h => hk' (.inl h)
   have hm1 : l.toArray[m - 1]! = l[m - 1] := by simp [show m - 1 < l.length by omega]
   rw [hm, hm1] at hk'
   have : l[m] = l[m - 1] := Classical.byContradiction fun h => hk' (.inr h)
   rw [this]
   exact List.mem_iff_getElem.2 ⟨m - 1, by rw [List.length_take]; omega, by rw [List.getElem_take]⟩
theorem zjk {l : List Int} (hs : l.Pairwise (fun x y => x ≤ y)) : (∀ n, n ∈ za7 l ↔ n ∈ l) ∧ (za7 l).Pairwise (fun x y => x < y) := by
 have := zgy hs l.length (Nat.le_refl _)
 rwa [List.take_length] at this
theorem zhr (l : List Int) : ∀ m, m ≤ l.length → (Go.Lib.compactUpTo l.toArray m).Sublist (l.take m)
 | 0, _ => by simp [Go.Lib.compactUpTo]
 | m + 1, h => by
  have ih := zhr l m (by omega)
  have hm : l.toArray[m]! = l[m] := by simp [show m < l.length by omega]
  rw [Go.Lib.compactUpTo_succ, hm]
  have ht : l.take (m + 1) = l.take m ++ [l[m]] := by rw [List.take_add_one, List.getElem?_eq_getElem (by omega)]; rfl
  rw [ht]
  split
  ·exact ih.append (List.Sublist.refl _)
  ·exact ih.append (List.nil_sublist [l[m]])
theorem zgx {l : List Int} (hs : l.Pairwise (fun x y => x < y)) : ∀ m, m ≤ l.length → (Go.Lib.compactUpTo l.toArray m).length = m
 | 0, _ => by simp [Go.Lib.compactUpTo]
 | m + 1, h => by
  have ih := zgx hs m (by omega)
  have hm : l.toArray[m]! = l[m] := by simp [show m < l.length by omega]
  rw [Go.Lib.compactUpTo_succ]
  have hk : Go.Lib.keeps l.toArray m = true := by
   simp only [Go.Lib.keeps, decide_eq_true_eq]
   rcases Nat.eq_zero_or_pos m with h0 | h0
   ·exact .inl h0
   ·right
    have hm1 : l.toArray[m - 1]! = l[m - 1] := by simp [show m - 1 < l.length by omega]
    rw [hm, hm1]
    have := List.pairwise_iff_getElem.1 hs (m - 1) m (by omega) (by omega) (by omega)
    omega
  simp [hk, ih]
theorem zjl (l : List Int) : (za7 (zb4 l)).length < l.length ↔ ¬ l.Nodup := by
 have hp : (zb4 l).Perm l := List.mergeSort_perm _ _
 have hlen : (zb4 l).length = l.length := hp.length_eq
 have hs := zk2 l
 constructor
 ·intro h hn
  have hn2 : (zb4 l).Nodup := hp.nodup_iff.2 hn
  have hlt : (zb4 l).Pairwise (fun x y => x < y) := by
   refine List.Pairwise.imp₂ (R := fun x y => x ≤ y) (S := fun x y => x ≠ y) (fun a b h1 h2 => by omega) hs hn2
  have := zgx hlt (zb4 l).length (Nat.le_refl _)
  have e : za7 (zb4 l) = Go.Lib.compactUpTo (zb4 l).toArray (zb4 l).length := by simp [za7, Go.Lib.compact]
  rw [e] at h
  omega
 ·intro hn
  refine Classical.byContradiction fun h => hn ?_
  have hsub := zhr (zb4 l) (zb4 l).length (Nat.le_refl _)
  have e : za7 (zb4 l) = Go.Lib.compactUpTo (zb4 l).toArray (zb4 l).length := by simp [za7, Go.Lib.compact]
  rw [← e, List.take_length] at hsub
  have heq := hsub.eq_of_length_le (by omega)
  have h2 := (zjk hs).2
  rw [heq] at h2
  exact hp.nodup_iff.1 (h2.imp (fun h => by omega))
end Go.Lb.LK
namespace Go.Lb.LK
open Go Go.Lb Go.Proofs Go.RowKit
theorem zbS (l : List Step) (h : l.length ≤ 4294967296) : C f_slices_Clone_Step [steps l] (steps l) := by
 refine ctr [steps l] run_slices_Clone_Step rfl (by simp [AV.pureAll, AV.pure]) (by simp [AV.pure]) ?_ rfl
 unfold rt_slices_Clone_Step
 simp
 exact ⟨fun x _ => by simp [Step.cells], h⟩
theorem ze0 (l : List Need) (h : l.length ≤ 4294967296) : C f_slices_Clone_Need [needs l] (needs l) := by
 refine ctr [needs l] run_slices_Clone_Need rfl (by simp [AV.pureAll, AV.pure]) (by simp [AV.pure]) ?_ rfl
 unfold rt_slices_Clone_Need
 simp
 exact ⟨fun x _ => by simp [Need.cells], h⟩
def zcn (xs : List (List Step)) : Nat := (xs.map List.length).sum
theorem zeG (xs : List (List Step)) : xs.flatten.length = zcn xs := by simp [zcn, List.length_flatten]
theorem zgD (xs : List (List Step)) {i : Nat} (h : i < xs.length) : (xs.take (i + 1)).flatten = (xs.take i).flatten ++ xs[i] := by
 rw [List.take_add_one, List.getElem?_eq_getElem h, List.flatten_append]; simp
theorem ziR (xs : List (List Step)) {i : Nat} (h : i < xs.length) : zcn (xs.take (i + 1)) = zcn (xs.take i) + xs[i].length := by
 rw [← zeG, ← zeG, zgD xs h, List.length_append]
theorem zhb (xs : List (List Step)) (i : Nat) : zcn (xs.take i) ≤ zcn xs := by
 unfold zcn
 conv => rhs; rw [← List.take_append_drop i xs, List.map_append, List.sum_append]
 omega
theorem zcC (xs : List (List Step)) (hx : xs.length ≤ 1000000) (ht : zcn xs ≤ 1000000000) : C f_slices_Concat_Step [.sl (xs.map steps)] (steps xs.flatten) := by
 refine ctr [.sl (xs.map steps)] run_slices_Concat_Step rfl (by simp [AV.pureAll, AV.pure, zaV steps (fun x => by simp [AV.pure])]) (by simp only [AV.pure]; exact znk _) ?_ rfl
 unfold rt_slices_Concat_Step
 simp
 refine zaa rfl (fun vs => ∃ i : Nat, i ≤ xs.length ∧ vs = [I (zcn (xs.take i)), I i]) (fun vs => match vs with | [_, .int _ j] => xs.length - j.toNat | _ => 0) ⟨0, by simp, by simp [zcn]⟩ ?_
 rintro vs - ⟨i, hi, rfl⟩
 have hti := zhb xs i
 simp
 refine ⟨fun hlt => ?_, fun hge => ?_⟩
 ·have hw := zab (i := i) (by omega)
  have ht1 := ziR xs hlt
  have ht2 := zhb xs (i + 1)
  have hw2 : IntKind.i64.wrap ((zcn (xs.take i) : Int) + xs[i].length) = (zcn (xs.take (i + 1)) : Int) := by rw [zbB] <;> omega
  simp [hlt, hw2]
  exact ⟨⟨i + 1, by omega, rfl, hw⟩, by rw [hw]; omega⟩
 ·have hti : xs.take i = xs := List.take_of_length_le hge
  have w0 : IntKind.i64.wrap 0 = 0 := by decide
  have wt : IntKind.i64.wrap (zcn xs : Int) = zcn xs := by rw [zbB] <;> omega
  simp [hti, w0, wt]
  refine ⟨fun hpos => ⟨by omega, ?_⟩, fun hz => ?_⟩
  all_goals
   refine zaa rfl (fun vs => ∃ i : Nat, i ≤ xs.length ∧ vs = [steps (xs.take i).flatten, I i]) (fun vs => match vs with | [_, .int _ j] => xs.length - j.toNat | _ => 0) ⟨0, by simp, by simp⟩ ?_
   rintro vs - ⟨j, hj, rfl⟩
   have htj := zhb xs j
   rw [← zeG] at htj
   simp only [zaL, List.cons_append, List.nil_append]
   have hfl := fun h => zgD xs (i := j) h
   generalize hcur : (xs.take j).flatten = cur at htj hfl ⊢
   simp
   refine ⟨fun hlt => ?_, fun hge => ?_⟩
   ·have hw := zab (i := j) (by omega)
    have ht1 := ziR xs hlt
    have ht2 := zhb xs (j + 1)
    rw [← zeG (xs.take j), hcur] at ht1
    simp [hlt]
    refine ⟨fun x _ => by simp [Step.cells], by omega, ⟨j + 1, by omega, ?_, hw⟩, by rw [hw]; omega⟩
    have := congrArg (List.map Step.av) (hfl hlt)
    simpa using this.symm
   ·have : xs.take j = xs := List.take_of_length_le hge
    simp [← hcur, this]
def zal {α : Type} (q : α → Bool) (l : List α) : Prop := l.any q = false
theorem zal.nil {α : Type} (q : α → Bool) : zal q [] := rfl
theorem zbj {α : Type} {q : α → Bool} {l : List α} {i : Nat} (hi : i < l.length) (hq : q l[i] = true) : l.any q = true := List.any_eq_true.2 ⟨l[i], List.getElem_mem hi, hq⟩
theorem zah {α : Type} {q : α → Bool} {l : List α} {i : Nat} (hi : i < l.length) (h : zal q (l.take i)) (hq : q l[i] = false) : zal q (l.take (i + 1)) := by
 unfold zal at *
 rw [List.take_add_one, List.getElem?_eq_getElem hi, List.any_append, h]; simp [hq]
def both (x y : Need) : Bool := decide (x.p = y.p) && !decide (x.pos = y.pos)
def zeN (a b : List Need) : Bool := a.any fun x => b.any fun y => both x y
theorem zgs (a b : List Need) (ha : a.length ≤ 4294967296) (hb : b.length ≤ 4294967296) : C f_held_clash [needs a, needs b] (.bool (zeN a b)) := by
 refine ctr [needs a, needs b] run_held_clash rfl (by simp [AV.pureAll, AV.pure]) rfl ?_ rfl
 unfold rt_held_clash
 simp
 refine zaa rfl (fun vs => ∃ i : Nat, i ≤ a.length ∧ vs = [I i] ∧ zal (fun x => b.any fun y => both x y) (a.take i)) (fun vs => match vs with | [.int _ j] => a.length - j.toNat | _ => 0) ⟨0, by simp, by simp, rfl⟩ ?_
 rintro vs - ⟨i, hi, rfl, hn⟩
 simp
 refine ⟨fun hlt => ?_, fun hge => ?_⟩
 ·simp [hlt, Need.cells]
  refine zaa rfl (fun vs => ∃ j : Nat, j ≤ b.length ∧ vs = [I j] ∧ zal (fun y => both a[i] y) (b.take j)) (fun vs => match vs with | [.int _ k] => b.length - k.toNat | _ => 0) ⟨0, by simp, by simp, rfl⟩ ?_
  rintro vs - ⟨j, hj, rfl, hm⟩
  simp
  refine ⟨fun hlt2 => ?_, fun hge2 => ?_⟩
  ·have hw := zab (i := j) (by omega)
   simp [hlt, hlt2, Need.cells]
   by_cases h1 : a[i].p = b[j].p <;> by_cases h2 : a[i].pos = b[j].pos
   ·simp [h1, h2, hw]
    exact ⟨⟨j + 1, by omega, rfl, zah hlt2 hm (by simp [both, h1, h2])⟩, by omega⟩
   ·simp [h1, h2]
    exact zbj hlt (zbj hlt2 (by simp [both, h1, h2]))
   ·simp [h1, hw]
    exact ⟨⟨j + 1, by omega, rfl, zah hlt2 hm (by simp [both, h1])⟩, by omega⟩
   ·simp [h1, hw]
    exact ⟨⟨j + 1, by omega, rfl, zah hlt2 hm (by simp [both, h1])⟩, by omega⟩
  ·have hb2 : b.take j = b := List.take_of_length_le (by omega)
   rw [hb2] at hm
   have hw := zab (i := i) (by omega)
   simp [hw]
   exact ⟨⟨i + 1, by omega, rfl, zah hlt hn hm⟩, by omega⟩
 ·have ha2 : a.take i = a := List.take_of_length_le (by omega)
  rw [ha2] at hn
  have hn2 : zeN a b = false := hn
  simp [hn2]
theorem zeZ (p : Path) (h : p.steps.length ≤ 4294967296) : C f_route_Own [p.av] p.av := by
 refine ctr p.cells run_route_Own rfl (by simp) (by simp [AV.pure]) ?_ rfl
 unfold rt_route_Own
 simp [Path.cells]
 refine call (zbS p.steps h) (by simp) (by simp) ?_
 simp [Path.cells]
def Hd.len (h : Hd) : Prop := h.path.steps.length ≤ 1048576 ∧ h.over.length ≤ 1048576 ∧ h.needs.length ≤ 1048576
theorem zfU (h : Hd) (hl : h.len) : C f_held_Own [h.av] h.av := by
 obtain ⟨h1, h2, h3⟩ := hl
 refine ctr h.cells run_held_Own rfl (by simp) (by simp [AV.pure]) ?_ rfl
 unfold rt_held_Own
 simp [Hd.cells]
 refine call (zeZ h.path (by omega)) (by simp [Path.cells]) (by simp) ?_
 simp
 refine call (zbS h.over (by omega)) (by simp) (by simp) ?_
 simp
 refine call (ze0 h.needs (by omega)) (by simp) (by simp) ?_
 simp [Path.cells, Hd.cells]
def zdx (h : Hd) (x : Need) : Bool := decide (max h.gone 0 ≤ x.k) && (!decide (x.k = h.path.steps.length) || !h.opn)
def zbi (h : Hd) : List Need := h.needs.filter (zdx h)
theorem zd5 (h : Hd) (hl : h.len) : C f_held_Needs [h.av] (needs (zbi h)) := by
 obtain ⟨h1, h2, h3⟩ := hl
 refine ctr h.cells run_held_Needs rfl (by simp) (by simp [AV.pure]) ?_ rfl
 unfold rt_held_Needs
 simp [Hd.cells]
 refine zaa rfl (fun vs => ∃ i : Nat, i ≤ h.needs.length ∧ vs = [needs ((h.needs.take i).filter (zdx h)), I i]) (fun vs => match vs with | [_, .int _ j] => h.needs.length - j.toNat | _ => 0) ⟨0, by simp, by simp⟩ ?_
 rintro vs - ⟨i, hi, rfl⟩
 simp
 refine ⟨fun hlt => ?_, fun hge => ?_⟩
 ·have hw := zab (i := i) (by omega)
  have hfl := zed (zdx h) h.needs i
  have hft := zcX (zdx h) h.needs hlt
  simp [hlt, Need.cells]
  rw [hw]
  cases hq : zdx h h.needs[i]
  ·left
   refine ⟨?_, ⟨i + 1, by omega, by rw [hft, hq]; simp, rfl⟩, by omega⟩
   intro hk
   simpa [zdx, hk] using hq
  ·right
   refine ⟨by simpa [zdx] using hq, by omega, ⟨i + 1, by omega, by rw [hft, hq]; simp [Need.cells], rfl⟩, by omega⟩
 ·have : h.needs.take i = h.needs := List.take_of_length_le (by omega)
  simp [this, zbi]
end Go.Lb.LK
namespace Go.Lb.LK
open Go Go.Lb Go.Proofs Go.RowKit
def Hd.g1 (h : Hd) : Prop := 1 ≤ h.id ∧ h.id ≤ 1073741824 ∧ 0 ≤ h.timer ∧ h.timer ≤ 1073741824 ∧ 1 ≤ h.path.steps.length ∧ h.path.steps.length ≤ 12 ∧ h.over.length ≤ 2
def Hd.g2 (h : Hd) : Prop := 1 ≤ h.stage ∧ h.stage < 5 ∧ 0 ≤ h.gone ∧ h.gone ≤ h.path.steps.length
def Hd.wasOk (h : Hd) : Bool := (List.range 12).all fun k => decide (k < h.path.steps.length) || !h.was k
def zdR (n : Nat) (x : Need) : Bool := decide (0 ≤ x.k ∧ x.k ≤ n ∧ 0 ≤ x.p ∧ x.p < 24 ∧ 0 ≤ x.pos ∧ x.pos ≤ 1)
def Hd.secs (h : Hd) : List Int := (h.path.steps ++ h.over).map (·.s)
instance (h : Hd) : Decidable h.g1 := by unfold Hd.g1; infer_instance
instance (h : Hd) : Decidable h.g2 := by unfold Hd.g2; infer_instance
def zbf (h : Hd) : Bool := decide h.g1 && (decide h.g2 && (!zeN h.needs h.needs && (h.wasOk && (decide h.secs.Nodup && h.needs.all (zdR h.path.steps.length)))))
theorem wc (w : Nat → Bool) (n j : Nat) (hn : n ≤ 12) (hj : j < 12) : (if j < min n 12 then ((List.take n (ziT w))[j]?.getD .undef).cells[0]?.getD .undef else B false) = B (decide (j < n) && w j) := by
 by_cases h : j < n
 ·have h2 : j < min n 12 := by omega
  rw [if_pos h2, List.getElem?_take, if_pos h]
  have := wget w hj .undef
  rw [List.getD_eq_getElem?_getD] at this
  rw [this]; simp [h]
 ·have h2 : ¬ j < min n 12 := by omega
  rw [if_neg h2]; simp [h]
theorem wci (w : Nat → Bool) (n j : Nat) (i : Int) (hi : i = j) (hn : n ≤ 12) (hj : j < 12) : (if i < ((min n 12 : Nat) : Int) then ((List.take n (ziT w))[j]?.getD .undef).cells[0]?.getD .undef else B false) = B (decide (j < n) && w j) := by
 rw [← wc w n j hn hj]
 exact zoi (by omega) _ _
theorem zqC (w : Nat → Bool) (n : Nat) : ∀ e ∈ List.take n (ziT w), e.cells.length = 1 ∧ AV.ones e.cells = true := by
 intro e he
 have := List.mem_of_mem_take he
 simp only [ziT, List.mem_cons, List.not_mem_nil, or_false] at this
 rcases this with rfl | rfl | rfl | rfl | rfl | rfl | rfl | rfl | rfl | rfl | rfl | rfl <;> simp
theorem zkb (h : Hd) (hl : h.len) (hs : 0 ≤ h.stage ∧ h.stage ≤ 255) : C f_held_Right [h.av] (.bool (zbf h)) := by
 obtain ⟨l1, l2, l3⟩ := hl
 refine ctr h.cells run_held_Right rfl (by simp) rfl ?_ rfl
 unfold rt_held_Right
 simp [Hd.cells]
 by_cases g1 : h.g1
 ·have g1' := g1
  obtain ⟨a1, a2, a3, a4, a5, a6, a7⟩ := g1
  have b1 : ¬ h.id < 1 := by omega
  have b2 : ¬ 1073741824 < max h.id h.timer := by omega
  have b3 : ¬ h.timer < 0 := by omega
  have b4 : ¬ ((h.path.steps.length : Int) < 1) := by omega
  have b5 : ¬ (12 < (h.path.steps.length : Int)) := by omega
  have b6 : ¬ (2 < (h.over.length : Int)) := by omega
  have b7 : (0 : Int) < h.path.steps.length := by omega
  refine ⟨fun hh => by simp [b1, b2, b3, b5, b6] at hh; omega, ?_⟩
  intro _ _ _ _ _ _
  refine zaj (avs := [needs h.needs, needs h.needs]) (.bool (zeN h.needs h.needs)) rfl (fun _ => ⟨by simp, zgs _ _ (by omega) (by omega)⟩) (by simp) ?_
  by_cases g2 : h.g2
  ·have g2' := g2
   obtain ⟨d1, d2, d3, d4⟩ := g2
   have e1 : ¬ h.stage = 0 := by omega
   have e2 : ¬ 5 ≤ h.stage := by omega
   have e3 : ¬ h.gone < 0 := by omega
   have e4 : ¬ (h.path.steps.length : Int) < h.gone := by omega
   cases hc : zeN h.needs h.needs
   ·have tk := zqC h.was h.path.steps.length
    have c0 := wc h.was h.path.steps.length 0 a6 (by omega)
    have c1 := wci h.was h.path.steps.length 1 1 rfl a6 (by omega)
    have c2 := wci h.was h.path.steps.length 2 2 rfl a6 (by omega)
    have c3 := wci h.was h.path.steps.length 3 3 rfl a6 (by omega)
    have c4 := wci h.was h.path.steps.length 4 4 rfl a6 (by omega)
    have c5 := wci h.was h.path.steps.length 5 5 rfl a6 (by omega)
    have c6 := wci h.was h.path.steps.length 6 6 rfl a6 (by omega)
    have c7 := wci h.was h.path.steps.length 7 7 rfl a6 (by omega)
    have c8 := wci h.was h.path.steps.length 8 8 rfl a6 (by omega)
    have c9 := wci h.was h.path.steps.length 9 9 rfl a6 (by omega)
    have c10 := wci h.was h.path.steps.length 10 10 rfl a6 (by omega)
    have c11 := wci h.was h.path.steps.length 11 11 rfl a6 (by omega)
    simp only [AV.cells, ziT] at tk c0 c1 c2 c3 c4 c5 c6 c7 c8 c9 c10 c11
    simp [e1, e2, e3, e4, c0, c1, c2, c3, c4, c5, c6, c7, c8, c9, c10, c11]
    refine ⟨by omega, tk, fun hh => ?_, ?_⟩
    ·have hw : h.wasOk = false := by
      cases hq : h.wasOk
      ·rfl
      ·exfalso
       simp only [Hd.wasOk, List.all_eq_true, List.mem_range, Bool.or_eq_true, decide_eq_true_eq, Bool.not_eq_true'] at hq
       have hstep : ∀ k, k < 12 → h.was k = true → h.path.steps.length ≤ k → False := fun k hk h1 h2 => by
        rcases hq k hk with h3 | h3
        ·omega
        ·rw [h1] at h3; cases h3
       rcases hh with ⟨h1, h2⟩ | ⟨h1, h2⟩ | ⟨h1, h2⟩ | ⟨h1, h2⟩ | ⟨h1, h2⟩ | ⟨h1, h2⟩ | ⟨h1, h2⟩ | ⟨h1, h2⟩ | ⟨h1, h2⟩ | ⟨h1, h2⟩ | ⟨h1, h2⟩ | ⟨h1, h2⟩
       ·rw [h2] at a5; simp at a5
       all_goals exact hstep _ (by omega) h1 h2
     simp [zbf, hw]
    ·intro w0 w1 w2 w3 w4 w5 w6 w7 w8 w9 w10 w11
     have hw : h.wasOk = true := by
      simp only [Hd.wasOk, List.all_eq_true, List.mem_range, Bool.or_eq_true, decide_eq_true_eq, Bool.not_eq_true']
      intro k hk
      cases hq : h.was k
      ·exact .inr rfl
      ·left
       match k, hk, hq with
       | 0, _, hq => exact w0 hq
       | 1, _, hq => exact w1 hq
       | 2, _, hq => exact w2 hq
       | 3, _, hq => exact w3 hq
       | 4, _, hq => exact w4 hq
       | 5, _, hq => exact w5 hq
       | 6, _, hq => exact w6 hq
       | 7, _, hq => exact w7 hq
       | 8, _, hq => exact w8 hq
       | 9, _, hq => exact w9 hq
       | 10, _, hq => exact w10 hq
       | 11, _, hq => exact w11 hq
     refine call (zcC [h.path.steps, h.over] (by simp) (by simp [zcn]; omega)) (by simp) (by simp) ?_
     generalize hall : [h.path.steps, h.over].flatten = all
     have hal : all = h.path.steps ++ h.over := by rw [← hall]; simp
     have hlen : all.length = h.path.steps.length + h.over.length := by rw [hal]; simp
     simp
     refine zaa rfl (fun vs => ∃ i : Nat, i ≤ all.length ∧ vs = [ints ((all.take i).map (·.s)), I i]) (fun vs => match vs with | [_, .int _ j] => all.length - j.toNat | _ => 0) ⟨0, by simp, by simp⟩ ?_
     rintro vs - ⟨i, hi, rfl⟩
     simp
     refine ⟨fun hlt => ?_, fun hge => ?_⟩
     ·have hwr := zab (i := i) (by omega)
      have hmt := map_take (fun x : Step => x.s) all hlt
      simp [hlt, Step.cells, hwr]
      refine ⟨by omega, ⟨i + 1, by omega, ?_, by omega⟩, by omega⟩
      rw [List.take_add_one, List.getElem?_map, List.getElem?_eq_getElem hlt]; rfl
     ·have hta : List.take i (List.map (I ∘ fun x : Step => x.s) all) = (all.map (·.s)).map I := by
       rw [List.take_of_length_le (by simp; omega), List.map_map]
      rw [hta]
      refine ⟨all.map (·.s), by simp; omega, by simp, ?_⟩
      refine ⟨zb4 (all.map (·.s)), by simp [zb4]; omega, rfl, ?_⟩
      have hsec : h.secs = all.map (·.s) := by rw [hal]; rfl
      have hcl := ze3 (zb4 (all.map (·.s)))
      have hsl : (zb4 (all.map (·.s))).length = all.length := by simp [zb4]
      have hwa : IntKind.i64.wrap ((h.path.steps.length : Int) + h.over.length) = h.path.steps.length + h.over.length := by rw [zbB] <;> omega
      simp [hwa]
      have hnd := zjl (all.map (·.s))
      rw [List.length_map, hlen] at hnd
      refine ⟨fun hh => ?_, fun hh => ?_⟩
      ·have : ¬ h.secs.Nodup := by rw [hsec]; exact hnd.1 (by omega)
       simp [zbf, this]
      ·have hno : h.secs.Nodup := by
        rw [hsec]
        refine Classical.byContradiction fun hn => ?_
        have := hnd.2 hn
        omega
       have hr : zbf h = h.needs.all (zdR h.path.steps.length) := by simp [zbf, g1', g2', hc, hw, hno]
       rw [hr]
       refine zaa rfl (fun vs => ∃ i : Nat, i ≤ h.needs.length ∧ vs = [I i] ∧ zal (fun x => !zdR h.path.steps.length x) (h.needs.take i)) (fun vs => match vs with | [.int _ j] => h.needs.length - j.toNat | _ => 0) ⟨0, by simp, by simp, rfl⟩ ?_
       rintro vs - ⟨k, hk, rfl, hq⟩
       simp
       refine ⟨fun hlt => ?_, fun hge => ?_⟩
       ·have hwr := zab (i := k) (by omega)
        simp [hlt, Need.cells, hwr]
        have hf : h.needs[k].pos.fdiv (2 ^ min 1 IntKind.i64.bits) = 0 ↔ 0 ≤ h.needs[k].pos ∧ h.needs[k].pos ≤ 1 := by
         have e : (2 : Int) ^ min 1 IntKind.i64.bits = 2 := by decide
         rw [e, Int.fdiv_eq_ediv_of_nonneg _ (by omega)]; omega
        rw [hf]
        cases hok : zdR h.path.steps.length h.needs[k]
        ·right
         refine ⟨?_, h.needs[k], List.getElem_mem hlt, hok⟩
         simp only [zdR, decide_eq_false_iff_not] at hok
         omega
        ·left
         have hok2 := hok
         simp only [zdR, decide_eq_true_eq] at hok2
         exact ⟨by omega, ⟨k + 1, by omega, by omega, zah hlt hq (by simp [hok])⟩, by omega⟩
       ·have : h.needs.take k = h.needs := List.take_of_length_le (by omega)
        rw [this] at hq
        unfold zal at hq
        simp at hq
        exact fun x hx => hq x hx
   ·have hr : zbf h = false := by simp [zbf, g1', g2', hc]
    simp [e1, e2, e3, e4, hr]
  ·have hr : zbf h = false := by simp [zbf, g2]
   rw [hr]
   have hg : h.stage = 0 ∨ 5 ≤ h.stage ∨ h.gone < 0 ∨ (h.path.steps.length : Int) < h.gone := by
    unfold Hd.g2 at g2; omega
   by_cases e1 : h.stage = 0
   ·simp [e1]
   ·by_cases e2 : 5 ≤ h.stage
    ·simp [e1, e2]
    ·by_cases e3 : h.gone < 0
     ·simp [e1, e2, e3]
     ·have e4 : (h.path.steps.length : Int) < h.gone := by omega
      simp [e1, e2, e3, e4]
 ·have hr : zbf h = false := by simp [zbf, g1]
  rw [hr]
  refine ⟨fun _ => rfl, ?_⟩
  intro h1 h2 h3 h4 h5 h6
  exfalso
  unfold Hd.g1 at g1
  omega
end Go.Lb.LK
namespace Go.Lb.LK
open Go Go.Lb Go.Proofs Go.RowKit
theorem zin (a b : List Need) (ha : a.length ≤ 4294967296) (hb : b.length ≤ 4294967296) : C f_lockbarref17_clash [needs a, needs b] (.bool (zeN a b)) := by
 refine ctr [needs a, needs b] run_lockbarref17_clash rfl (by simp [AV.pureAll, AV.pure]) rfl ?_ rfl
 unfold rt_lockbarref17_clash
 refine zaa rfl (fun vs => ∃ i : Nat, i ≤ a.length ∧ vs = [I i] ∧ zal (fun x => b.any fun y => both x y) (a.take i)) (fun vs => match vs with | [.int _ j] => a.length - j.toNat | _ => 0) ⟨0, by simp, by simp, rfl⟩ ?_
 rintro vs - ⟨i, hi, rfl, hn⟩
 simp
 refine ⟨fun hlt => ?_, fun hge => ?_⟩
 ·refine zaa rfl (fun vs => ∃ j : Nat, j ≤ b.length ∧ vs = [I j] ∧ zal (fun y => both a[i] y) (b.take j)) (fun vs => match vs with | [.int _ k] => b.length - k.toNat | _ => 0) ⟨0, by simp, by simp, rfl⟩ ?_
  rintro vs - ⟨j, hj, rfl, hm⟩
  simp
  refine ⟨fun hlt2 => ?_, fun hge2 => ?_⟩
  ·have hw := zab (i := j) (by omega)
   simp [hlt, hlt2, Need.cells]
   by_cases h1 : a[i].p = b[j].p <;> by_cases h2 : a[i].pos = b[j].pos
   ·simp [h1, h2, hw]
    exact ⟨⟨j + 1, by omega, rfl, zah hlt2 hm (by simp [both, h1, h2])⟩, by omega⟩
   ·simp [h1, h2]
    exact zbj hlt (zbj hlt2 (by simp [both, h1, h2]))
   ·simp [h1, hw]
    exact ⟨⟨j + 1, by omega, rfl, zah hlt2 hm (by simp [both, h1])⟩, by omega⟩
   ·simp [h1, hw]
    exact ⟨⟨j + 1, by omega, rfl, zah hlt2 hm (by simp [both, h1])⟩, by omega⟩
  ·have hb2 : b.take j = b := List.take_of_length_le (by omega)
   rw [hb2] at hm
   have hw := zab (i := i) (by omega)
   simp [hw]
   exact ⟨⟨i + 1, by omega, rfl, zah hlt hn hm⟩, by omega⟩
 ·have ha2 : a.take i = a := List.take_of_length_le (by omega)
  rw [ha2] at hn
  have hn2 : zeN a b = false := hn
  simp [hn2]
theorem zfY (h : Hd) (hl : h.len) : C f_lockbarref17_Needs [h.av] (needs (zbi h)) := by
 obtain ⟨h1, h2, h3⟩ := hl
 refine ctr h.cells run_lockbarref17_Needs rfl (by simp) (by simp [AV.pure]) ?_ rfl
 unfold rt_lockbarref17_Needs
 simp [Hd.cells]
 refine zaa rfl (fun vs => ∃ i : Nat, i ≤ h.needs.length ∧ vs = [needs ((h.needs.take i).filter (zdx h)), I i]) (fun vs => match vs with | [_, .int _ j] => h.needs.length - j.toNat | _ => 0) ⟨0, by simp, by simp⟩ ?_
 rintro vs - ⟨i, hi, rfl⟩
 simp
 refine ⟨fun hlt => ?_, fun hge => ?_⟩
 ·have hw := zab (i := i) (by omega)
  have hfl := zed (zdx h) h.needs i
  have hft := zcX (zdx h) h.needs hlt
  simp [hlt, Need.cells]
  rw [hw]
  cases hq : zdx h h.needs[i]
  ·left
   refine ⟨?_, ⟨i + 1, by omega, by rw [hft, hq]; simp, rfl⟩, by omega⟩
   intro hk
   simpa [zdx, hk] using hq
  ·right
   refine ⟨by simpa [zdx] using hq, by omega, ⟨i + 1, by omega, by rw [hft, hq]; simp [Need.cells], rfl⟩, by omega⟩
 ·have : h.needs.take i = h.needs := List.take_of_length_le (by omega)
  simp [this, zbi]
theorem zma (p : Path) (h : p.steps.length ≤ 4294967296) : C f_lockbarref11_Own [p.av] p.av := by
 refine ctr p.cells run_lockbarref11_Own rfl (by simp) (by simp [AV.pure]) ?_ rfl
 unfold rt_lockbarref11_Own
 simp [Path.cells]
 exact ⟨fun x _ => by simp [Step.cells], h⟩
theorem zjd (h : Hd) (hl : h.len) : C f_lockbarref17_Own [h.av] h.av := by
 obtain ⟨h1, h2, h3⟩ := hl
 refine ctr h.cells run_lockbarref17_Own rfl (by simp) (by simp [AV.pure]) ?_ rfl
 unfold rt_lockbarref17_Own
 simp [Hd.cells]
 refine call (zma h.path (by omega)) (by simp [Path.cells]) (by simp) ?_
 simp [Path.cells, Hd.cells]
 exact ⟨fun x _ => by simp [Step.cells], by omega, fun x _ => by simp [Need.cells], by omega⟩
theorem zpv (x y : Step) : AV.eqs x.cells y.cells = decide (x = y) := by
 obtain ⟨a, b, c⟩ := x
 obtain ⟨d, e, f⟩ := y
 simp [Step.cells, AV.eqs, AV.eq1]
 by_cases h1 : a = d <;> by_cases h2 : b = e <;> by_cases h3 : c = f <;> simp [h1, h2, h3]
theorem zpj (x y : Need) : AV.eqs x.cells y.cells = decide (x = y) := by
 obtain ⟨a, b, c⟩ := x
 obtain ⟨d, e, f⟩ := y
 simp [Need.cells, AV.eqs, AV.eq1]
 by_cases h1 : a = d <;> by_cases h2 : b = e <;> by_cases h3 : c = f <;> simp [h1, h2, h3]
theorem zpw {x y : Step} (h1 : x.s = y.s) (h2 : x.i = y.i) (h3 : x.o = y.o) : x = y := by
 obtain ⟨a, b, c⟩ := x
 obtain ⟨d, e, f⟩ := y
 simp only at h1 h2 h3
 rw [h1, h2, h3]
theorem zcB (a b : List Step) (ha : a.length ≤ 4294967296) : C f_lockbarref11_Steps [steps a, steps b] (.bool (decide (a = b))) := by
 refine ctr [steps a, steps b] run_lockbarref11_Steps rfl (by simp [AV.pureAll, AV.pure]) rfl ?_ rfl
 unfold rt_lockbarref11_Steps
 simp
 by_cases hl : a.length = b.length
 ·simp [hl]
  refine zaa rfl (fun vs => ∃ i : Nat, i ≤ a.length ∧ vs = [I i] ∧ a.take i = b.take i) (fun vs => match vs with | [.int _ j] => a.length - j.toNat | _ => 0) ⟨0, by simp, by simp, by simp⟩ ?_
  rintro vs - ⟨i, hi, rfl, hq⟩
  simp
  refine ⟨fun hlt => ?_, fun hge => ?_⟩
  ·have hlt2 : i < b.length := by omega
   have hw := zab (i := i) (by omega)
   have he := zpv a[i] b[i]
   simp [hlt, hlt2, Step.cells] at he ⊢
   by_cases hab : a[i] = b[i]
   ·simp [hab] at he ⊢
    rw [hw]
    refine ⟨⟨i + 1, by omega, rfl, ?_⟩, by omega⟩
    rw [List.take_add_one, List.take_add_one, List.getElem?_eq_getElem hlt, List.getElem?_eq_getElem hlt2, hq, hab]
   ·right
    refine ⟨fun h1 h2 h3 => hab (zpw h1 h2 h3), ?_⟩
    rintro rfl
    exact hab rfl
  ·have h1 : a.take i = a := List.take_of_length_le (by omega)
   have h2 : b.take i = b := List.take_of_length_le (by omega)
   rw [h1, h2] at hq
   simp [hq]
 ·have hne : a ≠ b := fun h => hl (by rw [h])
  have hl2 : ¬ (a.length : Int) = b.length := by omega
  simp [hne]
  exact fun h => absurd h hl2
theorem zpk {x y : Need} (h1 : x.p = y.p) (h2 : x.pos = y.pos) (h3 : x.k = y.k) : x = y := by
 obtain ⟨a, b, c⟩ := x
 obtain ⟨d, e, f⟩ := y
 simp only at h1 h2 h3
 rw [h1, h2, h3]
theorem zfo (a b : List Need) (ha : a.length ≤ 4294967296) : C f_lockbarref17_All [needs a, needs b] (.bool (decide (a = b))) := by
 refine ctr [needs a, needs b] run_lockbarref17_All rfl (by simp [AV.pureAll, AV.pure]) rfl ?_ rfl
 unfold rt_lockbarref17_All
 simp
 by_cases hl : a.length = b.length
 ·simp [hl]
  refine zaa rfl (fun vs => ∃ i : Nat, i ≤ a.length ∧ vs = [I i] ∧ a.take i = b.take i) (fun vs => match vs with | [.int _ j] => a.length - j.toNat | _ => 0) ⟨0, by simp, by simp, by simp⟩ ?_
  rintro vs - ⟨i, hi, rfl, hq⟩
  simp
  refine ⟨fun hlt => ?_, fun hge => ?_⟩
  ·have hlt2 : i < b.length := by omega
   have hw := zab (i := i) (by omega)
   have he := zpj a[i] b[i]
   simp [hlt, hlt2, Need.cells] at he ⊢
   by_cases hab : a[i] = b[i]
   ·simp [hab] at he ⊢
    rw [hw]
    refine ⟨⟨i + 1, by omega, rfl, ?_⟩, by omega⟩
    rw [List.take_add_one, List.take_add_one, List.getElem?_eq_getElem hlt, List.getElem?_eq_getElem hlt2, hq, hab]
   ·right
    refine ⟨fun h1 h2 h3 => hab (zpk h1 h2 h3), ?_⟩
    rintro rfl
    exact hab rfl
  ·have h1 : a.take i = a := List.take_of_length_le (by omega)
   have h2 : b.take i = b := List.take_of_length_le (by omega)
   rw [h1, h2] at hq
   simp [hq]
 ·have hne : a ≠ b := fun h => hl (by rw [h])
  have hl2 : ¬ (a.length : Int) = b.length := by omega
  simp [hne]
  exact fun h => absurd h hl2
def zfD (a b : Path) : Bool := decide (a.sig = b.sig) && (decide (a.exit = b.exit) && decide (a.steps = b.steps))
theorem znE (a b : Path) (ha : a.steps.length ≤ 4294967296) : C f_lockbarref11_Same [a.av, b.av] (.bool (zfD a b)) := by
 refine ctr (a.cells ++ b.cells) run_lockbarref11_Same rfl (by simp [zac]) rfl ?_ rfl
 unfold rt_lockbarref11_Same
 simp [Path.cells]
 refine zaj (avs := [steps a.steps, steps b.steps]) (.bool (decide (a.steps = b.steps))) rfl (fun _ => ⟨by simp, zcB _ _ ha⟩) (by simp) ?_
 by_cases h1 : a.sig = b.sig <;> by_cases h2 : a.exit = b.exit <;> simp [zfD, h1, h2]
theorem bdec (x y : Bool) : decide (x = y) = (x == y) := by cases x <;> cases y <;> rfl
def zjY (a b : Hd) : Bool := AV.eqs [.bool (a.was 0), .bool (a.was 1), .bool (a.was 2), .bool (a.was 3), .bool (a.was 4), .bool (a.was 5), .bool (a.was 6), .bool (a.was 7), .bool (a.was 8), .bool (a.was 9), .bool (a.was 10), .bool (a.was 11)] [.bool (b.was 0), .bool (b.was 1), .bool (b.was 2), .bool (b.was 3), .bool (b.was 4), .bool (b.was 5), .bool (b.was 6), .bool (b.was 7), .bool (b.was 8), .bool (b.was 9), .bool (b.was 10), .bool (b.was 11)]
theorem zla (a : Hd) : zjY a a = true := by simp [zjY]
def zgl (a b : Hd) : Bool := decide (a.id = b.id) && (zfD a.path b.path && (decide (a.over = b.over) && (decide (a.needs = b.needs) && (decide (a.stage = b.stage) && (decide (a.gone = b.gone) && (zjY a b && ((a.opn == b.opn) && (decide (a.timer = b.timer) && (a.shown == b.shown)))))))))
theorem zgm (a : Hd) : zgl a a = true := by simp [zgl, zla, zfD]
theorem zhn (a b : Hd) (ha : a.len) : C f_lockbarref17_Same [a.av, b.av] (.bool (zgl a b)) := by
 obtain ⟨l1, l2, l3⟩ := ha
 refine ctr (a.cells ++ b.cells) run_lockbarref17_Same rfl (by simp [zac]) rfl ?_ rfl
 unfold rt_lockbarref17_Same
 simp [Hd.cells]
 refine zaj (avs := [a.path.av, b.path.av]) (.bool (zfD a.path b.path)) rfl (fun _ => ⟨by simp [Path.cells], znE _ _ (by omega)⟩) (by simp) ?_
 simp
 refine zaj (avs := [steps a.over, steps b.over]) (.bool (decide (a.over = b.over))) rfl (fun _ => ⟨by simp, zcB _ _ (by omega)⟩) (by simp) ?_
 simp
 refine zaj (avs := [needs a.needs, needs b.needs]) (.bool (decide (a.needs = b.needs))) rfl (fun _ => ⟨by simp, zfo _ _ (by omega)⟩) (by simp) ?_
 simp [zgl, zjY, Bool.and_assoc]
 simp only [bdec]
end Go.Lb.LK
namespace Go.Lb.LK
open Go Go.Lb Go.Proofs Go.RowKit
theorem zcS (h : Hd) : (zbi h).length ≤ h.needs.length := List.length_filter_le _ _
def zaI (h : Hd) : List Int := (h.path.steps.drop h.gone.toNat).map (·.s) ++ if h.opn = true then [] else h.over.map (·.s)
theorem zdm {α : Type} (l : List α) {g i : Nat} (hg : g ≤ i) (h : i < l.length) : (l.take (i + 1)).drop g = (l.take i).drop g ++ [l[i]] := by
 rw [List.take_add_one, List.getElem?_eq_getElem h, List.drop_append_of_le_length (by rw [List.length_take]; omega)]; rfl
theorem zhU (h : Hd) : (zaI h).length ≤ h.path.steps.length + h.over.length := by
 unfold zaI
 rw [List.length_append, List.length_map, List.length_drop]
 split <;> simp <;> omega
theorem zfr (h : Hd) (hl : h.len) : C f_lockbarref17_Sections [h.av] (ints (zaI h)) := by
 obtain ⟨h1, h2, h3⟩ := hl
 refine ctr h.cells run_lockbarref17_Sections rfl (by simp) (by simp) ?_ rfl
 unfold rt_lockbarref17_Sections
 simp [Hd.cells]
 obtain ⟨g, hg⟩ : ∃ g : Nat, g = h.gone.toNat := ⟨_, rfl⟩
 refine zaa rfl (fun vs => ∃ i : Nat, g ≤ i ∧ vs = [ints (((h.path.steps.take i).drop g).map (·.s)), I i]) (fun vs => match vs with | [_, .int _ j] => h.path.steps.length - j.toNat | _ => 0) ⟨g, by omega, by simp; omega⟩ ?_
 rintro vs - ⟨i, hgi, rfl⟩
 simp
 refine ⟨fun hlt => ?_, fun hge => ?_⟩
 ·have hw := zab (i := i) (by omega)
  have := zdm h.path.steps hgi hlt
  simp [hlt, Step.cells, hw]
  refine ⟨by omega, ⟨i + 1, by omega, ?_, by omega⟩, by omega⟩
  have e := congrArg (List.map (I ∘ fun x : Step => x.s)) this
  simp at e
  exact e.symm
 ·have ht : (h.path.steps.map (fun x => x.s)).take i = h.path.steps.map (fun x => x.s) := List.take_of_length_le (by simp; omega)
  rw [ht]
  refine zaa rfl (fun vs => ∃ k : Nat, k ≤ h.over.length ∧ (h.opn = true → k = 0) ∧ vs = [ints ((h.path.steps.drop g).map (·.s) ++ (h.over.take k).map (·.s)), I k]) (fun vs => match vs with | [_, .int _ j] => h.over.length - j.toNat | _ => 0) ⟨0, by omega, by simp, by simp⟩ ?_
  rintro vs - ⟨k, hk, hko, rfl⟩
  simp
  cases ho : h.opn
  ·simp
   refine ⟨fun hlt => ?_, fun hge => ?_⟩
   ·have hw := zab (i := k) (by omega)
    have hmt := map_take (I ∘ fun x : Step => x.s) h.over hlt
    simp [hlt, Step.cells, hw]
    refine ⟨by omega, ⟨k + 1, by omega, ?_, by omega⟩, by omega⟩
    simpa using hmt.symm
   ·have : h.over.take k = h.over := List.take_of_length_le (by omega)
    simp [zaI, ho, this, hg]
    rw [List.take_of_length_le (by simpa using hge)]
  ·simp [zaI, ho, hg, hko ho]
theorem zmc (h : Hd) (hl : h.len) (s : Int) : C f_lockbarref17_Has [h.av, I s] (.bool (decide (s ∈ zaI h))) := by
 have hl' := hl
 obtain ⟨h1, h2, h3⟩ := hl
 have hsl := zhU h
 refine ctr (h.cells ++ [I s]) run_lockbarref17_Has rfl (by simp [zac, AV.pureAll, AV.pure]) rfl ?_ rfl
 unfold rt_lockbarref17_Has
 simp [Hd.cells]
 refine call (zfr h hl') (by simp [Hd.cells]) (by simp) ?_
 simp
 refine zaa rfl (fun vs => ∃ i : Nat, i ≤ (zaI h).length ∧ vs = [I i] ∧ zal (fun x => decide (x = s)) ((zaI h).take i)) (fun vs => match vs with | [.int _ j] => (zaI h).length - j.toNat | _ => 0) ⟨0, by simp, by simp, rfl⟩ ?_
 rintro vs - ⟨i, hik, rfl, hq⟩
 simp
 refine ⟨fun hlt => ?_, fun hge => ?_⟩
 ·have hw := zab (i := i) (by omega)
  simp [hlt, hw]
  by_cases he : (zaI h)[i] = s
  ·right
   exact ⟨he, he ▸ List.getElem_mem hlt⟩
  ·left
   exact ⟨he, ⟨i + 1, by omega, by omega, zah hlt hq (by simpa using he)⟩, by omega⟩
 ·have : (zaI h).take i = zaI h := List.take_of_length_le (by omega)
  rw [this] at hq
  unfold zal at hq
  simp at hq
  exact fun hm => hq s hm rfl
end Go.Lb.LK
namespace Go.Lb.LK
open Go Go.Lb Go.Proofs Go.RowKit
theorem zhh (h : Hd) (hl : h.len) : C f_held_Sections [h.av] (ints (zaI h)) := by
 obtain ⟨h1, h2, h3⟩ := hl
 refine ctr h.cells run_held_Sections rfl (by simp) (by simp) ?_ rfl
 unfold rt_held_Sections
 simp [Hd.cells]
 obtain ⟨g, hg⟩ : ∃ g : Nat, g = h.gone.toNat := ⟨_, rfl⟩
 refine zaa rfl (fun vs => ∃ i : Nat, i ≤ h.path.steps.length ∧ vs = [I i, ints (((h.path.steps.take i).drop g).map (·.s))]) (fun vs => match vs with | [.int _ j, _] => h.path.steps.length - j.toNat | _ => 0) ⟨0, by omega, by simp⟩ ?_
 rintro vs - ⟨i, hi, rfl⟩
 simp
 refine ⟨fun hlt => ?_, fun hge => ?_⟩
 ·have hw := zab (i := i) (by omega)
  simp [hlt, Step.cells, hw]
  refine ⟨fun hle => ?_, fun hle => ?_⟩
  ·have hgi : g ≤ i := by omega
   have := zdm h.path.steps hgi hlt
   have e := congrArg (List.map (I ∘ fun x : Step => x.s)) this
   simp at e
   refine ⟨by omega, ⟨i + 1, by omega, by omega, ?_⟩, by omega⟩
   exact e.symm
  ·refine ⟨⟨i + 1, by omega, by omega, ?_⟩, by omega⟩
   rw [List.drop_of_length_le (by simp; omega), List.drop_of_length_le (by simp; omega)]
 ·have ht : (h.path.steps.map (fun x => x.s)).take i = h.path.steps.map (fun x => x.s) := List.take_of_length_le (by simp; omega)
  rw [ht]
  refine zaa rfl (fun vs => ∃ k : Nat, k ≤ h.over.length ∧ vs = [I k, ints ((h.path.steps.drop g).map (·.s) ++ if h.opn = true then [] else (h.over.take k).map (·.s))]) (fun vs => match vs with | [.int _ j, _] => h.over.length - j.toNat | _ => 0) ⟨0, by omega, by simp⟩ ?_
  rintro vs - ⟨k, hk, rfl⟩
  cases ho : h.opn
  ·simp
   refine ⟨fun hlt => ?_, fun hge => ?_⟩
   ·have hw := zab (i := k) (by omega)
    have hmt := map_take (I ∘ fun x : Step => x.s) h.over hlt
    simp [hlt, Step.cells, hw]
    refine ⟨by omega, ⟨k + 1, by omega, by omega, ?_⟩, by omega⟩
    simpa using hmt.symm
   ·have : h.over.take k = h.over := List.take_of_length_le (by omega)
    simp [zaI, ho, this, hg]
    rw [List.take_of_length_le (by simpa using hge)]
  ·simp
   refine ⟨fun hlt => ?_, fun hge => ?_⟩
   ·have hw := zab (i := k) (by omega)
    simp [hlt, Step.cells, hw]
    exact ⟨⟨k + 1, by omega, by omega⟩, by omega⟩
   ·simp [zaI, ho, hg]
theorem zfT (h : Hd) (hl : h.len) (s : Int) : C f_held_Has [h.av, I s] (.bool (decide (s ∈ zaI h))) := by
 have hl' := hl
 obtain ⟨h1, h2, h3⟩ := hl
 have hsl := zhU h
 refine ctr (h.cells ++ [I s]) run_held_Has rfl (by simp [zac, AV.pureAll, AV.pure]) rfl ?_ rfl
 unfold rt_held_Has
 simp [Hd.cells]
 refine call (zhh h hl') (by simp [Hd.cells]) (by simp) ?_
 simp
 refine zaa rfl (fun vs => ∃ i : Nat, i ≤ (zaI h).length ∧ vs = [I i] ∧ zal (fun x => decide (x = s)) ((zaI h).take i)) (fun vs => match vs with | [.int _ j] => (zaI h).length - j.toNat | _ => 0) ⟨0, by simp, by simp, rfl⟩ ?_
 rintro vs - ⟨i, hik, rfl, hq⟩
 simp
 refine ⟨fun hlt => ?_, fun hge => ?_⟩
 ·have hw := zab (i := i) (by omega)
  simp [hlt, hw]
  by_cases he : s = (zaI h)[i]
  ·simp [he]
  ·have he2 : ¬ (zaI h)[i] = s := fun h => he h.symm
   simp [he]
   exact ⟨⟨i + 1, by omega, by omega, zah hlt hq (by simpa using he2)⟩, by omega⟩
 ·have : (zaI h).take i = zaI h := List.take_of_length_le (by omega)
  rw [this] at hq
  unfold zal at hq
  simp at hq
  exact fun hm => hq s hm rfl
def zcF (h : Hd) (p : Int) : Option Int := ((zbi h).find? fun x => decide (x.p = p)).map (·.pos)
def optP (o : Option Int) : AV := .tup [I (o.getD 0), .bool o.isSome]
theorem zbM {α : Type} {q : α → Bool} {l : List α} {i : Nat} (hi : i < l.length) (h : zal q (l.take i)) (hq : q l[i] = true) : l.find? q = some l[i] := by
 have e : l.find? q = (l.take i ++ l.drop i).find? q := by rw [List.take_append_drop]
 rw [e, List.find?_append]
 have h1 : (l.take i).find? q = none := by
  rw [List.find?_eq_none]
  intro x hx hqx
  have := List.any_eq_false.1 h x hx
  exact this hqx
 rw [h1, List.drop_eq_getElem_cons hi, List.find?_cons, hq]
 rfl
theorem zee {α : Type} {q : α → Bool} {l : List α} (h : zal q l) : l.find? q = none := by
 rw [List.find?_eq_none]
 intro x hx hqx
 exact List.any_eq_false.1 h x hx hqx
theorem zgr (h : Hd) (hl : h.len) (p : Int) : C f_held_Wants [h.av, I p] (optP (zcF h p)) := by
 have hnn := zcS h
 have hl3 := hl.2.2
 refine ctr (h.cells ++ [I p]) run_held_Wants rfl (by simp [zac, AV.pureAll, AV.pure]) rfl ?_ rfl
 unfold rt_held_Wants
 simp [Hd.cells]
 refine call (zd5 h hl) (by simp [Hd.cells]) (by simp) ?_
 simp
 refine zaa rfl (fun vs => ∃ i : Nat, i ≤ (zbi h).length ∧ vs = [I i] ∧ zal (fun x => decide (x.p = p)) ((zbi h).take i)) (fun vs => match vs with | [.int _ j] => (zbi h).length - j.toNat | _ => 0) ⟨0, by simp, by simp, rfl⟩ ?_
 rintro vs - ⟨i, hik, rfl, hq⟩
 simp
 refine ⟨fun hlt => ?_, fun hge => ?_⟩
 ·have hw := zab (i := i) (by omega)
  by_cases he : (zbi h)[i].p = p
  ·simp [hlt, Need.cells, hw, he, zcF, zbM hlt hq (by simpa using he), optP]
  ·simp [hlt, Need.cells, hw, he]
   exact ⟨⟨i + 1, by omega, by omega, zah hlt hq (by simpa using he)⟩, by omega⟩
 ·have : (zbi h).take i = zbi h := List.take_of_length_le (by omega)
  rw [this] at hq
  simp [zcF, zee hq, optP]
theorem zim (h : Hd) (hl : h.len) (p : Int) : C f_lockbarref17_Wants [h.av, I p] (optP (zcF h p)) := by
 have hnn := zcS h
 have hl3 := hl.2.2
 refine ctr (h.cells ++ [I p]) run_lockbarref17_Wants rfl (by simp [zac, AV.pureAll, AV.pure]) rfl ?_ rfl
 unfold rt_lockbarref17_Wants
 simp [Hd.cells]
 refine call (zfY h hl) (by simp [Hd.cells]) (by simp) ?_
 simp
 refine zaa rfl (fun vs => ∃ i : Nat, i ≤ (zbi h).length ∧ vs = [I i] ∧ zal (fun x => decide (x.p = p)) ((zbi h).take i)) (fun vs => match vs with | [.int _ j] => (zbi h).length - j.toNat | _ => 0) ⟨0, by simp, by simp, rfl⟩ ?_
 rintro vs - ⟨i, hik, rfl, hq⟩
 simp
 refine ⟨fun hlt => ?_, fun hge => ?_⟩
 ·have hw := zab (i := i) (by omega)
  by_cases he : (zbi h)[i].p = p
  ·simp [hlt, Need.cells, hw, he, zcF, zbM hlt hq (by simpa using he), optP]
  ·simp [hlt, Need.cells, hw, he]
   exact ⟨⟨i + 1, by omega, by omega, zah hlt hq (by simpa using he)⟩, by omega⟩
 ·have : (zbi h).take i = zbi h := List.take_of_length_le (by omega)
  rw [this] at hq
  simp [zcF, zee hq, optP]
end Go.Lb.LK
namespace Go.Lb.LK
open Go Go.Lb
@[simp] theorem zqE : IntKind.u32.min = 0 := by decide +kernel
@[simp] theorem zqD : IntKind.u32.max = 4294967295 := by decide +kernel
theorem zri {cs : List AV} (h : imgT.fits cs) : ∃ x : Img, AV.agg cs = x.av ∧ x.ok := by
 simp only [imgT, inT, uT, iT, zbN, zaS, zaR, zaT, List.append_nil, List.cons_append, List.nil_append] at h
 obtain ⟨age, q, rfl, _, f0, q, rfl, _, f1, q, rfl, _, f2, q, rfl, _, f3, q, rfl, _, f4, q, rfl, _, f5, q, rfl, _, f6, q, rfl, _, f7, q, rfl, _, f8, q, rfl, _, f9, q, rfl, _, f10, q, rfl, _, f11, q, rfl, _, f12, q, rfl, _, f13, q, rfl, _, f14, q, rfl, _, f15, q, rfl, _, f16, q, rfl, _, f17, q, rfl, _, f18, q, rfl, _, f19, q, rfl, _, f20, q, rfl, _, f21, q, rfl, _, f22, q, rfl, _, f23, q, rfl, _, oc, q, rfl, h1, no, q, rfl, h2, re, q, rfl, h3, la, q, rfl, h4, rfl⟩ := h
 simp only [zqE, zqD] at h1 h2 h3 h4
 exact ⟨⟨age, fun i => [f0, f1, f2, f3, f4, f5, f6, f7, f8, f9, f10, f11, f12, f13, f14, f15, f16, f17, f18, f19, f20, f21, f22, f23].getD i 0, oc, no, re, la⟩, rfl, h1, h2, h3, h4⟩
theorem zp9 {cs : List AV} (h : zp8.fits cs) : ∃ x : Hd, AV.agg cs = x.av ∧ 0 ≤ x.stage ∧ x.stage ≤ 255 := by
 simp only [zp8, znc, iT, zbN, zaS, zgC, zaR, zbE, zaT, List.append_nil, List.cons_append, List.nil_append] at h
 obtain ⟨id, q, rfl, _, sig, q, rfl, _, ex, q, rfl, _, es, q, rfl, hs, ov, q, rfl, ho, ne, q, rfl, hn, st, q, rfl, h1, go, q, rfl, _, w0, q, rfl, w1, q, rfl, w2, q, rfl, w3, q, rfl, w4, q, rfl, w5, q, rfl, w6, q, rfl, w7, q, rfl, w8, q, rfl, w9, q, rfl, w10, q, rfl, w11, q, rfl, op, q, rfl, ti, q, rfl, _, sh, q, rfl, rfl⟩ := h
 obtain ⟨es, rfl⟩ := zfL (g := Step.av) (fun cs h => zjT h) es hs.2
 obtain ⟨ov, rfl⟩ := zfL (g := Step.av) (fun cs h => zjT h) ov ho.2
 obtain ⟨ne, rfl⟩ := zfL (g := Need.av) (fun cs h => zql h) ne hn.2
 exact ⟨⟨id, ⟨sig, ex, es⟩, ov, ne, st, go, fun i => [w0, w1, w2, w3, w4, w5, w6, w7, w8, w9, w10, w11].getD i false, op, ti, sh⟩, rfl, by simpa using h1⟩
theorem zqd {x : AV} (h : imgT.fits x.cells) (h2 : zgO true x) : ∃ l : Img, x = l.av ∧ l.ok := by
 obtain ⟨cs, rfl⟩ := h2.1 rfl
 exact zri h
end Go.Lb.LK
