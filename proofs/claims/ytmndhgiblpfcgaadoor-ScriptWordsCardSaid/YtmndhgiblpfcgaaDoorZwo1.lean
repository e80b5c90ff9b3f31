/-
ScriptWords: the words are the document's, a text of 65,536 bytes is read and a longer one is not, as many bytes are printed and not more (the given card, without a condition).
(This text: part 1 of 7, merged out of: Types, Inv, Card, Shelf, Bridge, Script, Str, Find, Num, F13.)
-/
import Derived.Test.YtmndhgiblpfcgaaDoorProg
import Derived.Below
import Derived.Deep.Draws
import Derived.Deep.AppendLies
import Derived.Maps.AppendAt
import Derived.OwnWalk
import Derived.Laws.BytesArg
import Derived.Laws.MakeOwn
import Derived.Laws.OwnMore
import Derived.Deep.OwnRows
import Derived.Tactics
import Derived.Lib.ConvBytes
import Derived.Laws.Slices
import Derived.WalkKit
import Derived.KernelRfl
import Derived.RowKit3
import Derived.Deep.LoopGhost
import Derived.Deep.QuietTactic
import Derived.BigQuiet
import Derived.WideLaws
import Derived.Deep.DeepCutAuto
import Derived.Deep.CutBlock
import Derived.Deep.RegionHeld3
import Derived.Laws.Rows
import Derived.Lib.AppendStr
import Derived.ArgAppend
import Derived.Laws.IdiomCopy
import Derived.OrdersHeld
import Derived.Laws.BitsLemmas
import Derived.RowKit
import Derived.Test.YtmndhgiblpfcgaaDoorWWords
import Derived.Test.YtmndhgiblpfcgaaDoorWLast
import Derived.Test.YtmndhgiblpfcgaaDoorWTab
import Derived.Test.YtmndhgiblpfcgaaDoorWQPut
import Derived.Test.YtmndhgiblpfcgaaDoorWApart
import Derived.Test.YtmndhgiblpfcgaaDoorWArr
import Derived.Test.YtmndhgiblpfcgaaDoorWZeros
import Derived.Test.YtmndhgiblpfcgaaDoorWFoot
import Derived.Test.YtmndhgiblpfcgaaDoorWKept
import Derived.Test.YtmndhgiblpfcgaaDoorWShare
import Derived.Test.YtmndhgiblpfcgaaDoorWN
import Derived.Test.YtmndhgiblpfcgaaDoorWRepsOne
import Derived.Test.YtmndhgiblpfcgaaDoorWGuard
import Derived.Test.YtmndhgiblpfcgaaDoorWNEv
import Derived.Test.YtmndhgiblpfcgaaDoorWMore
import Derived.Lib.LaidTab
import Derived.Lib.ItoaMem
import Derived.Test.YtmndhgiblpfcgaaDoorCards
import Derived.Test.YtmndhgiblpfcgaaDoorTie
import Derived.ProofKit
import Derived.OpenShut
import Derived.SizedLaws
import Derived.LaidLaws
import Derived.Deep.DeepHandedRow
import Derived.Deep.DeepWitnessRowRef
import Derived.Lib.LaidU8
import Derived.Shelf.LaysM
import Derived.Shelf.Strings.Builder1
import Derived.Shelf.Small.Strs
import Derived.Shelf.Strings.BuilderF
import Derived.Shelf.Strings.BuilderK
import Derived.Shelf.Utf8.RuneCount
import Derived.Shelf.Strconv.Itoa0
import Derived.Shelf.Strconv.Itoa1
import Derived.Shelf.Strconv.Itoa2
import Derived.Shelf.Strconv.Itoa3
import Derived.Shelf.Strconv.Clone
import Derived.Shelf.Strconv.SyntaxError
import Derived.Shelf.LaysC
import Derived.Shelf.Strconv.ToError
import Derived.Shelf.Strconv.Lower
import Derived.Shelf.Strconv.ParseUint10
import Derived.Shelf.Strconv.ParseUint10Empty
import Derived.Shelf.Strconv.ParseUint10Any
import Derived.Shelf.Strconv.RangeError
import Derived.Shelf.Strconv.ToErrorRange
import Derived.Shelf.Strconv.ParseUintEmpty
import Derived.Shelf.Strconv.ParseUint10b64
import Derived.Shelf.Strconv.ParseUint10b32
import Derived.Shelf.Strconv.ParseUint10b16
import Derived.Shelf.Strconv.ParseUint10b8
import Derived.Shelf.Strconv.ParseUint10At
import Derived.Ground.MpProg
import Derived.Shelf.Pu.ParseUintPublic10
import Derived.Shelf.Pu.ErrVarParseUint
import Derived.Shelf.Strings.Search1
import Derived.Shelf.Strings.Search2
import Derived.Shelf.Strings.Search3
import Derived.Shelf.Strings.Cut
import Derived.Shelf.Strings.Count
import Derived.Shelf.Strings.Shaped
import Derived.Shelf.Strings.Split
import Derived.Shelf.Strings.SplitShaped
import Derived.Shelf.Unicode.Decode
import Derived.Shelf.Strings.RuneCount
import Derived.Shelf.Strings.Explode
import Derived.Shelf.Bits.Mul64
import Derived.Shelf.Unicode.DecodeSlow
import Derived.Shelf.Unicode.DecodeAny
import Derived.Shelf.Strings.BuilderCap
import Derived.Lib.Strings
import Derived.Shelf.SlicesQ.IndexFunc
import Derived.Ground.SlgfProg
import Derived.Great.Walk
import Derived.Laws.CopyOwn
import Derived.Laws.RangeString
import Derived.Laws.RangeAny
import Derived.LoopTactic
section
namespace Go.Proofs.YtmndhgiblpfcgaaDoor.W
open Go.RowKit Go.Proofs.YtmndhgiblpfcgaaDoorW.PrintWords Go.Proofs.YtmndhgiblpfcgaaDoorW.PrintLast Go.Proofs.YtmndhgiblpfcgaaDoorW.PrintMore
attribute [local go_sem] max2_int min2_int max_two min_two max_three min_three max_four min_four
set_option linter.unusedVariables false
set_option linter.unusedSimpArgs false

def errW : Option Int → Value
  | none => .nilIface
  | some c => .iface 115 (.int .i64 c)
theorem errW_none : errW none = .nilIface := rfl
theorem errW_some (c : Int) : errW (some c) = .iface 115 (.int .i64 c) := rfl

theorem info5 : (Tryd.prog.info? 5).map (fun i => (i.zero, i.size, i.bytes)) = some (some (.int .u8 0), 1, 1) := by kernel_rfl
theorem info9 : (Tryd.prog.info? 9).map (fun i => (i.zero, i.size, i.bytes)) = some (some (.string ⟨#[]⟩), 1, 16) := by kernel_rfl
theorem info37 : (Tryd.prog.info? 37).map (fun i => (i.zero, i.size, i.bytes)) = some (some (.agg #[(.string ⟨#[]⟩), (.slice none 0 0), (.slice none 0 0)]), 3, 64) := by kernel_rfl
theorem info40 : (Tryd.prog.info? 40).map (fun i => (i.zero, i.size, i.bytes)) = some (some (.agg #[(.string ⟨#[]⟩), (.slice none 0 0), (.slice none 0 0)]), 3, 64) := by kernel_rfl
theorem info48 : (Tryd.prog.info? 48).map (fun i => (i.zero, i.size, i.bytes)) = some (some (.int .u64 0), 1, 8) := by kernel_rfl
/-! #### struct type 7 -/
/-! #### struct type 8 -/
/-! #### struct type 13 -/
/-! #### struct type 14 -/
/-! #### struct type 37 -/
structure S37 where
  f0 : ByteArray
  f1 : (List Int)
  f2 : (List Int)
def z37 : S37 := ⟨(⟨#[]⟩ : ByteArray), ([] : List Int), ([] : List Int)⟩
def k37 : Kd S37 := Kd.iso (Kd.pair Kd.string (Kd.pair (Kd.slice 48 (Kd.int .u64)) (Kd.slice 5 (Kd.int .u8)))) (fun x : S37 => (x.f0, x.f1, x.f2))
theorem k37_open {w : World} {x : S37} {cs : List Value} (h : k37.K w x cs) : ∃ A1 c1 A2 c2, cs = [.string x.f0, .slice A1 x.f1.length c1, .slice A2 x.f2.length c2] ∧ x.f1.length ≤ c1 ∧ (Kd.int .u64).C w A1 x.f1.length x.f1 ∧ x.f2.length ≤ c2 ∧ (Kd.int .u8).C w A2 x.f2.length x.f2 := by
  obtain ⟨_, _, rfl, rfl, ⟨_, _, rfl, ⟨A1, c1, rfl, l1, g1⟩, ⟨A2, c2, rfl, l2, g2⟩⟩⟩ := h
  exact ⟨A1, c1, A2, c2, rfl, l1, g1, l2, g2⟩
theorem k37_openM {w : World} {base : Nat} {ok : Nat → Prop} {x : S37} {cs : List Value} (h : k37.M w base ok x cs) : ∃ v1 v2, cs = [.string x.f0, v1, v2] ∧ (Kd.int .u64).R 48 w base ok v1 x.f1 ∧ (Kd.int .u8).R 5 w base ok v2 x.f2 := by
  obtain ⟨_, _, rfl, rfl, ⟨_, _, rfl, ⟨v1, rfl, g1⟩, ⟨v2, rfl, g2⟩⟩⟩ := h
  exact ⟨v1, v2, rfl, g1, g2⟩
theorem k37_mk (w : World) (x : S37) {A1 : Option Addr} {c1 : Nat} (l1 : x.f1.length ≤ c1) (g1 : (Kd.int .u64).C w A1 x.f1.length x.f1) {A2 : Option Addr} {c2 : Nat} (l2 : x.f2.length ≤ c2) (g2 : (Kd.int .u8).C w A2 x.f2.length x.f2) : k37.K w x [.string x.f0, .slice A1 x.f1.length c1, .slice A2 x.f2.length c2] := ⟨[.string x.f0], [.slice A1 x.f1.length c1, .slice A2 x.f2.length c2], rfl, rfl, ⟨[.slice A1 x.f1.length c1], [.slice A2 x.f2.length c2], rfl, ⟨A1, c1, rfl, l1, g1⟩, ⟨A2, c2, rfl, l2, g2⟩⟩⟩
theorem k37_mkM (w : World) (base : Nat) (ok : Nat → Prop) (x : S37) {v1 : Value} (g1 : (Kd.int .u64).R 48 w base ok v1 x.f1) {v2 : Value} (g2 : (Kd.int .u8).R 5 w base ok v2 x.f2) : k37.M w base ok x [.string x.f0, v1, v2] := ⟨[.string x.f0], [v1, v2], rfl, rfl, ⟨[v1], [v2], rfl, ⟨v1, rfl, g1⟩, ⟨v2, rfl, g2⟩⟩⟩
def rd_T37 (xs : List S37) (i : Int) : S37 := xs.getD i.toNat z37
theorem at_T37 {w : World} {A : Option Addr} {n : Nat} {xs : List S37} (h : Kd.C k37 w A n xs) (i : Int) (h0 : 0 ≤ i) (h1 : i < n) : ∃ ad A1 c1 A2 c2, A = some ad ∧ w.cell? (ad.add (i.toNat * 3)) = some (.string (rd_T37 xs i).f0) ∧ w.cell? ⟨(ad.add (i.toNat * 3)).block, (ad.add (i.toNat * 3)).off + 1, none⟩ = some (.slice A1 (rd_T37 xs i).f1.length c1) ∧ w.cell? ⟨(ad.add (i.toNat * 3)).block, (ad.add (i.toNat * 3)).off + 2, none⟩ = some (.slice A2 (rd_T37 xs i).f2.length c2) ∧ (rd_T37 xs i).f1.length ≤ c1 ∧ (Kd.int .u64).C w A1 (rd_T37 xs i).f1.length (rd_T37 xs i).f1 ∧ (rd_T37 xs i).f2.length ≤ c2 ∧ (Kd.int .u8).C w A2 (rd_T37 xs i).f2.length (rd_T37 xs i).f2 := by
  obtain ⟨ad, c, e, _, hK, hc0⟩ := Kd.C_get h z37 i h0 h1
  have hc : ∀ j u, c[j]? = some u → w.cell? (ad.add (i.toNat * 3 + j)) = some u := hc0
  obtain ⟨A1, c1, A2, c2, rfl, l1, g1, l2, g2⟩ := k37_open hK
  exact ⟨ad, A1, c1, A2, c2, e, hc 0 _ rfl, by rw [← add_field _ _ 1 (by omega)]; exact hc 1 _ rfl, by rw [← add_field _ _ 2 (by omega)]; exact hc 2 _ rfl, l1, g1, l2, g2⟩

/-! #### struct type 40 -/
structure S40 where
  f0 : ByteArray
  f1 : (List Int)
  f2 : (List Int)
def z40 : S40 := ⟨(⟨#[]⟩ : ByteArray), ([] : List Int), ([] : List Int)⟩
def k40 : Kd S40 := Kd.iso (Kd.pair Kd.string (Kd.pair (Kd.slice 48 (Kd.int .u64)) (Kd.slice 5 (Kd.int .u8)))) (fun x : S40 => (x.f0, x.f1, x.f2))
theorem k40_open {w : World} {x : S40} {cs : List Value} (h : k40.K w x cs) : ∃ A1 c1 A2 c2, cs = [.string x.f0, .slice A1 x.f1.length c1, .slice A2 x.f2.length c2] ∧ x.f1.length ≤ c1 ∧ (Kd.int .u64).C w A1 x.f1.length x.f1 ∧ x.f2.length ≤ c2 ∧ (Kd.int .u8).C w A2 x.f2.length x.f2 := by
  obtain ⟨_, _, rfl, rfl, ⟨_, _, rfl, ⟨A1, c1, rfl, l1, g1⟩, ⟨A2, c2, rfl, l2, g2⟩⟩⟩ := h
  exact ⟨A1, c1, A2, c2, rfl, l1, g1, l2, g2⟩
theorem k40_mkM (w : World) (base : Nat) (ok : Nat → Prop) (x : S40) {v1 : Value} (g1 : (Kd.int .u64).R 48 w base ok v1 x.f1) {v2 : Value} (g2 : (Kd.int .u8).R 5 w base ok v2 x.f2) : k40.M w base ok x [.string x.f0, v1, v2] := ⟨[.string x.f0], [v1, v2], rfl, rfl, ⟨[v1], [v2], rfl, ⟨v1, rfl, g1⟩, ⟨v2, rfl, g2⟩⟩⟩
def rd_T40 (xs : List S40) (i : Int) : S40 := xs.getD i.toNat z40
theorem at_T40 {w : World} {A : Option Addr} {n : Nat} {xs : List S40} (h : Kd.C k40 w A n xs) (i : Int) (h0 : 0 ≤ i) (h1 : i < n) : ∃ ad A1 c1 A2 c2, A = some ad ∧ w.cell? (ad.add (i.toNat * 3)) = some (.string (rd_T40 xs i).f0) ∧ w.cell? ⟨(ad.add (i.toNat * 3)).block, (ad.add (i.toNat * 3)).off + 1, none⟩ = some (.slice A1 (rd_T40 xs i).f1.length c1) ∧ w.cell? ⟨(ad.add (i.toNat * 3)).block, (ad.add (i.toNat * 3)).off + 2, none⟩ = some (.slice A2 (rd_T40 xs i).f2.length c2) ∧ (rd_T40 xs i).f1.length ≤ c1 ∧ (Kd.int .u64).C w A1 (rd_T40 xs i).f1.length (rd_T40 xs i).f1 ∧ (rd_T40 xs i).f2.length ≤ c2 ∧ (Kd.int .u8).C w A2 (rd_T40 xs i).f2.length (rd_T40 xs i).f2 := by
  obtain ⟨ad, c, e, _, hK, hc0⟩ := Kd.C_get h z40 i h0 h1
  have hc : ∀ j u, c[j]? = some u → w.cell? (ad.add (i.toNat * 3 + j)) = some u := hc0
  obtain ⟨A1, c1, A2, c2, rfl, l1, g1, l2, g2⟩ := k40_open hK
  exact ⟨ad, A1, c1, A2, c2, e, hc 0 _ rfl, by rw [← add_field _ _ 1 (by omega)]; exact hc 1 _ rfl, by rw [← add_field _ _ 2 (by omega)]; exact hc 2 _ rfl, l1, g1, l2, g2⟩

/-! #### struct type 36 -/
structure S36 where
  f0 : ByteArray
  f1 : (List Int)
  f2 : (List Int)
def z36 : S36 := ⟨(⟨#[]⟩ : ByteArray), ([] : List Int), ([] : List Int)⟩
/-! #### struct type 68 -/
/-! #### struct type 69 -/
/-! #### struct type 130 -/
/-! #### struct type 131 -/
/-! #### struct type 134 -/
/-! #### struct type 135 -/
end Go.Proofs.YtmndhgiblpfcgaaDoor.W
end

section
/-
What the package-level variables read as, all through a call: the greatest short word's length, the tens' table, the two errors of strconv.
-/
namespace Go.Proofs.YtmndhgiblpfcgaaDoor.W
open Go.RowKit
set_option linter.unusedVariables false

structure Inv (w : World) : Prop where
  max : ∃ m, w.cell? ⟨0, 0, none⟩ = some (.int .i64 m)
  pow : Lib.TabIs Tryd.prog w "internal/strconv.uint64pow10" .u64 Lib.pow10Tab
  syn : ∃ tp p, w.cell? ⟨2, 0, none⟩ = some (.iface tp p)
  rng : ∃ tp p, w.cell? ⟨3, 0, none⟩ = some (.iface tp p)

theorem pow_named : Tryd.prog.globalNamed "internal/strconv.uint64pow10" = some 1 := by kernel_rfl

theorem cell_lt {w : World} {a : Addr} {v : Value} (h : w.cell? a = some v) : a.block < w.heap.size := by
  rcases Nat.lt_or_ge a.block w.heap.size with h' | h'
  · exact h'
  · simp [World.cell?, Array.getElem?_eq_none h'] at h
theorem cell_below {w w' : World} {a : Addr} {v : Value} (h : w.cell? a = some v) (hb : Below w.heap.size w w') : w'.cell? a = some v := (hb.cell (cell_lt h)).trans h
theorem Inv.below {w w' : World} (h : Inv w) (hb : Below w.heap.size w w') : Inv w' := by
  obtain ⟨⟨m, h1⟩, h2, ⟨t3, p3, h3⟩, ⟨t4, p4, h4⟩⟩ := h
  refine ⟨⟨m, cell_below h1 hb⟩, ?_, ⟨t3, p3, cell_below h3 hb⟩, ⟨t4, p4, cell_below h4 hb⟩⟩
  unfold Lib.TabIs at h2 ⊢
  unfold World.var? at h2 ⊢
  rw [pow_named] at h2 ⊢
  simp only [Option.bind_some] at h2 ⊢
  have hlt : 1 < w.heap.size := by
    rcases Nat.lt_or_ge 1 w.heap.size with h' | h'
    · exact h'
    · rw [Array.getElem?_eq_none h'] at h2; cases h2
  rw [hb.block _ hlt]
  exact h2
end Go.Proofs.YtmndhgiblpfcgaaDoor.W
end

section
/-
The laid variables of chapter 26's rows: a world that holds them (the witness), and what they give a walk ('Inv').
-/
namespace Go.Proofs.YtmndhgiblpfcgaaDoor.W
open Go.ChangeShapes Go.WideShapes Go.ChangeAt Go.RowKit
set_option linter.unusedVariables false

theorem own0 : ownKnob Tryd.prog.godebug = none := by kernel_rfl
theorem pow_type : (Tryd.prog.globals[1]?).map (·.type) = some 120 := by kernel_rfl
theorem pow_cells : Tryd.prog.cellsOf 120 = 20 := by kernel_rfl
theorem u64_cells : Tryd.prog.cellsOf 48 = 1 := by kernel_rfl
theorem syn_named : Tryd.prog.globalNamed "strconv.ErrSyntax" = some 2 := by kernel_rfl
theorem rng_named : Tryd.prog.globalNamed "strconv.ErrRange" = some 3 := by kernel_rfl
theorem syn_type : (Tryd.prog.globals[2]?).map (·.type) = some 61 := by kernel_rfl
theorem rng_type : (Tryd.prog.globals[3]?).map (·.type) = some 61 := by kernel_rfl

theorem max_of_shape (w : World) (h : w.ShapedOpen Tryd.prog) : ∃ m, w.cell? ⟨0, 0, none⟩ = some (.int .i64 m) :=
  Go.Proofs.cell_of_shapedOpen_int (zero := #[.int .i64 0]) (t := 3) h (of_decide_eq_true (by kernel_rfl)) (by kernel_rfl) rfl (by kernel_rfl) (by kernel_rfl) Tryd.underlying3
theorem tab_of_reads {W : World} {name : String} {k : IntKind} {zs : List Int} {g : Nat} {t e : TypeId} {n : Nat} (hg : Tryd.prog.globalNamed name = some g) (hty : (Tryd.prog.globals[g]?).map (·.type) = some t)
    (ht : Tryd.prog.underlying t = some (.array n e)) (he : Tryd.prog.underlying e = some (.int k)) (hce : Tryd.prog.cellsOf e = 1) (hct : Tryd.prog.cellsOf t = n) (h : Lib.VarReads Tryd.prog W name (Lib.tabData k zs)) : Lib.TabIs Tryd.prog W name k zs := by
  obtain ⟨g', t', cs, fuel, p, hg', ht', hvar, hd⟩ := h
  obtain rfl := Option.some.inj (hg.symm.trans hg')
  obtain rfl := Option.some.inj (hty.symm.trans ht')
  unfold Lib.TabIs
  rw [hvar, ← Lib.cells_of_tab ht he hce hct hd]
theorem iface_of_reads {W : World} {name nm : String} {g : Nat} {d : DataW Unit} (hg : Tryd.prog.globalNamed name = some g) (hty : (Tryd.prog.globals[g]?).map (·.type) = some 61) (h : Lib.VarReads Tryd.prog W name (.iface nm d)) : ∃ tp p, W.cell? ⟨g, 0, none⟩ = some (.iface tp p) := by
  obtain ⟨g', t', cs, fuel, p, hg', ht', hvar, hd⟩ := h
  obtain rfl := Option.some.inj (hg.symm.trans hg')
  obtain rfl := Option.some.inj (hty.symm.trans ht')
  obtain ⟨f1, u, v, hcs, hn, h1⟩ := iface_of_trod Tryd.underlying61 hd
  refine ⟨u, v, ?_⟩
  have := World.var?_cell hg hvar 0
  rw [this]
  obtain ⟨l⟩ := cs
  simp only at hcs
  subst hcs
  rfl
/-- WHAT THE ROW's LIST GIVES A WALK. -/
theorem inv_of_laid {W : World} {L : List (String × DataW Unit)} (hsh : W.ShapedOpen Tryd.prog) (hL : laidMet Tryd.prog L W) (h1 : ("internal/strconv.uint64pow10", Lib.tabData .u64 Lib.pow10Tab) ∈ L)
    (h2 : ("strconv.ErrSyntax", Rows.laid_strconv_ErrSyntax) ∈ L) (h3 : ("strconv.ErrRange", Rows.laid_strconv_ErrRange) ∈ L) : Inv W :=
  ⟨max_of_shape W hsh, tab_of_reads pow_named pow_type Tryd.underlying120 Tryd.underlying48 u64_cells pow_cells (Lib.laidMet.reads hL h1), iface_of_reads syn_named syn_type (Lib.laidMet.reads hL h2), iface_of_reads rng_named rng_type (Lib.laidMet.reads hL h3)⟩

/-- THE WITNESS: the settled world with two blocks more, each variable holding what its initialiser lays. -/
noncomputable def laidWorld (os : Os) : World :=
  let N := (World.settled Tryd.prog os).heap.size
  let w0 := World.holding Tryd.prog os ⟨#[.cells #[.string ⟨#[118, 97, 108, 117, 101, 32, 111, 117, 116, 32, 111, 102, 32, 114, 97, 110, 103, 101]⟩] 135, .cells #[.string ⟨#[105, 110, 118, 97, 108, 105, 100, 32, 115, 121, 110, 116, 97, 120]⟩] 135], #[], []⟩
  let put (h : Array Obj) (g : Nat) (cs : Array Value) : Array Obj := h.modify g fun
    | .cells _ t frozen => .cells cs t frozen
    | o => o
  let h1 := put w0.heap 1 (Lib.pow10Tab.map fun z => Value.int .u64 z).toArray
  let h2 := put h1 3 #[.iface 133 (.pointer (some ⟨N, 0, none⟩))]
  let h3 := put h2 2 #[.iface 133 (.pointer (some ⟨N + 1, 0, none⟩))]
  let h4 := put h3 4 (Lib.firstTab.map fun z => Value.int .u8 z).toArray
  let h5 := put h4 5 ((List.range 16).flatMap fun i => [Value.int .u8 (Lib.accLo i), Value.int .u8 (Lib.accHi i)]).toArray
  let h6 := put h5 6 ([0, 1, 28, 2, 29, 14, 24, 3, 30, 22, 20, 15, 25, 17, 4, 8, 31, 27, 13, 23, 21, 19, 16, 7, 26, 12, 18, 6, 11, 5, 10, 9].map fun z => Value.int .u8 z).toArray
  let h7 := put h6 7 ([0, 1, 56, 2, 57, 49, 28, 3, 61, 58, 42, 50, 38, 29, 17, 4, 62, 47, 59, 36, 45, 43, 51, 22, 53, 39, 33, 30, 24, 18, 12, 5, 63, 55, 48, 27, 60, 41, 37, 16, 46, 35, 44, 21, 52, 32, 23, 11, 54, 26, 40, 15, 34, 20, 31, 10, 25, 14, 19, 9, 13, 8, 7, 6].map fun z => Value.int .u8 z).toArray
  { w0 with heap := h7 }
theorem laid_met (os : Os) (args : Array Value) : laidMet Tryd.prog Rows.scriptParsesRow.laid ((laidWorld os).forCall (fun _ _ => 0) ⟨#[], args, []⟩).memory :=
  laidMet_of_run' 8 (by kernel_rfl) (by kernel_rfl)
end Go.Proofs.YtmndhgiblpfcgaaDoor.W
end

section
/-
  DERIVED: THE SHELF's CONTRACTS AT THIS DUMP, IN PLAIN WORDS (tools/lay-plain.mjs out of 'TrydShelf.lean', which tools/lay-shelf.mjs wrote): THE SAME DECLARATIONS UNDER THE SAME NAMES: 'import', 'namespace', 'open', 'def', 'theorem' AND NOTHING ELSE: no command of the shelf's: FOR A HAND-IN. Each laying: the table of numbers ('.._ren') and one theorem, a field a fact of the dump's own or the kernel's comparison; each contract: ONE APPLICATION.
-/
namespace Go.Proofs
open Go.Shelf
def Tryd.lays170_ren : Go.Shelf.Ren := ⟨fun | 170 => 23 | n => n, fun | 70 => 57 | 3 => 3 | 0 => 0 | 72 => 59 | 37 => 35 | 5 => 5 | n => n, fun | n => n⟩
theorem Tryd.lays170 : Go.Proofs.Lays.n170 Tryd.prog Tryd.lays170_ren := {
  mixed := by kernel_rfl
  f170 := Tryd.func23.trans (congrArg some (by kernel_rfl))
  t0 := Tryd.underlying0
  a0 := Tryd.isAgg0
  z0 := Tryd.sizeOf0
  v0 := Tryd.zeroValue0
  t3 := Tryd.underlying3
  a3 := Tryd.isAgg3
  z3 := Tryd.sizeOf3
  v3 := Tryd.zeroValue3
  t37 := Tryd.underlying35
  a37 := Tryd.isAgg35
  z37 := Tryd.sizeOf35
  v37 := Tryd.zeroValue35
  t70 := Tryd.underlying57
  a70 := Tryd.isAgg57
  z70 := Tryd.sizeOf57
  v70 := Tryd.zeroValue57
  t72 := Tryd.underlying59
  a72 := Tryd.isAgg59
  z72 := Tryd.sizeOf59
  v72 := Tryd.zeroValue59 }
open Go.RowKit in
/-- (*strings.Builder).Len: "Len returns the number of accumulated bytes; b.Len() == len(b.String()).": the world is as it was. (LAID: no walk: one application.) -/
theorem Tryd.Builder_Len (B b : Nat) (bs : List Value) (w : World) (h : Lib.IsBuilder 59 5 B b bs w) :
    Calls Tryd.prog 23 #[.pointer (some ⟨b, 0, none⟩)] w fun e w' => e = .returned (.int .i64 bs.length) ∧ w' = w := Any.Builder_Len Tryd.lays170 B b bs w h
def Tryd.lays169_ren : Go.Shelf.Ren := ⟨fun | 169 => 24 | n => n, fun | 70 => 57 | 9 => 9 | 0 => 0 | 72 => 59 | 37 => 35 | 127 => 85 | 3 => 3 | 5 => 5 | n => n, fun | n => n⟩
theorem Tryd.lays169 : Go.Proofs.Lays.n169 Tryd.prog Tryd.lays169_ren := {
  mixed := by kernel_rfl
  f169 := Tryd.func24.trans (congrArg some (by kernel_rfl))
  t0 := Tryd.underlying0
  a0 := Tryd.isAgg0
  z0 := Tryd.sizeOf0
  v0 := Tryd.zeroValue0
  t3 := Tryd.underlying3
  a3 := Tryd.isAgg3
  z3 := Tryd.sizeOf3
  v3 := Tryd.zeroValue3
  t9 := Tryd.underlying9
  a9 := Tryd.isAgg9
  z9 := Tryd.sizeOf9
  v9 := Tryd.zeroValue9
  t37 := Tryd.underlying35
  a37 := Tryd.isAgg35
  z37 := Tryd.sizeOf35
  v37 := Tryd.zeroValue35
  t70 := Tryd.underlying57
  a70 := Tryd.isAgg57
  z70 := Tryd.sizeOf57
  v70 := Tryd.zeroValue57
  t72 := Tryd.underlying59
  a72 := Tryd.isAgg59
  z72 := Tryd.sizeOf59
  v72 := Tryd.zeroValue59
  t127 := Tryd.underlying85
  a127 := Tryd.isAgg85
  z127 := Tryd.sizeOf85
  v127 := Tryd.zeroValue85 }
theorem Tryd.Builder_Extra_169 : Builder.Extra Tryd.prog Tryd.lays169_ren := {
  sizeBuilder := by kernel_rfl
  liesBuilder := by kernel_rfl
  t5 := Tryd.underlying5
  a5 := Tryd.isAgg5
  z5 := Tryd.sizeOf5
  v5 := Tryd.zeroValue5
  infoByte := by kernel_rfl
  cellsByte := by kernel_rfl
  sizeByte := by kernel_rfl
  neB5 := by decide }
open Go.RowKit in
/-- (*strings.Builder).String: "String returns the accumulated string.": WHATEVER THE BUILDER HOLDS. (LAID: no walk: one application.) -/
theorem Tryd.Builder_String_any (B b : Nat) (l : List UInt8) (w : World) (h : Lib.IsBuilder 59 5 B b (Lib.byteCells l) w) (hBw : B ≤ w.heap.size) :
    Calls Tryd.prog 24 #[.pointer (some ⟨b, 0, none⟩)] w fun e w' => e = .returned (.string ⟨l.toArray⟩) ∧ Below B w w' := Any.Builder_String_any Tryd.lays169 Tryd.Builder_Extra_169 B b l w h hBw
def Tryd.lays137_ren : Go.Shelf.Ren := ⟨fun | 137 => 48 | 217 => 52 | 266 => 65 | n => n, fun | 9 => 9 | 5 => 5 | 3 => 3 | n => n, fun | n => n⟩
theorem Tryd.lays137 : Go.Proofs.Lays.n137 Tryd.prog Tryd.lays137_ren := {
  mixed := by kernel_rfl
  f137 := Tryd.func48.trans (congrArg some (by kernel_rfl))
  f217 := Tryd.func52.trans (congrArg some (by kernel_rfl))
  f266 := Tryd.func65.trans (congrArg some (by kernel_rfl))
  t3 := Tryd.underlying3
  a3 := Tryd.isAgg3
  z3 := Tryd.sizeOf3
  v3 := Tryd.zeroValue3
  t5 := Tryd.underlying5
  a5 := Tryd.isAgg5
  z5 := Tryd.sizeOf5
  v5 := Tryd.zeroValue5
  t9 := Tryd.underlying9
  a9 := Tryd.isAgg9
  z9 := Tryd.sizeOf9
  v9 := Tryd.zeroValue9 }
open Go.RowKit in
/-- strings.IndexByte: "IndexByte returns the index of the first instance of c in s, or -1 if c is not present in s.": IT RETURNS 'Lib.indexByte s c'; the world is as it was. (LAID: no walk: one application.) -/
theorem Tryd.strings_IndexByte (s : ByteArray) (c : Int) (w : World) :
    Calls Tryd.prog 48 #[.string s, .int .u8 c] w fun e w' => e = .returned (.int .i64 (Lib.indexByte s.data.toList c.toNat.toUInt8)) ∧ w' = w := Any.strings_IndexByte Tryd.lays137 s c w
def Tryd.lays283_ren : Go.Shelf.Ren := ⟨fun | 283 => 61 | n => n, fun | 3 => 3 | 9 => 9 | 4 => 4 | n => n, fun | n => n⟩
theorem Tryd.lays283 : Go.Proofs.Lays.n283 Tryd.prog Tryd.lays283_ren := {
  mixed := by kernel_rfl
  f283 := Tryd.func61.trans (congrArg some (by kernel_rfl))
  t3 := Tryd.underlying3
  a3 := Tryd.isAgg3
  z3 := Tryd.sizeOf3
  v3 := Tryd.zeroValue3
  t4 := Tryd.underlying4
  a4 := Tryd.isAgg4
  z4 := Tryd.sizeOf4
  v4 := Tryd.zeroValue4
  t9 := Tryd.underlying9
  a9 := Tryd.isAgg9
  z9 := Tryd.sizeOf9
  v9 := Tryd.zeroValue9 }
open Go.Lib in
/-- internal/strconv.small: "small returns the string for an i with 0 <= i < nSmalls.": i's decimal numeral. The world is as it was. (LAID: no walk: one application.) -/
theorem Tryd.internal_strconv_small (i : Nat) (h : i < 100) (w : World) :
    Calls Tryd.prog 61 #[.int .i64 i] w fun e w' => e = .returned (.string ⟨(Lib.decDigits i).toArray⟩) ∧ w' = w := Any.internal_strconv_small Tryd.lays283 i h w
def Tryd.laysM284_ren : Go.Shelf.Ren := ⟨fun | 284 => 62 | 129 => 77 | 317 => 76 | 318 => 78 | n => n, fun | 53 => 48 | 3 => 3 | 212 => 120 | 0 => 0 | 4 => 4 | 46 => 72 | 5 => 5 | 9 => 9 | n => n, fun | 17 => 1 | n => n⟩
theorem Tryd.laysM284 : Go.Proofs.LaysM.n284 Tryd.prog Tryd.laysM284_ren := {
  mixed := by kernel_rfl
  f129 := Tryd.func77.trans (congrArg some (by kernel_rfl))
  f284 := Tryd.func62.trans (congrArg some (by kernel_rfl))
  f317 := Tryd.func76.trans (congrArg some (by kernel_rfl))
  f318 := Tryd.func78.trans (congrArg some (by kernel_rfl))
  t0 := Tryd.underlying0
  a0 := Tryd.isAgg0
  z0 := Tryd.sizeOf0
  v0 := Tryd.zeroValue0
  t3 := Tryd.underlying3
  a3 := Tryd.isAgg3
  z3 := Tryd.sizeOf3
  v3 := Tryd.zeroValue3
  t4 := Tryd.underlying4
  a4 := Tryd.isAgg4
  z4 := Tryd.sizeOf4
  v4 := Tryd.zeroValue4
  t5 := Tryd.underlying5
  a5 := Tryd.isAgg5
  z5 := Tryd.sizeOf5
  v5 := Tryd.zeroValue5
  t9 := Tryd.underlying9
  a9 := Tryd.isAgg9
  z9 := Tryd.sizeOf9
  v9 := Tryd.zeroValue9
  t46 := Tryd.underlying72
  a46 := Tryd.isAgg72
  z46 := Tryd.sizeOf72
  v46 := Tryd.zeroValue72
  t53 := Tryd.underlying48
  a53 := Tryd.isAgg48
  z53 := Tryd.sizeOf48
  v53 := Tryd.zeroValue48
  t212 := Tryd.underlying120
  a212 := Tryd.isAgg120
  z212 := Tryd.sizeOf120
  v212 := Tryd.zeroValue120
  g17 := by kernel_rfl
  i0 := by kernel_rfl
  i3 := by kernel_rfl
  i4 := by kernel_rfl
  i5 := by kernel_rfl
  i9 := by kernel_rfl
  i46 := by kernel_rfl
  i53 := by kernel_rfl
  i212 := by kernel_rfl
  m17 := by kernel_rfl }
open Go.Lib in
/-- internal/strconv.numDigits, at a d that is not 0: THE NUMBER OF d's DECIMAL DIGITS. The world is as it was. (LAID: no walk: one application.) -/
theorem Tryd.internal_strconv_numDigits (u : Nat) (h1 : 1 ≤ u) (h2 : u < 18446744073709551616) (w : World) (htab : Lib.TabIs Tryd.prog w "internal/strconv.uint64pow10" .u64 Lib.pow10Tab) :
    Calls Tryd.prog 62 #[.int .u64 u] w fun e w' => e = .returned (.int .i64 (Lib.nDigits u)) ∧ w' = w := Any.internal_strconv_numDigits Tryd.laysM284 u h1 h2 w htab
def Tryd.lays285_ren : Go.Shelf.Ren := ⟨fun | 285 => 63 | n => n, fun | 37 => 35 | 53 => 48 | 3 => 3 | 4 => 4 | 51 => 87 | 9 => 9 | 5 => 5 | 0 => 0 | n => n, fun | n => n⟩
theorem Tryd.lays285 : Go.Proofs.Lays.n285 Tryd.prog Tryd.lays285_ren := {
  mixed := by kernel_rfl
  f285 := Tryd.func63.trans (congrArg some (by kernel_rfl))
  t0 := Tryd.underlying0
  a0 := Tryd.isAgg0
  z0 := Tryd.sizeOf0
  v0 := Tryd.zeroValue0
  t3 := Tryd.underlying3
  a3 := Tryd.isAgg3
  z3 := Tryd.sizeOf3
  v3 := Tryd.zeroValue3
  t4 := Tryd.underlying4
  a4 := Tryd.isAgg4
  z4 := Tryd.sizeOf4
  v4 := Tryd.zeroValue4
  t5 := Tryd.underlying5
  a5 := Tryd.isAgg5
  z5 := Tryd.sizeOf5
  v5 := Tryd.zeroValue5
  t9 := Tryd.underlying9
  a9 := Tryd.isAgg9
  z9 := Tryd.sizeOf9
  v9 := Tryd.zeroValue9
  t37 := Tryd.underlying35
  a37 := Tryd.isAgg35
  z37 := Tryd.sizeOf35
  v37 := Tryd.zeroValue35
  t51 := Tryd.underlying87
  a51 := Tryd.isAgg87
  z51 := Tryd.sizeOf87
  v51 := Tryd.zeroValue87
  t53 := Tryd.underlying48
  a53 := Tryd.isAgg48
  z53 := Tryd.sizeOf48
  v53 := Tryd.zeroValue48 }
open Go.RowKit Go.Sort Go.Lib in
/-- internal/strconv.formatBase10: "formatBase10 formats the decimal representation of u into a. The caller is responsible for ensuring that a is big enough to hold u. If a is too big, leading zeros will be filled in as needed.": THE ROW HOLDS u's DIGITS ('FmtInv .. 0 ..': every place t holds 'dg u (len - 1 - t)'); all else is as it was but for the count of draws. (LAID: no walk: one application.) -/
theorem Tryd.internal_strconv_formatBase10 (blk off cap : Nat) (u : Nat) (d : Array UInt8) (w : World) (hH : Holds (fun (b : UInt8) => Value.int .u8 (b.toNat : Int)) w blk off d) (hu : u < 10 ^ d.size) (hu64 : u < 18446744073709551616) (hsz : d.size < 4611686018427387904) :
    Calls Tryd.prog 63 #[.slice (some ⟨blk, off, none⟩) d.size cap, .int .u64 u] w fun e w' =>
      e = .returned (.tuple #[]) ∧ ∃ (n v' : Nat) (dk : Array UInt8), w' = (putRow (fun (b : UInt8) => Value.int .u8 (b.toNat : Int)) w blk off dk).drewN n ∧ FmtInv d.size u 0 v' dk := Any.internal_strconv_formatBase10 Tryd.lays285 blk off cap u d w hH hu hu64 hsz
def Tryd.laysPu14_ren : Go.Shelf.Ren := ⟨fun | 14 => 47 | 16 => 59 | 17 => 60 | 19 => 70 | 20 => 71 | 21 => 72 | 22 => 73 | 23 => 74 | 24 => 75 | 25 => 82 | 27 => 84 | 26 => 83 | 28 => 87 | 29 => 88 | 30 => 61 | 31 => 62 | 32 => 63 | 33 => 64 | 35 => 77 | 34 => 76 | 36 => 78 | 37 => 79 | 38 => 80 | 39 => 85 | 40 => 86 | n => n, fun | 9 => 9 | 3 => 3 | 22 => 48 | 24 => 61 | 25 => 97 | 4 => 4 | 34 => 115 | 5 => 5 | 36 => 72 | 37 => 35 | 0 => 0 | 39 => 116 | 21 => 21 | 44 => 126 | 47 => 85 | 50 => 135 | 48 => 133 | 2 => 2 | 52 => 106 | 55 => 109 | 59 => 120 | 60 => 87 | 20 => 20 | 61 => 121 | 65 => 136 | 66 => 137 | 67 => 64 | n => n, fun | 0 => 2 | 1 => 3 | 2 => 1 | 3 => 6 | 4 => 7 | n => n⟩
theorem Tryd.laysPu14 : Go.Proofs.LaysPu.n14 Tryd.prog Tryd.laysPu14_ren := {
  mixed := by kernel_rfl
  f14 := Tryd.func47.trans (congrArg some (by kernel_rfl))
  f16 := Tryd.func59.trans (congrArg some (by kernel_rfl))
  f17 := Tryd.func60.trans (congrArg some (by kernel_rfl))
  f19 := Tryd.func70.trans (congrArg some (by kernel_rfl))
  f20 := Tryd.func71.trans (congrArg some (by kernel_rfl))
  f21 := Tryd.func72.trans (congrArg some (by kernel_rfl))
  f22 := Tryd.func73.trans (congrArg some (by kernel_rfl))
  f23 := Tryd.func74.trans (congrArg some (by kernel_rfl))
  f24 := Tryd.func75.trans (congrArg some (by kernel_rfl))
  f25 := Tryd.func82.trans (congrArg some (by kernel_rfl))
  f26 := Tryd.func83.trans (congrArg some (by kernel_rfl))
  f27 := Tryd.func84.trans (congrArg some (by kernel_rfl))
  f28 := Tryd.func87.trans (congrArg some (by kernel_rfl))
  f29 := Tryd.func88.trans (congrArg some (by kernel_rfl))
  f30 := Tryd.func61.trans (congrArg some (by kernel_rfl))
  f31 := Tryd.func62.trans (congrArg some (by kernel_rfl))
  f32 := Tryd.func63.trans (congrArg some (by kernel_rfl))
  f33 := Tryd.func64.trans (congrArg some (by kernel_rfl))
  f34 := Tryd.func76.trans (congrArg some (by kernel_rfl))
  f35 := Tryd.func77.trans (congrArg some (by kernel_rfl))
  f36 := Tryd.func78.trans (congrArg some (by kernel_rfl))
  f37 := Tryd.func79.trans (congrArg some (by kernel_rfl))
  f38 := Tryd.func80.trans (congrArg some (by kernel_rfl))
  f39 := Tryd.func85.trans (congrArg some (by kernel_rfl))
  f40 := Tryd.func86.trans (congrArg some (by kernel_rfl))
  t0 := Tryd.underlying0
  a0 := Tryd.isAgg0
  z0 := Tryd.sizeOf0
  v0 := Tryd.zeroValue0
  i0 := by kernel_rfl
  t2 := Tryd.underlying2
  a2 := Tryd.isAgg2
  z2 := Tryd.sizeOf2
  v2 := Tryd.zeroValue2
  i2 := by kernel_rfl
  t3 := Tryd.underlying3
  a3 := Tryd.isAgg3
  z3 := Tryd.sizeOf3
  v3 := Tryd.zeroValue3
  i3 := by kernel_rfl
  t4 := Tryd.underlying4
  a4 := Tryd.isAgg4
  z4 := Tryd.sizeOf4
  v4 := Tryd.zeroValue4
  i4 := by kernel_rfl
  t5 := Tryd.underlying5
  a5 := Tryd.isAgg5
  z5 := Tryd.sizeOf5
  v5 := Tryd.zeroValue5
  i5 := by kernel_rfl
  t9 := Tryd.underlying9
  a9 := Tryd.isAgg9
  z9 := Tryd.sizeOf9
  v9 := Tryd.zeroValue9
  i9 := by kernel_rfl
  t20 := Tryd.underlying20
  a20 := Tryd.isAgg20
  z20 := Tryd.sizeOf20
  v20 := Tryd.zeroValue20
  i20 := by kernel_rfl
  t21 := Tryd.underlying21
  a21 := Tryd.isAgg21
  z21 := Tryd.sizeOf21
  v21 := Tryd.zeroValue21
  i21 := by kernel_rfl
  t22 := Tryd.underlying48
  a22 := Tryd.isAgg48
  z22 := Tryd.sizeOf48
  v22 := Tryd.zeroValue48
  i22 := by kernel_rfl
  t24 := Tryd.underlying61
  a24 := Tryd.isAgg61
  z24 := Tryd.sizeOf61
  v24 := Tryd.zeroValue61
  i24 := by kernel_rfl
  t25 := Tryd.underlying97
  a25 := Tryd.isAgg97
  z25 := Tryd.sizeOf97
  v25 := Tryd.zeroValue97
  i25 := by kernel_rfl
  t34 := Tryd.underlying115
  a34 := Tryd.isAgg115
  z34 := Tryd.sizeOf115
  v34 := Tryd.zeroValue115
  i34 := by kernel_rfl
  c34 := by kernel_rfl
  t36 := Tryd.underlying72
  a36 := Tryd.isAgg72
  z36 := Tryd.sizeOf72
  v36 := Tryd.zeroValue72
  i36 := by kernel_rfl
  t37 := Tryd.underlying35
  a37 := Tryd.isAgg35
  z37 := Tryd.sizeOf35
  v37 := Tryd.zeroValue35
  i37 := by kernel_rfl
  t39 := Tryd.underlying116
  a39 := Tryd.isAgg116
  z39 := Tryd.sizeOf116
  v39 := Tryd.zeroValue116
  i39 := by kernel_rfl
  t44 := Tryd.underlying126
  a44 := Tryd.isAgg126
  z44 := Tryd.sizeOf126
  v44 := Tryd.zeroValue126
  i44 := by kernel_rfl
  t47 := Tryd.underlying85
  a47 := Tryd.isAgg85
  z47 := Tryd.sizeOf85
  v47 := Tryd.zeroValue85
  i47 := by kernel_rfl
  t48 := Tryd.underlying133
  a48 := Tryd.isAgg133
  z48 := Tryd.sizeOf133
  v48 := Tryd.zeroValue133
  i48 := by kernel_rfl
  t50 := Tryd.underlying135
  a50 := Tryd.isAgg135
  z50 := Tryd.sizeOf135
  v50 := Tryd.zeroValue135
  i50 := by kernel_rfl
  t52 := Tryd.underlying106
  a52 := Tryd.isAgg106
  z52 := Tryd.sizeOf106
  v52 := Tryd.zeroValue106
  i52 := by kernel_rfl
  t55 := Tryd.underlying109
  a55 := Tryd.isAgg109
  z55 := Tryd.sizeOf109
  v55 := Tryd.zeroValue109
  i55 := by kernel_rfl
  t59 := Tryd.underlying120
  a59 := Tryd.isAgg120
  z59 := Tryd.sizeOf120
  v59 := Tryd.zeroValue120
  i59 := by kernel_rfl
  t60 := Tryd.underlying87
  a60 := Tryd.isAgg87
  z60 := Tryd.sizeOf87
  v60 := Tryd.zeroValue87
  i60 := by kernel_rfl
  t61 := Tryd.underlying121
  a61 := Tryd.isAgg121
  z61 := Tryd.sizeOf121
  t65 := Tryd.underlying136
  a65 := Tryd.isAgg136
  z65 := Tryd.sizeOf136
  v65 := Tryd.zeroValue136
  i65 := by kernel_rfl
  t66 := Tryd.underlying137
  a66 := Tryd.isAgg137
  z66 := Tryd.sizeOf137
  v66 := Tryd.zeroValue137
  i66 := by kernel_rfl
  t67 := Tryd.underlying64
  a67 := Tryd.isAgg64
  z67 := Tryd.sizeOf64
  v67 := Tryd.zeroValue64
  i67 := by kernel_rfl
  g0 := by kernel_rfl
  m0 := by kernel_rfl
  g1 := by kernel_rfl
  m1 := by kernel_rfl
  g2 := by kernel_rfl
  m2 := by kernel_rfl
  g3 := by kernel_rfl
  m3 := by kernel_rfl
  g4 := by kernel_rfl
  m4 := by kernel_rfl }
open Go.RowKit in
/-- strconv.ParseUint(s, 10, 64), AT EVERY STRING THAT SPELLS A uint64 ('Lib.parseUintB 64 s.data.toList = .ok u'): u, AND NO ERROR. (LAID: no walk: one application.) -/
theorem Tryd.strconv_ParseUint_10_at64_ok (s : ByteArray) (hmax : s.size ≤ 9223372036854775806) (u : Nat) (h : Lib.parseUintB 64 s.data.toList = .ok u) (w : World) :
    Calls Tryd.prog 47 #[.string s, .int .i64 10, .int .i64 64] w fun e w' => e = .returned (.tuple #[.int .u64 u, .nilIface]) ∧ (w' = w ∨ w' = Lib.bytesWorld w 5 s) := Any.strconv_ParseUint_10_at64_ok Tryd.laysPu14 s hmax u h w
open Go.RowKit in
/-- strconv.ParseUint(s, 10, 64), AT EVERY NUMERAL THAT NO uint64 HOLDS: THE GREATEST uint64, AND AN ERROR THAT IS NOT nil: a *NumError in a new block N: {Func: "ParseUint", Num: s's bytes, Err: what the variable ErrRange holds}. Of what was there nothing has turned. (LAID: no walk: one application.) -/
theorem Tryd.strconv_ParseUint_10_at64_range (s : ByteArray) (hlim : s.size ≤ 281474976710656) (h : Lib.parseUintB 64 s.data.toList = .range) (ev : Value) (w : World) (hv : w.cell? ⟨3, 0, none⟩ = some ev) (hev : ev = .nilIface ∨ ∃ te pe, ev = .iface te pe) :
    Calls Tryd.prog 47 #[.string s, .int .i64 10, .int .i64 64] w fun e w' => ∃ N, e = .returned (.tuple #[.int .u64 18446744073709551615, .iface 116 (.pointer (some ⟨N, 0, none⟩))]) ∧ w.heap.size ≤ N ∧ w'.heap[N]? = some (.cells #[.string ⟨#[80, 97, 114, 115, 101, 85, 105, 110, 116]⟩, .string s, ev] 126 (0, 0)) ∧ Below w.heap.size w w' := Any.strconv_ParseUint_10_at64_range Tryd.laysPu14 s hlim h ev w hv hev
def Tryd.lays145_ren : Go.Shelf.Ren := ⟨fun | 145 => 17 | 220 => 29 | 219 => 43 | 217 => 52 | 225 => 53 | 224 => 54 | 267 => 55 | 266 => 65 | 314 => 66 | n => n, fun | 9 => 9 | 4 => 4 | 59 => 50 | 3 => 3 | 5 => 5 | 46 => 72 | 146 => 88 | 51 => 87 | n => n, fun | 1 => 0 | n => n⟩
theorem Tryd.lays145 : Go.Proofs.Lays.n145 Tryd.prog Tryd.lays145_ren := {
  mixed := by kernel_rfl
  f145 := Tryd.func17.trans (congrArg some (by kernel_rfl))
  f217 := Tryd.func52.trans (congrArg some (by kernel_rfl))
  f219 := Tryd.func43.trans (congrArg some (by kernel_rfl))
  f220 := Tryd.func29.trans (congrArg some (by kernel_rfl))
  f224 := Tryd.func54.trans (congrArg some (by kernel_rfl))
  f225 := Tryd.func53.trans (congrArg some (by kernel_rfl))
  f266 := Tryd.func65.trans (congrArg some (by kernel_rfl))
  f267 := Tryd.func55.trans (congrArg some (by kernel_rfl))
  f314 := Tryd.func66.trans (congrArg some (by kernel_rfl))
  t3 := Tryd.underlying3
  a3 := Tryd.isAgg3
  z3 := Tryd.sizeOf3
  v3 := Tryd.zeroValue3
  t4 := Tryd.underlying4
  a4 := Tryd.isAgg4
  z4 := Tryd.sizeOf4
  v4 := Tryd.zeroValue4
  t5 := Tryd.underlying5
  a5 := Tryd.isAgg5
  z5 := Tryd.sizeOf5
  v5 := Tryd.zeroValue5
  t9 := Tryd.underlying9
  a9 := Tryd.isAgg9
  z9 := Tryd.sizeOf9
  v9 := Tryd.zeroValue9
  t46 := Tryd.underlying72
  a46 := Tryd.isAgg72
  z46 := Tryd.sizeOf72
  v46 := Tryd.zeroValue72
  t51 := Tryd.underlying87
  a51 := Tryd.isAgg87
  z51 := Tryd.sizeOf87
  v51 := Tryd.zeroValue87
  t59 := Tryd.underlying50
  a59 := Tryd.isAgg50
  z59 := Tryd.sizeOf50
  v59 := Tryd.zeroValue50
  t146 := Tryd.underlying88
  a146 := Tryd.isAgg88
  z146 := Tryd.sizeOf88
  v146 := Tryd.zeroValue88
  g1 := by kernel_rfl }
open Go.RowKit Go.Lib in
/-- strings.Cut: "Cut slices s around the first instance of sep, returning the text before and after sep. The found result reports whether sep appears in s. If sep does not appear in s, cut returns s, "", false.": IT RETURNS 'Lib.cut s sep'; the world is as it was but for the count of draws. (LAID: no walk: one application.) -/
theorem Tryd.strings_Cut (s sep : ByteArray) (m : Int) (w : World) (hs : s.size < 4294967281) (hm : w.cell? ⟨0, 0, none⟩ = some (.int .i64 m)) :
    Calls Tryd.prog 17 #[.string s, .string sep] w fun e w' => e = .returned (.tuple #[.string ⟨(Lib.cut s.data.toList sep.data.toList).1.toArray⟩, .string ⟨(Lib.cut s.data.toList sep.data.toList).2.1.toArray⟩, .bool (Lib.cut s.data.toList sep.data.toList).2.2]) ∧ ∃ n, w' = w.drewN n := Any.strings_Cut Tryd.lays145 s sep m w hs hm
def Tryd.lays146_ren : Go.Shelf.Ren := ⟨fun | 146 => 30 | 221 => 44 | 268 => 56 | 138 => 57 | 143 => 58 | 195 => 67 | 197 => 68 | 218 => 69 | 219 => 43 | 260 => 81 | 217 => 52 | 225 => 53 | 224 => 54 | 267 => 55 | 266 => 65 | 314 => 66 | n => n, fun | 9 => 9 | 31 => 42 | 3 => 3 | 4 => 4 | 0 => 0 | 105 => 113 | 21 => 21 | 5 => 5 | 46 => 72 | 119 => 129 | 139 => 132 | 138 => 131 | 146 => 88 | 51 => 87 | n => n, fun | 1 => 0 | 3 => 4 | 4 => 5 | n => n⟩
theorem Tryd.lays146 : Go.Proofs.Lays.n146 Tryd.prog Tryd.lays146_ren := {
  mixed := by kernel_rfl
  f138 := Tryd.func57.trans (congrArg some (by kernel_rfl))
  f143 := Tryd.func58.trans (congrArg some (by kernel_rfl))
  f146 := Tryd.func30.trans (congrArg some (by kernel_rfl))
  f195 := Tryd.func67.trans (congrArg some (by kernel_rfl))
  f197 := Tryd.func68.trans (congrArg some (by kernel_rfl))
  f217 := Tryd.func52.trans (congrArg some (by kernel_rfl))
  f218 := Tryd.func69.trans (congrArg some (by kernel_rfl))
  f219 := Tryd.func43.trans (congrArg some (by kernel_rfl))
  f221 := Tryd.func44.trans (congrArg some (by kernel_rfl))
  f224 := Tryd.func54.trans (congrArg some (by kernel_rfl))
  f225 := Tryd.func53.trans (congrArg some (by kernel_rfl))
  f260 := Tryd.func81.trans (congrArg some (by kernel_rfl))
  f266 := Tryd.func65.trans (congrArg some (by kernel_rfl))
  f267 := Tryd.func55.trans (congrArg some (by kernel_rfl))
  f268 := Tryd.func56.trans (congrArg some (by kernel_rfl))
  f314 := Tryd.func66.trans (congrArg some (by kernel_rfl))
  t0 := Tryd.underlying0
  a0 := Tryd.isAgg0
  z0 := Tryd.sizeOf0
  v0 := Tryd.zeroValue0
  t3 := Tryd.underlying3
  a3 := Tryd.isAgg3
  z3 := Tryd.sizeOf3
  v3 := Tryd.zeroValue3
  t4 := Tryd.underlying4
  a4 := Tryd.isAgg4
  z4 := Tryd.sizeOf4
  v4 := Tryd.zeroValue4
  t5 := Tryd.underlying5
  a5 := Tryd.isAgg5
  z5 := Tryd.sizeOf5
  v5 := Tryd.zeroValue5
  t9 := Tryd.underlying9
  a9 := Tryd.isAgg9
  z9 := Tryd.sizeOf9
  v9 := Tryd.zeroValue9
  t21 := Tryd.underlying21
  a21 := Tryd.isAgg21
  z21 := Tryd.sizeOf21
  v21 := Tryd.zeroValue21
  t31 := Tryd.underlying42
  a31 := Tryd.isAgg42
  z31 := Tryd.sizeOf42
  v31 := Tryd.zeroValue42
  t46 := Tryd.underlying72
  a46 := Tryd.isAgg72
  z46 := Tryd.sizeOf72
  v46 := Tryd.zeroValue72
  t51 := Tryd.underlying87
  a51 := Tryd.isAgg87
  z51 := Tryd.sizeOf87
  v51 := Tryd.zeroValue87
  t105 := Tryd.underlying113
  a105 := Tryd.isAgg113
  z105 := Tryd.sizeOf113
  v105 := Tryd.zeroValue113
  t119 := Tryd.underlying129
  a119 := Tryd.isAgg129
  z119 := Tryd.sizeOf129
  t138 := Tryd.underlying131
  a138 := Tryd.isAgg131
  z138 := Tryd.sizeOf131
  v138 := Tryd.zeroValue131
  t139 := Tryd.underlying132
  a139 := Tryd.isAgg132
  z139 := Tryd.sizeOf132
  v139 := Tryd.zeroValue132
  t146 := Tryd.underlying88
  a146 := Tryd.isAgg88
  z146 := Tryd.sizeOf88
  v146 := Tryd.zeroValue88
  g1 := by kernel_rfl
  g3 := by kernel_rfl
  g4 := by kernel_rfl }
open Go.RowKit Go.Lib in
/-- strings.Split. (LAID: no walk: one application.) -/
theorem Tryd.strings_Split (s sep : ByteArray) (m : Int) (w : World) (hs : s.size < 4294967281) (hm : w.cell? ⟨0, 0, none⟩ = some (.int .i64 m)) (h1 : 1 ≤ sep.size) :
    Calls Tryd.prog 30 #[.string s, .string sep] w fun e w' =>
      e = .returned (.slice (some ⟨w.heap.size, 0, none⟩) (Lib.countB s sep + 1) (Lib.countB s sep + 1)) ∧ w' = w.alloc (.cells ((Lib.splitB sep 0 (Lib.countB s sep) s).map Value.string).toArray 9) := Any.strings_Split Tryd.lays146 (by kernel_rfl) s sep m w hs hm h1
def Tryd.lays212_ren : Go.Shelf.Ren := ⟨fun | 212 => 28 | 263 => 41 | 264 => 42 | n => n, fun | 46 => 72 | 51 => 87 | 146 => 88 | 53 => 48 | 148 => 90 | n => n, fun | n => n⟩
theorem Tryd.lays212 : Go.Proofs.Lays.n212 Tryd.prog Tryd.lays212_ren := {
  mixed := by kernel_rfl
  f212 := Tryd.func28.trans (congrArg some (by kernel_rfl))
  f263 := Tryd.func41.trans (congrArg some (by kernel_rfl))
  f264 := Tryd.func42.trans (congrArg some (by kernel_rfl))
  t46 := Tryd.underlying72
  a46 := Tryd.isAgg72
  z46 := Tryd.sizeOf72
  v46 := Tryd.zeroValue72
  t51 := Tryd.underlying87
  a51 := Tryd.isAgg87
  z51 := Tryd.sizeOf87
  v51 := Tryd.zeroValue87
  t53 := Tryd.underlying48
  a53 := Tryd.isAgg48
  z53 := Tryd.sizeOf48
  v53 := Tryd.zeroValue48
  t146 := Tryd.underlying88
  a146 := Tryd.isAgg88
  z146 := Tryd.sizeOf88
  v146 := Tryd.zeroValue88
  t148 := Tryd.underlying90
  a148 := Tryd.isAgg90
  z148 := Tryd.sizeOf90
  v148 := Tryd.zeroValue90 }
open Go.RowKit Go.Lib in
/-- math/bits.Mul: "Mul returns the full-width product of x and y": on a machine of 64 bits: Mul64's. (LAID: no walk: one application.) -/
theorem Tryd.bits_Mul (x y : Nat) (hx : x < 18446744073709551616) (hy : y < 18446744073709551616) (w : World) :
    Calls Tryd.prog 28 #[.int .u64 x, .int .u64 y] w fun e w' => e = .returned (.tuple #[.int .u64 ((x * y / 18446744073709551616 : Nat) : Int), .int .u64 ((x * y % 18446744073709551616 : Nat) : Int)]) ∧ w' = w := Any.bits_Mul Tryd.lays212 x y hx hy w
end Go.Proofs
end

section
/-
Bytes as the printed functions have them (whole numbers, byte arrays) and as the plain laws have them.
-/
namespace Go.Proofs.YtmndhgiblpfcgaaDoor.W
open Go.RowKit Go.Proofs.YtmndhgiblpfcgaaDoorW.PrintWords
set_option linter.unusedVariables false
set_option linter.unusedSimpArgs false

def ba (l : List UInt8) : ByteArray := ⟨l.toArray⟩
def ints (l : List UInt8) : List Int := l.map fun b => (b.toNat : Int)
theorem ba_ex (s : ByteArray) : ∃ l, s = ba l := ⟨s.data.toList, by cases s; simp [ba]⟩
theorem ba_data (l : List UInt8) : (ba l).data.toList = l := by simp [ba]
theorem ba_size (l : List UInt8) : (ba l).size = l.length := by simp [ba, ByteArray.size]
theorem ba_toList (l : List UInt8) : (ba l).toList = l := ByteArray.toList_mk l
theorem ba_inj {a b : List UInt8} (h : ba a = ba b) : a = b := by have := congrArg (fun s : ByteArray => s.data.toList) h; simpa [ba_data] using this
theorem ba_append (a b : List UInt8) : ba a ++ ba b = ba (a ++ b) := by
  apply ByteArray.ext
  simp [ba]
theorem ba_extract (l : List UInt8) (a b : Nat) : (ba l).extract a b = ba ((l.take b).drop a) := by
  apply ByteArray.ext
  simp only [ba, ByteArray.data_extract]
  apply Array.ext'
  simp only [Array.toList_extract]
  rw [List.extract_eq_take_drop, List.take_drop]
  rcases Nat.le_total a b with h | h
  · rw [show a + (b - a) = b by omega]
  · rw [show a + (b - a) = a by omega, List.drop_eq_nil_of_le (by simp; omega), List.drop_eq_nil_of_le (by simp; omega)]
theorem ba_empty : ByteArray.empty = ba [] := rfl
theorem ints_length (l : List UInt8) : (ints l).length = l.length := by simp [ints]
theorem ints_append (a b : List UInt8) : ints (a ++ b) = ints a ++ ints b := by simp [ints]
theorem ints_nil : ints [] = [] := rfl
theorem ints_cons (a : UInt8) (l : List UInt8) : ints (a :: l) = (a.toNat : Int) :: ints l := rfl
theorem bt_ba (l : List UInt8) (i : Int) : bt (ba l) i = ((l.getD i.toNat 0).toNat : Int) := by
  unfold bt
  split
  · rename_i h
    rw [ba_size] at h
    rw [List.getD_eq_getElem?_getD, List.getElem?_eq_getElem h]
    rfl
  · rename_i h
    rw [ba_size] at h
    rw [List.getD_eq_getElem?_getD, List.getElem?_eq_none (by omega)]
    rfl
theorem rd_ints (l : List UInt8) (i : Int) : rd (ints l) i = ((l.getD i.toNat 0).toNat : Int) := by
  unfold rd ints
  rw [List.getD_eq_getElem?_getD, List.getElem?_map, List.getD_eq_getElem?_getD]
  cases l[i.toNat]? <;> rfl
theorem wrap64_id {x : Int} (h0 : -9223372036854775808 ≤ x) (h1 : x ≤ 9223372036854775807) : wrap64 x = x := by unfold wrap64; omega
theorem rdOf_map {α β : Type} (f : α → β) (z : α) (l : List α) (i : Int) : rdOf (f z) (l.map f) i = f (l.getD i.toNat z) := by
  unfold rdOf
  rw [List.getD_eq_getElem?_getD, List.getElem?_map, List.getD_eq_getElem?_getD]
  cases l[i.toNat]? <;> rfl
theorem ev_now {α : Type} {g : Nat → Option α} {r : α} (h : ∀ k, g (k + 1) = some r) : Ev g r := ⟨1, fun k hk => by
  obtain ⟨m, rfl⟩ : ∃ m, k = m + 1 := ⟨k - 1, by omega⟩
  exact h m⟩
theorem ev_const {α : Type} {r : α} : Ev (fun _ : Nat => some r) r := Ev.now r
end Go.Proofs.YtmndhgiblpfcgaaDoor.W
end

section
/-
Scripts: lines of commands, read and written (plain Lean: no program in sight).
-/
namespace Wel.Scr
abbrev B := UInt8
abbrev Str := List UInt8

/-- The parts of a text between its c's. -/
def splitB (c : B) : Str → List Str
  | [] => [[]]
  | x :: xs => if x = c then [] :: splitB c xs else
    match splitB c xs with
    | h :: t => (x :: h) :: t
    | [] => [[x]]
theorem splitB_ne (c : B) (l : Str) : splitB c l ≠ [] := by
  cases l with
  | nil => simp [splitB]
  | cons x xs =>
    simp only [splitB]
    split
    · simp
    · split <;> simp
theorem splitB_none {c : B} {l : Str} (h : c ∉ l) : splitB c l = [l] := by
  induction l with
  | nil => rfl
  | cons x xs ih =>
    simp only [List.mem_cons, not_or] at h
    simp only [splitB]
    rw [if_neg (fun e => h.1 e.symm), ih h.2]
theorem splitB_app {c : B} {a : Str} (h : c ∉ a) (b : Str) : splitB c (a ++ c :: b) = a :: splitB c b := by
  induction a with
  | nil => simp [splitB]
  | cons x xs ih =>
    simp only [List.mem_cons, not_or] at h
    simp only [List.cons_append, splitB]
    rw [if_neg (fun e => h.1 e.symm), ih h.2]
/-- Joined again. -/
def joinB (c : B) : List Str → Str
  | [] => []
  | [a] => a
  | a :: b :: t => a ++ c :: joinB c (b :: t)
theorem joinB_split (c : B) (l : Str) : joinB c (splitB c l) = l := by
  induction l with
  | nil => rfl
  | cons x xs ih =>
    simp only [splitB]
    by_cases hx : x = c
    · rw [if_pos hx]
      cases h : splitB c xs with
      | nil => exact absurd h (splitB_ne c xs)
      | cons a t => rw [h] at ih; simp only [joinB]; rw [ih, hx]; rfl
    · rw [if_neg hx]
      cases h : splitB c xs with
      | nil => exact absurd h (splitB_ne c xs)
      | cons a t =>
        rw [h] at ih
        cases t with
        | nil => simp only [joinB] at ih ⊢; rw [ih]
        | cons b t => simp only [joinB, List.cons_append] at ih ⊢; rw [ih]
theorem splitB_parts {c : B} {l : Str} : ∀ a, a ∈ splitB c l → c ∉ a := by
  induction l with
  | nil => intro a ha; simp [splitB] at ha; simp [ha]
  | cons x xs ih =>
    intro a ha
    simp only [splitB] at ha
    by_cases hx : x = c
    · rw [if_pos hx] at ha
      rcases List.mem_cons.1 ha with rfl | ha
      · simp
      · exact ih a ha
    · rw [if_neg hx] at ha
      cases h : splitB c xs with
      | nil => exact absurd h (splitB_ne c xs)
      | cons b t =>
        rw [h] at ha ih
        rcases List.mem_cons.1 ha with rfl | ha
        · simp only [List.mem_cons, not_or]
          exact ⟨fun e => hx e.symm, ih b (List.mem_cons_self ..)⟩
        · exact ih a (List.mem_cons_of_mem _ ha)
theorem splitB_join {c : B} : ∀ {l : List Str}, l ≠ [] → (∀ a, a ∈ l → c ∉ a) → splitB c (joinB c l) = l
  | [], h, _ => absurd rfl h
  | [a], _, h => splitB_none (h a (by simp))
  | a :: b :: t, _, h => by
    simp only [joinB]
    rw [splitB_app (h a (by simp)), splitB_join (by simp) fun x hx => h x (List.mem_cons_of_mem _ hx)]

/-! ### Numbers in tens -/
def tens (n : Nat) : Str := if h : n < 10 then [UInt8.ofNat (48 + n)] else tens (n / 10) ++ [UInt8.ofNat (48 + n % 10)]
termination_by n
decreasing_by omega
def isDig (b : B) : Bool := 48 ≤ b.toNat && b.toNat ≤ 57
def dec (acc : Nat) (l : Str) : Nat := l.foldl (fun a b => 10 * a + (b.toNat - 48)) acc
theorem dec_nil (acc : Nat) : dec acc [] = acc := List.foldl_nil
theorem dec_cons (acc : Nat) (b : B) (r : Str) : dec acc (b :: r) = dec (10 * acc + (b.toNat - 48)) r := List.foldl_cons ..
theorem pos_len {α : Type} {l : List α} (h : l ≠ []) : 0 < l.length := by
  cases l with
  | nil => exact absurd rfl h
  | cons x xs => simp
theorem dec_append (acc : Nat) (a b : Str) : dec acc (a ++ b) = dec (dec acc a) b := by
  induction a generalizing acc with
  | nil => rfl
  | cons x a ih => rw [List.cons_append, dec_cons, dec_cons]; exact ih _
/-- The number whose digits these are, without needless noughts, below 2^64. -/
def numOf (s : Str) : Option Nat :=
  if s ≠ [] ∧ s.all isDig ∧ (s.length ≤ 1 ∨ s.head? ≠ some 48) ∧ dec 0 s < 18446744073709551616 then some (dec 0 s) else none
theorem toNat_ofNat {n : Nat} (h : n < 256) : (UInt8.ofNat n).toNat = n := by rw [UInt8.toNat_ofNat']; exact Nat.mod_eq_of_lt h
theorem tens_dig (n : Nat) : (tens n).all isDig = true := by
  induction n using Nat.strongRecOn with
  | _ n ih =>
    rw [tens]
    split
    · rename_i h
      simp only [List.all_cons, List.all_nil, Bool.and_true, isDig, toNat_ofNat (show 48 + n < 256 by omega)]
      simp; omega
    · rename_i h
      rw [List.all_append, ih (n / 10) (by omega)]
      have := Nat.mod_lt n (show 10 > 0 by decide)
      simp only [List.all_cons, List.all_nil, Bool.and_true, isDig, toNat_ofNat (show 48 + n % 10 < 256 by omega), Bool.true_and]
      simp; omega
theorem tens_ne (n : Nat) : tens n ≠ [] := by
  rw [tens]; split <;> simp
theorem dec_tens (n : Nat) : dec 0 (tens n) = n := by
  induction n using Nat.strongRecOn with
  | _ n ih =>
    rw [tens]
    split
    · rename_i h
      rw [dec_cons, dec_nil, toNat_ofNat (show 48 + n < 256 by omega)]; omega
    · rename_i h
      have := Nat.mod_lt n (show 10 > 0 by decide)
      rw [dec_append, ih (n / 10) (by omega)]
      rw [dec_cons, dec_nil, toNat_ofNat (show 48 + n % 10 < 256 by omega)]; omega
theorem tens_head (n : Nat) : (tens n).length ≤ 1 ∨ (tens n).head? ≠ some 48 := by
  induction n using Nat.strongRecOn with
  | _ n ih =>
    rw [tens]
    split
    · left; simp
    · rename_i h
      right
      have hne := tens_ne (n / 10)
      rw [List.head?_append]
      rcases ih (n / 10) (by omega) with h1 | h1
      · by_cases h2 : n / 10 < 10
        · rw [tens, dif_pos h2]
          simp only [List.head?_cons, Option.some_or, ne_eq, Option.some.injEq]
          intro e
          have := congrArg UInt8.toNat e
          rw [toNat_ofNat (by omega)] at this
          simp at this; omega
        · rw [tens, dif_neg h2, List.length_append] at h1
          have h5 := pos_len (tens_ne (n / 10 / 10))
          rw [List.length_singleton] at h1; omega
      · cases ht : tens (n / 10) with
        | nil => exact absurd ht hne
        | cons x xs => rw [ht] at h1; simpa using h1
theorem numOf_tens {n : Nat} (h : n < 18446744073709551616) : numOf (tens n) = some n := by
  unfold numOf
  rw [if_pos ⟨tens_ne n, tens_dig n, tens_head n, by rw [dec_tens]; exact h⟩, dec_tens]
theorem tens_len : ∀ (k n : Nat), n < 10 ^ (k + 1) → (tens n).length ≤ k + 1 := by
  intro k
  induction k with
  | zero => intro n h; rw [tens, dif_pos (by simpa using h)]; simp
  | succ k ih =>
    intro n h
    rw [tens]
    split
    · simp
    · have := ih (n / 10) (by rw [Nat.pow_succ] at h; omega)
      rw [List.length_append, List.length_singleton]; omega
theorem tens_len20 {n : Nat} (h : n < 18446744073709551616) : (tens n).length ≤ 20 := tens_len 19 n (by omega)
/-! ### Bytes in base 16 -/
def dig16 (n : Nat) : B := if n < 10 then UInt8.ofNat (48 + n) else UInt8.ofNat (87 + n)
def hex : Str → Str
  | [] => []
  | b :: r => dig16 (b.toNat / 16) :: dig16 (b.toNat % 16) :: hex r
def val16 (c : B) : Option Nat :=
  if 48 ≤ c.toNat ∧ c.toNat ≤ 57 then some (c.toNat - 48) else if 97 ≤ c.toNat ∧ c.toNat ≤ 102 then some (c.toNat - 87) else none
def unhexL : Str → Option Str
  | [] => some []
  | [_] => none
  | a :: b :: r => match val16 a, val16 b, unhexL r with
    | some x, some y, some l => some (UInt8.ofNat (16 * x + y) :: l)
    | _, _, _ => none
theorem toNat_dig16 {n : Nat} (h : n < 16) : (dig16 n).toNat = if n < 10 then 48 + n else 87 + n := by
  unfold dig16; split <;> exact toNat_ofNat (by omega)
theorem val16_dig16 {n : Nat} (h : n < 16) : val16 (dig16 n) = some n := by
  unfold val16; rw [toNat_dig16 h]
  by_cases h1 : n < 10
  · rw [if_pos h1, if_pos (by omega)]; congr 1; omega
  · rw [if_neg h1, if_neg (by omega), if_pos (by omega)]; congr 1; omega
theorem val16_lt {c : B} {n : Nat} (h : val16 c = some n) : n < 16 ∧ dig16 n = c := by
  unfold val16 at h
  split at h
  · injection h with h; subst h
    refine ⟨by omega, UInt8.toNat_inj.1 ?_⟩
    rw [toNat_dig16 (by omega), if_pos (by omega)]; omega
  · split at h
    · injection h with h; subst h
      refine ⟨by omega, UInt8.toNat_inj.1 ?_⟩
      rw [toNat_dig16 (by omega), if_neg (by omega)]; omega
    · cases h
theorem unhexL_hex (l : Str) : unhexL (hex l) = some l := by
  induction l with
  | nil => rfl
  | cons b r ih =>
    have hb := b.toNat_lt
    simp only [hex, unhexL]
    rw [val16_dig16 (by omega), val16_dig16 (by omega), ih]
    simp only [Option.some.injEq, List.cons.injEq, and_true]
    apply UInt8.toNat_inj.1
    rw [toNat_ofNat (by omega)]; omega
theorem hex_length (l : Str) : (hex l).length = 2 * l.length := by
  induction l with
  | nil => rfl
  | cons b r ih => simp only [hex, List.length_cons, ih]; omega
theorem dig16_ok {n : Nat} (h : n < 16) : dig16 n ≠ 32 ∧ dig16 n ≠ 10 ∧ dig16 n ≠ 45 := by
  have e := toNat_dig16 h
  refine ⟨fun h1 => ?_, fun h1 => ?_, fun h1 => ?_⟩ <;> rw [h1] at e <;> split at e <;> simp at e <;> omega
theorem hex_mem {l : Str} {c : B} (h : c ∈ hex l) : ∃ n, n < 16 ∧ c = dig16 n := by
  induction l with
  | nil => cases h
  | cons b r ih =>
    have hb := b.toNat_lt
    simp only [hex, List.mem_cons] at h
    rcases h with rfl | rfl | h
    · exact ⟨_, by omega, rfl⟩
    · exact ⟨_, by omega, rfl⟩
    · exact ih h
/-- What stands where bytes do: at least one byte, or none as '-'. -/
def hexOr (l : Str) : Str := if l = [] then [45] else hex l
def readHex (s : Str) : Option Str := if s = [45] then some [] else if s = [] then none else unhexL s
theorem readHex_hexOr (l : Str) : readHex (hexOr l) = some l := by
  unfold readHex hexOr
  by_cases h : l = []
  · simp [h]
  · rw [if_neg h]
    have h1 : hex l ≠ [45] := fun e => by
      have := congrArg List.length e
      rw [hex_length] at this; simp at this; omega
    have h2 : hex l ≠ [] := fun e => by
      have h3 := congrArg List.length e
      rw [hex_length] at h3
      have h4 := pos_len h
      rw [List.length_nil] at h3; omega
    rw [if_neg h1, if_neg h2, unhexL_hex]
theorem hexOr_mem {l : Str} {c : B} (h : c ∈ hexOr l) : c ≠ 32 ∧ c ≠ 10 := by
  unfold hexOr at h
  split at h
  · have : c = 45 := by simpa using h
    subst this; decide
  · obtain ⟨n, hn, rfl⟩ := hex_mem h
    exact ⟨(dig16_ok hn).1, (dig16_ok hn).2.1⟩

/-! ### Commands -/
structure Cmd where
  word : Str
  nums : List Nat
  bytes : Str
deriving DecidableEq
/-- What a word has behind it: how many numbers; whether bytes. -/
abbrev Form := Nat × Bool
def forms : List (Str × Form) := [
  ([98, 101, 103, 105, 110], 2, true), ([114, 111, 119], 0, true), ([102, 111, 114, 103, 101], 0, true), ([115, 97, 121], 0, true),
  ([115, 101, 101, 100], 1, false), ([115, 107, 105, 112], 1, false), ([100, 114, 111, 112], 1, false), ([100, 111, 117, 98, 108, 101], 1, false),
  ([97, 114, 114, 105, 118, 101], 1, false), ([104, 101, 97, 114], 1, false), ([99, 111, 117, 110, 116], 1, false), ([109, 111, 118, 101], 2, false),
  ([99, 117, 116], 2, false), ([109, 97, 115, 107], 3, false), ([115, 116, 97, 116, 117, 115], 0, false), ([115, 104, 111, 119], 0, false), ([109, 97, 112], 0, false)]
def shape (w : Str) : Option Form := (forms.find? (fun f => f.1 = w)).map (·.2)
theorem shape_word {w : Str} {f : Form} (h : shape w = some f) : (∀ c, c ∈ w → c ≠ 32 ∧ c ≠ 10) ∧ f.1 ≤ 3 ∧ w.length ≤ 7 := by
  unfold shape at h
  obtain ⟨g, hg, rfl⟩ := Option.map_eq_some_iff.1 h
  have h1 := List.mem_of_find?_eq_some hg
  have h2 : g.1 = w := by simpa using List.find?_some hg
  subst h2
  have all : ∀ g, g ∈ forms → (∀ c, c ∈ g.1 → c ≠ 32 ∧ c ≠ 10) ∧ g.2.1 ≤ 3 ∧ g.1.length ≤ 7 := by decide
  exact all g h1
/-- May it be? The code. -/
def check (c : Cmd) : Nat := match shape c.word with
  | none => 20
  | some f => if c.nums.length ≠ f.1 ∨ (f.2 = false ∧ c.bytes ≠ []) then 14 else 0
/-- The words of its line. -/
def parts (c : Cmd) : List Str := c.word :: (c.nums.map tens ++ (match shape c.word with | some (_, true) => [hexOr c.bytes] | _ => []))
def line (c : Cmd) : Str := joinB 32 (parts c) ++ [10]
def readNums : List Str → Option (List Nat)
  | [] => some []
  | s :: r => match numOf s, readNums r with
    | some n, some l => some (n :: l)
    | _, _ => none
/-- The command of a line without its end, or the code. -/
def read (s : Str) : Cmd × Nat :=
  match splitB 32 s with
  | [] => (⟨[], [], []⟩, 20)
  | w :: rest => match shape w with
    | none => (⟨[], [], []⟩, 20)
    | some (k, b) =>
      if rest.length ≠ k + (if b then 1 else 0) then (⟨[], [], []⟩, 14) else
      match readNums (rest.take k) with
      | none => (⟨[], [], []⟩, 14)
      | some l => if b then
          match readHex (rest.getD k []) with
          | none => (⟨[], [], []⟩, 14)
          | some h => (⟨w, l, h⟩, 0)
        else (⟨w, l, []⟩, 0)
/-- Of lines, from the n-th on. -/
def parseL : Nat → List Cmd → List Str → List Cmd × Nat × Nat
  | _, acc, [] => (acc, 0, 0)
  | n, acc, [s] => if s = [] then (acc, 0, 0) else ([], n, if (read s).2 = 0 then 14 else (read s).2)
  | n, acc, s :: t :: r => if (read s).2 ≠ 0 then ([], n, (read s).2) else parseL (n + 1) (acc ++ [(read s).1]) (t :: r)
def parse (s : Str) : List Cmd × Nat × Nat := if 65536 < s.length then ([], 0, 16) else parseL 1 [] (splitB 10 s)
def okNums (c : Cmd) : Prop := ∀ n, n ∈ c.nums → n < 18446744073709551616
theorem readNums_tens {l : List Nat} (h : ∀ n, n ∈ l → n < 18446744073709551616) : readNums (l.map tens) = some l := by
  induction l with
  | nil => rfl
  | cons n l ih =>
    simp only [List.map_cons, readNums]
    rw [numOf_tens (h n (List.mem_cons_self ..)), ih fun m hm => h m (List.mem_cons_of_mem _ hm)]
theorem tens_mem {n : Nat} {c : B} (h : c ∈ tens n) : c ≠ 32 ∧ c ≠ 10 := by
  have := List.all_eq_true.1 (tens_dig n) c h
  simp only [isDig, Bool.and_eq_true, decide_eq_true_eq] at this
  constructor <;> rintro rfl <;> simp at this
theorem parts_ok {c : Cmd} (h : check c = 0) : ∀ a, a ∈ parts c → ∀ x, x ∈ a → x ≠ 32 ∧ x ≠ 10 := by
  unfold check at h
  cases hs : shape c.word with
  | none => rw [hs] at h; cases h
  | some f =>
    intro a ha x hx
    unfold parts at ha
    rw [hs] at ha
    simp only [List.mem_cons, List.mem_append, List.mem_map] at ha
    rcases ha with rfl | ⟨n, _, rfl⟩ | ha
    · exact (shape_word hs).1 x hx
    · exact tens_mem hx
    · obtain ⟨k, b⟩ := f
      cases b with
      | false => cases ha
      | true =>
        simp only [List.mem_singleton] at ha
        subst ha
        exact hexOr_mem hx
theorem joinB_mem {c x : B} : ∀ {l : List Str}, x ∈ joinB c l → x = c ∨ ∃ a, a ∈ l ∧ x ∈ a
  | [], h => by cases h
  | [a], h => .inr ⟨a, by simp, h⟩
  | a :: b :: t, h => by
    simp only [joinB, List.mem_append, List.mem_cons] at h
    rcases h with h | h | h
    · exact .inr ⟨a, by simp, h⟩
    · exact .inl h
    · rcases joinB_mem h with h | ⟨y, hy, h⟩
      · exact .inl h
      · exact .inr ⟨y, List.mem_cons_of_mem _ hy, h⟩
/-- A line that is written is read as it was. -/
theorem read_line {c : Cmd} (h : check c = 0) (hn : okNums c) : read (joinB 32 (parts c)) = (c, 0) := by
  have hp := parts_ok h
  unfold read
  rw [splitB_join (by simp [parts]) fun a ha hc => (hp a ha 32 hc).1 rfl]
  unfold check at h
  cases hs : shape c.word with
  | none => rw [hs] at h; cases h
  | some f =>
    obtain ⟨k, b⟩ := f
    rw [hs] at h
    simp only [parts, hs]
    have h : (if c.nums.length ≠ k ∨ (b = false ∧ c.bytes ≠ []) then 14 else 0) = 0 := h
    have hk : c.nums.length = k := by
      rcases Nat.decEq c.nums.length k with e | e
      · rw [if_pos (.inl e)] at h; cases h
      · exact e
    cases b with
    | false =>
      have hb : c.bytes = [] := by
        cases hcb : c.bytes with
        | nil => rfl
        | cons x xs => rw [if_pos (.inr ⟨rfl, by simp [hcb]⟩)] at h; cases h
      simp only [List.append_nil, List.length_map]
      rw [if_neg (by simp [hk]), List.take_of_length_le (by simp [hk]), readNums_tens hn]
      simp only [Bool.false_eq_true, if_false]
      cases c; simp_all
    | true =>
      simp only [List.length_append, List.length_map, List.length_singleton]
      rw [if_neg (by simp [hk])]
      rw [List.take_left' (by simp [hk]), readNums_tens hn]
      simp only [if_true]
      rw [show (c.nums.map tens ++ [hexOr c.bytes]).getD k [] = hexOr c.bytes by
        rw [List.getD_eq_getElem?_getD, List.getElem?_append_right (by simp [hk])]; simp [hk], readHex_hexOr]
def linesOf (l : List Cmd) : Str := l.flatMap line
/-- What is printed is parsed as it was. -/
theorem parse_lines {l : List Cmd} (h : ∀ c, c ∈ l → check c = 0 ∧ okNums c) (hl : (linesOf l).length ≤ 65536) : parse (linesOf l) = (l, 0, 0) := by
  unfold parse
  rw [if_neg (by omega)]
  have key : ∀ (l : List Cmd) (n : Nat) (acc : List Cmd), (∀ c, c ∈ l → check c = 0 ∧ okNums c) → parseL n acc (splitB 10 (linesOf l)) = (acc ++ l, 0, 0) := by
    intro l
    induction l with
    | nil => intro n acc _; simp [linesOf, splitB, parseL]
    | cons c l ih =>
      intro n acc h
      obtain ⟨h1, h2⟩ := h c (List.mem_cons_self ..)
      have hno : (10 : B) ∉ joinB 32 (parts c) := fun hm => by
        rcases joinB_mem hm with e | ⟨a, ha, hx⟩
        · exact absurd e (by decide)
        · exact (parts_ok h1 a ha 10 hx).2 rfl
      have e : linesOf (c :: l) = joinB 32 (parts c) ++ 10 :: linesOf l := by simp [linesOf, line]
      rw [e, splitB_app hno]
      cases hs : splitB 10 (linesOf l) with
      | nil => exact absurd hs (splitB_ne _ _)
      | cons t r =>
        simp only [parseL]
        rw [read_line h1 h2]
        simp only [ne_eq, not_true_eq_false, if_false]
        rw [← hs, ih _ _ fun d hd => h d (List.mem_cons_of_mem _ hd)]
        simp
  exact key l 1 [] h

/-! ### Printing -/
/-- Why the first that may not be may not. -/
def firstBad : List Cmd → Nat
  | [] => 0
  | c :: l => if check c ≠ 0 then check c else firstBad l
def printL : Str → List Cmd → Str × Nat
  | acc, [] => (acc, 0)
  | acc, c :: l => if 65536 < c.bytes.length then ([], 16) else if 65536 < (acc ++ line c).length then ([], 16) else printL (acc ++ line c) l
def print (l : List Cmd) : Str × Nat := if firstBad l ≠ 0 then ([], firstBad l) else printL [] l
theorem firstBad_zero {l : List Cmd} : firstBad l = 0 ↔ ∀ c, c ∈ l → check c = 0 := by
  induction l with
  | nil => simp [firstBad]
  | cons c l ih =>
    unfold firstBad
    by_cases h : check c = 0
    · simp [h, ih]
    · simp [h]
theorem line_bytes {c : Cmd} (h : check c = 0) : c.bytes.length ≤ (line c).length := by
  unfold check at h
  unfold line parts
  cases hs : shape c.word with
  | none => rw [hs] at h; cases h
  | some f =>
    obtain ⟨k, b⟩ := f
    rw [hs] at h
    have h : (if c.nums.length ≠ k ∨ (b = false ∧ c.bytes ≠ []) then 14 else 0) = 0 := h
    cases b with
    | false =>
      have hb : c.bytes = [] := by
        cases hcb : c.bytes with
        | nil => rfl
        | cons x xs => rw [if_pos (.inr ⟨rfl, by simp [hcb]⟩)] at h; cases h
      rw [hb]; simp
    | true =>
      have key : ∀ (l : List Str) (x : Str), x.length ≤ (joinB 32 (l ++ [x])).length := by
        intro l x
        induction l with
        | nil => simp [joinB]
        | cons a l ih =>
          cases l with
          | nil => simp [joinB]; omega
          | cons b l =>
            have e : joinB 32 (a :: b :: l ++ [x]) = a ++ 32 :: joinB 32 (b :: l ++ [x]) := rfl
            rw [e, List.length_append, List.length_cons]
            omega
      have h1 := key (c.word :: c.nums.map tens) (hexOr c.bytes)
      have h2 : c.bytes.length ≤ (hexOr c.bytes).length := by
        unfold hexOr
        split
        · rename_i e; rw [e]; simp
        · rw [hex_length]; omega
      rw [List.length_append]
      have e : c.word :: (c.nums.map tens ++ [hexOr c.bytes]) = c.word :: c.nums.map tens ++ [hexOr c.bytes] := rfl
      simp only
      rw [e]
      omega
theorem printL_eq : ∀ (l : List Cmd) (acc : Str), (∀ c, c ∈ l → check c = 0) → acc.length ≤ 65536 → printL acc l = if (acc ++ linesOf l).length ≤ 65536 then (acc ++ linesOf l, 0) else ([], 16)
  | [], acc, _, ha => by simp [printL, linesOf, ha]
  | c :: l, acc, h, ha => by
    have hc := line_bytes (h c (List.mem_cons_self ..))
    have e : acc ++ linesOf (c :: l) = acc ++ line c ++ linesOf l := by simp [linesOf]
    unfold printL
    rw [e]
    by_cases h1 : 65536 < c.bytes.length
    · rw [if_pos h1, if_neg (by simp only [List.length_append]; omega)]
    · rw [if_neg h1]
      by_cases h2 : 65536 < (acc ++ line c).length
      · rw [if_pos h2, if_neg (by simp only [List.length_append] at h2 ⊢; omega)]
      · rw [if_neg h2]
        exact printL_eq l _ (fun d hd => h d (List.mem_cons_of_mem _ hd)) (by omega)
theorem firstBad_app (a b : List Cmd) (h : firstBad a = 0) : firstBad (a ++ b) = firstBad b := by
  induction a with
  | nil => rfl
  | cons c a ih =>
    simp only [List.cons_append, firstBad] at h ⊢
    by_cases hc : check c = 0
    · simp only [hc, ne_eq, not_true_eq_false, if_false] at h ⊢; exact ih h
    · rw [if_pos hc] at h; exact absurd h hc
theorem firstBad_at {l : List Cmd} {i : Nat} (h : i < l.length) (h0 : firstBad (l.take i) = 0) : (check l[i] = 0 → firstBad (l.take (i + 1)) = 0) ∧ (check l[i] ≠ 0 → print l = ([], check l[i])) := by
  constructor
  · intro hc
    rw [List.take_succ_eq_append_getElem h, firstBad_app _ _ h0]
    simp [firstBad, hc]
  · intro hc
    have e : firstBad l = check l[i] := by
      conv => lhs; rw [← List.take_append_drop i l, firstBad_app _ _ h0, List.drop_eq_getElem_cons h]
      simp [firstBad, hc]
    unfold print
    rw [e, if_pos hc]
theorem printL_at {l : List Cmd} {i : Nat} (h : i < l.length) (acc : Str) : printL acc (l.drop i) = if 65536 < l[i].bytes.length then ([], 16) else if 65536 < (acc ++ line l[i]).length then ([], 16) else printL (acc ++ line l[i]) (l.drop (i + 1)) := by
  rw [List.drop_eq_getElem_cons h, printL]
/-- What is printed, or why nothing is. -/
theorem print_eq (l : List Cmd) : print l = if firstBad l ≠ 0 then ([], firstBad l) else if (linesOf l).length ≤ 65536 then (linesOf l, 0) else ([], 16) := by
  unfold print
  by_cases h : firstBad l = 0
  · rw [if_neg (by simp [h]), if_neg (by simp [h]), printL_eq l [] (firstBad_zero.1 h) (by simp)]
    simp
  · rw [if_pos h, if_pos h]
end Wel.Scr
end

section
/-
strings.Cut, strings.Split, strings.IndexByte in the print's form: what they hand back, told as plain lists of bytes.
-/
namespace Go.Proofs.YtmndhgiblpfcgaaDoor.W
open Go.RowKit Go.Proofs.YtmndhgiblpfcgaaDoorW.PrintWords Go.Proofs.YtmndhgiblpfcgaaDoorW.PrintLast Go.Proofs.YtmndhgiblpfcgaaDoorW.PrintMore
set_option linter.unusedVariables false
set_option linter.unusedSimpArgs false

/-- A row just laid, of values of one cell each. -/
theorem R_fresh {α : Type} (f : α → Value) (hf : ∀ x, (f x).oneCell' = true) (e : Nat) (w : World) (xs : List α) (hl : xs.length ≤ maxLen) :
    Kd.R (Kd.scalar f hf) e (w.alloc (.cells (xs.map f).toArray e)) w.heap.size (fun _ => True) (.slice (some ⟨w.heap.size, 0, none⟩) xs.length xs.length) xs := by
  refine ⟨fun _ _ => trivial, xs.map f, ⟨by simp [Kd.scalar], .inr ⟨w.heap.size, xs.length, (xs.map f).toArray, rfl, Nat.le_refl _, blk_new w _, Nat.le_refl _, hl, by simp [Kd.scalar], by rw [List.take_of_length_le (by simp [Kd.scalar])]⟩⟩, by simp [Kd.scalar], ?_⟩
  intro j p hj
  have hlt : j < xs.length := (List.getElem?_eq_some_iff.1 hj).1
  have h1 : ((xs.map f).drop (j * 1)).take 1 = [f p] := by
    rw [Nat.mul_one, List.drop_eq_getElem_cons (by simpa using hlt)]
    obtain ⟨_, e⟩ := List.getElem?_eq_some_iff.1 hj
    simp [e]
  simpa [Kd.scalar] using h1

def strings_IndexByte.f (a0 : ByteArray) (a1 : Int) : Option Int := some (Lib.indexByte a0.data.toList a1.toNat.toUInt8)
theorem strings_IndexByte.calls (a0 : ByteArray) (a1 : Int) (r : Int) (w : World) (h : strings_IndexByte.f a0 a1 = some r) :
    Calls Tryd.prog 48 #[.string a0, .int .u8 a1] w fun e w' => e = .returned (.int .i64 r) ∧ Drawn0 w w' := by
  rw [strings_IndexByte.f, Option.some.injEq] at h
  subst h
  exact (Tryd.strings_IndexByte a0 a1 w).mono fun e w' ⟨h1, h2⟩ => ⟨h1, h2 ▸ Drawn0.refl _⟩

def strings_Cut.f (a0 a1 : ByteArray) : Option (ByteArray × ByteArray × Bool) :=
  if a0.size < 4294967281 then some (ba (Lib.cut a0.data.toList a1.data.toList).1, ba (Lib.cut a0.data.toList a1.data.toList).2.1, (Lib.cut a0.data.toList a1.data.toList).2.2) else none
theorem strings_Cut.calls (a0 a1 : ByteArray) (r1 r2 : ByteArray) (r3 : Bool) (w : World) (hI : Inv w) (h : strings_Cut.f a0 a1 = some (r1, r2, r3)) :
    Calls Tryd.prog 17 #[.string a0, .string a1] w fun e w' => e = .returned (.tuple #[.string r1, .string r2, .bool r3]) ∧ Drawn0 w w' := by
  unfold strings_Cut.f at h
  split at h
  · rename_i hs
    simp only [Option.some.injEq, Prod.mk.injEq] at h
    obtain ⟨rfl, rfl, rfl⟩ := h
    obtain ⟨m, hm⟩ := hI.max
    exact (Tryd.strings_Cut a0 a1 m w hs hm).mono fun e w' ⟨h1, n, h2⟩ => ⟨h1, n, h2⟩
  · cases h

def strings_Split.f (a0 a1 : ByteArray) : Option (List ByteArray) :=
  if a0.size < 4294967281 ∧ 1 ≤ a1.size then some (Lib.splitB a1 0 (Lib.countB a0 a1) a0) else none
theorem strings_Split.calls (a0 a1 : ByteArray) (r : List ByteArray) (w : World) (hI : Inv w) (h : strings_Split.f a0 a1 = some r) :
    Calls Tryd.prog 30 #[.string a0, .string a1] w fun e w' => ∃ v0_ : Value, e = .returned (v0_) ∧ Kd.R Kd.string 9 w' w.heap.size (fun _ => True) v0_ r ∧ Below w.heap.size w w' := by
  unfold strings_Split.f at h
  split at h
  · rename_i hs
    rw [Option.some.injEq] at h
    subst h
    obtain ⟨m, hm⟩ := hI.max
    refine (Tryd.strings_Split a0 a1 m w hs.1 hm hs.2).mono ?_
    rintro e w' ⟨rfl, rfl⟩
    have hlen : (Lib.splitB a1 0 (Lib.countB a0 a1) a0).length = Lib.countB a0 a1 + 1 := Lib.splitB_all a1 hs.2 0 _ a0 rfl
    have hle := Lib.countB_le a1 hs.2 a0.size a0 (Nat.le_refl _)
    refine ⟨_, rfl, ?_, (Below.refl _ w).alloc (Nat.le_refl _) _⟩
    rw [← hlen]
    exact R_fresh Value.string (fun _ => rfl) 9 w _ (by rw [hlen]; unfold maxLen; omega)
  · cases h
end Go.Proofs.YtmndhgiblpfcgaaDoor.W
end

section
/-
The program's table of words (layer 26): forms, and find, are the plain table and its look-up.
-/
namespace Go.Proofs
open Go.Shelf
def Tryd.laysIF_ren : Go.Shelf.Ren := ⟨fun | 6 => 45 | n => n, fun | 22 => 95 | 23 => 69 | 25 => 96 | 3 => 3 | 0 => 0 | 4 => 4 | n => n, fun | n => n⟩
theorem Tryd.laysIF : Go.Proofs.SlLaysH0.n6 Tryd.prog Tryd.laysIF_ren := {
  mixed := by kernel_rfl
  f6 := ⟨Tryd.f45.name, by decide, Tryd.func45.trans (congrArg some (by kernel_rfl))⟩
  t0 := Tryd.underlying0
  a0 := Tryd.isAgg0
  z0 := Tryd.sizeOf0
  v0 := Tryd.zeroValue0
  t3 := Tryd.underlying3
  a3 := Tryd.isAgg3
  z3 := Tryd.sizeOf3
  v3 := Tryd.zeroValue3
  t4 := Tryd.underlying4
  a4 := Tryd.isAgg4
  z4 := Tryd.sizeOf4
  v4 := Tryd.zeroValue4
  t22 := Tryd.underlying95
  a22 := Tryd.isAgg95
  z22 := Tryd.sizeOf95
  v22 := Tryd.zeroValue95
  t25 := Tryd.underlying96
  a25 := Tryd.isAgg96
  z25 := Tryd.sizeOf96
  v25 := Tryd.zeroValue96 }
end Go.Proofs
namespace Go.Proofs.YtmndhgiblpfcgaaDoor.W
open Go.RowKit Go.Proofs.YtmndhgiblpfcgaaDoorW.PrintWords
set_option linter.unusedVariables false
set_option linter.unusedSimpArgs false

abbrev FormT := List UInt8 × Nat × Bool
def encF (f : FormT) : List Value := [.string (ba f.1), .int .i64 f.2.1, .bool f.2.2]
def formCells : List Value := Wel.Scr.forms.flatMap encF

def zeroF : Array Value := ((List.replicate 17 [Value.string ⟨#[]⟩, .int .i64 0, .bool false]).flatten).toArray
section
attribute [local irreducible] wpList Code.wp
set_option maxHeartbeats 4000000 in
set_option maxRecDepth 100000 in
theorem script_forms_calls (w : World) :
    Calls Tryd.prog 27 #[] w fun e w' => e = .returned (.agg formCells.toArray) ∧ Below w.heap.size w w' := by
  refine calls_of_wp Tryd.func27 rfl ?_
  apply wp_seq_k; intro K0 hK0
  apply wp_region_lit
  refine Go.Great.wpList_allocTo rfl (some 0) rfl (.pointer (some ⟨w.heap.size, 0, none⟩)) (.cells zeroF 70) (by as_aux_lemma => kernel_rfl) ?_
  apply wpList_nil
  refine hK0 _ _ ?_
  clear hK0 K0
  apply wp_seq_k; intro K0 hK0
  apply wp_region_lit
  refine wpList_build rfl 69 _ rfl (by as_aux_lemma => kernel_rfl) ?_
  refine wpList_build rfl 69 _ rfl (by as_aux_lemma => kernel_rfl) ?_
  refine wpList_build rfl 69 _ rfl (by as_aux_lemma => kernel_rfl) ?_
  refine wpList_build rfl 69 _ rfl (by as_aux_lemma => kernel_rfl) ?_
  refine wpList_build rfl 69 _ rfl (by as_aux_lemma => kernel_rfl) ?_
  refine wpList_build rfl 69 _ rfl (by as_aux_lemma => kernel_rfl) ?_
  refine wpList_build rfl 69 _ rfl (by as_aux_lemma => kernel_rfl) ?_
  refine wpList_build rfl 69 _ rfl (by as_aux_lemma => kernel_rfl) ?_
  refine wpList_build rfl 69 _ rfl (by as_aux_lemma => kernel_rfl) ?_
  refine wpList_build rfl 69 _ rfl (by as_aux_lemma => kernel_rfl) ?_
  refine wpList_build rfl 69 _ rfl (by as_aux_lemma => kernel_rfl) ?_
  refine wpList_build rfl 69 _ rfl (by as_aux_lemma => kernel_rfl) ?_
  refine wpList_build rfl 69 _ rfl (by as_aux_lemma => kernel_rfl) ?_
  refine wpList_build rfl 69 _ rfl (by as_aux_lemma => kernel_rfl) ?_
  refine wpList_build rfl 69 _ rfl (by as_aux_lemma => kernel_rfl) ?_
  refine wpList_build rfl 69 _ rfl (by as_aux_lemma => kernel_rfl) ?_
  refine wpList_build rfl 69 _ rfl (by as_aux_lemma => kernel_rfl) ?_
  refine wpList_build rfl 70 _ rfl (by as_aux_lemma => kernel_rfl) ?_
  refine wpList_store_row rfl 70 _ _ rfl w.heap.size formCells.toArray (by as_aux_lemma => kernel_rfl) (by as_aux_lemma => kernel_rfl) 70 zeroF (blk_new w _) (by as_aux_lemma => kernel_rfl) (by as_aux_lemma => kernel_rfl) (by as_aux_lemma => kernel_rfl) ?_
  apply wpList_nil
  refine hK0 _ _ ?_
  clear hK0 K0
  apply wp_ret
  refine bodyPost_ret (results_single rfl (.cell w.heap.size 70 formCells.toArray (0, 0) _ (by as_aux_lemma => kernel_rfl) (setRow_heap _ _ zeroF _ _ _ (blk_new w _)) Tryd.underlying70 rfl (by as_aux_lemma => kernel_rfl) .nil)) rfl ?_
  exact ⟨rfl, below_setRow ((Below.refl _ w).alloc (Nat.le_refl _) _) (Nat.le_refl _) _⟩
end

set_option maxHeartbeats 1000000 in
theorem script_find_pred (s : List UInt8) (B : Nat) (w : World) (hB : B < w.heap.size) (hcell : w.cell? ⟨B, 0, none⟩ = some (.string (ba s))) :
    PredBelow Tryd.prog 46 #[.pointer (some ⟨B, 0, none⟩)] (fun x => .agg (encF x).toArray) (fun x => decide (x.1 = s)) w := fun W x hb => by
  have hc : W.cell? ⟨B, 0, none⟩ = some (.string (ba s)) := (hb.cell (p := ⟨B, 0, none⟩) hB).trans hcell
  have hBW : B < W.heap.size := Nat.lt_of_lt_of_le hB hb.size
  have hne : B ≠ W.heap.size := by omega
  have hd : (ba x.1 = ba s) ↔ (x.1 = s) := ⟨ba_inj, fun e => by rw [e]⟩
  show Calls Tryd.prog 46 #[.agg #[.string (ba x.1), .int .i64 x.2.1, .bool x.2.2], .pointer (some ⟨B, 0, none⟩)] W _
  go_enter Tryd.func46, Tryd.ntmps46
  go_wp2
  go_ret
  refine ⟨?_, hb.alloc hb.size _⟩
  simp only [hd, ba_toList]
  by_cases e : x.1 = s <;> simp [e]

/-- What the look-up comes to. -/
def findR (s : List UInt8) : ByteArray × Int × Bool × Bool := match Wel.Scr.shape s with | some (k, b) => (ba s, (k : Int), b, true) | none => (ba [], 0, false, false)
def script_find.f (a0 : ByteArray) : Option (ByteArray × Int × Bool × Bool) := some (findR a0.data.toList)
theorem forms_cell (j i : Nat) (v : Value) (hj : j < Wel.Scr.forms.length) (hi : (encF Wel.Scr.forms[j]!)[i]? = some v) : formCells[j * 3 + i]? = some v := by
  have h3 : (encF Wel.Scr.forms[j]!).length = 3 := rfl
  have hi3 : i < 3 := by
    rcases Nat.lt_or_ge i 3 with h | h
    · exact h
    · rw [List.getElem?_eq_none (by omega)] at hi; cases hi
  have key : ∀ (l : List FormT) (j : Nat), j < l.length → (l.flatMap encF)[j * 3 + i]? = (encF l[j]!)[i]? := by
    intro l
    induction l with
    | nil => intro j h; simp at h
    | cons x l ih =>
      intro j h
      rw [List.flatMap_cons]
      cases j with
      | zero => rw [Nat.zero_mul, Nat.zero_add, List.getElem?_append_left (by show i < 3; exact hi3)]; rfl
      | succ j =>
        rw [List.getElem?_append_right (by show 3 ≤ _; omega)]
        have e : (j + 1) * 3 + i - (encF x).length = j * 3 + i := by show _ - 3 = _; omega
        rw [e, ih j (by simpa using h)]
        simp
  rw [formCells, key _ _ hj]; exact hi
theorem idx_forms (s : List UInt8) : ∀ (l : List FormT) (n : Nat), (match l.find? (fun f => f.1 = s) with | none => Lib.idxByFrom (fun _ (y : FormT) => decide (y.1 = s)) default l n = -1 | some f => ∃ k, k < l.length ∧ Lib.idxByFrom (fun _ (y : FormT) => decide (y.1 = s)) default l n = ((n + k : Nat) : Int) ∧ l[k]! = f)
  | [], n => by simp [Lib.idxByFrom]
  | f :: l, n => by
    by_cases h : f.1 = s
    · have e : (f :: l).find? (fun f => f.1 = s) = some f := by simp [h]
      rw [e]
      exact ⟨0, by simp, by simp [Lib.idxByFrom, h], rfl⟩
    · have e : (f :: l).find? (fun f => f.1 = s) = l.find? (fun f => f.1 = s) := by simp [h]
      have ih := idx_forms s l (n + 1)
      rw [e]
      have e2 : Lib.idxByFrom (fun _ (y : FormT) => decide (y.1 = s)) default (f :: l) n = Lib.idxByFrom (fun _ (y : FormT) => decide (y.1 = s)) default l (n + 1) := by simp [Lib.idxByFrom, h]
      rw [e2]
      cases hf : l.find? (fun f => f.1 = s) with
      | none => rw [hf] at ih; exact ih
      | some g =>
        rw [hf] at ih
        obtain ⟨k, h1, h2, h3⟩ := ih
        exact ⟨k + 1, by simp; omega, by rw [h2]; congr 1; omega, by simpa using h3⟩

section
variable {ops : Array Oper} {rest : List Oper} {o : Oper} {a : Act} {w : World} {Q : Exit → Act → World → Prop}
theorem wpList_all (hg : o.guard = none) (ho : o.op = .alloc 70) (h : wpList Tryd.prog ops Q rest (a.put o.dst (.pointer (some ⟨w.heap.size, 0, none⟩))) (w.alloc (.cells zeroF 70))) : wpList Tryd.prog ops Q (o :: rest) a w := by
  refine Go.Great.wpList_allocTo hg _ rfl _ _ ?_ h
  have : (execOp a.eval { o with op := .alloc 70 }).run Tryd.prog w = .ok (.value (.pointer (some ⟨w.heap.size, 0, none⟩))) (w.alloc (.cells zeroF 70)) := by kernel_rfl
  rw [← ho] at this
  exact this
end
theorem form_sz : (Tryd.prog.info? 70).map (·.size) = some formCells.toArray.size := by kernel_rfl
theorem form_zsz : zeroF.size = formCells.toArray.size := by kernel_rfl
theorem form_one : formCells.toArray.all (·.oneCell') = true := by kernel_rfl
attribute [local irreducible] formCells zeroF

theorem form1_sz (x : ByteArray) (n : Int) (b : Bool) : (Tryd.prog.info? 69).map (·.size) = some (#[Value.string x, .int .i64 n, .bool b] : Array Value).size := by kernel_rfl
theorem form1_one (x : ByteArray) (n : Int) (b : Bool) : (#[Value.string x, .int .i64 n, .bool b] : Array Value).all (·.oneCell') = true := by simp [Value.oneCell']
theorem form1_zsz (x y : ByteArray) (n m : Int) (b c : Bool) : (#[Value.string x, .int .i64 n, .bool b] : Array Value).size = (#[Value.string y, .int .i64 m, .bool c] : Array Value).size := rfl
def idxF (s : List UInt8) : Int := Lib.idxByFrom (fun _ (y : FormT) => decide (y.1 = s)) default Wel.Scr.forms 0
theorem idxF_none {s : List UInt8} (h : Wel.Scr.shape s = none) : idxF s = -1 := by
  have := idx_forms s Wel.Scr.forms 0
  unfold Wel.Scr.shape at h
  rw [Option.map_eq_none_iff] at h
  rw [h] at this
  exact this
theorem idxF_some {s : List UInt8} {k : Nat} {b : Bool} (h : Wel.Scr.shape s = some (k, b)) : ∃ j : Nat, j < 17 ∧ idxF s = (j : Int) ∧ Wel.Scr.forms[j]! = (s, k, b) := by
  have := idx_forms s Wel.Scr.forms 0
  unfold Wel.Scr.shape at h
  obtain ⟨g, hg, h2⟩ := Option.map_eq_some_iff.1 h
  rw [hg] at this
  obtain ⟨j, h3, h4, h5⟩ := this
  have h6 : g.1 = s := by simpa using List.find?_some hg
  refine ⟨j, h3, by unfold idxF; rw [h4]; omega, ?_⟩
  rw [h5, ← h6, ← h2]
theorem find_index (s : List UInt8) (B b : Nat) (w : World) (hB : B < w.heap.size) (hb : b < w.heap.size) (hcell : w.cell? ⟨B, 0, none⟩ = some (.string (ba s))) (hrow : w.heap[b]? = some (.cells formCells.toArray 70 (0, 0))) :
    Calls Tryd.prog 45 #[.slice (some ⟨b, 0, none⟩) 17 17, .func (.func 46) #[] #[.pointer (some ⟨B, 0, none⟩)]] w fun e w' => e = .returned (.int .i64 (idxF s)) ∧ Below w.heap.size w w' := by
  have eg : ∀ args w, (callFunc 46 args).run Tryd.prog w = .ok (.enter 46 args) w := enters_of Tryd.func46 (by kernel_rfl) rfl
  exact AnyQ.slices_IndexFunc Tryd.laysIF 3 Tryd.isAgg69 Tryd.sizeOf69 encF (fun _ => rfl) (fun x => decide (x.1 = s)) 46 #[.pointer (some ⟨B, 0, none⟩)] eg b 0 17 17 Wel.Scr.forms w
    (script_find_pred s B w hB hcell) (by decide) (by decide) hb (fun j hj i v hi => by
      have h1 := forms_cell j i v hj hi
      rw [Lib.cell_of_heap hrow, Nat.zero_add]
      simpa using h1)

set_option maxHeartbeats 4000000 in
set_option maxRecDepth 100000 in
theorem script_find.calls (a0 : ByteArray) (r1 : ByteArray) (r2 : Int) (r3 r4 : Bool) (w : World) (h : script_find.f a0 = some (r1, r2, r3, r4)) :
    Calls Tryd.prog 31 #[.string a0] w fun e w' => e = .returned (.tuple #[.agg #[.string r1, .int .i64 r2, .bool r3], .bool r4]) ∧ Below w.heap.size w w' := by
  obtain ⟨s, rfl⟩ := ba_ex a0
  rw [script_find.f, ba_data, Option.some.injEq] at h
  have hmf : ∀ (fn : Fn) (first cap : Array Value) (w : World), (Instr.makeFunc fn first cap).run Tryd.prog w = .ok (.func fn first cap) w := fun _ _ _ _ => rfl
  have hix := find_index s
  have hxr : Wel.Scr.shape s = none ∧ idxF s = -1 ∨ ∃ (k : Nat) (b : Bool) (j : Nat), Wel.Scr.shape s = some (k, b) ∧ j < 17 ∧ idxF s = ((j : Nat) : Int) ∧ Wel.Scr.forms[j]! = (s, k, b) := by
    cases hs : Wel.Scr.shape s with
    | none => exact .inl ⟨rfl, idxF_none hs⟩
    | some f =>
      obtain ⟨j, h1, h2, h3⟩ := idxF_some (k := f.1) (b := f.2) hs
      exact .inr ⟨f.1, f.2, j, rfl, h1, h2, h3⟩
  go_enter Tryd.func31, Tryd.ntmps31
  go_wp2_with (first
    | (go_at_call 27; refine (script_forms_calls _).mono ?_; rintro e w1 ⟨rfl, hb1⟩)
    | (with_reducible refine wpList_all rfl rfl ?_)
    | (with_reducible refine wpList_store_row rfl 70 _ _ rfl w1.heap.size formCells.toArray rfl rfl 70 zeroF (blk_new w1 _) form_sz form_zsz form_one ?_))
  have hz1 := hb1.size
  simp only [World.alloc, Array.size_push] at hz1
  have hw1 : w1.heap[w.heap.size]? = some (.cells #[.string (ba s)] 9 (0, 0)) := by rw [hb1.block _ (by simp; omega), Lib.alloc_old _ _ _ (by simp)]; exact blk_new _ _
  have hw2 : w1.heap[w.heap.size + 1]? = some (.cells #[.string ⟨#[]⟩, .int .i64 0, .bool false] 69 (0, 0)) := by rw [hb1.block _ (by simp)]; have := blk_new (w.alloc (.cells #[.string (ba s)] 9)) (.cells #[.string ⟨#[]⟩, .int .i64 0, .bool false] 69); simpa using this
  have hx1 : ((w1.alloc (.cells zeroF 70)).setRow w1.heap.size formCells.toArray).heap[w.heap.size]? = some (.cells #[.string (ba s)] 9 (0, 0)) := by rw [setRow_other _ _ _ _ (by omega), Lib.alloc_old _ _ _ (by omega)]; exact hw1
  have hx2 : ((w1.alloc (.cells zeroF 70)).setRow w1.heap.size formCells.toArray).heap[w.heap.size + 1]? = some (.cells #[.string ⟨#[]⟩, .int .i64 0, .bool false] 69 (0, 0)) := by rw [setRow_other _ _ _ _ (by omega), Lib.alloc_old _ _ _ (by omega)]; exact hw2
  have hx3 : ((w1.alloc (.cells zeroF 70)).setRow w1.heap.size formCells.toArray).heap[w1.heap.size]? = some (.cells formCells.toArray 70 (0, 0)) := setRow_heap _ _ zeroF _ _ _ (blk_new w1 _)
  have hxs : ((w1.alloc (.cells zeroF 70)).setRow w1.heap.size formCells.toArray).heap.size = w1.heap.size + 1 := by simp [World.setRow]
  have hxb : Below w.heap.size w ((w1.alloc (.cells zeroF 70)).setRow w1.heap.size formCells.toArray) := by
    refine below_setRow (Below.alloc ?_ (by omega) _) (by omega) _
    exact (((Below.refl _ w).alloc (Nat.le_refl _) _).alloc (by simp) _).trans (hb1.mono (by simp; omega))
  generalize ((w1.alloc (.cells zeroF 70)).setRow w1.heap.size formCells.toArray) = w2 at hx1 hx2 hx3 hxs hxb ⊢
  refine (hix w.heap.size w1.heap.size w2 (by omega) (by omega) (by rw [Lib.cell_of_heap hx1]; rfl) hx3).mono ?_
  rintro e w3 ⟨rfl, hb3⟩
  have hy2 : w3.heap[w.heap.size + 1]? = some (.cells #[.string ⟨#[]⟩, .int .i64 0, .bool false] 69 (0, 0)) := by rw [hb3.block _ (by omega)]; exact hx2
  have hy3 : w3.heap[w1.heap.size]? = some (.cells formCells.toArray 70 (0, 0)) := by rw [hb3.block _ (by omega)]; exact hx3
  have hyb : Below w.heap.size w w3 := hxb.trans (hb3.mono (by omega))
  rcases hxr with ⟨hs, hi⟩ | ⟨k, b, j, hs, hj, hi, hf⟩
  · rw [hi]
    unfold findR at h
    rw [hs] at h
    simp only [Prod.mk.injEq] at h
    obtain ⟨rfl, rfl, rfl, rfl⟩ := h
    go_wp2_with (with_reducible refine wpList_store_row rfl 69 _ _ rfl (w.heap.size + 1) #[.string ⟨#[]⟩, .int .i64 0, .bool false] rfl rfl 69 _ hy2 (form1_sz _ _ _) (form1_zsz _ _ _ _ _ _) (form1_one _ _ _) ?_)
    refine bodyPost_ret (results_ct rfl _ _ (w.heap.size + 1) 69 #[.string ⟨#[]⟩, .int .i64 0, .bool false] (0, 0) _ rfl (setRow_heap _ _ _ _ _ _ hy2) Tryd.underlying69 rfl (by kernel_rfl)) rfl ?_
    exact ⟨rfl, below_setRow hyb (by omega) _⟩
  · rw [hi]
    unfold findR at h
    rw [hs] at h
    simp only [Prod.mk.injEq] at h
    obtain ⟨rfl, rfl, rfl, rfl⟩ := h
    have hj0 : ¬ ((j : Int) < 0) := by omega
    have hj1 : (0 : Int) ≤ (j : Int) := by omega
    have hj2 : (j : Int) < 17 := by omega
    have hj3 : (j : Int).toNat = j := rfl
    have hld : ∀ i v, (encF (s, k, b))[i]? = some v → w3.cell? ⟨w1.heap.size, j * 3 + i, none⟩ = some v := fun i v hv => by
      rw [Lib.cell_of_heap hy3]
      simpa using forms_cell j i v hj (by rw [hf]; exact hv)
    have hl0 : w3.cell? ⟨w1.heap.size, j * 3, none⟩ = some (.string (ba s)) := hld 0 _ rfl
    have hl1 : w3.cell? ⟨w1.heap.size, j * 3 + 1, none⟩ = some (.int .i64 k) := hld 1 _ rfl
    have hl2 : w3.cell? ⟨w1.heap.size, j * 3 + 2, none⟩ = some (.bool b) := hld 2 _ rfl
    go_wp2_with (with_reducible refine wpList_store_row rfl 69 _ _ rfl (w.heap.size + 1) #[.string (ba s), .int .i64 k, .bool b] rfl rfl 69 _ hy2 (form1_sz _ _ _) (form1_zsz _ _ _ _ _ _) (form1_one _ _ _) ?_)
    refine bodyPost_ret (results_ct rfl _ _ (w.heap.size + 1) 69 #[.string (ba s), .int .i64 k, .bool b] (0, 0) _ rfl (setRow_heap _ _ _ _ _ _ hy2) Tryd.underlying69 rfl (by kernel_rfl)) rfl ?_
    exact ⟨rfl, below_setRow hyb (by omega) _⟩
end Go.Proofs.YtmndhgiblpfcgaaDoor.W
end

section
/-
The program's numbers of a script (readNumber) are the plain ones.
-/
namespace Go.Proofs.YtmndhgiblpfcgaaDoor.W
open Go.RowKit Go.Proofs.YtmndhgiblpfcgaaDoorW.PrintWords Go.Proofs.YtmndhgiblpfcgaaDoorW.PrintLast Go.Proofs.YtmndhgiblpfcgaaDoorW.PrintMore
open Wel.Scr (isDig dec numOf)
set_option linter.unusedVariables false
set_option linter.unusedSimpArgs false

theorem isDig_iff {c : UInt8} : isDig c = true ↔ 48 ≤ c.toNat ∧ c.toNat ≤ 57 := by
  unfold Wel.Scr.isDig
  simp [UInt8.le_iff_toNat_le]
theorem dec_cons (a : Nat) (c : UInt8) (r : List UInt8) : dec a (c :: r) = dec (a * 10 + (c.toNat - 48)) r := by
  simp [Wel.Scr.dec, Nat.mul_comm]
theorem dec_ge (l : List UInt8) : ∀ a, a ≤ dec a l := by
  induction l with
  | nil => intro a; simp [Wel.Scr.dec]
  | cons c r ih => intro a; rw [dec_cons]; have := ih (a * 10 + (c.toNat - 48)); omega
theorem parseM (l : List UInt8) (h : l.all isDig = true) : ∀ a, a < 18446744073709551616 → Lib.parseUintM 18446744073709551615 a l = if dec a l < 18446744073709551616 then .ok (dec a l) else .range := by
  induction l with
  | nil => intro a ha; simp [Lib.parseUintM, Wel.Scr.dec, ha]
  | cons c r ih =>
    intro a ha
    simp only [List.all_cons, Bool.and_eq_true] at h
    have hd := isDig_iff.1 h.1
    have hge := dec_ge r (a * 10 + (c.toNat - 48))
    rw [dec_cons]
    simp only [Lib.parseUintM, hd, and_self, if_true]
    split
    · rw [if_neg (by omega)]
    · split
      · rw [if_neg (by omega)]
      · exact ih h.2 _ (by omega)
theorem parseB (l : List UInt8) (h : l.all isDig = true) (h0 : l ≠ []) : Lib.parseUintB 64 l = if dec 0 l < 18446744073709551616 then .ok (dec 0 l) else .range := by
  unfold Lib.parseUintB
  rw [if_neg h0]
  exact parseM l h 0 (by decide)

theorem pu_case (s : List UInt8) (h : s.all isDig = true) (hh : s.length ≤ 1 ∨ s.head? ≠ some 48) : (∃ u, Lib.parseUintB 64 s = .ok u ∧ numOf s = some u) ∨ ((∀ u, Lib.parseUintB 64 s ≠ .ok u) ∧ numOf s = none) := by
  by_cases h0 : s = []
  · refine .inr ⟨fun u e => (by rw [h0] at e; cases e), by rw [h0]; rfl⟩
  · rw [parseB s h h0]
    unfold Wel.Scr.numOf
    by_cases hd : dec 0 s < 18446744073709551616
    · rw [if_pos hd, if_pos ⟨h0, h, hh, hd⟩]; exact .inl ⟨_, rfl, rfl⟩
    · rw [if_neg hd, if_neg (fun x => hd x.2.2.2)]; exact .inr ⟨fun u e => (by cases e), rfl⟩
theorem parse_bad (s : List UInt8) (h : ∀ u, Lib.parseUintB 64 s ≠ .ok u) (hl : s.length ≤ 281474976710656) (w : World) (hI : Inv w) :
    Calls Tryd.prog 47 #[.string (ba s), .int .i64 10, .int .i64 64] w fun e w' => ∃ (u : Int) (tp : TypeId) (p : Value), e = .returned (.tuple #[.int .u64 u, .iface tp p]) ∧ Below w.heap.size w w' := by
  obtain ⟨_, _, ⟨t3, p3, h3⟩, ⟨t4, p4, h4⟩⟩ := hI
  cases hx : Lib.parseUintB 64 s
  case ok u => exact absurd hx (h u)
  case range =>
    refine (Tryd.strconv_ParseUint_10_at64_range (ba s) (by rw [ba_size]; exact hl) (by rw [ba_data]; exact hx) _ w h4 (.inr ⟨_, _, rfl⟩)).mono ?_
    rintro e w' ⟨N, rfl, _, _, hb⟩
    exact ⟨_, _, _, rfl, hb⟩
  all_goals
    refine (Any.strconv_ParseUint_10_at64_syntax Tryd.laysPu14 (ba s) (by rw [ba_size]; exact hl) (by rw [ba_data]; exact hx) _ w h3 (.inr ⟨_, _, rfl⟩)).mono ?_
    rintro e w' ⟨N, rfl, _, _, hb⟩
    exact ⟨_, _, _, rfl, hb⟩
theorem iter_below (w : World) (s : ByteArray) (pos : Nat) : Below w.heap.size w (w.iter s pos) := (Below.refl _ w).alloc (Nat.le_refl _) _
def readNR (s : List UInt8) : Int × Bool := match numOf s with | some n => ((n : Int), true) | none => (0, false)
def script_readNumber.f (a0 : ByteArray) : Option (Int × Bool) := if a0.size ≤ 281474976710656 then some (readNR a0.data.toList) else none

theorem ba_get (s : List UInt8) (i : Nat) (h : i < (ba s).size) : (ba s)[i]'h = s.getD i 0 := by
  have h' : i < s.length := by rw [ba_size] at h; exact h
  rw [List.getD_eq_getElem?_getD, List.getElem?_eq_getElem h']
  rfl
theorem ba_get0 (s : List UInt8) (h : 0 < (ba s).size) : (ba s)[0]'h = s.getD 0 0 := ba_get s 0 h
set_option maxHeartbeats 4000000 in
set_option maxRecDepth 100000 in
theorem script_readNumber.calls (a0 : ByteArray) (r1 : Int) (r2 : Bool) (w : World) (hI : Inv w) (h : script_readNumber.f a0 = some (r1, r2)) :
    Calls Tryd.prog 32 #[.string a0] w fun e w' => e = .returned (.tuple #[.int .u64 r1, .bool r2]) ∧ Below w.heap.size w w' := by
  obtain ⟨s, rfl⟩ := ba_ex a0
  rw [script_readNumber.f, ba_data, ba_size] at h
  split at h
  case isFalse => cases h
  rename_i hlen
  rw [Option.some.injEq] at h
  by_cases hz : 1 < s.length ∧ s.getD 0 0 = 48
  · have hn : numOf s = none := by
      unfold Wel.Scr.numOf
      rw [if_neg]
      rintro ⟨_, _, h3, _⟩
      cases s with
      | nil => simp at hz
      | cons c r =>
        simp only [List.length_cons, List.getD_cons_zero, List.head?_cons] at h3 hz
        rcases h3 with h3 | h3
        · omega
        · exact h3 (congrArg some hz.2)
    unfold readNR at h
    rw [hn] at h
    simp only [Prod.mk.injEq] at h
    obtain ⟨rfl, rfl⟩ := h
    have h1 : (1 : Int) < (s.length : Int) := by omega
    have h1' : (1 : Int) < ((ba s).size : Int) := by rw [ba_size]; omega
    go_enter Tryd.func32, Tryd.ntmps32
    go_wp2
    · go_ret2
      exact ⟨rfl, Below.refl _ _⟩
    · rename_i hx _ _
      have h2 := ba_get0 s (by rw [ba_size]; omega)
      rw [h2, hz.2] at hx
      exact absurd hx (by decide)
  · have hz2 : ∀ hq : 0 < (ba s).size, 1 < s.length → ((((ba s)[0]'hq).toNat : Int) == 48) = true → False := fun hq h1 h2 => by
      have h3 := ba_get0 s hq
      rw [h3] at h2
      refine hz ⟨h1, UInt8.toNat_inj.1 ?_⟩
      have h4 := beq_iff_eq.1 h2
      have h5 : (48 : UInt8).toNat = 48 := rfl
      omega
    go_enter Tryd.func32, Tryd.ntmps32
    go_wp2
    · exfalso
      exact hz2 (by assumption) (by rename_i h0 h1 h2; rw [ba_size] at h0; omega) (by assumption)
    all_goals
      go_loopw [5] (fun _ w' => ∃ pos, w' = w.iter (ba s) pos ∧ pos ≤ s.length ∧ ∀ j, j < pos → isDig (s.getD j 0) = true) (fun _ w' => (ba s).size - w'.iterPos w.heap.size)
      case atStart => exact ⟨0, rfl, Nat.zero_le _, fun j hj => absurd hj (Nat.not_lt_zero _)⟩
      case round =>
        obtain ⟨pos, rfl, hpl, hdg⟩ := hrel
        by_cases hp : pos < s.length
        · have hp' : pos < (ba s).size := by rw [ba_size]; exact hp
          have hg := ba_get s pos hp'
          by_cases hd : isDig (s.getD pos 0) = true
          · have hd' := isDig_iff.1 hd
            have hnx : ∀ ty, (Instr.next (.pointer (some ⟨w.heap.size, 0, none⟩)) true ty).run Tryd.prog (w.iter (ba s) pos) = .ok (.tuple #[.bool true, .int .i64 pos, .int .i32 ((s.getD pos 0).toNat : Int)]) (w.iter (ba s) (pos + 1)) := fun ty => by
              rw [run_next_any w (ba s) pos ty hp', decode_ascii (ba s) pos hp' (by rw [hg]; omega), hg]
            have hnew : ∀ j, j < pos + 1 → isDig (s.getD j 0) = true := fun j hj => by
              rcases Nat.lt_or_ge j pos with hj' | hj'
              · exact hdg j hj'
              · obtain rfl : j = pos := by omega
                exact hd
            generalize s.getD pos 0 = c at hnx hd hd'
            have k1 : ¬ ((c.toNat : Int) < 48) := by omega
            have k2 : ¬ ((57 : Int) < (c.toNat : Int)) := by omega
            go_wp2
            go_roundw
            case rel => exact ⟨pos + 1, rfl, hp, hnew⟩
            case measure =>
              simp
              omega
          · have hn : numOf s = none := by
              unfold Wel.Scr.numOf
              rw [if_neg]
              rintro ⟨_, h2, _⟩
              refine hd ?_
              have h3 := List.all_eq_true.1 h2 s[pos] (List.getElem_mem hp)
              rw [List.getD_eq_getElem?_getD, List.getElem?_eq_getElem hp]
              exact h3
            have hh := h
            unfold readNR at hh
            rw [hn] at hh
            simp only [Prod.mk.injEq] at hh
            obtain ⟨rfl, rfl⟩ := hh
            obtain ⟨r, n, hr, hrb⟩ : ∃ (r n : Nat), Utf8.decode (ba s) pos = (r, n) ∧ (r < 48 ∨ 57 < r) := by
              by_cases ha : (s.getD pos 0).toNat < 128
              · refine ⟨(s.getD pos 0).toNat, 1, by rw [decode_ascii (ba s) pos hp' (by rw [hg]; exact ha), hg], ?_⟩
                rw [isDig_iff] at hd
                omega
              · have h1 := decode_high (ba s) pos hp' (by rw [hg]; omega)
                exact ⟨(Utf8.decode (ba s) pos).1, (Utf8.decode (ba s) pos).2, rfl, .inr (by omega)⟩
            have hnx : ∀ ty, (Instr.next (.pointer (some ⟨w.heap.size, 0, none⟩)) true ty).run Tryd.prog (w.iter (ba s) pos) = .ok (.tuple #[.bool true, .int .i64 pos, .int .i32 (r : Int)]) (w.iter (ba s) (pos + n)) := fun ty => by
              rw [run_next_any w (ba s) pos ty hp', hr]
            have hbw : Below w.heap.size w (w.iter (ba s) (pos + n)) := iter_below w (ba s) _
            by_cases k1 : r < 48
            · have k1' : (r : Int) < 48 := by omega
              go_wp2
              go_ret2
              exact ⟨rfl, hbw⟩
            · have k1' : ¬ (r : Int) < 48 := by omega
              have k2' : (57 : Int) < (r : Int) := by omega
              go_wp2
              go_ret2
              exact ⟨rfl, hbw⟩
        · have hp' : ¬ pos < (ba s).size := by rw [ba_size]; exact hp
          have hnx : ∀ ty, (Instr.next (.pointer (some ⟨w.heap.size, 0, none⟩)) true ty).run Tryd.prog (w.iter (ba s) pos) = _ := fun ty => run_next_end w (ba s) pos ty hp'
          have hbw : Below w.heap.size w (w.iter (ba s) pos) := iter_below w (ba s) _
          have hall : s.all isDig = true := by
            rw [List.all_eq_true]
            intro c hc
            obtain ⟨j, hj, rfl⟩ := List.mem_iff_getElem.1 hc
            have := hdg j (by omega)
            rwa [List.getD_eq_getElem?_getD, List.getElem?_eq_getElem hj] at this
          have hhead : s.length ≤ 1 ∨ s.head? ≠ some 48 := by
            rcases Nat.lt_or_ge 1 s.length with h1 | h1
            · refine .inr fun e => hz ⟨h1, ?_⟩
              cases s with
              | nil => simp at e
              | cons c r => simpa using e
            · exact .inl h1
          have hpu := pu_case s hall hhead
          rcases hpu with ⟨u, hu, hn⟩ | ⟨hu, hn⟩
          · unfold readNR at h
            rw [hn] at h
            simp only [Prod.mk.injEq] at h
            obtain ⟨rfl, rfl⟩ := h
            go_wp2_with (go_at_call 47; refine (Tryd.strconv_ParseUint_10_at64_ok (ba s) (by rw [ba_size]; omega) u (by rw [ba_data]; exact hu) _).mono ?_; rintro e w3 ⟨rfl, hw3⟩)
            go_ret2
            refine ⟨rfl, ?_⟩
            rcases hw3 with rfl | rfl
            · exact hbw
            · exact bytes_below hbw hbw.size _ _
          · unfold readNR at h
            rw [hn] at h
            simp only [Prod.mk.injEq] at h
            obtain ⟨rfl, rfl⟩ := h
            have hI2 := hI.below hbw
            go_wp2_with (go_at_call 47; refine (parse_bad s hu hlen _ hI2).mono ?_; rintro e w3 ⟨u, tp, p, rfl, hw3⟩)
            go_ret2
            exact ⟨rfl, hbw.trans (hw3.mono hbw.size)⟩
end Go.Proofs.YtmndhgiblpfcgaaDoor.W
end

section
namespace Go.Proofs.YtmndhgiblpfcgaaDoor.W
open Go.RowKit Go.Proofs.YtmndhgiblpfcgaaDoorW.PrintWords Go.Proofs.YtmndhgiblpfcgaaDoorW.PrintLast Go.Proofs.YtmndhgiblpfcgaaDoorW.PrintMore
attribute [local go_sem] max2_int min2_int max_two min_two max_three min_three max_four min_four
set_option linter.unusedVariables false
set_option linter.unusedSimpArgs false

/-! ### wellspringref26_Shape: function 13 -/
mutual
def wellspringref26_Shape.j0 : Nat → ByteArray → Bool → Option (Int × Bool × Bool)
 | 0, _, _ => none
 | k + 1, x5, x8 => if x8 = true then (some (0, true, true)) else (if x5.toList = ([115, 101, 101, 100] : List UInt8) then (wellspringref26_Shape.j1 k x5 (x5.toList == ([115, 101, 101, 100] : List UInt8))) else (if x5.toList = ([115, 107, 105, 112] : List UInt8) then (wellspringref26_Shape.j1 k x5 (x5.toList == ([115, 107, 105, 112] : List UInt8))) else (if x5.toList = ([100, 114, 111, 112] : List UInt8) then (wellspringref26_Shape.j1 k x5 (x5.toList == ([100, 114, 111, 112] : List UInt8))) else (if x5.toList = ([100, 111, 117, 98, 108, 101] : List UInt8) then (wellspringref26_Shape.j1 k x5 (x5.toList == ([100, 111, 117, 98, 108, 101] : List UInt8))) else (if x5.toList = ([97, 114, 114, 105, 118, 101] : List UInt8) then (wellspringref26_Shape.j1 k x5 (x5.toList == ([97, 114, 114, 105, 118, 101] : List UInt8))) else (if x5.toList = ([104, 101, 97, 114] : List UInt8) then (wellspringref26_Shape.j1 k x5 (x5.toList == ([104, 101, 97, 114] : List UInt8))) else (wellspringref26_Shape.j1 k x5 (x5.toList == ([99, 111, 117, 110, 116] : List UInt8)))))))))
def wellspringref26_Shape.j1 : Nat → ByteArray → Bool → Option (Int × Bool × Bool)
 | 0, _, _ => none
 | k + 1, x5, x12 => if x12 = true then (some (1, false, true)) else (if x5.toList = ([109, 111, 118, 101] : List UInt8) then (wellspringref26_Shape.j2 k x5 (x5.toList == ([109, 111, 118, 101] : List UInt8))) else (wellspringref26_Shape.j2 k x5 (x5.toList == ([99, 117, 116] : List UInt8))))
def wellspringref26_Shape.j2 : Nat → ByteArray → Bool → Option (Int × Bool × Bool)
 | 0, _, _ => none
 | k + 1, x5, x20 => if x20 = true then (some (2, false, true)) else (if x5.toList = ([109, 97, 115, 107] : List UInt8) then (some (3, false, true)) else (if x5.toList = ([115, 116, 97, 116, 117, 115] : List UInt8) then (some (0, false, true)) else (if x5.toList = ([115, 104, 111, 119] : List UInt8) then (some (0, false, true)) else (if x5.toList = ([109, 97, 112] : List UInt8) then (some (0, false, true)) else (some (0, false, false))))))
end
def wellspringref26_Shape.f (k : Nat) (a0 : ByteArray) : Option (Int × Bool × Bool) := if a0.toList = ([98, 101, 103, 105, 110] : List UInt8) then (some (2, true, true)) else (if a0.toList = ([114, 111, 119] : List UInt8) then (wellspringref26_Shape.j0 k a0 (a0.toList == ([114, 111, 119] : List UInt8))) else (if a0.toList = ([102, 111, 114, 103, 101] : List UInt8) then (wellspringref26_Shape.j0 k a0 (a0.toList == ([102, 111, 114, 103, 101] : List UInt8))) else (wellspringref26_Shape.j0 k a0 (a0.toList == ([115, 97, 121] : List UInt8)))))
theorem wellspringref26_Shape.mono_l : ∀ k, (∀ y0 y1, LeO (wellspringref26_Shape.j0 k y0 y1) (wellspringref26_Shape.j0 (k + 1) y0 y1)) ∧ (∀ y0 y1, LeO (wellspringref26_Shape.j1 k y0 y1) (wellspringref26_Shape.j1 (k + 1) y0 y1)) ∧ (∀ y0 y1, LeO (wellspringref26_Shape.j2 k y0 y1) (wellspringref26_Shape.j2 (k + 1) y0 y1))
 | 0 => ⟨fun _ _ r h => by simp [wellspringref26_Shape.j0] at h, fun _ _ r h => by simp [wellspringref26_Shape.j1] at h, fun _ _ r h => by simp [wellspringref26_Shape.j2] at h⟩
 | k + 1 => by
  obtain ⟨ih0, ih1, ih2⟩ := wellspringref26_Shape.mono_l k
  refine ⟨?_, ?_, ?_⟩
  ·intro y0 y1
   unfold wellspringref26_Shape.j0
   repeat' first
   | (with_reducible exact ih0 _ _)
   | (with_reducible exact ih1 _ _)
   | (with_reducible exact ih2 _ _)
   | (with_reducible exact LeO.refl _)
   | (with_reducible exact LeO.none _)
   | (with_reducible refine LeO.ite ?_ ?_)
   | (with_reducible refine LeO.bind ?_ (fun _ => ?_))
   | exact ih0 _ _
   | exact ih1 _ _
   | exact ih2 _ _
   | exact LeO.none _
   | refine LeO.ite ?_ ?_
   | refine LeO.bind ?_ (fun _ => ?_)
  ·intro y0 y1
   unfold wellspringref26_Shape.j1
   repeat' first
   | (with_reducible exact ih0 _ _)
   | (with_reducible exact ih1 _ _)
   | (with_reducible exact ih2 _ _)
   | (with_reducible exact LeO.refl _)
   | (with_reducible exact LeO.none _)
   | (with_reducible refine LeO.ite ?_ ?_)
   | (with_reducible refine LeO.bind ?_ (fun _ => ?_))
   | exact ih0 _ _
   | exact ih1 _ _
   | exact ih2 _ _
   | exact LeO.none _
   | refine LeO.ite ?_ ?_
   | refine LeO.bind ?_ (fun _ => ?_)
  ·intro y0 y1
   unfold wellspringref26_Shape.j2
   repeat' first
   | (with_reducible exact ih0 _ _)
   | (with_reducible exact ih1 _ _)
   | (with_reducible exact ih2 _ _)
   | (with_reducible exact LeO.refl _)
   | (with_reducible exact LeO.none _)
   | (with_reducible refine LeO.ite ?_ ?_)
   | (with_reducible refine LeO.bind ?_ (fun _ => ?_))
   | exact ih0 _ _
   | exact ih1 _ _
   | exact ih2 _ _
   | exact LeO.none _
   | refine LeO.ite ?_ ?_
   | refine LeO.bind ?_ (fun _ => ?_)
theorem wellspringref26_Shape.mono : ∀ a0 k, LeO (wellspringref26_Shape.f k a0) (wellspringref26_Shape.f (k + 1) a0) := by
 intro a0 k
 obtain ⟨ih0, ih1, ih2⟩ := wellspringref26_Shape.mono_l k
 unfold wellspringref26_Shape.f
 repeat' first
   | (with_reducible exact ih0 _ _)
   | (with_reducible exact ih1 _ _)
   | (with_reducible exact ih2 _ _)
   | (with_reducible exact LeO.refl _)
   | (with_reducible exact LeO.none _)
   | (with_reducible refine LeO.ite ?_ ?_)
   | (with_reducible refine LeO.bind ?_ (fun _ => ?_))
   | exact ih0 _ _
   | exact ih1 _ _
   | exact ih2 _ _
   | exact LeO.none _
   | refine LeO.ite ?_ ?_
   | refine LeO.bind ?_ (fun _ => ?_)
set_option maxHeartbeats 8000000 in
set_option maxRecDepth 100000 in
theorem wellspringref26_Shape.calls (k : Nat) (a0 : ByteArray) (r1 : Int) (r2 : Bool) (r3 : Bool) (w : World) (h : wellspringref26_Shape.f k a0 = some (r1, r2, r3)) :
  Calls Tryd.prog 13 #[.string a0] w fun e w' => e = .returned (.tuple #[.int .i64 r1, .bool r2, .bool r3]) ∧ Drawn0 w w' := by
 have H : (if a0.toList = ([98, 101, 103, 105, 110] : List UInt8) then (some (2, true, true)) else (if a0.toList = ([114, 111, 119] : List UInt8) then (wellspringref26_Shape.j0 k a0 (a0.toList == ([114, 111, 119] : List UInt8))) else (if a0.toList = ([102, 111, 114, 103, 101] : List UInt8) then (wellspringref26_Shape.j0 k a0 (a0.toList == ([102, 111, 114, 103, 101] : List UInt8))) else (wellspringref26_Shape.j0 k a0 (a0.toList == ([115, 97, 121] : List UInt8)))))) = some (r1, r2, r3) := h
 clear h
 by_cases c2 : a0.toList = ([98, 101, 103, 105, 110] : List UInt8)
 ·rw [if_pos c2] at H
  have c2b0 : (a0.toList == ([98, 101, 103, 105, 110] : List UInt8)) = true := beq_iff_eq.mpr c2
  have c2b1 : (a0.toList != ([98, 101, 103, 105, 110] : List UInt8)) = false := bne_eq_false_iff_eq.mpr c2
  clear c2
  simp only [Option.some.injEq, Prod.mk.injEq] at H
  obtain ⟨rfl, rfl, rfl⟩ := H
  go_enter Tryd.func13, Tryd.ntmps13
  go_wp2
  go_ret3
  exact ⟨by first | rfl | (simp; done) | (simp [*]; done), by repeat (first | exact Drawn0.refl _ | apply Drawn0.step)⟩
 ·rw [if_neg c2] at H
  have c2b0 : (a0.toList == ([98, 101, 103, 105, 110] : List UInt8)) = false := beq_eq_false_iff_ne.mpr c2
  have c2b1 : (a0.toList != ([98, 101, 103, 105, 110] : List UInt8)) = true := bne_iff_ne.mpr c2
  have HC3 := Aside0.mk H
  clear H
  go_enter Tryd.func13, Tryd.ntmps13
  go_upto_if 8 with (fail)
  go_cut [8] (fun v8 wc => ∃ (kq : Nat) (x8_2 : Bool), v8 = .bool x8_2 ∧ Aside0 (wellspringref26_Shape.j0 kq a0 x8_2 = some (r1, r2, r3)) ∧ Aside0 (kq ≤ k) ∧ Drawn0 w wc)
  case first =>
   have H := HC3.out
   clear HC3
   by_cases c4 : a0.toList = ([114, 111, 119] : List UInt8)
   ·rw [if_pos c4] at H
    have c4b0 : (a0.toList == ([114, 111, 119] : List UInt8)) = true := beq_iff_eq.mpr c4
    have c4b1 : (a0.toList != ([114, 111, 119] : List UInt8)) = false := bne_eq_false_iff_eq.mpr c4
    clear c4
    (first | rw [c4b0] | (simp only [i64_w, i32_w]; rw [c4b0]) | skip)
    have H' := Aside0.mk H
    clear H
    go_wp2
    go_meet
    case rel => exact ⟨_, ((a0.toList == ([114, 111, 119] : List UInt8))), (by first | rfl | (simp; done) | (simp [*]; done)), H', ⟨by first | omega | exact Nat.le_refl _⟩, by repeat (first | exact Drawn0.refl _ | apply Drawn0.step)⟩
   ·rw [if_neg c4] at H
    have c4b0 : (a0.toList == ([114, 111, 119] : List UInt8)) = false := beq_eq_false_iff_ne.mpr c4
    have c4b1 : (a0.toList != ([114, 111, 119] : List UInt8)) = true := bne_iff_ne.mpr c4
    (first | rw [c4b0] | (simp only [i64_w, i32_w]; rw [c4b0]) | skip)
    by_cases c5 : a0.toList = ([102, 111, 114, 103, 101] : List UInt8)
    ·rw [if_pos c5] at H
     have c5b0 : (a0.toList == ([102, 111, 114, 103, 101] : List UInt8)) = true := beq_iff_eq.mpr c5
     have c5b1 : (a0.toList != ([102, 111, 114, 103, 101] : List UInt8)) = false := bne_eq_false_iff_eq.mpr c5
     clear c5
     have H' := Aside0.mk H
     clear H
     go_wp2
     go_meet
     case rel => exact ⟨_, ((a0.toList == ([102, 111, 114, 103, 101] : List UInt8))), (by first | rfl | (simp; done) | (simp [*]; done)), H', ⟨by first | omega | exact Nat.le_refl _⟩, by repeat (first | exact Drawn0.refl _ | apply Drawn0.step)⟩
    ·rw [if_neg c5] at H
     have c5b0 : (a0.toList == ([102, 111, 114, 103, 101] : List UInt8)) = false := beq_eq_false_iff_ne.mpr c5
     have c5b1 : (a0.toList != ([102, 111, 114, 103, 101] : List UInt8)) = true := bne_iff_ne.mpr c5
     have H' := Aside0.mk H
     clear H
     go_wp2
     go_meet
     case rel => exact ⟨_, ((a0.toList == ([115, 97, 121] : List UInt8))), (by first | rfl | (simp; done) | (simp [*]; done)), H', ⟨by first | omega | exact Nat.le_refl _⟩, by repeat (first | exact Drawn0.refl _ | apply Drawn0.step)⟩
  case rest =>
   clear HC3
   try clear c1
   try clear c2
   try clear c2b0
   try clear c2b1
   try clear p2
   try clear c4
   try clear c4b0
   try clear c4b1
   try clear c5
   try clear c5b0
   try clear c5b1
   obtain ⟨kq, x8_2, rfl, HA, HJ2, ⟨mc2, rfl⟩⟩ := hcut
   cases kq with
   | zero => exact absurd HA.out (by simp [wellspringref26_Shape.j0])
   | succ kj2 =>
    have H := HA.out
    clear HA
    simp only [wellspringref26_Shape.j0] at H
    by_cases c6 : x8_2 = true
    ·subst c6
     have H1 : (some (0, true, true)) = some (r1, r2, r3) := by rw [if_pos rfl] at H; exact H
     clear H
     have H := H1
     clear H1
     simp only [Option.some.injEq, Prod.mk.injEq] at H
     obtain ⟨rfl, rfl, rfl⟩ := H
     go_wp2
     go_ret3
     exact ⟨by first | rfl | (simp; done) | (simp [*]; done), by repeat (first | exact Drawn0.refl _ | apply Drawn0.step)⟩
    ·replace c6 := Bool.eq_false_iff.mpr c6
     subst c6
     have H1 : (if a0.toList = ([115, 101, 101, 100] : List UInt8) then (wellspringref26_Shape.j1 kj2 a0 (a0.toList == ([115, 101, 101, 100] : List UInt8))) else (if a0.toList = ([115, 107, 105, 112] : List UInt8) then (wellspringref26_Shape.j1 kj2 a0 (a0.toList == ([115, 107, 105, 112] : List UInt8))) else (if a0.toList = ([100, 114, 111, 112] : List UInt8) then (wellspringref26_Shape.j1 kj2 a0 (a0.toList == ([100, 114, 111, 112] : List UInt8))) else (if a0.toList = ([100, 111, 117, 98, 108, 101] : List UInt8) then (wellspringref26_Shape.j1 kj2 a0 (a0.toList == ([100, 111, 117, 98, 108, 101] : List UInt8))) else (if a0.toList = ([97, 114, 114, 105, 118, 101] : List UInt8) then (wellspringref26_Shape.j1 kj2 a0 (a0.toList == ([97, 114, 114, 105, 118, 101] : List UInt8))) else (if a0.toList = ([104, 101, 97, 114] : List UInt8) then (wellspringref26_Shape.j1 kj2 a0 (a0.toList == ([104, 101, 97, 114] : List UInt8))) else (wellspringref26_Shape.j1 kj2 a0 (a0.toList == ([99, 111, 117, 110, 116] : List UInt8))))))))) = some (r1, r2, r3) := by rw [if_neg (show ¬ (false = true) by decide)] at H; exact H
     clear H
     have H := H1
     clear H1
     have HC7 := Aside0.mk H
     clear H
     go_upto_if 12 with (fail)
     go_cut [12] (fun v12 wc => ∃ (kq : Nat) (x12_6 : Bool), v12 = .bool x12_6 ∧ Aside0 (wellspringref26_Shape.j1 kq a0 x12_6 = some (r1, r2, r3)) ∧ Aside0 (kq ≤ kj2) ∧ Drawn0 w wc)
     case first =>
      have H := HC7.out
      clear HC7
      by_cases c8 : a0.toList = ([115, 101, 101, 100] : List UInt8)
      ·rw [if_pos c8] at H
       have c8b0 : (a0.toList == ([115, 101, 101, 100] : List UInt8)) = true := beq_iff_eq.mpr c8
       have c8b1 : (a0.toList != ([115, 101, 101, 100] : List UInt8)) = false := bne_eq_false_iff_eq.mpr c8
       clear c8
       (first | rw [c8b0] | (simp only [i64_w, i32_w]; rw [c8b0]) | skip)
       have H' := Aside0.mk H
       clear H
       go_wp2
       go_meet
       case rel => exact ⟨_, ((a0.toList == ([115, 101, 101, 100] : List UInt8))), (by first | rfl | (simp; done) | (simp [*]; done)), H', ⟨by have := HJ2.out; first | omega | exact Nat.le_refl _⟩, by repeat (first | exact Drawn0.refl _ | apply Drawn0.step)⟩
      ·rw [if_neg c8] at H
       have c8b0 : (a0.toList == ([115, 101, 101, 100] : List UInt8)) = false := beq_eq_false_iff_ne.mpr c8
       have c8b1 : (a0.toList != ([115, 101, 101, 100] : List UInt8)) = true := bne_iff_ne.mpr c8
       (first | rw [c8b0] | (simp only [i64_w, i32_w]; rw [c8b0]) | skip)
       by_cases c9 : a0.toList = ([115, 107, 105, 112] : List UInt8)
       ·rw [if_pos c9] at H
        have c9b0 : (a0.toList == ([115, 107, 105, 112] : List UInt8)) = true := beq_iff_eq.mpr c9
        have c9b1 : (a0.toList != ([115, 107, 105, 112] : List UInt8)) = false := bne_eq_false_iff_eq.mpr c9
        clear c9
        have H' := Aside0.mk H
        clear H
        go_wp2
        go_meet
        case rel => exact ⟨_, ((a0.toList == ([115, 107, 105, 112] : List UInt8))), (by first | rfl | (simp; done) | (simp [*]; done)), H', ⟨by have := HJ2.out; first | omega | exact Nat.le_refl _⟩, by repeat (first | exact Drawn0.refl _ | apply Drawn0.step)⟩
       ·rw [if_neg c9] at H
        have c9b0 : (a0.toList == ([115, 107, 105, 112] : List UInt8)) = false := beq_eq_false_iff_ne.mpr c9
        have c9b1 : (a0.toList != ([115, 107, 105, 112] : List UInt8)) = true := bne_iff_ne.mpr c9
        by_cases c10 : a0.toList = ([100, 114, 111, 112] : List UInt8)
        ·rw [if_pos c10] at H
         have c10b0 : (a0.toList == ([100, 114, 111, 112] : List UInt8)) = true := beq_iff_eq.mpr c10
         have c10b1 : (a0.toList != ([100, 114, 111, 112] : List UInt8)) = false := bne_eq_false_iff_eq.mpr c10
         clear c10
         have H' := Aside0.mk H
         clear H
         go_wp2
         go_meet
         case rel => exact ⟨_, ((a0.toList == ([100, 114, 111, 112] : List UInt8))), (by first | rfl | (simp; done) | (simp [*]; done)), H', ⟨by have := HJ2.out; first | omega | exact Nat.le_refl _⟩, by repeat (first | exact Drawn0.refl _ | apply Drawn0.step)⟩
        ·rw [if_neg c10] at H
         have c10b0 : (a0.toList == ([100, 114, 111, 112] : List UInt8)) = false := beq_eq_false_iff_ne.mpr c10
         have c10b1 : (a0.toList != ([100, 114, 111, 112] : List UInt8)) = true := bne_iff_ne.mpr c10
         by_cases c11 : a0.toList = ([100, 111, 117, 98, 108, 101] : List UInt8)
         ·rw [if_pos c11] at H
          have c11b0 : (a0.toList == ([100, 111, 117, 98, 108, 101] : List UInt8)) = true := beq_iff_eq.mpr c11
          have c11b1 : (a0.toList != ([100, 111, 117, 98, 108, 101] : List UInt8)) = false := bne_eq_false_iff_eq.mpr c11
          clear c11
          have H' := Aside0.mk H
          clear H
          go_wp2
          go_meet
          case rel => exact ⟨_, ((a0.toList == ([100, 111, 117, 98, 108, 101] : List UInt8))), (by first | rfl | (simp; done) | (simp [*]; done)), H', ⟨by have := HJ2.out; first | omega | exact Nat.le_refl _⟩, by repeat (first | exact Drawn0.refl _ | apply Drawn0.step)⟩
         ·rw [if_neg c11] at H
          have c11b0 : (a0.toList == ([100, 111, 117, 98, 108, 101] : List UInt8)) = false := beq_eq_false_iff_ne.mpr c11
          have c11b1 : (a0.toList != ([100, 111, 117, 98, 108, 101] : List UInt8)) = true := bne_iff_ne.mpr c11
          by_cases c12 : a0.toList = ([97, 114, 114, 105, 118, 101] : List UInt8)
          ·rw [if_pos c12] at H
           have c12b0 : (a0.toList == ([97, 114, 114, 105, 118, 101] : List UInt8)) = true := beq_iff_eq.mpr c12
           have c12b1 : (a0.toList != ([97, 114, 114, 105, 118, 101] : List UInt8)) = false := bne_eq_false_iff_eq.mpr c12
           clear c12
           have H' := Aside0.mk H
           clear H
           go_wp2
           go_meet
           case rel => exact ⟨_, ((a0.toList == ([97, 114, 114, 105, 118, 101] : List UInt8))), (by first | rfl | (simp; done) | (simp [*]; done)), H', ⟨by have := HJ2.out; first | omega | exact Nat.le_refl _⟩, by repeat (first | exact Drawn0.refl _ | apply Drawn0.step)⟩
          ·rw [if_neg c12] at H
           have c12b0 : (a0.toList == ([97, 114, 114, 105, 118, 101] : List UInt8)) = false := beq_eq_false_iff_ne.mpr c12
           have c12b1 : (a0.toList != ([97, 114, 114, 105, 118, 101] : List UInt8)) = true := bne_iff_ne.mpr c12
           by_cases c13 : a0.toList = ([104, 101, 97, 114] : List UInt8)
           ·rw [if_pos c13] at H
            have c13b0 : (a0.toList == ([104, 101, 97, 114] : List UInt8)) = true := beq_iff_eq.mpr c13
            have c13b1 : (a0.toList != ([104, 101, 97, 114] : List UInt8)) = false := bne_eq_false_iff_eq.mpr c13
            clear c13
            have H' := Aside0.mk H
            clear H
            go_wp2
            go_meet
            case rel => exact ⟨_, ((a0.toList == ([104, 101, 97, 114] : List UInt8))), (by first | rfl | (simp; done) | (simp [*]; done)), H', ⟨by have := HJ2.out; first | omega | exact Nat.le_refl _⟩, by repeat (first | exact Drawn0.refl _ | apply Drawn0.step)⟩
           ·rw [if_neg c13] at H
            have c13b0 : (a0.toList == ([104, 101, 97, 114] : List UInt8)) = false := beq_eq_false_iff_ne.mpr c13
            have c13b1 : (a0.toList != ([104, 101, 97, 114] : List UInt8)) = true := bne_iff_ne.mpr c13
            have H' := Aside0.mk H
            clear H
            go_wp2
            go_meet
            case rel => exact ⟨_, ((a0.toList == ([99, 111, 117, 110, 116] : List UInt8))), (by first | rfl | (simp; done) | (simp [*]; done)), H', ⟨by have := HJ2.out; first | omega | exact Nat.le_refl _⟩, by repeat (first | exact Drawn0.refl _ | apply Drawn0.step)⟩
     case rest =>
      clear HC7
      try clear c1
      try clear c2
      try clear c2b0
      try clear c2b1
      try clear p2
      try clear c4
      try clear c4b0
      try clear c4b1
      try clear c5
      try clear c5b0
      try clear c5b1
      try clear c6
      try clear c8
      try clear c8b0
      try clear c8b1
      try clear c9
      try clear c9b0
      try clear c9b1
      try clear c10
      try clear c10b0
      try clear c10b1
      try clear c11
      try clear c11b0
      try clear c11b1
      try clear c12
      try clear c12b0
      try clear c12b1
      try clear c13
      try clear c13b0
      try clear c13b1
      try clear p2
      obtain ⟨kq, x12_6, rfl, HA, HJ6, ⟨mc6, rfl⟩⟩ := hcut
      cases kq with
      | zero => exact absurd HA.out (by simp [wellspringref26_Shape.j1])
      | succ kj6 =>
       have H := HA.out
       clear HA
       simp only [wellspringref26_Shape.j1] at H
       by_cases c14 : x12_6 = true
       ·subst c14
        have H1 : (some (1, false, true)) = some (r1, r2, r3) := by rw [if_pos rfl] at H; exact H
        clear H
        have H := H1
        clear H1
        simp only [Option.some.injEq, Prod.mk.injEq] at H
        obtain ⟨rfl, rfl, rfl⟩ := H
        go_wp2
        go_ret3
        exact ⟨by first | rfl | (simp; done) | (simp [*]; done), by repeat (first | exact Drawn0.refl _ | apply Drawn0.step)⟩
       ·replace c14 := Bool.eq_false_iff.mpr c14
        subst c14
        have H1 : (if a0.toList = ([109, 111, 118, 101] : List UInt8) then (wellspringref26_Shape.j2 kj6 a0 (a0.toList == ([109, 111, 118, 101] : List UInt8))) else (wellspringref26_Shape.j2 kj6 a0 (a0.toList == ([99, 117, 116] : List UInt8)))) = some (r1, r2, r3) := by rw [if_neg (show ¬ (false = true) by decide)] at H; exact H
        clear H
        have H := H1
        clear H1
        have HC15 := Aside0.mk H
        clear H
        go_upto_if 20 with (fail)
        go_cut [20] (fun v20 wc => ∃ (kq : Nat) (x20_14 : Bool), v20 = .bool x20_14 ∧ Aside0 (wellspringref26_Shape.j2 kq a0 x20_14 = some (r1, r2, r3)) ∧ Aside0 (kq ≤ kj6) ∧ Drawn0 w wc)
        case first =>
         have H := HC15.out
         clear HC15
         by_cases c16 : a0.toList = ([109, 111, 118, 101] : List UInt8)
         ·rw [if_pos c16] at H
          have c16b0 : (a0.toList == ([109, 111, 118, 101] : List UInt8)) = true := beq_iff_eq.mpr c16
          have c16b1 : (a0.toList != ([109, 111, 118, 101] : List UInt8)) = false := bne_eq_false_iff_eq.mpr c16
          clear c16
          (first | rw [c16b0] | (simp only [i64_w, i32_w]; rw [c16b0]) | skip)
          have H' := Aside0.mk H
          clear H
          go_wp2
          go_meet
          case rel => exact ⟨_, ((a0.toList == ([109, 111, 118, 101] : List UInt8))), (by first | rfl | (simp; done) | (simp [*]; done)), H', ⟨by have := HJ2.out; have := HJ6.out; first | omega | exact Nat.le_refl _⟩, by repeat (first | exact Drawn0.refl _ | apply Drawn0.step)⟩
         ·rw [if_neg c16] at H
          have c16b0 : (a0.toList == ([109, 111, 118, 101] : List UInt8)) = false := beq_eq_false_iff_ne.mpr c16
          have c16b1 : (a0.toList != ([109, 111, 118, 101] : List UInt8)) = true := bne_iff_ne.mpr c16
          (first | rw [c16b0] | (simp only [i64_w, i32_w]; rw [c16b0]) | skip)
          have H' := Aside0.mk H
          clear H
          go_wp2
          go_meet
          case rel => exact ⟨_, ((a0.toList == ([99, 117, 116] : List UInt8))), (by first | rfl | (simp; done) | (simp [*]; done)), H', ⟨by have := HJ2.out; have := HJ6.out; first | omega | exact Nat.le_refl _⟩, by repeat (first | exact Drawn0.refl _ | apply Drawn0.step)⟩
        case rest =>
         clear HC15
         try clear c1
         try clear c2
         try clear c2b0
         try clear c2b1
         try clear p2
         try clear c4
         try clear c4b0
         try clear c4b1
         try clear c5
         try clear c5b0
         try clear c5b1
         try clear c6
         try clear c8
         try clear c8b0
         try clear c8b1
         try clear c9
         try clear c9b0
         try clear c9b1
         try clear c10
         try clear c10b0
         try clear c10b1
         try clear c11
         try clear c11b0
         try clear c11b1
         try clear c12
         try clear c12b0
         try clear c12b1
         try clear c13
         try clear c13b0
         try clear c13b1
         try clear c14
         try clear c16
         try clear c16b0
         try clear c16b1
         try clear p2
         obtain ⟨kq, x20_14, rfl, HA, HJ14, ⟨mc14, rfl⟩⟩ := hcut
         cases kq with
         | zero => exact absurd HA.out (by simp [wellspringref26_Shape.j2])
         | succ kj14 =>
          have H := HA.out
          clear HA
          simp only [wellspringref26_Shape.j2] at H
          by_cases c17 : x20_14 = true
          ·subst c17
           have H1 : (some (2, false, true)) = some (r1, r2, r3) := by rw [if_pos rfl] at H; exact H
           clear H
           have H := H1
           clear H1
           simp only [Option.some.injEq, Prod.mk.injEq] at H
           obtain ⟨rfl, rfl, rfl⟩ := H
           go_wp2
           go_ret3
           exact ⟨by first | rfl | (simp; done) | (simp [*]; done), by repeat (first | exact Drawn0.refl _ | apply Drawn0.step)⟩
          ·replace c17 := Bool.eq_false_iff.mpr c17
           subst c17
           have H1 : (if a0.toList = ([109, 97, 115, 107] : List UInt8) then (some (3, false, true)) else (if a0.toList = ([115, 116, 97, 116, 117, 115] : List UInt8) then (some (0, false, true)) else (if a0.toList = ([115, 104, 111, 119] : List UInt8) then (some (0, false, true)) else (if a0.toList = ([109, 97, 112] : List UInt8) then (some (0, false, true)) else (some (0, false, false)))))) = some (r1, r2, r3) := by rw [if_neg (show ¬ (false = true) by decide)] at H; exact H
           clear H
           have H := H1
           clear H1
           by_cases c18 : a0.toList = ([109, 97, 115, 107] : List UInt8)
           ·rw [if_pos c18] at H
            have c18b0 : (a0.toList == ([109, 97, 115, 107] : List UInt8)) = true := beq_iff_eq.mpr c18
            have c18b1 : (a0.toList != ([109, 97, 115, 107] : List UInt8)) = false := bne_eq_false_iff_eq.mpr c18
            clear c18
            simp only [Option.some.injEq, Prod.mk.injEq] at H
            obtain ⟨rfl, rfl, rfl⟩ := H
            go_wp2
            go_ret3
            exact ⟨by first | rfl | (simp; done) | (simp [*]; done), by repeat (first | exact Drawn0.refl _ | apply Drawn0.step)⟩
           ·rw [if_neg c18] at H
            have c18b0 : (a0.toList == ([109, 97, 115, 107] : List UInt8)) = false := beq_eq_false_iff_ne.mpr c18
            have c18b1 : (a0.toList != ([109, 97, 115, 107] : List UInt8)) = true := bne_iff_ne.mpr c18
            by_cases c19 : a0.toList = ([115, 116, 97, 116, 117, 115] : List UInt8)
            ·rw [if_pos c19] at H
             have c19b0 : (a0.toList == ([115, 116, 97, 116, 117, 115] : List UInt8)) = true := beq_iff_eq.mpr c19
             have c19b1 : (a0.toList != ([115, 116, 97, 116, 117, 115] : List UInt8)) = false := bne_eq_false_iff_eq.mpr c19
             clear c19
             simp only [Option.some.injEq, Prod.mk.injEq] at H
             obtain ⟨rfl, rfl, rfl⟩ := H
             go_wp2
             go_ret3
             exact ⟨by first | rfl | (simp; done) | (simp [*]; done), by repeat (first | exact Drawn0.refl _ | apply Drawn0.step)⟩
            ·rw [if_neg c19] at H
             have c19b0 : (a0.toList == ([115, 116, 97, 116, 117, 115] : List UInt8)) = false := beq_eq_false_iff_ne.mpr c19
             have c19b1 : (a0.toList != ([115, 116, 97, 116, 117, 115] : List UInt8)) = true := bne_iff_ne.mpr c19
             by_cases c20 : a0.toList = ([115, 104, 111, 119] : List UInt8)
             ·rw [if_pos c20] at H
              have c20b0 : (a0.toList == ([115, 104, 111, 119] : List UInt8)) = true := beq_iff_eq.mpr c20
              have c20b1 : (a0.toList != ([115, 104, 111, 119] : List UInt8)) = false := bne_eq_false_iff_eq.mpr c20
              clear c20
              simp only [Option.some.injEq, Prod.mk.injEq] at H
              obtain ⟨rfl, rfl, rfl⟩ := H
              go_wp2
              go_ret3
              exact ⟨by first | rfl | (simp; done) | (simp [*]; done), by repeat (first | exact Drawn0.refl _ | apply Drawn0.step)⟩
             ·rw [if_neg c20] at H
              have c20b0 : (a0.toList == ([115, 104, 111, 119] : List UInt8)) = false := beq_eq_false_iff_ne.mpr c20
              have c20b1 : (a0.toList != ([115, 104, 111, 119] : List UInt8)) = true := bne_iff_ne.mpr c20
              by_cases c21 : a0.toList = ([109, 97, 112] : List UInt8)
              ·rw [if_pos c21] at H
               have c21b0 : (a0.toList == ([109, 97, 112] : List UInt8)) = true := beq_iff_eq.mpr c21
               have c21b1 : (a0.toList != ([109, 97, 112] : List UInt8)) = false := bne_eq_false_iff_eq.mpr c21
               clear c21
               simp only [Option.some.injEq, Prod.mk.injEq] at H
               obtain ⟨rfl, rfl, rfl⟩ := H
               go_wp2
               go_ret3
               exact ⟨by first | rfl | (simp; done) | (simp [*]; done), by repeat (first | exact Drawn0.refl _ | apply Drawn0.step)⟩
              ·rw [if_neg c21] at H
               have c21b0 : (a0.toList == ([109, 97, 112] : List UInt8)) = false := beq_eq_false_iff_ne.mpr c21
               have c21b1 : (a0.toList != ([109, 97, 112] : List UInt8)) = true := bne_iff_ne.mpr c21
               simp only [Option.some.injEq, Prod.mk.injEq] at H
               obtain ⟨rfl, rfl, rfl⟩ := H
               go_wp2
               go_ret3
               exact ⟨by first | rfl | (simp; done) | (simp [*]; done), by repeat (first | exact Drawn0.refl _ | apply Drawn0.step)⟩

end Go.Proofs.YtmndhgiblpfcgaaDoor.W
end
