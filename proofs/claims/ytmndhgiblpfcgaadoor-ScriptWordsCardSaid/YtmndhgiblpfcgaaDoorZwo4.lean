/-
ScriptWords: the words are the document's, a text of 65,536 bytes is read and a longer one is not, as many bytes are printed and not more (the given card, without a condition).
(This text: part 4 of 7, merged out of: F11, RefScr, F33, Read, Bytes, Read2, Builder, Fmt, Line.)
-/
import Derived.Test.YtmndhgiblpfcgaaDoorZwo1
import Derived.Test.YtmndhgiblpfcgaaDoorZwo2
import Derived.Test.YtmndhgiblpfcgaaDoorZwo3
import Derived.Test.YtmndhgiblpfcgaaDoorProg
import Derived.Lib.Strings
import Derived.Lib.Slices
import Derived.Lib.Walk
import Derived.Lib.Builder
import Derived.Lib.AppendStr
import Derived.Lib.UnsafeStr
import Derived.Lib.MakeNoZero
import Derived.WalkKit
import Derived.Laws.Externs
import Derived.Laws.IdiomCopy
import Derived.Laws.BitsLemmas
import Derived.Lib.ItoaMem
import Derived.Lib.AppendIntMem
import Derived.BigCall
import Derived.BigGuard
section
namespace Go.Proofs.YtmndhgiblpfcgaaDoor.W
open Go.RowKit Go.Proofs.YtmndhgiblpfcgaaDoorW.PrintWords Go.Proofs.YtmndhgiblpfcgaaDoorW.PrintLast Go.Proofs.YtmndhgiblpfcgaaDoorW.PrintMore
attribute [local go_sem] max2_int min2_int max_two min_two max_three min_three max_four min_four
set_option linter.unusedVariables false
set_option linter.unusedSimpArgs false

/-! ### wellspringref26_Line: function 11 -/
mutual
def wellspringref26_Line.j0 : Nat → Bool → Bool → ByteArray → List Int → List Int → Option (ByteArray × Int)
 | 0, _, _, _, _, _ => none
 | k + 1, x5, x33, x281000, x281001, x281002 => if x33 = true then (some ((⟨#[]⟩ : ByteArray), 14)) else (wellspringref26_Line.l0 k x5 x281000 x281001 (x281001.length : Int) 0 x281000 x281001 x281002)
def wellspringref26_Line.l0 : Nat → Bool → ByteArray → List Int → Int → Int → ByteArray → List Int → List Int → Option (ByteArray × Int)
 | 0, _, _, _, _, _, _, _, _ => none
 | k + 1, x5, x7, x37, x38, x39, x281000, x281001, x281002 => if x39 < x38 then (if 0 ≤ x39 then (if x39 < (x37.length : Int) then (if x7.size + 1 ≤ 9223372036854775807 then ((wellspringref26_Tens.f k (rd x37 x39)).bind fun t285 => (if (x7 ++ (⟨#[32]⟩ : ByteArray)).size + t285.size ≤ 9223372036854775807 then (wellspringref26_Line.l0 k x5 ((x7 ++ (⟨#[32]⟩ : ByteArray)) ++ t285) x37 x38 (wrap64 (x39 + 1)) x281000 x281001 x281002) else (none))) else (none)) else (none)) else (none)) else (if x5 = true then (wellspringref26_Line.j2 k x5 x7 ((x281002.length : Int) == 0) x281000 x281001 x281002) else (wellspringref26_Line.j2 k x5 x7 false x281000 x281001 x281002))
def wellspringref26_Line.j2 : Nat → Bool → ByteArray → Bool → ByteArray → List Int → List Int → Option (ByteArray × Int)
 | 0, _, _, _, _, _, _ => none
 | k + 1, x5, x7, x55, x281000, x281001, x281002 => if x55 = true then (if x7.size + 2 ≤ 9223372036854775807 then (if (x7 ++ (⟨#[32, 45]⟩ : ByteArray)).size + 1 ≤ 9223372036854775807 then (some ((x7 ++ (⟨#[32, 45]⟩ : ByteArray)) ++ (⟨#[10]⟩ : ByteArray), 0)) else (none)) else (none)) else (if x5 = true then (if x7.size + 1 ≤ 9223372036854775807 then ((wellspringref24_Hex.f k x281002).bind fun t286 => (if (x7 ++ (⟨#[32]⟩ : ByteArray)).size + t286.size ≤ 9223372036854775807 then (if ((x7 ++ (⟨#[32]⟩ : ByteArray)) ++ t286).size + 1 ≤ 9223372036854775807 then (some (((x7 ++ (⟨#[32]⟩ : ByteArray)) ++ t286) ++ (⟨#[10]⟩ : ByteArray), 0)) else (none)) else (none))) else (none)) else (if x7.size + 1 ≤ 9223372036854775807 then (some (x7 ++ (⟨#[10]⟩ : ByteArray), 0)) else (none)))
end
def wellspringref26_Line.f (k : Nat) (a0_0 : ByteArray) (l0_1 : List Int) (l0_2 : List Int) : Option (ByteArray × Int) := (wellspringref26_Shape.f k a0_0).bind fun bt281 => (if bt281.2.2 = true then (if (l0_1.length : Int) = bt281.1 then (if (l0_2.length : Int) > 0 then (wellspringref26_Line.j0 k bt281.2.1 (!bt281.2.1) a0_0 l0_1 l0_2) else (wellspringref26_Line.j0 k bt281.2.1 false a0_0 l0_1 l0_2)) else (wellspringref26_Line.j0 k bt281.2.1 true a0_0 l0_1 l0_2)) else (some ((⟨#[]⟩ : ByteArray), 20)))
theorem wellspringref26_Line.mono_l : ∀ k, (∀ y0 y1 y2 y3 y4, LeO (wellspringref26_Line.j0 k y0 y1 y2 y3 y4) (wellspringref26_Line.j0 (k + 1) y0 y1 y2 y3 y4)) ∧ (∀ y0 y1 y2 y3 y4 y5 y6 y7, LeO (wellspringref26_Line.l0 k y0 y1 y2 y3 y4 y5 y6 y7) (wellspringref26_Line.l0 (k + 1) y0 y1 y2 y3 y4 y5 y6 y7)) ∧ (∀ y0 y1 y2 y3 y4 y5, LeO (wellspringref26_Line.j2 k y0 y1 y2 y3 y4 y5) (wellspringref26_Line.j2 (k + 1) y0 y1 y2 y3 y4 y5))
 | 0 => ⟨fun _ _ _ _ _ r h => by simp [wellspringref26_Line.j0] at h, fun _ _ _ _ _ _ _ _ r h => by simp [wellspringref26_Line.l0] at h, fun _ _ _ _ _ _ r h => by simp [wellspringref26_Line.j2] at h⟩
 | k + 1 => by
  obtain ⟨ih0, ih1, ih2⟩ := wellspringref26_Line.mono_l k
  refine ⟨?_, ?_, ?_⟩
  ·intro y0 y1 y2 y3 y4
   unfold wellspringref26_Line.j0
   repeat' first
   | (with_reducible exact ih0 _ _ _ _ _)
   | (with_reducible exact ih1 _ _ _ _ _ _ _ _)
   | (with_reducible exact ih2 _ _ _ _ _ _)
   | (with_reducible exact wellspringref24_Hex.mono _ _)
   | (with_reducible exact wellspringref26_Shape.mono _ _)
   | (with_reducible exact wellspringref26_Tens.mono _ _)
   | (with_reducible exact LeO.refl _)
   | (with_reducible exact LeO.none _)
   | (with_reducible refine LeO.ite ?_ ?_)
   | (with_reducible refine LeO.bind ?_ (fun _ => ?_))
   | exact ih0 _ _ _ _ _
   | exact ih1 _ _ _ _ _ _ _ _
   | exact ih2 _ _ _ _ _ _
   | exact wellspringref24_Hex.mono _ _
   | exact wellspringref26_Shape.mono _ _
   | exact wellspringref26_Tens.mono _ _
   | exact LeO.none _
   | refine LeO.ite ?_ ?_
   | refine LeO.bind ?_ (fun _ => ?_)
  ·intro y0 y1 y2 y3 y4 y5 y6 y7
   unfold wellspringref26_Line.l0
   repeat' first
   | (with_reducible exact ih0 _ _ _ _ _)
   | (with_reducible exact ih1 _ _ _ _ _ _ _ _)
   | (with_reducible exact ih2 _ _ _ _ _ _)
   | (with_reducible exact wellspringref24_Hex.mono _ _)
   | (with_reducible exact wellspringref26_Shape.mono _ _)
   | (with_reducible exact wellspringref26_Tens.mono _ _)
   | (with_reducible exact LeO.refl _)
   | (with_reducible exact LeO.none _)
   | (with_reducible refine LeO.ite ?_ ?_)
   | (with_reducible refine LeO.bind ?_ (fun _ => ?_))
   | exact ih0 _ _ _ _ _
   | exact ih1 _ _ _ _ _ _ _ _
   | exact ih2 _ _ _ _ _ _
   | exact wellspringref24_Hex.mono _ _
   | exact wellspringref26_Shape.mono _ _
   | exact wellspringref26_Tens.mono _ _
   | exact LeO.none _
   | refine LeO.ite ?_ ?_
   | refine LeO.bind ?_ (fun _ => ?_)
  ·intro y0 y1 y2 y3 y4 y5
   unfold wellspringref26_Line.j2
   repeat' first
   | (with_reducible exact ih0 _ _ _ _ _)
   | (with_reducible exact ih1 _ _ _ _ _ _ _ _)
   | (with_reducible exact ih2 _ _ _ _ _ _)
   | (with_reducible exact wellspringref24_Hex.mono _ _)
   | (with_reducible exact wellspringref26_Shape.mono _ _)
   | (with_reducible exact wellspringref26_Tens.mono _ _)
   | (with_reducible exact LeO.refl _)
   | (with_reducible exact LeO.none _)
   | (with_reducible refine LeO.ite ?_ ?_)
   | (with_reducible refine LeO.bind ?_ (fun _ => ?_))
   | exact ih0 _ _ _ _ _
   | exact ih1 _ _ _ _ _ _ _ _
   | exact ih2 _ _ _ _ _ _
   | exact wellspringref24_Hex.mono _ _
   | exact wellspringref26_Shape.mono _ _
   | exact wellspringref26_Tens.mono _ _
   | exact LeO.none _
   | refine LeO.ite ?_ ?_
   | refine LeO.bind ?_ (fun _ => ?_)
theorem wellspringref26_Line.mono : ∀ a0 a1 a2 k, LeO (wellspringref26_Line.f k a0 a1 a2) (wellspringref26_Line.f (k + 1) a0 a1 a2) := by
 intro a0 a1 a2 k
 obtain ⟨ih0, ih1, ih2⟩ := wellspringref26_Line.mono_l k
 unfold wellspringref26_Line.f
 repeat' first
   | (with_reducible exact ih0 _ _ _ _ _)
   | (with_reducible exact ih1 _ _ _ _ _ _ _ _)
   | (with_reducible exact ih2 _ _ _ _ _ _)
   | (with_reducible exact wellspringref24_Hex.mono _ _)
   | (with_reducible exact wellspringref26_Shape.mono _ _)
   | (with_reducible exact wellspringref26_Tens.mono _ _)
   | (with_reducible exact LeO.refl _)
   | (with_reducible exact LeO.none _)
   | (with_reducible refine LeO.ite ?_ ?_)
   | (with_reducible refine LeO.bind ?_ (fun _ => ?_))
   | exact ih0 _ _ _ _ _
   | exact ih1 _ _ _ _ _ _ _ _
   | exact ih2 _ _ _ _ _ _
   | exact wellspringref24_Hex.mono _ _
   | exact wellspringref26_Shape.mono _ _
   | exact wellspringref26_Tens.mono _ _
   | exact LeO.none _
   | refine LeO.ite ?_ ?_
   | refine LeO.bind ?_ (fun _ => ?_)
set_option maxHeartbeats 8000000 in
set_option maxRecDepth 100000 in
theorem wellspringref26_Line.calls (k : Nat) (a0_0 : ByteArray) (A0_1 : Option Addr) (c0_1 : Nat) (l0_1 : List Int) (A0_2 : Option Addr) (c0_2 : Nat) (l0_2 : List Int) (r1 : ByteArray) (r2 : Int) (w : World) (hr0_1 : Kd.C (Kd.int .u64) w A0_1 l0_1.length l0_1) (hc0_1 : l0_1.length ≤ c0_1) (hr0_2 : Kd.C (Kd.int .u8) w A0_2 l0_2.length l0_2) (hc0_2 : l0_2.length ≤ c0_2) (h : wellspringref26_Line.f k a0_0 l0_1 l0_2 = some (r1, r2)) :
  Calls Tryd.prog 11 #[.agg #[.string a0_0, .slice A0_1 l0_1.length c0_1, .slice A0_2 l0_2.length c0_2]] w fun e w' => e = .returned (.tuple #[.string r1, .int .i64 r2]) ∧ Below w.heap.size w w' := by
 have hu40 := Tryd.underlying40
 have HR0_1 := Aside0.mk hr0_1
 have HC0_1 := Aside0.mk hc0_1
 clear hr0_1 hc0_1
 have HR0_2 := Aside0.mk hr0_2
 have HC0_2 := Aside0.mk hc0_2
 clear hr0_2 hc0_2
 have HB := Aside0.mk (Below.refl w.heap.size w)
 have H : ((wellspringref26_Shape.f k a0_0).bind fun bt281 => (if bt281.2.2 = true then (if (l0_1.length : Int) = bt281.1 then (if (l0_2.length : Int) > 0 then (wellspringref26_Line.j0 k bt281.2.1 (!bt281.2.1) a0_0 l0_1 l0_2) else (wellspringref26_Line.j0 k bt281.2.1 false a0_0 l0_1 l0_2)) else (wellspringref26_Line.j0 k bt281.2.1 true a0_0 l0_1 l0_2)) else (some ((⟨#[]⟩ : ByteArray), 20)))) = some (r1, r2) := h
 clear h
 replace H := Option.bind_eq_some_iff.mp H
 obtain ⟨⟨t281, t282, t283⟩, A20, H⟩ := H
 replace H : (if t283 = true then (if (l0_1.length : Int) = t281 then (if (l0_2.length : Int) > 0 then (wellspringref26_Line.j0 k t282 (!t282) a0_0 l0_1 l0_2) else (wellspringref26_Line.j0 k t282 false a0_0 l0_1 l0_2)) else (wellspringref26_Line.j0 k t282 true a0_0 l0_1 l0_2)) else (some ((⟨#[]⟩ : ByteArray), 20))) = some (r1, r2) := H
 have A2 := Aside0.mk A20
 clear A20
 by_cases c3 : t283 = true
 ·subst c3
  have H1 : (if (l0_1.length : Int) = t281 then (if (l0_2.length : Int) > 0 then (wellspringref26_Line.j0 k t282 (!t282) a0_0 l0_1 l0_2) else (wellspringref26_Line.j0 k t282 false a0_0 l0_1 l0_2)) else (wellspringref26_Line.j0 k t282 true a0_0 l0_1 l0_2)) = some (r1, r2) := by rw [if_pos rfl] at H; exact H
  clear H
  have H := H1
  clear H1
  have HC4 := Aside0.mk H
  clear H
  go_enter Tryd.func11, Tryd.ntmps11
  go_upto_region 4 with (first | ((with_reducible refine gate_dst (N := 1) rfl ?_); (try (refine gate_guard (by rfl) ?_; dsimp only)); refine box_event ?hg (N := 1) ?hd (cs := #[.string a0_0, .slice A0_1 l0_1.length c0_1, .slice A0_2 l0_2.length c0_2]) (t := 40) ?hr ?_; (case hd => rfl); (case hg => rfl); (case hr => first | (go_simp; done) | (go_simp; rfl)); intro gb280 hg w5 hbox hb; have n0_ := Aside0.mk (below_step (by repeat (first | (with_reducible first | exact HB.out | apply below_alloc | apply pw_below_drewN | apply below_drew1) | exact HB.out)) hb); have n1_ := Aside0.mk (hbox); have n2_ := Aside0.mk ((by rw [hg]; exact (below_size (by repeat (first | (with_reducible first | exact HB.out | apply below_alloc | apply pw_below_drewN | apply below_drew1) | exact HB.out))) : w.heap.size ≤ gb280)); have n3_ := Aside0.mk ((by rw [hg]; exact (below_size (by repeat (first | (with_reducible first | exact HB.out | apply below_alloc | apply pw_below_drewN | apply below_drew1) | exact HB.out))) : w.heap.size ≤ gb280)); clear HB; have HB := n0_; have BK280 := n1_; have GW280 := n2_; have GE280 := n3_; clear n0_ n1_ n2_ n3_; clear hb hbox hg; have hcz6_0 : w5.cell? ⟨gb280, 0, none⟩ = some (.string a0_0) := (blk_cell BK280.out 0).trans rfl; have hcz6_1 : w5.cell? ⟨gb280, 1, none⟩ = some (.slice A0_1 l0_1.length c0_1) := (blk_cell BK280.out 1).trans rfl; have hcz6_2 : w5.cell? ⟨gb280, 2, none⟩ = some (.slice A0_2 l0_2.length c0_2) := (blk_cell BK280.out 2).trans rfl; have hfz6_0 := blk_frozen BK280.out 0; have hfz6_1 := blk_frozen BK280.out 1; have hfz6_2 := blk_frozen BK280.out 2) | ((with_reducible refine gate_callee (f := 13) rfl ?_); refine goesL_ (some 13) rfl rfl Tryd.func13 (by kernel_rfl) rfl #[.string a0_0] rfl (by (try simp only [List.map_toArray, List.map_cons, List.map_nil]); first | done | rfl | (simp only [List.length_drop, List.length_take]; rfl)) ?_; (with_reducible refine (wellspringref26_Shape.calls k a0_0 t281 t282 true _ A2.out).mono ?_); rintro e w' ⟨rfl, ⟨nd, rfl⟩⟩; refine ⟨_, rfl, ?_⟩))
  (try simp only [Act.put, List.setIfInBounds_toArray, List.set_cons_zero, List.set_cons_succ])
  go_cut [33] (fun v33 wc => ∃ (kq : Nat) (x33_3 : Bool), v33 = .bool x33_3 ∧ Aside0 (wellspringref26_Line.j0 kq t282 x33_3 a0_0 l0_1 l0_2 = some (r1, r2)) ∧ Aside0 (kq ≤ k) ∧ Aside0 (wc.heap[gb280]? = some (.cells #[.string a0_0, (.slice A0_1 l0_1.length c0_1), (.slice A0_2 l0_2.length c0_2)] 40 (0, 0))) ∧ Aside0 (Below w.heap.size w wc))
  case first =>
   have H := HC4.out
   clear HC4
   by_cases c7 : (l0_1.length : Int) = t281
   ·rw [if_pos c7] at H
    have c7b0 : ((l0_1.length : Int) == t281) = true := beq_iff_eq.mpr c7
    have c7b1 : ((l0_1.length : Int) != t281) = false := bne_eq_false_iff_eq.mpr c7
    clear c7
    (first | rw [c7b0] | (simp only [i64_w, i32_w]; rw [c7b0]) | skip)
    by_cases c8 : (l0_2.length : Int) > 0
    ·rw [if_pos c8] at H
     have c8b0 : decide (0 < (l0_2.length : Int)) = true := decide_eq_true c8
     have c8b1 : decide (0 < l0_2.length) = true := decide_eq_true (by omega)
     clear c8
     have H' := Aside0.mk H
     clear H
     have hcz9_0 : w5.cell? ⟨gb280, 0, none⟩ = some (.string a0_0) := (blk_cell BK280.out 0).trans rfl
     have hcz9_1 : w5.cell? ⟨gb280, 1, none⟩ = some (.slice A0_1 l0_1.length c0_1) := (blk_cell BK280.out 1).trans rfl
     have hcz9_2 : w5.cell? ⟨gb280, 2, none⟩ = some (.slice A0_2 l0_2.length c0_2) := (blk_cell BK280.out 2).trans rfl
     have hfz9_0 := blk_frozen BK280.out 0
     have hfz9_1 := blk_frozen BK280.out 1
     have hfz9_2 := blk_frozen BK280.out 2
     go_wp2
     go_meet
     case rel => exact ⟨_, (!t282), (by first | rfl | (simp; done) | (simp [*]; done)), H', ⟨by first | omega | exact Nat.le_refl _⟩, ⟨by (with_reducible repeat (first | refine blk_drewN ?_ _ | refine blk_drew ?_ | refine blk_alloc ?_ _)); exact BK280.out⟩, ⟨by repeat (first | (with_reducible first | exact HB.out | apply below_alloc | apply pw_below_drewN | apply below_drew1 | refine below_set ?_ GE280.out) | exact HB.out)⟩⟩
    ·rw [if_neg c8] at H
     have c8b0 : decide (0 < (l0_2.length : Int)) = false := decide_eq_false c8
     have c8b1 : decide (0 < l0_2.length) = false := decide_eq_false (by omega)
     clear c8
     have H' := Aside0.mk H
     clear H
     have hcz10_0 : w5.cell? ⟨gb280, 0, none⟩ = some (.string a0_0) := (blk_cell BK280.out 0).trans rfl
     have hcz10_1 : w5.cell? ⟨gb280, 1, none⟩ = some (.slice A0_1 l0_1.length c0_1) := (blk_cell BK280.out 1).trans rfl
     have hcz10_2 : w5.cell? ⟨gb280, 2, none⟩ = some (.slice A0_2 l0_2.length c0_2) := (blk_cell BK280.out 2).trans rfl
     have hfz10_0 := blk_frozen BK280.out 0
     have hfz10_1 := blk_frozen BK280.out 1
     have hfz10_2 := blk_frozen BK280.out 2
     go_wp2
     go_meet
     case rel => exact ⟨_, (false), (by first | rfl | (simp; done) | (simp [*]; done)), H', ⟨by first | omega | exact Nat.le_refl _⟩, ⟨by (with_reducible repeat (first | refine blk_drewN ?_ _ | refine blk_drew ?_ | refine blk_alloc ?_ _)); exact BK280.out⟩, ⟨by repeat (first | (with_reducible first | exact HB.out | apply below_alloc | apply pw_below_drewN | apply below_drew1 | refine below_set ?_ GE280.out) | exact HB.out)⟩⟩
   ·rw [if_neg c7] at H
    have c7b0 : ((l0_1.length : Int) == t281) = false := beq_eq_false_iff_ne.mpr c7
    have c7b1 : ((l0_1.length : Int) != t281) = true := bne_iff_ne.mpr c7
    (first | rw [c7b0] | (simp only [i64_w, i32_w]; rw [c7b0]) | skip)
    have H' := Aside0.mk H
    clear H
    have hcz11_0 : w5.cell? ⟨gb280, 0, none⟩ = some (.string a0_0) := (blk_cell BK280.out 0).trans rfl
    have hcz11_1 : w5.cell? ⟨gb280, 1, none⟩ = some (.slice A0_1 l0_1.length c0_1) := (blk_cell BK280.out 1).trans rfl
    have hcz11_2 : w5.cell? ⟨gb280, 2, none⟩ = some (.slice A0_2 l0_2.length c0_2) := (blk_cell BK280.out 2).trans rfl
    have hfz11_0 := blk_frozen BK280.out 0
    have hfz11_1 := blk_frozen BK280.out 1
    have hfz11_2 := blk_frozen BK280.out 2
    go_wp2
    go_meet
    case rel => exact ⟨_, (true), (by first | rfl | (simp; done) | (simp [*]; done)), H', ⟨by first | omega | exact Nat.le_refl _⟩, ⟨by (with_reducible repeat (first | refine blk_drewN ?_ _ | refine blk_drew ?_ | refine blk_alloc ?_ _)); exact BK280.out⟩, ⟨by repeat (first | (with_reducible first | exact HB.out | apply below_alloc | apply pw_below_drewN | apply below_drew1 | refine below_set ?_ GE280.out) | exact HB.out)⟩⟩
  case rest =>
   clear HC4
   try clear c1
   try clear p2
   try clear c3
   try clear c7
   try clear c7b0
   try clear c7b1
   try clear c8
   try clear c8b0
   try clear c8b1
   try clear c11
   try clear hcz10_0
   try clear hcz10_1
   try clear hcz10_2
   try clear hcz11_0
   try clear hcz11_1
   try clear hcz11_2
   try clear hcz6_0
   try clear hcz6_1
   try clear hcz6_2
   try clear hcz9_0
   try clear hcz9_1
   try clear hcz9_2
   try clear hfz10_0
   try clear hfz10_1
   try clear hfz10_2
   try clear hfz11_0
   try clear hfz11_1
   try clear hfz11_2
   try clear hfz6_0
   try clear hfz6_1
   try clear hfz6_2
   try clear hfz9_0
   try clear hfz9_1
   try clear hfz9_2
   obtain ⟨kq, x33_3, rfl, HA, HJ3, BK280, HB⟩ := hcut
   cases kq with
   | zero => exact absurd HA.out (by simp [wellspringref26_Line.j0])
   | succ kj3 =>
    have H := HA.out
    clear HA
    simp only [wellspringref26_Line.j0] at H
    by_cases c12 : x33_3 = true
    ·subst c12
     have H1 : (some ((⟨#[]⟩ : ByteArray), 14)) = some (r1, r2) := by rw [if_pos rfl] at H; exact H
     clear H
     have H := H1
     clear H1
     simp only [Option.some.injEq, Prod.mk.injEq] at H
     obtain ⟨rfl, rfl⟩ := H
     go_wp2
     go_ret2
     exact ⟨by first | rfl | (simp [errW_none, errW_some] <;> rfl) | (simp [*, errW_none, errW_some] <;> rfl), by repeat (first | (with_reducible first | exact HB.out | apply below_alloc | apply pw_below_drewN | apply below_drew1 | refine below_set ?_ GE280.out) | exact HB.out)⟩
    ·replace c12 := Bool.eq_false_iff.mpr c12
     subst c12
     have H1 : (wellspringref26_Line.l0 kj3 t282 a0_0 l0_1 (l0_1.length : Int) 0 a0_0 l0_1 l0_2) = some (r1, r2) := by rw [if_neg (show ¬ (false = true) by decide)] at H; exact H
     clear H
     have H := H1
     clear H1
     have H' := Aside0.mk H
     clear H
     have hcz13_0 : wc.cell? ⟨gb280, 0, none⟩ = some (.string a0_0) := (blk_cell BK280.out 0).trans rfl
     have hcz13_1 : wc.cell? ⟨gb280, 1, none⟩ = some (.slice A0_1 l0_1.length c0_1) := (blk_cell BK280.out 1).trans rfl
     have hcz13_2 : wc.cell? ⟨gb280, 2, none⟩ = some (.slice A0_2 l0_2.length c0_2) := (blk_cell BK280.out 2).trans rfl
     have hfz13_0 := blk_frozen BK280.out 0
     have hfz13_1 := blk_frozen BK280.out 1
     have hfz13_2 := blk_frozen BK280.out 2
     go_wp2
     go_loopg [7, 39] kj3 (fun kq v7 v39 w' => ∃ (x7_2 : ByteArray) (x39_2 : Int), v7 = .string x7_2 ∧ v39 = .int .i64 x39_2 ∧ Aside0 (wellspringref26_Line.l0 kq t282 x7_2 l0_1 (l0_1.length : Int) x39_2 a0_0 l0_1 l0_2 = some (r1, r2)) ∧ Aside0 (kq ≤ kj3) ∧ Aside0 (w'.heap[gb280]? = some (.cells #[.string a0_0, (.slice A0_1 l0_1.length c0_1), (.slice A0_2 l0_2.length c0_2)] 40 (0, 0))) ∧ Aside0 (Below w.heap.size w w'))
     case atStart => exact ⟨(a0_0), (0), (by first | rfl | (simp; done) | (simp [*]; done)), (by first | rfl | (simp; done) | (simp [*]; done)), H', ⟨Nat.le_refl _⟩, ⟨by (with_reducible repeat (first | refine blk_drewN ?_ _ | refine blk_drew ?_ | refine blk_alloc ?_ _)); exact BK280.out⟩, ⟨by repeat (first | (with_reducible first | exact HB.out | apply below_alloc | apply pw_below_drewN | apply below_drew1 | refine below_set ?_ GE280.out) | exact HB.out)⟩⟩
     case round =>
      clear H'
      try clear c1
      try clear p2
      try clear c3
      try clear c7
      try clear c7b0
      try clear c7b1
      try clear c8
      try clear c8b0
      try clear c8b1
      try clear c11
      try clear c12
      try clear c13
      try clear hcz10_0
      try clear hcz10_1
      try clear hcz10_2
      try clear hcz11_0
      try clear hcz11_1
      try clear hcz11_2
      try clear hcz13_0
      try clear hcz13_1
      try clear hcz13_2
      try clear hcz6_0
      try clear hcz6_1
      try clear hcz6_2
      try clear hcz9_0
      try clear hcz9_1
      try clear hcz9_2
      try clear hfz10_0
      try clear hfz10_1
      try clear hfz10_2
      try clear hfz11_0
      try clear hfz11_1
      try clear hfz11_2
      try clear hfz13_0
      try clear hfz13_1
      try clear hfz13_2
      try clear hfz6_0
      try clear hfz6_1
      try clear hfz6_2
      try clear hfz9_0
      try clear hfz9_1
      try clear hfz9_2
      try clear p2
      obtain ⟨x7_2, x39_2, rfl, rfl, HA, HK2, BK280, HB⟩ := hrel
      cases gk with
      | zero => exact absurd HA.out (by simp [wellspringref26_Line.l0])
      | succ k2 =>
       have H := HA.out
       clear HA
       simp only [wellspringref26_Line.l0] at H
       by_cases c14 : x39_2 < (l0_1.length : Int)
       ·rw [if_pos c14] at H
        have c14b0 : decide (x39_2 < (l0_1.length : Int)) = true := decide_eq_true c14
        clear c14
        by_cases c15 : 0 ≤ x39_2
        ·rw [if_pos c15] at H
         have c15b0 : decide (0 ≤ x39_2) = true := decide_eq_true c15
         clear c15
         by_cases c16 : x39_2 < (l0_1.length : Int)
         ·rw [if_pos c16] at H
          have c16b0 : decide (x39_2 < (l0_1.length : Int)) = true := decide_eq_true c16
          clear c16
          by_cases c17 : x7_2.size + 1 ≤ 9223372036854775807
          ·rw [if_pos c17] at H
           have c17b0 := eq_true c17
           have c17b1 : decide (x7_2.size + 1 ≤ 9223372036854775807) = true := decide_eq_true c17
           try have c17b2 : (9223372036854775807 < x7_2.size + 1) = False := eq_false (Nat.not_lt.2 c17)
           replace H := Option.bind_eq_some_iff.mp H
           obtain ⟨t285, A180, H⟩ := H
           replace H : (if (x7_2 ++ (⟨#[32]⟩ : ByteArray)).size + t285.size ≤ 9223372036854775807 then (wellspringref26_Line.l0 k2 t282 ((x7_2 ++ (⟨#[32]⟩ : ByteArray)) ++ t285) l0_1 (l0_1.length : Int) (wrap64 (x39_2 + 1)) a0_0 l0_1 l0_2) else (none)) = some (r1, r2) := H
           have A18 := Aside0.mk A180
           clear A180
           by_cases c19 : (x7_2 ++ (⟨#[32]⟩ : ByteArray)).size + t285.size ≤ 9223372036854775807
           ·rw [if_pos c19] at H
            have c19b0 := eq_true c19
            have c19b1 : decide ((x7_2 ++ (⟨#[32]⟩ : ByteArray)).size + t285.size ≤ 9223372036854775807) = true := decide_eq_true c19
            try have c19b2 : (9223372036854775807 < (x7_2 ++ (⟨#[32]⟩ : ByteArray)).size + t285.size) = False := eq_false (Nat.not_lt.2 c19)
            try have c19b3 : (9223372036854775807 < x7_2.size + 1 + t285.size) = False := eq_false (Nat.not_lt.2 (by have e0_ : (⟨#[32]⟩ : ByteArray).size = 1 := rfl; have h_ := c19; simp only [ByteArray.size_append, ByteArray.size_extract] at h_; omega))
            have H' := Aside0.mk H
            clear H
            have p284 : 0 ≤ (x39_2 : Int) := of_decide_eq_true (by first | (with_reducible assumption) | assumption)
            have q284 : x39_2 < (l0_1.length : Int) := of_decide_eq_true (by first | (with_reducible assumption) | assumption)
            obtain ⟨ad284, e284, hx284_0⟩ := Kd.at_int HR0_1.out x39_2 p284 q284
            cases e284
            replace hx284_0 := (HB.out.cell (World.block_lt_of_cell? w _ hx284_0)).trans hx284_0
            replace p284 := eq_true p284
            replace q284 := eq_true q284
            go_wp2_with (first | ((with_reducible refine gate_callee (f := 25) rfl ?_); refine goesL_ (some 46) rfl rfl Tryd.func25 (by kernel_rfl) rfl #[.int .u64 (rd l0_1 x39_2)] rfl (by (try simp only [List.map_toArray, List.map_cons, List.map_nil]); first | done | rfl | (simp only [List.length_drop, List.length_take]; rfl)) ?_; (with_reducible refine (wellspringref26_Tens.calls k2 (rd l0_1 x39_2) t285 _ A18.out).mono ?_); rintro e w20 ⟨rfl, hb⟩; refine ⟨_, rfl, ?_⟩; have n0_ := Aside0.mk (blk_below (g := gb280) (o := .cells #[.string a0_0, .slice (some ad284) l0_1.length c0_1, .slice A0_2 l0_2.length c0_2] 40 (0, 0)) (by (with_reducible repeat (first | refine blk_drewN ?_ _ | refine blk_drew ?_ | refine blk_alloc ?_ _)); exact BK280.out) hb); have n1_ := Aside0.mk (below_step (by repeat (first | (with_reducible first | exact HB.out | apply below_alloc | apply pw_below_drewN | apply below_drew1 | refine below_set ?_ GE280.out) | exact HB.out)) hb); clear BK280; clear HB; have BK280 := n0_; have HB := n1_; clear n0_ n1_; (try clear hb); (try clear hb2); (try clear hk); (try clear hi)))
            go_roundg k2
            case measure => have := HJ3.out; have := HK2.out; omega
            case rel => exact ⟨((x7_2 ++ (⟨#[32]⟩ : ByteArray)) ++ t285), (wrap64 (x39_2 + 1)), (by first | rfl | (simp; done) | (simp [*]; done)), (by first | rfl | (simp; done) | (simp [*]; done)), H', ⟨by have := HJ3.out; have := HK2.out; omega⟩, ⟨by (with_reducible repeat (first | refine blk_drewN ?_ _ | refine blk_drew ?_ | refine blk_alloc ?_ _)); exact BK280.out⟩, ⟨by repeat (first | (with_reducible first | exact HB.out | apply below_alloc | apply pw_below_drewN | apply below_drew1 | refine below_set ?_ GE280.out) | exact HB.out)⟩⟩
           ·rw [if_neg c19] at H
            exact absurd H (by simp)
          ·rw [if_neg c17] at H
           exact absurd H (by simp)
         ·rw [if_neg c16] at H
          exact absurd H (by simp)
        ·rw [if_neg c15] at H
         exact absurd H (by simp)
       ·rw [if_neg c14] at H
        have c14b0 : decide (x39_2 < (l0_1.length : Int)) = false := decide_eq_false c14
        clear c14
        have HC21 := Aside0.mk H
        clear H
        go_upto_region 12 with (fail)
        go_cut [55] (fun v55 wc => ∃ (kq : Nat) (x55_20 : Bool), v55 = .bool x55_20 ∧ Aside0 (wellspringref26_Line.j2 kq t282 x7_2 x55_20 a0_0 l0_1 l0_2 = some (r1, r2)) ∧ Aside0 (kq ≤ k2) ∧ Aside0 (wc.heap[gb280]? = some (.cells #[.string a0_0, (.slice A0_1 l0_1.length c0_1), (.slice A0_2 l0_2.length c0_2)] 40 (0, 0))) ∧ Aside0 (Below w.heap.size w wc))
        case first =>
         have H := HC21.out
         clear HC21
         by_cases c22 : t282 = true
         ·subst c22
          have H1 : (wellspringref26_Line.j2 k2 true x7_2 ((l0_2.length : Int) == 0) a0_0 l0_1 l0_2) = some (r1, r2) := by rw [if_pos rfl] at H; exact H
          clear H
          have H := H1
          clear H1
          have H' := Aside0.mk H
          clear H
          have hcz23_0 : wr.cell? ⟨gb280, 0, none⟩ = some (.string a0_0) := (blk_cell BK280.out 0).trans rfl
          have hcz23_1 : wr.cell? ⟨gb280, 1, none⟩ = some (.slice A0_1 l0_1.length c0_1) := (blk_cell BK280.out 1).trans rfl
          have hcz23_2 : wr.cell? ⟨gb280, 2, none⟩ = some (.slice A0_2 l0_2.length c0_2) := (blk_cell BK280.out 2).trans rfl
          have hfz23_0 := blk_frozen BK280.out 0
          have hfz23_1 := blk_frozen BK280.out 1
          have hfz23_2 := blk_frozen BK280.out 2
          go_wp2
          go_meet
          case rel => exact ⟨_, (((l0_2.length : Int) == 0)), (by first | rfl | (simp; done) | (simp [*]; done)), H', ⟨by have := HJ3.out; have := HK2.out; first | omega | exact Nat.le_refl _⟩, ⟨by (with_reducible repeat (first | refine blk_drewN ?_ _ | refine blk_drew ?_ | refine blk_alloc ?_ _)); exact BK280.out⟩, ⟨by repeat (first | (with_reducible first | exact HB.out | apply below_alloc | apply pw_below_drewN | apply below_drew1 | refine below_set ?_ GE280.out) | exact HB.out)⟩⟩
         ·replace c22 := Bool.eq_false_iff.mpr c22
          subst c22
          have H1 : (wellspringref26_Line.j2 k2 false x7_2 false a0_0 l0_1 l0_2) = some (r1, r2) := by rw [if_neg (show ¬ (false = true) by decide)] at H; exact H
          clear H
          have H := H1
          clear H1
          have H' := Aside0.mk H
          clear H
          go_wp2
          go_meet
          case rel => exact ⟨_, (false), (by first | rfl | (simp; done) | (simp [*]; done)), H', ⟨by have := HJ3.out; have := HK2.out; first | omega | exact Nat.le_refl _⟩, ⟨by (with_reducible repeat (first | refine blk_drewN ?_ _ | refine blk_drew ?_ | refine blk_alloc ?_ _)); exact BK280.out⟩, ⟨by repeat (first | (with_reducible first | exact HB.out | apply below_alloc | apply pw_below_drewN | apply below_drew1 | refine below_set ?_ GE280.out) | exact HB.out)⟩⟩
        case rest =>
         clear HC21
         try clear c1
         try clear c2
         try clear p2
         try clear q2
         try clear hx2
         try clear c3
         try clear p6
         try clear c7
         try clear c7b0
         try clear c7b1
         try clear c8
         try clear c8b0
         try clear c8b1
         try clear c11
         try clear c12
         try clear c13
         try clear c14
         try clear c14b0
         try clear c15
         try clear c15b0
         try clear c16
         try clear c16b0
         try clear c17
         try clear c17b0
         try clear c17b1
         try clear c17b2
         try clear c19
         try clear c19b0
         try clear c19b1
         try clear c19b2
         try clear c22
         try clear hcz10_0
         try clear hcz10_1
         try clear hcz10_2
         try clear hcz11_0
         try clear hcz11_1
         try clear hcz11_2
         try clear hcz13_0
         try clear hcz13_1
         try clear hcz13_2
         try clear hcz23_0
         try clear hcz23_1
         try clear hcz23_2
         try clear hcz6_0
         try clear hcz6_1
         try clear hcz6_2
         try clear hcz9_0
         try clear hcz9_1
         try clear hcz9_2
         try clear hfz10_0
         try clear hfz10_1
         try clear hfz10_2
         try clear hfz11_0
         try clear hfz11_1
         try clear hfz11_2
         try clear hfz13_0
         try clear hfz13_1
         try clear hfz13_2
         try clear hfz23_0
         try clear hfz23_1
         try clear hfz23_2
         try clear hfz6_0
         try clear hfz6_1
         try clear hfz6_2
         try clear hfz9_0
         try clear hfz9_1
         try clear hfz9_2
         try clear hx284_0
         try clear p2
         try clear p284
         try clear q284
         obtain ⟨kq, x55_20, rfl, HA, HJ20, BK280, HB⟩ := hcut
         cases kq with
         | zero => exact absurd HA.out (by simp [wellspringref26_Line.j2])
         | succ kj20 =>
          have H := HA.out
          clear HA
          simp only [wellspringref26_Line.j2] at H
          by_cases c24 : x55_20 = true
          ·subst c24
           have H1 : (if x7_2.size + 2 ≤ 9223372036854775807 then (if (x7_2 ++ (⟨#[32, 45]⟩ : ByteArray)).size + 1 ≤ 9223372036854775807 then (some ((x7_2 ++ (⟨#[32, 45]⟩ : ByteArray)) ++ (⟨#[10]⟩ : ByteArray), 0)) else (none)) else (none)) = some (r1, r2) := by rw [if_pos rfl] at H; exact H
           clear H
           have H := H1
           clear H1
           by_cases c25 : x7_2.size + 2 ≤ 9223372036854775807
           ·rw [if_pos c25] at H
            have c25b0 := eq_true c25
            have c25b1 : decide (x7_2.size + 2 ≤ 9223372036854775807) = true := decide_eq_true c25
            try have c25b2 : (9223372036854775807 < x7_2.size + 2) = False := eq_false (Nat.not_lt.2 c25)
            by_cases c26 : (x7_2 ++ (⟨#[32, 45]⟩ : ByteArray)).size + 1 ≤ 9223372036854775807
            ·rw [if_pos c26] at H
             have c26b0 := eq_true c26
             have c26b1 : decide ((x7_2 ++ (⟨#[32, 45]⟩ : ByteArray)).size + 1 ≤ 9223372036854775807) = true := decide_eq_true c26
             try have c26b2 : (9223372036854775807 < (x7_2 ++ (⟨#[32, 45]⟩ : ByteArray)).size + 1) = False := eq_false (Nat.not_lt.2 c26)
             try have c26b3 : (9223372036854775807 < x7_2.size + 2 + 1) = False := eq_false (Nat.not_lt.2 (by have e0_ : (⟨#[32, 45]⟩ : ByteArray).size = 2 := rfl; have h_ := c26; simp only [ByteArray.size_append, ByteArray.size_extract] at h_; omega))
             simp only [Option.some.injEq, Prod.mk.injEq] at H
             obtain ⟨rfl, rfl⟩ := H
             go_wp2
             go_ret2
             exact ⟨by first | rfl | (simp [errW_none, errW_some] <;> rfl) | (simp [*, errW_none, errW_some] <;> rfl), by repeat (first | (with_reducible first | exact HB.out | apply below_alloc | apply pw_below_drewN | apply below_drew1 | refine below_set ?_ GE280.out) | exact HB.out)⟩
            ·rw [if_neg c26] at H
             exact absurd H (by simp)
           ·rw [if_neg c25] at H
            exact absurd H (by simp)
          ·replace c24 := Bool.eq_false_iff.mpr c24
           subst c24
           have H1 : (if t282 = true then (if x7_2.size + 1 ≤ 9223372036854775807 then ((wellspringref24_Hex.f kj20 l0_2).bind fun t286 => (if (x7_2 ++ (⟨#[32]⟩ : ByteArray)).size + t286.size ≤ 9223372036854775807 then (if ((x7_2 ++ (⟨#[32]⟩ : ByteArray)) ++ t286).size + 1 ≤ 9223372036854775807 then (some (((x7_2 ++ (⟨#[32]⟩ : ByteArray)) ++ t286) ++ (⟨#[10]⟩ : ByteArray), 0)) else (none)) else (none))) else (none)) else (if x7_2.size + 1 ≤ 9223372036854775807 then (some (x7_2 ++ (⟨#[10]⟩ : ByteArray), 0)) else (none))) = some (r1, r2) := by rw [if_neg (show ¬ (false = true) by decide)] at H; exact H
           clear H
           have H := H1
           clear H1
           by_cases c27 : t282 = true
           ·subst c27
            have H1 : (if x7_2.size + 1 ≤ 9223372036854775807 then ((wellspringref24_Hex.f kj20 l0_2).bind fun t286 => (if (x7_2 ++ (⟨#[32]⟩ : ByteArray)).size + t286.size ≤ 9223372036854775807 then (if ((x7_2 ++ (⟨#[32]⟩ : ByteArray)) ++ t286).size + 1 ≤ 9223372036854775807 then (some (((x7_2 ++ (⟨#[32]⟩ : ByteArray)) ++ t286) ++ (⟨#[10]⟩ : ByteArray), 0)) else (none)) else (none))) else (none)) = some (r1, r2) := by rw [if_pos rfl] at H; exact H
            clear H
            have H := H1
            clear H1
            by_cases c28 : x7_2.size + 1 ≤ 9223372036854775807
            ·rw [if_pos c28] at H
             have c28b0 := eq_true c28
             have c28b1 : decide (x7_2.size + 1 ≤ 9223372036854775807) = true := decide_eq_true c28
             try have c28b2 : (9223372036854775807 < x7_2.size + 1) = False := eq_false (Nat.not_lt.2 c28)
             replace H := Option.bind_eq_some_iff.mp H
             obtain ⟨t286, A290, H⟩ := H
             replace H : (if (x7_2 ++ (⟨#[32]⟩ : ByteArray)).size + t286.size ≤ 9223372036854775807 then (if ((x7_2 ++ (⟨#[32]⟩ : ByteArray)) ++ t286).size + 1 ≤ 9223372036854775807 then (some (((x7_2 ++ (⟨#[32]⟩ : ByteArray)) ++ t286) ++ (⟨#[10]⟩ : ByteArray), 0)) else (none)) else (none)) = some (r1, r2) := H
             have A29 := Aside0.mk A290
             clear A290
             by_cases c30 : (x7_2 ++ (⟨#[32]⟩ : ByteArray)).size + t286.size ≤ 9223372036854775807
             ·rw [if_pos c30] at H
              have c30b0 := eq_true c30
              have c30b1 : decide ((x7_2 ++ (⟨#[32]⟩ : ByteArray)).size + t286.size ≤ 9223372036854775807) = true := decide_eq_true c30
              try have c30b2 : (9223372036854775807 < (x7_2 ++ (⟨#[32]⟩ : ByteArray)).size + t286.size) = False := eq_false (Nat.not_lt.2 c30)
              try have c30b3 : (9223372036854775807 < x7_2.size + 1 + t286.size) = False := eq_false (Nat.not_lt.2 (by have e0_ : (⟨#[32]⟩ : ByteArray).size = 1 := rfl; have h_ := c30; simp only [ByteArray.size_append, ByteArray.size_extract] at h_; omega))
              by_cases c31 : ((x7_2 ++ (⟨#[32]⟩ : ByteArray)) ++ t286).size + 1 ≤ 9223372036854775807
              ·rw [if_pos c31] at H
               have c31b0 := eq_true c31
               have c31b1 : decide (((x7_2 ++ (⟨#[32]⟩ : ByteArray)) ++ t286).size + 1 ≤ 9223372036854775807) = true := decide_eq_true c31
               try have c31b2 : (9223372036854775807 < ((x7_2 ++ (⟨#[32]⟩ : ByteArray)) ++ t286).size + 1) = False := eq_false (Nat.not_lt.2 c31)
               try have c31b3 : (9223372036854775807 < x7_2.size + 1 + t286.size + 1) = False := eq_false (Nat.not_lt.2 (by have e0_ : (⟨#[32]⟩ : ByteArray).size = 1 := rfl; have h_ := c31; simp only [ByteArray.size_append, ByteArray.size_extract] at h_; omega))
               simp only [Option.some.injEq, Prod.mk.injEq] at H
               obtain ⟨rfl, rfl⟩ := H
               have hcz32_0 : wc.cell? ⟨gb280, 0, none⟩ = some (.string a0_0) := (blk_cell BK280.out 0).trans rfl
               have hcz32_1 : wc.cell? ⟨gb280, 1, none⟩ = some (.slice A0_1 l0_1.length c0_1) := (blk_cell BK280.out 1).trans rfl
               have hcz32_2 : wc.cell? ⟨gb280, 2, none⟩ = some (.slice A0_2 l0_2.length c0_2) := (blk_cell BK280.out 2).trans rfl
               have hfz32_0 := blk_frozen BK280.out 0
               have hfz32_1 := blk_frozen BK280.out 1
               have hfz32_2 := blk_frozen BK280.out 2
               go_wp2_with (first | ((with_reducible refine gate_callee (f := 26) rfl ?_); refine goesL_ (some 63) rfl rfl Tryd.func26 (by kernel_rfl) rfl #[.slice A0_2 l0_2.length c0_2] rfl (by (try simp only [List.map_toArray, List.map_cons, List.map_nil]); first | done | rfl | (simp only [List.length_drop, List.length_take]; rfl)) ?_; (with_reducible refine (wellspringref24_Hex.calls kj20 _ _ l0_2 t286 _ ?side1 ?side2 A29.out).mono ?_); (case side1 => repeat (first | exact (Kd.C_below HR0_2.out HB.out) | (with_reducible refine Kd.C_alloc ?_ _) | (with_reducible refine Kd.C_drewN ?_ _) | (with_reducible refine Kd.C_drew ?_))); (case side2 => exact HC0_2.out); rintro e w33 ⟨rfl, hb⟩; refine ⟨_, rfl, ?_⟩; have n0_ := Aside0.mk (blk_below (g := gb280) (o := .cells #[.string a0_0, .slice A0_1 l0_1.length c0_1, .slice A0_2 l0_2.length c0_2] 40 (0, 0)) (by (with_reducible repeat (first | refine blk_drewN ?_ _ | refine blk_drew ?_ | refine blk_alloc ?_ _)); exact BK280.out) hb); have n1_ := Aside0.mk (below_step (by repeat (first | (with_reducible first | exact HB.out | apply below_alloc | apply pw_below_drewN | apply below_drew1 | refine below_set ?_ GE280.out) | exact HB.out)) hb); clear BK280; clear HB; have BK280 := n0_; have HB := n1_; clear n0_ n1_; (try clear hb); (try clear hb2); (try clear hk); (try clear hi)))
               go_ret2
               exact ⟨by first | rfl | (simp [errW_none, errW_some] <;> rfl) | (simp [*, errW_none, errW_some] <;> rfl), by repeat (first | (with_reducible first | exact HB.out | apply below_alloc | apply pw_below_drewN | apply below_drew1 | refine below_set ?_ GE280.out) | exact HB.out)⟩
              ·rw [if_neg c31] at H
               exact absurd H (by simp)
             ·rw [if_neg c30] at H
              exact absurd H (by simp)
            ·rw [if_neg c28] at H
             exact absurd H (by simp)
           ·replace c27 := Bool.eq_false_iff.mpr c27
            subst c27
            have H1 : (if x7_2.size + 1 ≤ 9223372036854775807 then (some (x7_2 ++ (⟨#[10]⟩ : ByteArray), 0)) else (none)) = some (r1, r2) := by rw [if_neg (show ¬ (false = true) by decide)] at H; exact H
            clear H
            have H := H1
            clear H1
            by_cases c34 : x7_2.size + 1 ≤ 9223372036854775807
            ·rw [if_pos c34] at H
             have c34b0 := eq_true c34
             have c34b1 : decide (x7_2.size + 1 ≤ 9223372036854775807) = true := decide_eq_true c34
             try have c34b2 : (9223372036854775807 < x7_2.size + 1) = False := eq_false (Nat.not_lt.2 c34)
             simp only [Option.some.injEq, Prod.mk.injEq] at H
             obtain ⟨rfl, rfl⟩ := H
             go_wp2
             go_ret2
             exact ⟨by first | rfl | (simp [errW_none, errW_some] <;> rfl) | (simp [*, errW_none, errW_some] <;> rfl), by repeat (first | (with_reducible first | exact HB.out | apply below_alloc | apply pw_below_drewN | apply below_drew1 | refine below_set ?_ GE280.out) | exact HB.out)⟩
            ·rw [if_neg c34] at H
             exact absurd H (by simp)
 ·replace c3 := Bool.eq_false_iff.mpr c3
  subst c3
  have H1 : (some ((⟨#[]⟩ : ByteArray), 20)) = some (r1, r2) := by rw [if_neg (show ¬ (false = true) by decide)] at H; exact H
  clear H
  have H := H1
  clear H1
  simp only [Option.some.injEq, Prod.mk.injEq] at H
  obtain ⟨rfl, rfl⟩ := H
  go_enter Tryd.func11, Tryd.ntmps11
  go_wp2_with (first | ((with_reducible refine gate_dst (N := 1) rfl ?_); (try (refine gate_guard (by rfl) ?_; dsimp only)); refine box_event ?hg (N := 1) ?hd (cs := #[.string a0_0, .slice A0_1 l0_1.length c0_1, .slice A0_2 l0_2.length c0_2]) (t := 40) ?hr ?_; (case hd => rfl); (case hg => rfl); (case hr => first | (go_simp; done) | (go_simp; rfl)); intro gb280 hg w35 hbox hb; have n0_ := Aside0.mk (below_step (by repeat (first | (with_reducible first | exact HB.out | apply below_alloc | apply pw_below_drewN | apply below_drew1) | exact HB.out)) hb); have n1_ := Aside0.mk (hbox); have n2_ := Aside0.mk ((by rw [hg]; exact (below_size (by repeat (first | (with_reducible first | exact HB.out | apply below_alloc | apply pw_below_drewN | apply below_drew1) | exact HB.out))) : w.heap.size ≤ gb280)); have n3_ := Aside0.mk ((by rw [hg]; exact (below_size (by repeat (first | (with_reducible first | exact HB.out | apply below_alloc | apply pw_below_drewN | apply below_drew1) | exact HB.out))) : w.heap.size ≤ gb280)); clear HB; have HB := n0_; have BK280 := n1_; have GW280 := n2_; have GE280 := n3_; clear n0_ n1_ n2_ n3_; clear hb hbox hg; have hcz36_0 : w35.cell? ⟨gb280, 0, none⟩ = some (.string a0_0) := (blk_cell BK280.out 0).trans rfl; have hcz36_1 : w35.cell? ⟨gb280, 1, none⟩ = some (.slice A0_1 l0_1.length c0_1) := (blk_cell BK280.out 1).trans rfl; have hcz36_2 : w35.cell? ⟨gb280, 2, none⟩ = some (.slice A0_2 l0_2.length c0_2) := (blk_cell BK280.out 2).trans rfl; have hfz36_0 := blk_frozen BK280.out 0; have hfz36_1 := blk_frozen BK280.out 1; have hfz36_2 := blk_frozen BK280.out 2) | ((with_reducible refine gate_callee (f := 13) rfl ?_); refine goesL_ (some 13) rfl rfl Tryd.func13 (by kernel_rfl) rfl #[.string a0_0] rfl (by (try simp only [List.map_toArray, List.map_cons, List.map_nil]); first | done | rfl | (simp only [List.length_drop, List.length_take]; rfl)) ?_; (with_reducible refine (wellspringref26_Shape.calls k a0_0 t281 t282 false _ A2.out).mono ?_); rintro e w' ⟨rfl, ⟨nd, rfl⟩⟩; refine ⟨_, rfl, ?_⟩))
  go_ret2
  exact ⟨by first | rfl | (simp [errW_none, errW_some] <;> rfl) | (simp [*, errW_none, errW_some] <;> rfl), by repeat (first | (with_reducible first | exact HB.out | apply below_alloc | apply pw_below_drewN | apply below_drew1 | refine below_set ?_ GE280.out) | exact HB.out)⟩

end Go.Proofs.YtmndhgiblpfcgaaDoor.W
end

section
/-
The document's functions for scripts (layer 26, and 24's digits), as printed, are the plain ones.
-/
namespace Go.Proofs.YtmndhgiblpfcgaaDoor.W
open Go.RowKit Go.Proofs.YtmndhgiblpfcgaaDoorW.PrintWords Wel.Scr
set_option linter.unusedVariables false
set_option linter.unusedSimpArgs false

theorem unhexL_odd : ∀ {s : List UInt8}, s.length % 2 = 1 → unhexL s = none
  | [], h => by simp at h
  | [_], _ => rfl
  | a :: b :: r, h => by
    have := unhexL_odd (s := r) (by simp at h; omega)
    simp only [unhexL, this]
    split
    · simp_all
    · rfl
theorem unhexL_bad {a b : UInt8} {r : List UInt8} (h : val16 a = none ∨ val16 b = none) : unhexL (a :: b :: r) = none := by
  simp only [unhexL]
  rcases h with h | h <;> rw [h]
  cases val16 a <;> rfl
/-! ### words -/
/-! ### numbers -/
/-! ### Shape -/
def shapeR (w : List UInt8) : Int × Bool × Bool := match Wel.Scr.shape w with | some (k, b) => ((k : Int), b, true) | none => (0, false, false)
theorem ev_at {α : Type} {g : Nat → Option α} {r : α} (K : Nat) (h : ∀ m, g (m + K) = some r) : Ev g r := ⟨K, fun k hk => by
  obtain ⟨m, rfl⟩ : ∃ m, k = m + K := ⟨k - K, by omega⟩
  exact h m⟩
theorem Shape_ev (w : List UInt8) : Ev (fun k => wellspringref26_Shape.f k (ba w)) (shapeR w) := by
  by_cases h1 : w = [98, 101, 103, 105, 110]
  · subst h1; exact ev_at 5 fun m => by simp only [wellspringref26_Shape.f, wellspringref26_Shape.j0, wellspringref26_Shape.j1, wellspringref26_Shape.j2, ba_toList]; rfl
  by_cases h2 : w = [114, 111, 119]
  · subst h2; exact ev_at 5 fun m => by simp only [wellspringref26_Shape.f, wellspringref26_Shape.j0, wellspringref26_Shape.j1, wellspringref26_Shape.j2, ba_toList]; rfl
  by_cases h3 : w = [102, 111, 114, 103, 101]
  · subst h3; exact ev_at 5 fun m => by simp only [wellspringref26_Shape.f, wellspringref26_Shape.j0, wellspringref26_Shape.j1, wellspringref26_Shape.j2, ba_toList]; rfl
  by_cases h4 : w = [115, 97, 121]
  · subst h4; exact ev_at 5 fun m => by simp only [wellspringref26_Shape.f, wellspringref26_Shape.j0, wellspringref26_Shape.j1, wellspringref26_Shape.j2, ba_toList]; rfl
  by_cases h5 : w = [115, 101, 101, 100]
  · subst h5; exact ev_at 5 fun m => by simp only [wellspringref26_Shape.f, wellspringref26_Shape.j0, wellspringref26_Shape.j1, wellspringref26_Shape.j2, ba_toList]; rfl
  by_cases h6 : w = [115, 107, 105, 112]
  · subst h6; exact ev_at 5 fun m => by simp only [wellspringref26_Shape.f, wellspringref26_Shape.j0, wellspringref26_Shape.j1, wellspringref26_Shape.j2, ba_toList]; rfl
  by_cases h7 : w = [100, 114, 111, 112]
  · subst h7; exact ev_at 5 fun m => by simp only [wellspringref26_Shape.f, wellspringref26_Shape.j0, wellspringref26_Shape.j1, wellspringref26_Shape.j2, ba_toList]; rfl
  by_cases h8 : w = [100, 111, 117, 98, 108, 101]
  · subst h8; exact ev_at 5 fun m => by simp only [wellspringref26_Shape.f, wellspringref26_Shape.j0, wellspringref26_Shape.j1, wellspringref26_Shape.j2, ba_toList]; rfl
  by_cases h9 : w = [97, 114, 114, 105, 118, 101]
  · subst h9; exact ev_at 5 fun m => by simp only [wellspringref26_Shape.f, wellspringref26_Shape.j0, wellspringref26_Shape.j1, wellspringref26_Shape.j2, ba_toList]; rfl
  by_cases h10 : w = [104, 101, 97, 114]
  · subst h10; exact ev_at 5 fun m => by simp only [wellspringref26_Shape.f, wellspringref26_Shape.j0, wellspringref26_Shape.j1, wellspringref26_Shape.j2, ba_toList]; rfl
  by_cases h11 : w = [99, 111, 117, 110, 116]
  · subst h11; exact ev_at 5 fun m => by simp only [wellspringref26_Shape.f, wellspringref26_Shape.j0, wellspringref26_Shape.j1, wellspringref26_Shape.j2, ba_toList]; rfl
  by_cases h12 : w = [109, 111, 118, 101]
  · subst h12; exact ev_at 5 fun m => by simp only [wellspringref26_Shape.f, wellspringref26_Shape.j0, wellspringref26_Shape.j1, wellspringref26_Shape.j2, ba_toList]; rfl
  by_cases h13 : w = [99, 117, 116]
  · subst h13; exact ev_at 5 fun m => by simp only [wellspringref26_Shape.f, wellspringref26_Shape.j0, wellspringref26_Shape.j1, wellspringref26_Shape.j2, ba_toList]; rfl
  by_cases h14 : w = [109, 97, 115, 107]
  · subst h14; exact ev_at 5 fun m => by simp only [wellspringref26_Shape.f, wellspringref26_Shape.j0, wellspringref26_Shape.j1, wellspringref26_Shape.j2, ba_toList]; rfl
  by_cases h15 : w = [115, 116, 97, 116, 117, 115]
  · subst h15; exact ev_at 5 fun m => by simp only [wellspringref26_Shape.f, wellspringref26_Shape.j0, wellspringref26_Shape.j1, wellspringref26_Shape.j2, ba_toList]; rfl
  by_cases h16 : w = [115, 104, 111, 119]
  · subst h16; exact ev_at 5 fun m => by simp only [wellspringref26_Shape.f, wellspringref26_Shape.j0, wellspringref26_Shape.j1, wellspringref26_Shape.j2, ba_toList]; rfl
  by_cases h17 : w = [109, 97, 112]
  · subst h17; exact ev_at 5 fun m => by simp only [wellspringref26_Shape.f, wellspringref26_Shape.j0, wellspringref26_Shape.j1, wellspringref26_Shape.j2, ba_toList]; rfl
  have hs : Wel.Scr.shape w = none := by
    unfold Wel.Scr.shape
    rw [Option.map_eq_none_iff, List.find?_eq_none]
    intro f hf
    simp only [forms, List.mem_cons, List.mem_nil_iff, or_false] at hf
    simp only [decide_eq_true_eq]
    rcases hf with rfl | rfl | rfl | rfl | rfl | rfl | rfl | rfl | rfl | rfl | rfl | rfl | rfl | rfl | rfl | rfl | rfl <;> exact fun e => by simp_all
  unfold shapeR
  rw [hs]
  refine ev_at 5 fun m => ?_
  have f2 : (w == [115, 97, 121]) = false := beq_eq_false_iff_ne.2 h4
  have f3 : (w == [99, 111, 117, 110, 116]) = false := beq_eq_false_iff_ne.2 h11
  have f4 : (w == [99, 117, 116]) = false := beq_eq_false_iff_ne.2 h13
  simp only [wellspringref26_Shape.f, wellspringref26_Shape.j0, wellspringref26_Shape.j1, wellspringref26_Shape.j2, ba_toList, h1, h2, h3, h5, h6, h7, h8, h9, h10, h12, h14, h15, h16, h17, f2, f3, f4, if_false, Bool.false_eq_true]

/-! ### Read -/
def nats (l : List Nat) : List Int := l.map fun n : Nat => (n : Int)
theorem nats_length (l : List Nat) : (nats l).length = l.length := by simp [nats]
def readR (s : List UInt8) : ByteArray × List Int × List Int × Int := (ba (Wel.Scr.read s).1.word, nats (Wel.Scr.read s).1.nums, ints (Wel.Scr.read s).1.bytes, ((Wel.Scr.read s).2 : Int))
theorem splitB_len {c : UInt8} {l : List UInt8} : ∀ a, a ∈ splitB c l → a.length ≤ l.length := by
  induction l with
  | nil => intro a ha; simp [splitB] at ha; simp [ha]
  | cons x xs ih =>
    intro a ha
    simp only [splitB] at ha
    by_cases hx : x = c
    · rw [if_pos hx] at ha
      rcases List.mem_cons.1 ha with rfl | ha
      · simp
      · have := ih a ha; simp; omega
    · rw [if_neg hx] at ha
      cases h : splitB c xs with
      | nil => exact absurd h (splitB_ne c xs)
      | cons b t =>
        rw [h] at ha ih
        rcases List.mem_cons.1 ha with rfl | ha
        · have := ih b (List.mem_cons_self ..); simp; omega
        · have := ih a (List.mem_cons_of_mem _ ha); simp; omega
end Go.Proofs.YtmndhgiblpfcgaaDoor.W
end

section
namespace Go.Proofs.YtmndhgiblpfcgaaDoor.W
open Go.RowKit Go.Proofs.YtmndhgiblpfcgaaDoorW.PrintWords Go.Proofs.YtmndhgiblpfcgaaDoorW.PrintLast Go.Proofs.YtmndhgiblpfcgaaDoorW.PrintMore
attribute [local go_sem] max2_int min2_int max_two min_two max_three min_three max_four min_four
set_option linter.unusedVariables false
set_option linter.unusedSimpArgs false

/-! ### script_readBytes: function 33 -/
mutual
def script_readBytes.j0 : Nat → ByteArray → Bool → Option (List Int × Bool)
 | 0, _, _ => none
 | k + 1, x0, x17 => if x17 = true then (some (([] : List Int), false)) else (script_readBytes.l0 k x0 ([] : List Int) 0)
def script_readBytes.l0 : Nat → ByteArray → List Int → Int → Option (List Int × Bool)
 | 0, _, _, _ => none
 | k + 1, x0, x4, x5 => if x5 < (x0.size : Int) then (if 0 ≤ x5 then ((strings_IndexByte.f (⟨#[48, 49, 50, 51, 52, 53, 54, 55, 56, 57, 97, 98, 99, 100, 101, 102]⟩ : ByteArray) (bt x0 x5)).bind fun t137 => (if 0 ≤ (wrap64 (x5 + 1)) then (if (wrap64 (x5 + 1)) < (x0.size : Int) then ((strings_IndexByte.f (⟨#[48, 49, 50, 51, 52, 53, 54, 55, 56, 57, 97, 98, 99, 100, 101, 102]⟩ : ByteArray) (bt x0 (wrap64 (x5 + 1)))).bind fun t138 => (if t137 < 0 then (some (([] : List Int), false)) else (if t138 < 0 then (some (([] : List Int), false)) else (if x4.length < 140737488355328 then (script_readBytes.l0 k x0 (x4 ++ [(Go.bits .or .i64 (wrap64 (t137 * 16)) t138) % 256]) (wrap64 (x5 + 2))) else (none))))) else (none)) else (none))) else (none)) else (some (x4, true))
end
def script_readBytes.f (k : Nat) (a0 : ByteArray) : Option (List Int × Bool) := if a0.toList = ([45] : List UInt8) then (some (([] : List Int), true)) else (if a0.toList = ([] : List UInt8) then (script_readBytes.j0 k a0 true) else (script_readBytes.j0 k a0 (((a0.size : Int) % 2) != 0)))
theorem script_readBytes.mono_l : ∀ k, (∀ y0 y1, LeO (script_readBytes.j0 k y0 y1) (script_readBytes.j0 (k + 1) y0 y1)) ∧ (∀ y0 y1 y2, LeO (script_readBytes.l0 k y0 y1 y2) (script_readBytes.l0 (k + 1) y0 y1 y2))
 | 0 => ⟨fun _ _ r h => by simp [script_readBytes.j0] at h, fun _ _ _ r h => by simp [script_readBytes.l0] at h⟩
 | k + 1 => by
  obtain ⟨ih0, ih1⟩ := script_readBytes.mono_l k
  refine ⟨?_, ?_⟩
  ·intro y0 y1
   unfold script_readBytes.j0
   repeat' first
   | (with_reducible exact ih0 _ _)
   | (with_reducible exact ih1 _ _ _)
   | (with_reducible exact LeO.refl _)
   | (with_reducible exact LeO.none _)
   | (with_reducible refine LeO.ite ?_ ?_)
   | (with_reducible refine LeO.bind ?_ (fun _ => ?_))
   | exact ih0 _ _
   | exact ih1 _ _ _
   | exact LeO.none _
   | refine LeO.ite ?_ ?_
   | refine LeO.bind ?_ (fun _ => ?_)
  ·intro y0 y1 y2
   unfold script_readBytes.l0
   repeat' first
   | (with_reducible exact ih0 _ _)
   | (with_reducible exact ih1 _ _ _)
   | (with_reducible exact LeO.refl _)
   | (with_reducible exact LeO.none _)
   | (with_reducible refine LeO.ite ?_ ?_)
   | (with_reducible refine LeO.bind ?_ (fun _ => ?_))
   | exact ih0 _ _
   | exact ih1 _ _ _
   | exact LeO.none _
   | refine LeO.ite ?_ ?_
   | refine LeO.bind ?_ (fun _ => ?_)
theorem script_readBytes.mono : ∀ a0 k, LeO (script_readBytes.f k a0) (script_readBytes.f (k + 1) a0) := by
 intro a0 k
 obtain ⟨ih0, ih1⟩ := script_readBytes.mono_l k
 unfold script_readBytes.f
 repeat' first
   | (with_reducible exact ih0 _ _)
   | (with_reducible exact ih1 _ _ _)
   | (with_reducible exact LeO.refl _)
   | (with_reducible exact LeO.none _)
   | (with_reducible refine LeO.ite ?_ ?_)
   | (with_reducible refine LeO.bind ?_ (fun _ => ?_))
   | exact ih0 _ _
   | exact ih1 _ _ _
   | exact LeO.none _
   | refine LeO.ite ?_ ?_
   | refine LeO.bind ?_ (fun _ => ?_)
set_option maxHeartbeats 8000000 in
set_option maxRecDepth 100000 in
theorem script_readBytes.calls (k : Nat) (a0 : ByteArray) (r1 : List Int) (r2 : Bool) (w : World) (h : script_readBytes.f k a0 = some (r1, r2)) :
  Calls Tryd.prog 33 #[.string a0] w fun e w' => ∃ v0_ : Value, e = .returned (.tuple #[v0_, .bool r2]) ∧ Kd.R (Kd.int .u8) 5 w' w.heap.size (fun _ => True) v0_ r1 ∧ Below w.heap.size w w' := by
 have HB := Aside0.mk (Below.refl w.heap.size w)
 have H : (if a0.toList = ([45] : List UInt8) then (some (([] : List Int), true)) else (if a0.toList = ([] : List UInt8) then (script_readBytes.j0 k a0 true) else (script_readBytes.j0 k a0 (((a0.size : Int) % 2) != 0)))) = some (r1, r2) := h
 clear h
 by_cases c2 : a0.toList = ([45] : List UInt8)
 ·rw [if_pos c2] at H
  have c2b0 : (a0.toList == ([45] : List UInt8)) = true := beq_iff_eq.mpr c2
  have c2b1 : (a0.toList != ([45] : List UInt8)) = false := bne_eq_false_iff_eq.mpr c2
  clear c2
  simp only [Option.some.injEq, Prod.mk.injEq] at H
  obtain ⟨rfl, rfl⟩ := H
  go_enter Tryd.func33, Tryd.ntmps33
  go_wp2
  repeat (go_quiet (fail); try go_wp2)
  go_ret2
  exact ⟨_, by first | rfl | (simp [errW_none, errW_some] <;> rfl) | (simp [*, errW_none, errW_some] <;> rfl), by first | exact Kd.R_nil _ _ _ _ _ | exact Kd.N_nil _ _ _ _ _ | exact Kd.V_nil _ _ _ _ _ | exact Kd.Q_nil _ _ _ _ _ | exact Kd.S_nil _ _ _ _ _, by repeat (first | (with_reducible first | exact HB.out | apply below_alloc | apply pw_below_drewN | apply below_drew1) | exact HB.out)⟩
 ·rw [if_neg c2] at H
  have c2b0 : (a0.toList == ([45] : List UInt8)) = false := beq_eq_false_iff_ne.mpr c2
  have c2b1 : (a0.toList != ([45] : List UInt8)) = true := bne_iff_ne.mpr c2
  have HC3 := Aside0.mk H
  clear H
  go_enter Tryd.func33, Tryd.ntmps33
  go_upto_region 3 with (fail)
  repeat (go_quiet (fail); go_upto_region 3 with (fail))
  go_cut [17] (fun v17 wc => ∃ (kq : Nat) (x17_2 : Bool), v17 = .bool x17_2 ∧ Aside0 (script_readBytes.j0 kq a0 x17_2 = some (r1, r2)) ∧ Aside0 (kq ≤ k) ∧ Aside0 (Below w.heap.size w wc))
  case first =>
   have H := HC3.out
   clear HC3
   by_cases c4 : a0.toList = ([] : List UInt8)
   ·rw [if_pos c4] at H
    have c4b0 : (a0.toList == ([] : List UInt8)) = true := beq_iff_eq.mpr c4
    have c4b1 : (a0.toList != ([] : List UInt8)) = false := bne_eq_false_iff_eq.mpr c4
    clear c4
    (first | rw [c4b0] | (simp only [i64_w, i32_w]; rw [c4b0]) | skip)
    have H' := Aside0.mk H
    clear H
    go_wp2
    repeat (go_quiet (fail); try go_wp2)
    go_meet
    case rel => exact ⟨_, (true), (by first | rfl | (simp; done) | (simp [*]; done)), H', ⟨by first | omega | exact Nat.le_refl _⟩, ⟨by repeat (first | (with_reducible first | exact HB.out | apply below_alloc | apply pw_below_drewN | apply below_drew1) | exact HB.out)⟩⟩
   ·rw [if_neg c4] at H
    have c4b0 : (a0.toList == ([] : List UInt8)) = false := beq_eq_false_iff_ne.mpr c4
    have c4b1 : (a0.toList != ([] : List UInt8)) = true := bne_iff_ne.mpr c4
    (first | rw [c4b0] | (simp only [i64_w, i32_w]; rw [c4b0]) | skip)
    have H' := Aside0.mk H
    clear H
    go_wp2
    repeat (go_quiet (fail); try go_wp2)
    go_meet
    case rel => exact ⟨_, ((((a0.size : Int) % 2) != 0)), (by first | rfl | (simp; done) | (simp [*]; done)), H', ⟨by first | omega | exact Nat.le_refl _⟩, ⟨by repeat (first | (with_reducible first | exact HB.out | apply below_alloc | apply pw_below_drewN | apply below_drew1) | exact HB.out)⟩⟩
  case rest =>
   clear HC3
   try clear c2
   try clear c2b0
   try clear c2b1
   try clear p2
   try clear c3
   try clear c4
   try clear c4b0
   try clear c4b1
   obtain ⟨kq, x17_2, rfl, HA, HJ2, HB⟩ := hcut
   cases kq with
   | zero => exact absurd HA.out (by simp [script_readBytes.j0])
   | succ kj2 =>
    have H := HA.out
    clear HA
    simp only [script_readBytes.j0] at H
    by_cases c5 : x17_2 = true
    ·subst c5
     have H1 : (some (([] : List Int), false)) = some (r1, r2) := by rw [if_pos rfl] at H; exact H
     clear H
     have H := H1
     clear H1
     simp only [Option.some.injEq, Prod.mk.injEq] at H
     obtain ⟨rfl, rfl⟩ := H
     go_wp2
     repeat (go_quiet (fail); try go_wp2)
     go_ret2
     exact ⟨_, by first | rfl | (simp [errW_none, errW_some] <;> rfl) | (simp [*, errW_none, errW_some] <;> rfl), by first | exact Kd.R_nil _ _ _ _ _ | exact Kd.N_nil _ _ _ _ _ | exact Kd.V_nil _ _ _ _ _ | exact Kd.Q_nil _ _ _ _ _ | exact Kd.S_nil _ _ _ _ _, by repeat (first | (with_reducible first | exact HB.out | apply below_alloc | apply pw_below_drewN | apply below_drew1) | exact HB.out)⟩
    ·replace c5 := Bool.eq_false_iff.mpr c5
     subst c5
     have H1 : (script_readBytes.l0 kj2 a0 ([] : List Int) 0) = some (r1, r2) := by rw [if_neg (show ¬ (false = true) by decide)] at H; exact H
     clear H
     have H := H1
     clear H1
     have H' := Aside0.mk H
     clear H
     go_wp2
     repeat (go_quiet (fail); try go_wp2)
     go_loopg [4, 5] kj2 (fun kq v4 v5 w' => ∃ (x4_2 : List Int) (x5_2 : Int), v5 = .int .i64 x5_2 ∧ Aside0 (script_readBytes.l0 kq a0 x4_2 x5_2 = some (r1, r2)) ∧ Aside0 (kq ≤ kj2) ∧ Aside0 (Kd.R (Kd.int .u8) 5 w' w.heap.size (fun _ => True) v4 x4_2) ∧ Aside0 (Below w.heap.size w w'))
     case atStart => exact ⟨(([] : List Int)), (0), (by first | rfl | (simp; done) | (simp [*]; done)), H', ⟨Nat.le_refl _⟩, ⟨by first | exact Kd.R_nil _ _ _ _ _ | exact Kd.N_nil _ _ _ _ _ | exact Kd.V_nil _ _ _ _ _ | exact Kd.Q_nil _ _ _ _ _ | exact Kd.S_nil _ _ _ _ _⟩, ⟨by repeat (first | (with_reducible first | exact HB.out | apply below_alloc | apply pw_below_drewN | apply below_drew1) | exact HB.out)⟩⟩
     case round =>
      clear H'
      try clear c2
      try clear c2b0
      try clear c2b1
      try clear p2
      try clear c3
      try clear c4
      try clear c4b0
      try clear c4b1
      try clear c5
      try clear p2
      obtain ⟨x4_2, x5_2, rfl, HA, HK2, HO_4, HB⟩ := hrel
      cases gk with
      | zero => exact absurd HA.out (by simp [script_readBytes.l0])
      | succ k2 =>
       have H := HA.out
       clear HA
       simp only [script_readBytes.l0] at H
       by_cases c6 : x5_2 < (a0.size : Int)
       ·rw [if_pos c6] at H
        have c6b0 : decide (x5_2 < (a0.size : Int)) = true := decide_eq_true c6
        clear c6
        by_cases c7 : 0 ≤ x5_2
        ·rw [if_pos c7] at H
         have c7b0 : decide (0 ≤ x5_2) = true := decide_eq_true c7
         clear c7
         replace H := Option.bind_eq_some_iff.mp H
         obtain ⟨t137, A90, H⟩ := H
         replace H : (if 0 ≤ (wrap64 (x5_2 + 1)) then (if (wrap64 (x5_2 + 1)) < (a0.size : Int) then ((strings_IndexByte.f (⟨#[48, 49, 50, 51, 52, 53, 54, 55, 56, 57, 97, 98, 99, 100, 101, 102]⟩ : ByteArray) (bt a0 (wrap64 (x5_2 + 1)))).bind fun t138 => (if t137 < 0 then (some (([] : List Int), false)) else (if t138 < 0 then (some (([] : List Int), false)) else (if x4_2.length < 140737488355328 then (script_readBytes.l0 k2 a0 (x4_2 ++ [(Go.bits .or .i64 (wrap64 (t137 * 16)) t138) % 256]) (wrap64 (x5_2 + 2))) else (none))))) else (none)) else (none)) = some (r1, r2) := H
         have A9 := Aside0.mk A90
         clear A90
         obtain ⟨ji10, hji10⟩ : ∃ j_ : Int, (wrap64 (x5_2 + 1)) = j_ := ⟨_, rfl⟩
         replace H : (if 0 ≤ (ji10) then (if (ji10) < (a0.size : Int) then ((strings_IndexByte.f (⟨#[48, 49, 50, 51, 52, 53, 54, 55, 56, 57, 97, 98, 99, 100, 101, 102]⟩ : ByteArray) (bt a0 (ji10))).bind fun t138 => (if t137 < 0 then (some (([] : List Int), false)) else (if t138 < 0 then (some (([] : List Int), false)) else (if x4_2.length < 140737488355328 then (script_readBytes.l0 k2 a0 (x4_2 ++ [(Go.bits .or .i64 (wrap64 (t137 * 16)) t138) % 256]) (wrap64 (x5_2 + 2))) else (none))))) else (none)) else (none)) = some (r1, r2) := by first | (rw [hji10] at H; exact H) | (simp only [hji10] at H ⊢; exact H)
         (try rw [hji10] at A9)
         have hji10w : (IntKind.i64.wrap (x5_2 + 1)) = ji10 := (i64_w _).trans hji10
         by_cases c11 : 0 ≤ (ji10)
         ·rw [if_pos c11] at H
          have c11b0 : decide (0 ≤ (ji10)) = true := decide_eq_true c11
          clear c11
          by_cases c12 : (ji10) < (a0.size : Int)
          ·rw [if_pos c12] at H
           have c12b0 : decide ((ji10) < (a0.size : Int)) = true := decide_eq_true c12
           clear c12
           replace H := Option.bind_eq_some_iff.mp H
           obtain ⟨t138, A140, H⟩ := H
           replace H : (if t137 < 0 then (some (([] : List Int), false)) else (if t138 < 0 then (some (([] : List Int), false)) else (if x4_2.length < 140737488355328 then (script_readBytes.l0 k2 a0 (x4_2 ++ [(Go.bits .or .i64 (wrap64 (t137 * 16)) t138) % 256]) (wrap64 (x5_2 + 2))) else (none)))) = some (r1, r2) := H
           have A14 := Aside0.mk A140
           clear A140
           by_cases c15 : t137 < 0
           ·rw [if_pos c15] at H
            have c15b0 : decide (t137 < 0) = true := decide_eq_true c15
            clear c15
            simp only [Option.some.injEq, Prod.mk.injEq] at H
            obtain ⟨rfl, rfl⟩ := H
            have p8 : 0 ≤ (x5_2 : Int) := of_decide_eq_true (by first | (with_reducible assumption) | assumption)
            have q8 : x5_2 < (a0.size : Int) := of_decide_eq_true (by first | (with_reducible assumption) | assumption)
            have hx8 := bt_at a0 x5_2
            replace p8 := eq_true p8
            replace q8 := eq_true q8
            go_wp2_with (first | (go_at_call 48; (with_reducible refine (strings_IndexByte.calls (⟨#[48, 49, 50, 51, 52, 53, 54, 55, 56, 57, 97, 98, 99, 100, 101, 102]⟩ : ByteArray) (bt a0 x5_2) t137 _ A9.out).mono ?_); rintro e w' ⟨rfl, ⟨nd, rfl⟩⟩; (try first | exact ⟨rfl, _, World.drewN_drewN _ _ _⟩ | exact ⟨rfl, _, Eq.trans (World.drewN_drewN _ _ _) (congrArg (World.drewN _) (Nat.add_assoc _ _ _))⟩); have p13 : 0 ≤ ((ji10) : Int) := of_decide_eq_true (by first | (with_reducible assumption) | assumption); have q13 : (ji10) < (a0.size : Int) := of_decide_eq_true (by first | (with_reducible assumption) | assumption); have hx13 := bt_at a0 (ji10); replace p13 := eq_true p13; replace q13 := eq_true q13) | (go_at_call 48; (with_reducible refine (strings_IndexByte.calls (⟨#[48, 49, 50, 51, 52, 53, 54, 55, 56, 57, 97, 98, 99, 100, 101, 102]⟩ : ByteArray) (bt a0 (ji10)) t138 _ A14.out).mono ?_); rintro e w' ⟨rfl, ⟨nd, rfl⟩⟩; (try first | exact ⟨rfl, _, World.drewN_drewN _ _ _⟩ | exact ⟨rfl, _, Eq.trans (World.drewN_drewN _ _ _) (congrArg (World.drewN _) (Nat.add_assoc _ _ _))⟩)))
            repeat (go_quiet (first | (go_at_call 48; (with_reducible refine (strings_IndexByte.calls (⟨#[48, 49, 50, 51, 52, 53, 54, 55, 56, 57, 97, 98, 99, 100, 101, 102]⟩ : ByteArray) (bt a0 x5_2) t137 _ A9.out).mono ?_); rintro e w' ⟨rfl, ⟨nd, rfl⟩⟩; (try first | exact ⟨rfl, _, World.drewN_drewN _ _ _⟩ | exact ⟨rfl, _, Eq.trans (World.drewN_drewN _ _ _) (congrArg (World.drewN _) (Nat.add_assoc _ _ _))⟩); have p13 : 0 ≤ ((ji10) : Int) := of_decide_eq_true (by first | (with_reducible assumption) | assumption); have q13 : (ji10) < (a0.size : Int) := of_decide_eq_true (by first | (with_reducible assumption) | assumption); have hx13 := bt_at a0 (ji10); replace p13 := eq_true p13; replace q13 := eq_true q13) | (go_at_call 48; (with_reducible refine (strings_IndexByte.calls (⟨#[48, 49, 50, 51, 52, 53, 54, 55, 56, 57, 97, 98, 99, 100, 101, 102]⟩ : ByteArray) (bt a0 (ji10)) t138 _ A14.out).mono ?_); rintro e w' ⟨rfl, ⟨nd, rfl⟩⟩; (try first | exact ⟨rfl, _, World.drewN_drewN _ _ _⟩ | exact ⟨rfl, _, Eq.trans (World.drewN_drewN _ _ _) (congrArg (World.drewN _) (Nat.add_assoc _ _ _))⟩))); try go_wp2_with (first | (go_at_call 48; (with_reducible refine (strings_IndexByte.calls (⟨#[48, 49, 50, 51, 52, 53, 54, 55, 56, 57, 97, 98, 99, 100, 101, 102]⟩ : ByteArray) (bt a0 x5_2) t137 _ A9.out).mono ?_); rintro e w' ⟨rfl, ⟨nd, rfl⟩⟩; (try first | exact ⟨rfl, _, World.drewN_drewN _ _ _⟩ | exact ⟨rfl, _, Eq.trans (World.drewN_drewN _ _ _) (congrArg (World.drewN _) (Nat.add_assoc _ _ _))⟩); have p13 : 0 ≤ ((ji10) : Int) := of_decide_eq_true (by first | (with_reducible assumption) | assumption); have q13 : (ji10) < (a0.size : Int) := of_decide_eq_true (by first | (with_reducible assumption) | assumption); have hx13 := bt_at a0 (ji10); replace p13 := eq_true p13; replace q13 := eq_true q13) | (go_at_call 48; (with_reducible refine (strings_IndexByte.calls (⟨#[48, 49, 50, 51, 52, 53, 54, 55, 56, 57, 97, 98, 99, 100, 101, 102]⟩ : ByteArray) (bt a0 (ji10)) t138 _ A14.out).mono ?_); rintro e w' ⟨rfl, ⟨nd, rfl⟩⟩; (try first | exact ⟨rfl, _, World.drewN_drewN _ _ _⟩ | exact ⟨rfl, _, Eq.trans (World.drewN_drewN _ _ _) (congrArg (World.drewN _) (Nat.add_assoc _ _ _))⟩))))
            go_ret2
            exact ⟨_, by first | rfl | (simp [errW_none, errW_some] <;> rfl) | (simp only [← hji10]; first | rfl | (simp [errW_none, errW_some] <;> rfl)) | (simp [*, errW_none, errW_some] <;> rfl), by first | exact Kd.R_nil _ _ _ _ _ | exact Kd.N_nil _ _ _ _ _ | exact Kd.V_nil _ _ _ _ _ | exact Kd.Q_nil _ _ _ _ _ | exact Kd.S_nil _ _ _ _ _, by repeat (first | (with_reducible first | exact HB.out | apply below_alloc | apply pw_below_drewN | apply below_drew1) | exact HB.out)⟩
           ·rw [if_neg c15] at H
            have c15b0 : decide (t137 < 0) = false := decide_eq_false c15
            clear c15
            by_cases c16 : t138 < 0
            ·rw [if_pos c16] at H
             have c16b0 : decide (t138 < 0) = true := decide_eq_true c16
             clear c16
             simp only [Option.some.injEq, Prod.mk.injEq] at H
             obtain ⟨rfl, rfl⟩ := H
             have p8 : 0 ≤ (x5_2 : Int) := of_decide_eq_true (by first | (with_reducible assumption) | assumption)
             have q8 : x5_2 < (a0.size : Int) := of_decide_eq_true (by first | (with_reducible assumption) | assumption)
             have hx8 := bt_at a0 x5_2
             replace p8 := eq_true p8
             replace q8 := eq_true q8
             go_wp2_with (first | (go_at_call 48; (with_reducible refine (strings_IndexByte.calls (⟨#[48, 49, 50, 51, 52, 53, 54, 55, 56, 57, 97, 98, 99, 100, 101, 102]⟩ : ByteArray) (bt a0 x5_2) t137 _ A9.out).mono ?_); rintro e w' ⟨rfl, ⟨nd, rfl⟩⟩; (try first | exact ⟨rfl, _, World.drewN_drewN _ _ _⟩ | exact ⟨rfl, _, Eq.trans (World.drewN_drewN _ _ _) (congrArg (World.drewN _) (Nat.add_assoc _ _ _))⟩); have p13 : 0 ≤ ((ji10) : Int) := of_decide_eq_true (by first | (with_reducible assumption) | assumption); have q13 : (ji10) < (a0.size : Int) := of_decide_eq_true (by first | (with_reducible assumption) | assumption); have hx13 := bt_at a0 (ji10); replace p13 := eq_true p13; replace q13 := eq_true q13) | (go_at_call 48; (with_reducible refine (strings_IndexByte.calls (⟨#[48, 49, 50, 51, 52, 53, 54, 55, 56, 57, 97, 98, 99, 100, 101, 102]⟩ : ByteArray) (bt a0 (ji10)) t138 _ A14.out).mono ?_); rintro e w' ⟨rfl, ⟨nd, rfl⟩⟩; (try first | exact ⟨rfl, _, World.drewN_drewN _ _ _⟩ | exact ⟨rfl, _, Eq.trans (World.drewN_drewN _ _ _) (congrArg (World.drewN _) (Nat.add_assoc _ _ _))⟩)))
             repeat (go_quiet (first | (go_at_call 48; (with_reducible refine (strings_IndexByte.calls (⟨#[48, 49, 50, 51, 52, 53, 54, 55, 56, 57, 97, 98, 99, 100, 101, 102]⟩ : ByteArray) (bt a0 x5_2) t137 _ A9.out).mono ?_); rintro e w' ⟨rfl, ⟨nd, rfl⟩⟩; (try first | exact ⟨rfl, _, World.drewN_drewN _ _ _⟩ | exact ⟨rfl, _, Eq.trans (World.drewN_drewN _ _ _) (congrArg (World.drewN _) (Nat.add_assoc _ _ _))⟩); have p13 : 0 ≤ ((ji10) : Int) := of_decide_eq_true (by first | (with_reducible assumption) | assumption); have q13 : (ji10) < (a0.size : Int) := of_decide_eq_true (by first | (with_reducible assumption) | assumption); have hx13 := bt_at a0 (ji10); replace p13 := eq_true p13; replace q13 := eq_true q13) | (go_at_call 48; (with_reducible refine (strings_IndexByte.calls (⟨#[48, 49, 50, 51, 52, 53, 54, 55, 56, 57, 97, 98, 99, 100, 101, 102]⟩ : ByteArray) (bt a0 (ji10)) t138 _ A14.out).mono ?_); rintro e w' ⟨rfl, ⟨nd, rfl⟩⟩; (try first | exact ⟨rfl, _, World.drewN_drewN _ _ _⟩ | exact ⟨rfl, _, Eq.trans (World.drewN_drewN _ _ _) (congrArg (World.drewN _) (Nat.add_assoc _ _ _))⟩))); try go_wp2_with (first | (go_at_call 48; (with_reducible refine (strings_IndexByte.calls (⟨#[48, 49, 50, 51, 52, 53, 54, 55, 56, 57, 97, 98, 99, 100, 101, 102]⟩ : ByteArray) (bt a0 x5_2) t137 _ A9.out).mono ?_); rintro e w' ⟨rfl, ⟨nd, rfl⟩⟩; (try first | exact ⟨rfl, _, World.drewN_drewN _ _ _⟩ | exact ⟨rfl, _, Eq.trans (World.drewN_drewN _ _ _) (congrArg (World.drewN _) (Nat.add_assoc _ _ _))⟩); have p13 : 0 ≤ ((ji10) : Int) := of_decide_eq_true (by first | (with_reducible assumption) | assumption); have q13 : (ji10) < (a0.size : Int) := of_decide_eq_true (by first | (with_reducible assumption) | assumption); have hx13 := bt_at a0 (ji10); replace p13 := eq_true p13; replace q13 := eq_true q13) | (go_at_call 48; (with_reducible refine (strings_IndexByte.calls (⟨#[48, 49, 50, 51, 52, 53, 54, 55, 56, 57, 97, 98, 99, 100, 101, 102]⟩ : ByteArray) (bt a0 (ji10)) t138 _ A14.out).mono ?_); rintro e w' ⟨rfl, ⟨nd, rfl⟩⟩; (try first | exact ⟨rfl, _, World.drewN_drewN _ _ _⟩ | exact ⟨rfl, _, Eq.trans (World.drewN_drewN _ _ _) (congrArg (World.drewN _) (Nat.add_assoc _ _ _))⟩))))
             go_ret2
             exact ⟨_, by first | rfl | (simp [errW_none, errW_some] <;> rfl) | (simp only [← hji10]; first | rfl | (simp [errW_none, errW_some] <;> rfl)) | (simp [*, errW_none, errW_some] <;> rfl), by first | exact Kd.R_nil _ _ _ _ _ | exact Kd.N_nil _ _ _ _ _ | exact Kd.V_nil _ _ _ _ _ | exact Kd.Q_nil _ _ _ _ _ | exact Kd.S_nil _ _ _ _ _, by repeat (first | (with_reducible first | exact HB.out | apply below_alloc | apply pw_below_drewN | apply below_drew1) | exact HB.out)⟩
            ·rw [if_neg c16] at H
             have c16b0 : decide (t138 < 0) = false := decide_eq_false c16
             clear c16
             by_cases c17 : x4_2.length < 140737488355328
             ·rw [if_pos c17] at H
              have LMc17 := Aside0.mk c17
              clear c17
              obtain ⟨y139, hy139⟩ : ∃ y_ : List Int, y_ = (x4_2 ++ [(Go.bits .or .i64 (wrap64 (t137 * 16)) t138) % 256]) := ⟨_, rfl⟩
              replace H : (script_readBytes.l0 k2 a0 y139 (wrap64 (x5_2 + 2))) = some (r1, r2) := by first | (rw [hy139]; with_reducible exact H) | (have H2_ := (Option.bind_some _ _).symm.trans H; rw [hy139]; with_reducible exact H2_) | (have H2_ := (Option.bind_some _ _).symm.trans H; with_reducible exact H2_) | with_reducible exact H | (rw [hy139]; exact H) | exact H
              have Ny139 := Aside0.mk hy139
              clear hy139
              have H' := Aside0.mk H
              clear H
              have p8 : 0 ≤ (x5_2 : Int) := of_decide_eq_true (by first | (with_reducible assumption) | assumption)
              have q8 : x5_2 < (a0.size : Int) := of_decide_eq_true (by first | (with_reducible assumption) | assumption)
              have hx8 := bt_at a0 x5_2
              replace p8 := eq_true p8
              replace q8 := eq_true q8
              go_wp2_with (first | (go_at_call 48; (with_reducible refine (strings_IndexByte.calls (⟨#[48, 49, 50, 51, 52, 53, 54, 55, 56, 57, 97, 98, 99, 100, 101, 102]⟩ : ByteArray) (bt a0 x5_2) t137 _ A9.out).mono ?_); rintro e w' ⟨rfl, ⟨nd, rfl⟩⟩; (try first | exact ⟨rfl, _, World.drewN_drewN _ _ _⟩ | exact ⟨rfl, _, Eq.trans (World.drewN_drewN _ _ _) (congrArg (World.drewN _) (Nat.add_assoc _ _ _))⟩); have p13 : 0 ≤ ((ji10) : Int) := of_decide_eq_true (by first | (with_reducible assumption) | assumption); have q13 : (ji10) < (a0.size : Int) := of_decide_eq_true (by first | (with_reducible assumption) | assumption); have hx13 := bt_at a0 (ji10); replace p13 := eq_true p13; replace q13 := eq_true q13) | (go_at_call 48; (with_reducible refine (strings_IndexByte.calls (⟨#[48, 49, 50, 51, 52, 53, 54, 55, 56, 57, 97, 98, 99, 100, 101, 102]⟩ : ByteArray) (bt a0 (ji10)) t138 _ A14.out).mono ?_); rintro e w' ⟨rfl, ⟨nd, rfl⟩⟩; (try first | exact ⟨rfl, _, World.drewN_drewN _ _ _⟩ | exact ⟨rfl, _, Eq.trans (World.drewN_drewN _ _ _) (congrArg (World.drewN _) (Nat.add_assoc _ _ _))⟩)) | ((with_reducible refine gate_builtin (b := .append) (xs := #[.tmp 39, .tmp 45]) rfl ?_); (try (refine gate_guard (by rfl) ?_; dsimp only)); at_builtin; refine Kd.R_append (Kd.int .u8) (w0 := w) w.heap.size rfl (.tmp 39) (.tmp 45) 35 5 (.int .u8 0) 1 rfl Tryd.underlying35 info5 rfl (by decide) (by omega) u4 x4_2 ((Go.bits .or .i64 (wrap64 (t137 * 16)) t138) % 256) [.int .u8 ((Go.bits .or .i64 (wrap64 (t137 * 16)) t138) % 256)] (fun _ => True) (fun _ => False) rfl rfl ?aP (fun _ hk => hk.elim) ?aF ?aO ?aB ?aS ?aL ?_; (case aP => exact rfl); (case aB => exact (by repeat (first | (with_reducible first | exact HB.out | apply below_alloc | apply pw_below_drewN | apply below_drew1) | exact HB.out))); (case aF => exact (fun _ _ => trivial)); (case aO => exact (by (with_reducible repeat (first | apply Kd.R_alloc | apply Kd.R_drewN | apply Kd.R_drew)); exact HO_4.out)); (case aS => exact (below_size (by repeat (first | (with_reducible first | exact HB.out | apply below_alloc | apply pw_below_drewN | apply below_drew1) | exact HB.out)))); (case aL => have := LMc17.out; omega); intro v140 w18 ho hb hg hat; rw [← Ny139.out] at ho; have n0_ := Aside0.mk (hb); have n1_ := Aside0.mk (ho); clear HB; clear HO_4; have HB := n0_; have HO141 := n1_; clear n0_ n1_; clear ho hb hg hat))
              repeat (go_quiet (first | (go_at_call 48; (with_reducible refine (strings_IndexByte.calls (⟨#[48, 49, 50, 51, 52, 53, 54, 55, 56, 57, 97, 98, 99, 100, 101, 102]⟩ : ByteArray) (bt a0 x5_2) t137 _ A9.out).mono ?_); rintro e w' ⟨rfl, ⟨nd, rfl⟩⟩; (try first | exact ⟨rfl, _, World.drewN_drewN _ _ _⟩ | exact ⟨rfl, _, Eq.trans (World.drewN_drewN _ _ _) (congrArg (World.drewN _) (Nat.add_assoc _ _ _))⟩); have p13 : 0 ≤ ((ji10) : Int) := of_decide_eq_true (by first | (with_reducible assumption) | assumption); have q13 : (ji10) < (a0.size : Int) := of_decide_eq_true (by first | (with_reducible assumption) | assumption); have hx13 := bt_at a0 (ji10); replace p13 := eq_true p13; replace q13 := eq_true q13) | (go_at_call 48; (with_reducible refine (strings_IndexByte.calls (⟨#[48, 49, 50, 51, 52, 53, 54, 55, 56, 57, 97, 98, 99, 100, 101, 102]⟩ : ByteArray) (bt a0 (ji10)) t138 _ A14.out).mono ?_); rintro e w' ⟨rfl, ⟨nd, rfl⟩⟩; (try first | exact ⟨rfl, _, World.drewN_drewN _ _ _⟩ | exact ⟨rfl, _, Eq.trans (World.drewN_drewN _ _ _) (congrArg (World.drewN _) (Nat.add_assoc _ _ _))⟩)) | ((with_reducible refine gate_builtin (b := .append) (xs := #[.tmp 39, .tmp 45]) rfl ?_); (try (refine gate_guard (by rfl) ?_; dsimp only)); at_builtin; refine Kd.R_append (Kd.int .u8) (w0 := w) w.heap.size rfl (.tmp 39) (.tmp 45) 35 5 (.int .u8 0) 1 rfl Tryd.underlying35 info5 rfl (by decide) (by omega) u4 x4_2 ((Go.bits .or .i64 (wrap64 (t137 * 16)) t138) % 256) [.int .u8 ((Go.bits .or .i64 (wrap64 (t137 * 16)) t138) % 256)] (fun _ => True) (fun _ => False) rfl rfl ?aP (fun _ hk => hk.elim) ?aF ?aO ?aB ?aS ?aL ?_; (case aP => exact rfl); (case aB => exact (by repeat (first | (with_reducible first | exact HB.out | apply below_alloc | apply pw_below_drewN | apply below_drew1) | exact HB.out))); (case aF => exact (fun _ _ => trivial)); (case aO => exact (by (with_reducible repeat (first | apply Kd.R_alloc | apply Kd.R_drewN | apply Kd.R_drew)); exact HO_4.out)); (case aS => exact (below_size (by repeat (first | (with_reducible first | exact HB.out | apply below_alloc | apply pw_below_drewN | apply below_drew1) | exact HB.out)))); (case aL => have := LMc17.out; omega); intro v140 w18 ho hb hg hat; rw [← Ny139.out] at ho; have n0_ := Aside0.mk (hb); have n1_ := Aside0.mk (ho); clear HB; clear HO_4; have HB := n0_; have HO141 := n1_; clear n0_ n1_; clear ho hb hg hat)); try go_wp2_with (first | (go_at_call 48; (with_reducible refine (strings_IndexByte.calls (⟨#[48, 49, 50, 51, 52, 53, 54, 55, 56, 57, 97, 98, 99, 100, 101, 102]⟩ : ByteArray) (bt a0 x5_2) t137 _ A9.out).mono ?_); rintro e w' ⟨rfl, ⟨nd, rfl⟩⟩; (try first | exact ⟨rfl, _, World.drewN_drewN _ _ _⟩ | exact ⟨rfl, _, Eq.trans (World.drewN_drewN _ _ _) (congrArg (World.drewN _) (Nat.add_assoc _ _ _))⟩); have p13 : 0 ≤ ((ji10) : Int) := of_decide_eq_true (by first | (with_reducible assumption) | assumption); have q13 : (ji10) < (a0.size : Int) := of_decide_eq_true (by first | (with_reducible assumption) | assumption); have hx13 := bt_at a0 (ji10); replace p13 := eq_true p13; replace q13 := eq_true q13) | (go_at_call 48; (with_reducible refine (strings_IndexByte.calls (⟨#[48, 49, 50, 51, 52, 53, 54, 55, 56, 57, 97, 98, 99, 100, 101, 102]⟩ : ByteArray) (bt a0 (ji10)) t138 _ A14.out).mono ?_); rintro e w' ⟨rfl, ⟨nd, rfl⟩⟩; (try first | exact ⟨rfl, _, World.drewN_drewN _ _ _⟩ | exact ⟨rfl, _, Eq.trans (World.drewN_drewN _ _ _) (congrArg (World.drewN _) (Nat.add_assoc _ _ _))⟩)) | ((with_reducible refine gate_builtin (b := .append) (xs := #[.tmp 39, .tmp 45]) rfl ?_); (try (refine gate_guard (by rfl) ?_; dsimp only)); at_builtin; refine Kd.R_append (Kd.int .u8) (w0 := w) w.heap.size rfl (.tmp 39) (.tmp 45) 35 5 (.int .u8 0) 1 rfl Tryd.underlying35 info5 rfl (by decide) (by omega) u4 x4_2 ((Go.bits .or .i64 (wrap64 (t137 * 16)) t138) % 256) [.int .u8 ((Go.bits .or .i64 (wrap64 (t137 * 16)) t138) % 256)] (fun _ => True) (fun _ => False) rfl rfl ?aP (fun _ hk => hk.elim) ?aF ?aO ?aB ?aS ?aL ?_; (case aP => exact rfl); (case aB => exact (by repeat (first | (with_reducible first | exact HB.out | apply below_alloc | apply pw_below_drewN | apply below_drew1) | exact HB.out))); (case aF => exact (fun _ _ => trivial)); (case aO => exact (by (with_reducible repeat (first | apply Kd.R_alloc | apply Kd.R_drewN | apply Kd.R_drew)); exact HO_4.out)); (case aS => exact (below_size (by repeat (first | (with_reducible first | exact HB.out | apply below_alloc | apply pw_below_drewN | apply below_drew1) | exact HB.out)))); (case aL => have := LMc17.out; omega); intro v140 w18 ho hb hg hat; rw [← Ny139.out] at ho; have n0_ := Aside0.mk (hb); have n1_ := Aside0.mk (ho); clear HB; clear HO_4; have HB := n0_; have HO141 := n1_; clear n0_ n1_; clear ho hb hg hat)))
              go_roundg k2
              case measure => have := HJ2.out; have := HK2.out; omega
              case rel => exact ⟨(y139), (wrap64 (x5_2 + 2)), (by first | rfl | (simp; done) | (simp [*]; done)), H', ⟨by have := HJ2.out; have := HK2.out; omega⟩, ⟨by (with_reducible repeat (first | apply Kd.R_alloc | apply Kd.R_drewN | apply Kd.R_drew)); exact HO141.out⟩, ⟨by repeat (first | (with_reducible first | exact HB.out | apply below_alloc | apply pw_below_drewN | apply below_drew1) | exact HB.out)⟩⟩
             ·rw [if_neg c17] at H
              exact absurd H (by simp)
          ·rw [if_neg c12] at H
           exact absurd H (by simp)
         ·rw [if_neg c11] at H
          exact absurd H (by simp)
        ·rw [if_neg c7] at H
         exact absurd H (by simp)
       ·rw [if_neg c6] at H
        have c6b0 : decide (x5_2 < (a0.size : Int)) = false := decide_eq_false c6
        clear c6
        simp only [Option.some.injEq, Prod.mk.injEq] at H
        obtain ⟨rfl, rfl⟩ := H
        go_wp2
        repeat (go_quiet (fail); try go_wp2)
        go_ret2
        exact ⟨_, by first | rfl | (simp [errW_none, errW_some] <;> rfl) | (simp [*, errW_none, errW_some] <;> rfl), by (with_reducible repeat (first | apply Kd.R_alloc | apply Kd.R_drewN | apply Kd.R_drew)); exact HO_4.out, by repeat (first | (with_reducible first | exact HB.out | apply below_alloc | apply pw_below_drewN | apply below_drew1) | exact HB.out)⟩

end Go.Proofs.YtmndhgiblpfcgaaDoor.W
end

section
/-
The program's reading of a line (script.read) is the plain one.
-/
namespace Go.Proofs.YtmndhgiblpfcgaaDoor.W
open Go.RowKit Go.Proofs.YtmndhgiblpfcgaaDoorW.PrintWords Go.Proofs.YtmndhgiblpfcgaaDoorW.PrintLast Go.Proofs.YtmndhgiblpfcgaaDoorW.PrintMore
set_option linter.unusedVariables false
set_option linter.unusedSimpArgs false

theorem indexB_one (s : List UInt8) (c : UInt8) : Lib.index s [c] = Lib.indexByte s c := by
  induction s with
  | nil => rfl
  | cons b l ih =>
    simp only [Lib.index, Lib.indexByte, List.isPrefixOf, ih, Bool.and_true]
    by_cases h : b = c
    · subst h; simp
    · have h1 : (c == b) = false := by simp [Ne.symm h]
      have h2 : (b == c) = false := by simp [h]
      rw [h1, h2]
theorem indexByte_pos {s : List UInt8} {c : UInt8} {i : Nat} (h : Lib.indexByte s c = i) : i < s.length ∧ Wel.Scr.splitB c s = s.take i :: Wel.Scr.splitB c (s.drop (i + 1)) := by
  induction s generalizing i with
  | nil => simp [Lib.indexByte] at h
  | cons b l ih =>
    unfold Lib.indexByte at h
    by_cases hb : b = c
    · subst hb
      simp at h
      obtain rfl : i = 0 := by omega
      simp [Wel.Scr.splitB]
    · have h2 : (b == c) = false := by simp [hb]
      rw [h2] at h
      simp only [Bool.false_eq_true, if_false] at h
      split at h
      · omega
      · rename_i hm
        have hge := Lib.indexByte_ge l c
        have hne : Lib.indexByte l c ≠ -1 := by simpa using hm
        cases i with
        | zero => omega
        | succ i =>
          obtain ⟨h3, h4⟩ := ih (i := i) (by omega)
          refine ⟨by simp; omega, ?_⟩
          simp only [Wel.Scr.splitB, hb, if_false, h4, List.take_succ_cons, List.drop_succ_cons]
theorem indexByte_neg {s : List UInt8} {c : UInt8} (h : Lib.indexByte s c = -1) : Wel.Scr.splitB c s = [s] := by
  induction s with
  | nil => rfl
  | cons b l ih =>
    unfold Lib.indexByte at h
    by_cases hb : b = c
    · subst hb; simp at h
    · have h2 : (b == c) = false := by simp [hb]
      rw [h2] at h
      simp only [Bool.false_eq_true, if_false] at h
      split at h
      · rename_i hm
        have hm' : Lib.indexByte l c = -1 := by simpa using hm
        simp only [Wel.Scr.splitB, hb, if_false, ih hm']
      · have hge := Lib.indexByte_ge l c
        rename_i hm
        have hne : Lib.indexByte l c ≠ -1 := by simpa using hm
        omega
theorem split_one (c : UInt8) : ∀ (k : Nat) (s : List UInt8), Lib.countB (ba s) (ba [c]) = k → Lib.splitB (ba [c]) 0 k (ba s) = (Wel.Scr.splitB c s).map ba := by
  have hi : ∀ s, Lib.indexB (ba s) (ba [c]) = Lib.indexByte s c := fun s => by
    show Lib.index (ba s).data.toList (ba [c]).data.toList = _
    rw [ba_data, ba_data, indexB_one]
  intro k
  induction k with
  | zero =>
    intro s hk
    have hm : Lib.indexByte s c = -1 := by
      have hge := Lib.indexByte_ge s c
      rcases Int.lt_or_le (Lib.indexByte s c) 0 with h | h
      · omega
      · obtain ⟨i, h'⟩ : ∃ i : Nat, Lib.indexByte s c = i := ⟨(Lib.indexByte s c).toNat, by omega⟩
        have := Lib.countB_hit (ba s) (ba [c]) i (by rw [ba_size]; simp) (by rw [hi, h'])
        omega
    rw [Lib.splitB_zero, indexByte_neg hm]; rfl
  | succ k ih =>
    intro s hk
    have hge := Lib.indexByte_ge s c
    rcases Int.lt_or_le (Lib.indexByte s c) 0 with h | h
    · have := Lib.countB_miss (ba s) (ba [c]) (by rw [hi]; omega)
      omega
    · obtain ⟨i, h'⟩ : ∃ i : Nat, Lib.indexByte s c = i := ⟨(Lib.indexByte s c).toNat, by omega⟩
      have hc := Lib.countB_hit (ba s) (ba [c]) i (by rw [ba_size]; simp) (by rw [hi, h'])
      obtain ⟨h1, h2⟩ := indexByte_pos h'
      rw [Lib.splitB_hit (ba [c]) 0 k (ba s) i (by rw [hi, h']), h2]
      have e1 : (ba s).extract 0 (i + 0) = ba (s.take i) := by rw [ba_extract]; simp
      have e2 : (ba s).extract (i + (ba [c]).size) (ba s).size = ba (s.drop (i + 1)) := by
        rw [ba_extract, ba_size, ba_size]; simp
      rw [e2] at hc
      rw [e1, e2, ih _ (by omega)]
      rfl
theorem split_all (c : UInt8) (s : List UInt8) : Lib.splitB (ba [c]) 0 (Lib.countB (ba s) (ba [c])) (ba s) = (Wel.Scr.splitB c s).map ba := split_one c _ s rfl
theorem cut_one (c : UInt8) (s : List UInt8) : Lib.cut s [c] = match Wel.Scr.splitB c s with | a :: b :: t => (a, Wel.Scr.joinB c (b :: t), true) | _ => (s, [], false) := by
  unfold Lib.cut
  rw [indexB_one]
  have hge := Lib.indexByte_ge s c
  rcases Int.lt_or_le (Lib.indexByte s c) 0 with h | h
  · rw [if_neg (by omega), indexByte_neg (by omega)]
  · obtain ⟨i, h'⟩ : ∃ i : Nat, Lib.indexByte s c = i := ⟨(Lib.indexByte s c).toNat, by omega⟩
    obtain ⟨h1, h2⟩ := indexByte_pos h'
    rw [if_pos h, h', h2]
    cases h3 : Wel.Scr.splitB c (s.drop (i + 1)) with
    | nil => exact absurd h3 (Wel.Scr.splitB_ne _ _)
    | cons b t =>
      have := Wel.Scr.joinB_split c (s.drop (i + 1))
      rw [h3] at this
      simp [this]
end Go.Proofs.YtmndhgiblpfcgaaDoor.W
end

section
/-
The program's bytes of a script (readBytes) are the plain ones.
-/
namespace Go.Proofs.YtmndhgiblpfcgaaDoor.W
open Go.RowKit Go.Proofs.YtmndhgiblpfcgaaDoorW.PrintWords
open Wel.Scr (val16_lt toNat_ofNat)
set_option linter.unusedVariables false
set_option linter.unusedSimpArgs false

def dg (c : UInt8) : Int := match Wel.Scr.val16 c with | some n => (n : Int) | none => -1
theorem dg_some {c : UInt8} {n : Nat} (h : Wel.Scr.val16 c = some n) : dg c = n := by unfold dg; rw [h]
theorem dg_none {c : UInt8} (h : Wel.Scr.val16 c = none) : dg c = -1 := by unfold dg; rw [h]
theorem digs_idx (c : UInt8) : Lib.indexByte [48, 49, 50, 51, 52, 53, 54, 55, 56, 57, 97, 98, 99, 100, 101, 102] c = dg c := by
  have key : ∀ n : Fin 256, Lib.indexByte [48, 49, 50, 51, 52, 53, 54, 55, 56, 57, 97, 98, 99, 100, 101, 102] (UInt8.ofNat n.val) = dg (UInt8.ofNat n.val) := of_decide_eq_true (by kernel_rfl)
  have h := key ⟨c.toNat, c.toNat_lt⟩
  simpa using h
theorem or_nib : ∀ x y : Fin 16, (Go.bits .or .i64 (wrap64 ((x.val : Int) * 16)) (y.val : Int)) % 256 = ((16 * x.val + y.val : Nat) : Int) := of_decide_eq_true (by kernel_rfl)

def bytesR (s : List UInt8) : List Int × Bool := match Wel.Scr.readHex s with | some l => (ints l, true) | none => ([], false)
theorem readBytes_ev (s : List UInt8) (hs : s.length ≤ 1099511627776) : Ev (fun k => script_readBytes.f k (ba s)) (bytesR s) := by
  have idx : ∀ x : Int, strings_IndexByte.f (⟨#[48, 49, 50, 51, 52, 53, 54, 55, 56, 57, 97, 98, 99, 100, 101, 102]⟩ : ByteArray) x = some (dg x.toNat.toUInt8) := fun x => by
    unfold strings_IndexByte.f
    rw [show (⟨#[48, 49, 50, 51, 52, 53, 54, 55, 56, 57, 97, 98, 99, 100, 101, 102]⟩ : ByteArray).data.toList = [48, 49, 50, 51, 52, 53, 54, 55, 56, 57, 97, 98, 99, 100, 101, 102] from rfl, digs_idx]
  have back : ∀ c : UInt8, ((c.toNat : Int)).toNat.toUInt8 = c := fun c => by
    rw [Int.toNat_natCast]; exact UInt8.toNat_inj.1 (by simp)
  have loop : ∀ (d : Nat) (i : Nat) (acc : List UInt8), s.length % 2 = 0 → i + 2 * d = s.length → acc.length ≤ i →
      Ev (fun k => script_readBytes.l0 k (ba s) (ints acc) (i : Int)) (match Wel.Scr.unhexL (s.drop i) with | some l => (ints (acc ++ l), true) | none => ([], false)) := by
    intro d
    induction d with
    | zero =>
      intro i acc he hi ha
      refine ev_now fun k => ?_
      simp only [script_readBytes.l0]
      rw [if_neg (by rw [ba_size]; omega), List.drop_of_length_le (by omega)]
      simp [Wel.Scr.unhexL]
    | succ d ih =>
      intro i acc he hi ha
      have h1 : i < s.length := by omega
      have h2 : i + 1 < s.length := by omega
      have hdr : s.drop i = s[i] :: s[i + 1] :: s.drop (i + 2) := by
        rw [List.drop_eq_getElem_cons h1, List.drop_eq_getElem_cons h2]
      have g1 : s.getD i 0 = s[i] := by rw [List.getD_eq_getElem?_getD, List.getElem?_eq_getElem h1]; rfl
      have g2 : s.getD (i + 1) 0 = s[i + 1] := by rw [List.getD_eq_getElem?_getD, List.getElem?_eq_getElem h2]; rfl
      have w1 : wrap64 ((i : Int) + 1) = ((i + 1 : Nat) : Int) := by rw [wrap64_id (by omega) (by omega)]; omega
      have w2 : wrap64 ((i : Int) + 2) = ((i + 2 : Nat) : Int) := by rw [wrap64_id (by omega) (by omega)]; omega
      rw [hdr]
      have step : ∀ k, script_readBytes.l0 (k + 1) (ba s) (ints acc) (i : Int) =
          (if dg s[i] < 0 then some ([], false) else if (dg s[i + 1]) < 0 then some ([], false) else
            script_readBytes.l0 k (ba s) (ints acc ++ [(Go.bits .or .i64 (wrap64 (dg s[i] * 16)) (dg s[i + 1])) % 256]) ((i + 2 : Nat) : Int)) := by
        intro k
        conv => lhs; simp only [script_readBytes.l0]
        rw [if_pos (by rw [ba_size]; omega), if_pos (by omega), w1, w2, bt_ba, bt_ba, idx, idx]
        simp only [Int.toNat_natCast, Option.bind_some]
        rw [g1, g2]
        have b1 : (s[i].toNat).toUInt8 = s[i] := back s[i]
        have b2 : (s[i + 1].toNat).toUInt8 = s[i + 1] := back s[i + 1]
        rw [b1, b2]
        simp only [show (0 : Int) ≤ ((i + 1 : Nat) : Int) from by omega, show ((i + 1 : Nat) : Int) < (((ba s).size : Nat) : Int) from by rw [ba_size]; omega, show (ints acc).length < 140737488355328 from by rw [ints_length]; omega, if_true]
      cases hv1 : Wel.Scr.val16 s[i] with
      | none =>
        rw [unhexL_bad (.inl hv1)]
        refine ev_now fun k => ?_
        rw [step, dg_none hv1]
        rfl
      | some x =>
        have l1 := (val16_lt hv1).1
        cases hv2 : Wel.Scr.val16 s[i + 1] with
        | none =>
          rw [unhexL_bad (.inr hv2)]
          refine ev_now fun k => ?_
          rw [step, dg_some hv1, dg_none hv2, if_neg (by omega)]
          rfl
        | some y =>
          have l2 := (val16_lt hv2).1
          have hb : (Go.bits .or .i64 (wrap64 ((x : Int) * 16)) (y : Int)) % 256 = (((UInt8.ofNat (16 * x + y)).toNat : Nat) : Int) := by
            rw [toNat_ofNat (by omega)]
            exact or_nib ⟨x, l1⟩ ⟨y, l2⟩
          have hih := ih (i + 2) (acc ++ [UInt8.ofNat (16 * x + y)]) he (by omega) (by simp; omega)
          rw [ints_append] at hih
          simp only [ints_cons, ints_nil] at hih
          have e3 : (match Wel.Scr.unhexL (s[i] :: s[i + 1] :: s.drop (i + 2)) with | some l => (ints (acc ++ l), true) | none => ([], false)) = (match Wel.Scr.unhexL (s.drop (i + 2)) with | some l => (ints (acc ++ [UInt8.ofNat (16 * x + y)] ++ l), true) | none => ([], false)) := by
            simp only [Wel.Scr.unhexL, hv1, hv2]
            cases Wel.Scr.unhexL (s.drop (i + 2)) <;> simp
          rw [e3]
          refine Ev.step (fun k => ?_) hih
          rw [step, dg_some hv1, dg_some hv2, if_neg (by omega), if_neg (by omega), hb]
  unfold script_readBytes.f bytesR Wel.Scr.readHex
  simp only [ba_toList, ba_size]
  by_cases h45 : s = [45]
  · simp only [h45, if_true]; exact ev_const
  · simp only [h45, if_false]
    by_cases h0 : s = []
    · simp only [h0, if_true]
      refine ev_now fun k => ?_
      simp [script_readBytes.j0]
    · simp only [h0, if_false]
      by_cases he : s.length % 2 = 1
      · rw [unhexL_odd he]
        refine ev_now fun k => ?_
        have : (((s.length : Int) % 2) != 0) = true := by rw [bne_iff_ne]; omega
        simp [script_readBytes.j0, this]
      · have : (((s.length : Int) % 2) != 0) = false := by rw [bne_eq_false_iff_eq]; omega
        have hl := loop (s.length / 2) 0 [] (by omega) (by omega) (by simp)
        simp only [List.drop_zero, List.nil_append] at hl
        refine Ev.step (fun k => ?_) hl
        simp only [script_readBytes.j0, this]
        rfl
end Go.Proofs.YtmndhgiblpfcgaaDoor.W
end

section
/-
The program's reading of a line (script.read): what its walk asks, laid ahead.
-/
namespace Go.Proofs.YtmndhgiblpfcgaaDoor.W
open Go.RowKit Go.Proofs.YtmndhgiblpfcgaaDoorW.PrintWords Go.Proofs.YtmndhgiblpfcgaaDoorW.PrintLast Go.Proofs.YtmndhgiblpfcgaaDoorW.PrintMore
set_option linter.unusedVariables false
set_option linter.unusedSimpArgs false

theorem readNums_end : ∀ (a : List Wel.Scr.Str) (x : Wel.Scr.Str), Wel.Scr.readNums (a ++ [x]) = (Wel.Scr.readNums a).bind fun l => (Wel.Scr.numOf x).map fun n => l ++ [n]
  | [], x => by
    simp only [List.nil_append, Wel.Scr.readNums]
    cases Wel.Scr.numOf x <;> simp
  | y :: a, x => by
    simp only [List.cons_append, Wel.Scr.readNums, readNums_end a x]
    cases Wel.Scr.numOf y <;> cases Wel.Scr.readNums a <;> cases Wel.Scr.numOf x <;> simp
theorem readNums_none : ∀ (a b : List Wel.Scr.Str), Wel.Scr.readNums a = none → Wel.Scr.readNums (a ++ b) = none
  | [], b, h => by simp [Wel.Scr.readNums] at h
  | y :: a, b, h => by
    simp only [List.cons_append, Wel.Scr.readNums] at h ⊢
    cases hy : Wel.Scr.numOf y with
    | none => rfl
    | some n =>
      cases ha : Wel.Scr.readNums a with
      | none => rw [readNums_none a b ha]
      | some l => rw [hy, ha] at h; simp at h
theorem take_snoc {l : List Wel.Scr.Str} {i : Nat} (h : i < l.length) : l.take (i + 1) = l.take i ++ [l.getD i []] := by
  rw [List.getD_eq_getElem?_getD, List.getElem?_eq_getElem h]
  exact List.take_succ_eq_append_getElem h
theorem readNums_stop {l : List Wel.Scr.Str} {i k : Nat} (h : i < l.length) (hk : i < k) (hx : Wel.Scr.numOf (l.getD i []) = none) : Wel.Scr.readNums (l.take k) = none := by
  have e : l.take k = l.take (i + 1) ++ (l.take k).drop (i + 1) := by
    have h1 := (List.take_append_drop (i + 1) (l.take k)).symm
    rw [List.take_take, Nat.min_eq_left (by omega)] at h1
    exact h1
  rw [e]
  refine readNums_none _ _ ?_
  rw [take_snoc h, readNums_end, hx]
  cases Wel.Scr.readNums (l.take i) <;> rfl
theorem u64_info : (Tryd.prog.info? 48).map (fun i => (i.zero, i.size, i.bytes)) = some (some (.int .u64 0), 1, 8) := by kernel_rfl
def cmd0 : Array Value := #[.string ⟨#[]⟩, .slice none 0 0, .slice none 0 0]

theorem cmd_sz : (Tryd.prog.info? 37).map (·.size) = some cmd0.size := by kernel_rfl
theorem cmd_one : cmd0.all (·.oneCell') = true := by kernel_rfl

/-- A row of the call's own, of values of one cell each. -/
theorem R_of_own {α : Type} (f : α → Value) (hf : ∀ x, (f x).oneCell' = true) {e base b n : Nat} {w : World} {v : Value} {xs : List α} (h : w.ownsRow b e 1 v n (xs.map f)) (hn : n = xs.length) (hb : base ≤ b) : Kd.R (Kd.scalar f hf) e w base (fun _ => True) v xs := by
  subst hn
  refine ⟨fun _ _ => trivial, xs.map f, own_weaken h hb, by simp [Kd.scalar], ?_⟩
  intro j p hj
  have hlt : j < xs.length := (List.getElem?_eq_some_iff.1 hj).1
  have h1 : ((xs.map f).drop (j * 1)).take 1 = [f p] := by
    rw [Nat.mul_one, List.drop_eq_getElem_cons (by simpa using hlt)]
    obtain ⟨_, e⟩ := List.getElem?_eq_some_iff.1 hj
    simp [e]
  simpa [Kd.scalar] using h1
/-- A line taken apart: its words lie in a row. -/
structure ReadPre (s p0 : List UInt8) (rest : List (List UInt8)) (PARTS : Array Value) (n : Nat) (w : World) : Prop where
  hL : Wel.Scr.splitB 32 s = p0 :: rest
  hn : n = rest.length + 1
  hn2 : n ≤ 65537
  hP0 : PARTS[0]? = some (.string (ba p0))
  hPj : ∀ j, j < rest.length → PARTS[1 + j]? = some (.string (ba (rest.getD j [])))
  hpm : ∀ j, j < rest.length → (rest.getD j []).length ≤ 65536
  hsplit : ∀ o, Calls Tryd.prog 30 #[.string (ba s), .string (ba [32])] (w.alloc o) fun e w' => e = .returned (.slice (some ⟨(w.alloc o).heap.size, 0, none⟩) n n) ∧ w' = (w.alloc o).alloc (.cells PARTS 9)
theorem read_pre (s : List UInt8) (w : World) (hI : Inv w) (hlen : s.length ≤ 65536) : ∃ p0 rest PARTS n, ReadPre s p0 rest PARTS n w := by
  obtain ⟨m, hm⟩ := hI.max
  have hsplit := fun W hW => Tryd.strings_Split (ba s) (ba [32]) m W (by rw [ba_size]; omega) hW (by rw [ba_size]; decide)
  have hcl : Lib.countB (ba s) (ba [32]) + 1 = (Wel.Scr.splitB 32 s).length := by
    rw [← Lib.splitB_all (ba [32]) (by rw [ba_size]; decide) 0 _ (ba s) rfl, split_all, List.length_map]
  have hcle := Lib.countB_le (ba [32]) (by rw [ba_size]; decide) (ba s).size (ba s) (Nat.le_refl _)
  rw [ba_size] at hcle
  rw [split_all, hcl] at hsplit
  obtain ⟨p0, rest, hL⟩ : ∃ p0 rest, Wel.Scr.splitB 32 s = p0 :: rest := by
    cases hx : Wel.Scr.splitB 32 s with
    | nil => exact absurd hx (Wel.Scr.splitB_ne _ _)
    | cons a b => exact ⟨a, b, rfl⟩
  rw [hL] at hsplit hcl
  have hPj : ∀ j (hj : j < (p0 :: rest).length), (((p0 :: rest).map ba).map Value.string).toArray[j]? = some (.string (ba ((p0 :: rest).getD j []))) := fun j hj => by
    rw [List.getD_eq_getElem?_getD, List.getElem?_eq_getElem hj]
    rw [List.getElem?_toArray, List.getElem?_map, List.getElem?_map, List.getElem?_eq_getElem hj]; rfl
  have hmw : ∀ o, (w.alloc o).cell? ⟨0, 0, none⟩ = some (.int .i64 m) := fun o => Lib.cell?_alloc_some _ hm
  refine ⟨p0, rest, _, _, hL, rfl, ?_, hPj 0 (by simp), fun j hj => ?_, fun j hj => ?_, fun o => hsplit _ (hmw o)⟩
  · have : (p0 :: rest).length = rest.length + 1 := rfl
    omega
  · have h1 := hPj (1 + j) (by rw [List.length_cons]; omega)
    rw [h1, Nat.add_comm 1 j]; rfl
  · have h1 : rest.getD j [] ∈ Wel.Scr.splitB 32 s := by
      rw [hL, List.getD_eq_getElem?_getD, List.getElem?_eq_getElem hj]
      exact List.mem_cons_of_mem _ (List.getElem_mem hj)
    have := splitB_len _ h1
    omega
/-- The block of the result, and that of the words, behind the look-up. -/
theorem read_w0 (w : World) (PARTS : Array Value) (w2 : World) (hb : Below ((w.alloc (.cells cmd0 37)).alloc (.cells PARTS 9)).heap.size ((w.alloc (.cells cmd0 37)).alloc (.cells PARTS 9)) w2) :
    w2.heap[w.heap.size]? = some (.cells cmd0 37 (0, 0)) ∧ w2.heap[w.heap.size + 1]? = some (.cells PARTS 9 (0, 0)) ∧ Below w.heap.size w w2 ∧ w.heap.size + 2 ≤ w2.heap.size := by
  have hz := hb.size
  simp only [World.alloc, Array.size_push] at hz
  refine ⟨?_, ?_, ?_, by omega⟩
  · rw [hb.block _ (by simp; omega), Lib.alloc_old _ _ _ (by simp)]; exact blk_new _ _
  · rw [hb.block _ (by simp)]; have := blk_new (w.alloc (.cells cmd0 37)) (.cells PARTS 9); simpa using this
  · exact (((Below.refl _ w).alloc (Nat.le_refl _) _).alloc (by simp) _).trans (hb.mono (by simp; omega))
/-- What the call hands back. -/
def ReadPost (w : World) (R : ByteArray × List Int × List Int × Int) (e : Ending) (w' : World) : Prop :=
  ∃ v1_ v2_ : Value, e = .returned (.tuple #[.agg #[.string R.1, v1_, v2_], .int .i64 R.2.2.2]) ∧ Kd.R (Kd.int .u64) 48 w' w.heap.size (fun _ => True) v1_ R.2.1 ∧ Kd.R (Kd.int .u8) 5 w' w.heap.size (fun _ => True) v2_ R.2.2.1 ∧ Below w.heap.size w w'
theorem read_bad {w w' : World} (c : Int) (hb : Below w.heap.size w w') : ReadPost w (ba [], [], [], c) (.returned (.tuple #[.agg #[.string ⟨#[]⟩, .slice none 0 0, .slice none 0 0], .int .i64 c])) (w'.setRow w.heap.size cmd0) :=
  ⟨_, _, rfl, Kd.R_nil _ _ _ _ _, Kd.R_nil _ _ _ _ _, below_setRow hb (Nat.le_refl _) _⟩
theorem cmd_size (a b c : Value) : (Tryd.prog.info? 37).map (·.size) = some (#[a, b, c] : Array Value).size := by kernel_rfl
theorem cmd_ones (a b c : Value) (ha : a.oneCell' = true) (hb : b.oneCell' = true) (hc : c.oneCell' = true) : (#[a, b, c] : Array Value).all (·.oneCell') = true := by simp [ha, hb, hc]
theorem read_good {w w1 : World} {p : ByteArray} {v8 v6 : Value} {nums bs : List Int} (hb : Below w.heap.size w w1) (hr : ∃ cells, w1.heap[w.heap.size]? = some (.cells cells 37 (0, 0))) (h8 : Kd.R (Kd.int .u64) 48 w1 w.heap.size (fun _ => True) v8 nums) (h6 : Kd.R (Kd.int .u8) 5 w1 w.heap.size (fun _ => True) v6 bs) : ReadPost w (p, nums, bs, 0) (.returned (.tuple #[.agg #[.string p, v8, v6], .int .i64 0])) (w1.setRow w.heap.size #[.string p, v8, v6]) := by
  obtain ⟨cells, hr⟩ := hr
  have hfar : ∀ k, k ≠ w.heap.size → (w1.setRow w.heap.size #[.string p, v8, v6]).heap[k]? = w1.heap[k]? := fun k hk => setRow_other _ _ _ _ hk
  refine ⟨_, _, rfl, ?_, ?_, below_setRow hb (Nat.le_refl _) _⟩
  · exact Kd.R_mono (Kd.R_step (Kd.R_types h8 hr (by decide)) (fun k hk _ => hfar k hk.2)) (fun _ _ => trivial)
  · exact Kd.R_mono (Kd.R_step (Kd.R_types h6 hr (by decide)) (fun k hk _ => hfar k hk.2)) (fun _ _ => trivial)
end Go.Proofs.YtmndhgiblpfcgaaDoor.W
end

section
/-
(*strings.Builder).copyCheck, WriteByte, WriteString at a builder that the call itself has made (after the shelf's contracts, at this translation's numbers).
-/
set_option linter.unusedVariables false
namespace Go.Proofs.YtmndhgiblpfcgaaDoor.W
open Go.RowKit

theorem bld_size : (Tryd.prog.info? 59).map (·.size) = some 2 := by kernel_rfl
theorem bld_lies : liesAt Tryd.prog Tryd.prog.depth 59 (2 / Tryd.prog.cellsOf 59) 0 59 1 = true := by kernel_rfl
theorem bld_byte : (Tryd.prog.info? 5).map (fun i => (i.zero, i.size, i.bytes)) = some (some (.int .u8 0), 1, 1) := by kernel_rfl

set_option maxHeartbeats 1000000 in
set_option maxRecDepth 100000 in
theorem Builder_copyCheck_used (b : Nat) (w : World) (h0 : w.cell? ⟨b, 0, none⟩ = some (.pointer (some ⟨b, 0, none⟩))) :
    Calls Tryd.prog 37 #[.pointer (some ⟨b, 0, none⟩)] w fun e w' => e = .returned (.tuple #[]) ∧ w' = w := by
  obtain ⟨j, hj, _⟩ := Option.map_eq_some_iff.1 bld_size
  go_enter Tryd.func37, Tryd.ntmps37
  go_wp2
  rw [Lib.run_neq_ptr_same w _ Tryd.underlying57 hj]
  go_wp2
  go_end0
  exact ⟨rfl, rfl⟩

set_option maxHeartbeats 1000000 in
set_option maxRecDepth 100000 in
theorem Builder_copyCheck_fresh (b : Nat) (w : World) (h0 : w.cell? ⟨b, 0, none⟩ = some (.pointer none)) (hsh : w.shape? b = some (59, 2)) (hfz : w.frozen? ⟨b, 0, none⟩ = false) :
    Calls Tryd.prog 37 #[.pointer (some ⟨b, 0, none⟩)] w fun e w' => e = .returned (.tuple #[]) ∧ w' = w.setCell ⟨b, 0, none⟩ (.pointer (some ⟨b, 0, none⟩)) := by
  obtain ⟨j, hj, hjs⟩ := Option.map_eq_some_iff.1 bld_size
  go_enter Tryd.func37, Tryd.ntmps37
  go_wp2
  rw [Lib.run_to_unsafe w ⟨b, 0, none⟩ Tryd.underlying57 Tryd.underlying100 hj (by rw [hjs]; decide) hsh (Nat.zero_lt_succ 1)]
  simp only [Result.andThen]
  rw [Oper.upon_value]
  go_wp2
  rw [run_callFunc_extern Tryd.func50 (by kernel_rfl) (by kernel_rfl) (by kernel_rfl) (e := Extern.AbiNoEscape.same) (by kernel_rfl)]
  rw [Lib.run_noEscape]
  simp only [Result.andThen]
  rw [Oper.upon_value]
  go_wp2
  rw [Lib.run_from_unsafe w ⟨b, 0, none⟩ Tryd.underlying100 Tryd.underlying57 hj hsh bld_lies]
  simp only [Result.andThen]
  rw [Oper.upon_value]
  go_wp2
  go_end0
  exact ⟨rfl, rfl⟩

theorem Builder_copyCheck (B b : Nat) (bs : List Value) (w : World) (h : Lib.IsBuilder 59 5 B b bs w) :
    Calls Tryd.prog 37 #[.pointer (some ⟨b, 0, none⟩)] w fun e w' => e = .returned (.tuple #[]) ∧ (Lib.BuilderAt 59 5 B b (.pointer (some ⟨b, 0, none⟩)) bs w' ∧ Below B w w') := by
  rcases h with h | h
  · refine (Builder_copyCheck_fresh b w h.cell0 h.shape h.frozen0).mono ?_
    rintro e w' ⟨rfl, rfl⟩
    exact ⟨rfl, h.used _, (Below.refl B w).setCell (p := ⟨b, 0, none⟩) h.1 _⟩
  · refine (Builder_copyCheck_used b w h.cell0).mono ?_
    rintro e w' ⟨rfl, rfl⟩
    exact ⟨rfl, h, Below.refl B _⟩

set_option maxHeartbeats 2000000 in
set_option maxRecDepth 100000 in
theorem Builder_WriteByte (B b : Nat) (bs : List Value) (c : Int) (w : World) (h : Lib.IsBuilder 59 5 B b bs w) (hlen : bs.length + 1 ≤ 140737488355328) (hBw : B ≤ w.heap.size) :
    Calls Tryd.prog 38 #[.pointer (some ⟨b, 0, none⟩), .int .u8 c] w fun e w' => e = .returned .nilIface ∧ (Lib.BuilderAt 59 5 B b (.pointer (some ⟨b, 0, none⟩)) (bs ++ [.int .u8 c]) w' ∧ Below B w w') := by
  obtain ⟨i0, hi, hz0, hz1, hz2⟩ := info_parts bld_byte
  go_enter Tryd.func38, Tryd.ntmps38
  go_wp2_with (go_at_call 37; refine (Builder_copyCheck B b bs _ h).mono ?_)
  rintro e w1 ⟨rfl, h1, hb1⟩
  obtain ⟨hB, v, hbk, hown, hne⟩ := h1
  have c0 : w1.cell? ⟨b, 0, none⟩ = some (.pointer (some ⟨b, 0, none⟩)) := by rw [Lib.cell_of_heap hbk]; rfl
  have c1 : w1.cell? ⟨b, 1, none⟩ = some v := by rw [Lib.cell_of_heap hbk]; rfl
  go_wp2_with (at_builtin; refine wpList_append_own _ rfl _ _ 35 rfl B 5 i0 (.int .u8 0) 1 1 Tryd.underlying35 hi hz0 hz1 hz2 rfl (by decide) _ _ _ rfl (hown.alloc _) ⟨w1.heap.size, 0, none⟩ 1 1 [.int .u8 c] rfl rfl ?c1 ?c2 ?c3 ?c4 ?c5 ?_)
  case c1 =>
    intro j u hj
    match j, hj with
    | 0, hj => simp at hj; subst hj; simp [Addr.add]
  case c2 => intro u hu; simp at hu; subst hu; rfl
  case c3 => unfold maxLen; omega
  case c4 => omega
  case c5 => have := hb1.size; simp; omega
  intro v' w2 hown' hgrow _
  have hlt : b < w1.heap.size := by
    rcases Nat.lt_or_ge b w1.heap.size with h' | h'
    · exact h'
    · simp [Array.getElem?_eq_none h'] at hbk
  have hb2 : w2.heap[b]? = some (.cells #[.pointer (some ⟨b, 0, none⟩), v] 59 (0, 0)) := by
    rw [hgrow.block b (by simp; omega) (fun e => hne e.symm), Lib.alloc_old w1 _ b hlt]
    exact hbk
  have d0 : w2.cell? ⟨b, 0, none⟩ = some (.pointer (some ⟨b, 0, none⟩)) := by rw [Lib.cell_of_heap hb2]; rfl
  have d1 : w2.cell? ⟨b, 1, none⟩ = some v := by rw [Lib.cell_of_heap hb2]; rfl
  have f1 : w2.frozen? ⟨b, 1, none⟩ = false := Lib.frozen_of_heap hb2 1
  obtain ⟨g, cap, rfl⟩ : ∃ g cap, v' = .slice (some ⟨g, 0, none⟩) (bs.length + 1) cap := by
    rcases hown'.2 with ⟨_, h0⟩ | ⟨g, cap, cur, hv, _⟩
    · omega
    · exact ⟨g, cap, hv⟩
  go_wp2
  go_ret
  refine ⟨rfl, ?_, ?_⟩
  · exact Lib.BuilderAt.put (T := 59) (e := 5) hB hb2 (bs' := bs ++ [.int .u8 c]) (by simpa using hown') (by decide)
  · exact ((hb1.alloc (by have := hb1.size; omega) _).grown hgrow (by have := hb1.size; simp; omega) (fun k hk => (hown.lt k hk).1)).setCell (p := ⟨b, 1, none⟩) hB _

set_option maxHeartbeats 2000000 in
set_option maxRecDepth 100000 in
theorem Builder_WriteString (B b : Nat) (bs : List Value) (s : ByteArray) (w : World) (h : Lib.IsBuilder 59 5 B b bs w) (hlen : bs.length + s.size ≤ 140737488355328) (hBw : B ≤ w.heap.size) :
    Calls Tryd.prog 21 #[.pointer (some ⟨b, 0, none⟩), .string s] w fun e w' => e = .returned (.tuple #[.int .i64 s.size, .nilIface]) ∧ (Lib.BuilderAt 59 5 B b (.pointer (some ⟨b, 0, none⟩)) (bs ++ Lib.strCells s) w' ∧ Below B w w') := by
  obtain ⟨i0, hi, hz0, hz1, hz2⟩ := info_parts bld_byte
  go_enter Tryd.func21, Tryd.ntmps21
  go_wp2_with (go_at_call 37; refine (Builder_copyCheck B b bs _ h).mono ?_)
  rintro e w1 ⟨rfl, h1, hb1⟩
  obtain ⟨hB, v, hbk, hown, hne⟩ := h1
  have c0 : w1.cell? ⟨b, 0, none⟩ = some (.pointer (some ⟨b, 0, none⟩)) := by rw [Lib.cell_of_heap hbk]; rfl
  have c1 : w1.cell? ⟨b, 1, none⟩ = some v := by rw [Lib.cell_of_heap hbk]; rfl
  go_wp2_with (at_builtin; refine Lib.wpList_append_own_string _ rfl _ _ 35 9 rfl B 5 i0 Tryd.underlying35 Tryd.underlying9 hi hz0 hz1 hz2 _ _ _ rfl hown s rfl ?c3 ?c4 ?c5 ?_)
  case c3 => unfold maxLen; omega
  case c4 => omega
  case c5 => have := hb1.size; omega
  intro v' w2 hown' hgrow _
  have hlt : b < w1.heap.size := by
    rcases Nat.lt_or_ge b w1.heap.size with h' | h'
    · exact h'
    · simp [Array.getElem?_eq_none h'] at hbk
  have hb2 : w2.heap[b]? = some (.cells #[.pointer (some ⟨b, 0, none⟩), v] 59 (0, 0)) := by
    rw [hgrow.block b hlt (fun e => hne e.symm)]
    exact hbk
  have d0 : w2.cell? ⟨b, 0, none⟩ = some (.pointer (some ⟨b, 0, none⟩)) := by rw [Lib.cell_of_heap hb2]; rfl
  have d1 : w2.cell? ⟨b, 1, none⟩ = some v := by rw [Lib.cell_of_heap hb2]; rfl
  have f1 : w2.frozen? ⟨b, 1, none⟩ = false := Lib.frozen_of_heap hb2 1
  obtain ⟨ao, n', cap, rfl⟩ : ∃ ao n' cap, v' = .slice ao n' cap := by
    rcases hown'.2 with ⟨hv, _⟩ | ⟨g, cap, cur, hv, _⟩
    · exact ⟨_, _, _, hv⟩
    · exact ⟨_, _, _, hv⟩
  go_wp2
  go_ret2
  refine ⟨rfl, ?_, ?_⟩
  · exact Lib.BuilderAt.put (T := 59) (e := 5) hB hb2 (bs' := bs ++ Lib.strCells s) (by simpa [Lib.strCells_length] using hown') (by decide)
  · exact (hb1.grown hgrow (by have := hb1.size; omega) (fun k hk => (hown.lt k hk).1)).setCell (p := ⟨b, 1, none⟩) hB _
end Go.Proofs.YtmndhgiblpfcgaaDoor.W
end

section
/-
strconv.FormatUint at base 10: the decimal digits, for every uint64.
-/
namespace Go.Proofs.YtmndhgiblpfcgaaDoor.W
open Go.RowKit Go.Lib Go.Sort Go.Proofs.YtmndhgiblpfcgaaDoorW.PrintWords Go.Proofs.YtmndhgiblpfcgaaDoorW.PrintLast Go.Proofs.YtmndhgiblpfcgaaDoorW.PrintMore
set_option linter.unusedVariables false
set_option linter.unusedSimpArgs false

theorem decDigits_tens (n : Nat) : Lib.decDigits n = Wel.Scr.tens n := by
  induction n using Nat.strongRecOn with
  | _ n ih =>
    rw [Lib.decDigits, Wel.Scr.tens]
    by_cases h : n < 10
    · rw [dif_pos h, dif_pos h]
    · rw [dif_neg h, dif_neg h, ih (n / 10) (by omega)]

theorem fin_zero (w : World) (o : Obj) (dk : Array UInt8) (k : Nat) : ∃ os, (putRow (fun (b : UInt8) => Value.int .u8 (b.toNat : Int)) (w.alloc o) w.heap.size 0 dk).drewN k = grow (w.drewN k) os := by
  rw [alloc_eq_grow]
  obtain ⟨os', _, e⟩ := putRow_grow_new (fun (b : UInt8) => Value.int .u8 (b.toNat : Int)) w #[o] w.heap.size 0 dk (Nat.le_refl _)
  exact ⟨os', by rw [e]; rfl⟩
set_option maxHeartbeats 6400000 in
set_option maxRecDepth 100000 in
theorem formatUint_calls (u : Nat) (hu64 : u < 18446744073709551616) (w : World) (htab : Lib.TabIs Tryd.prog w "internal/strconv.uint64pow10" .u64 Lib.pow10Tab) :
    Calls Tryd.prog 51 #[.int .u64 u, .int .i64 10] w fun e w' => e = .returned (.string ⟨(Lib.decDigits u).toArray⟩) ∧ Below w.heap.size w w' := by
  by_cases hs : u < 100
  · have hs' : (u : Int) < 100 := by omega
    have hw : wrap64 (u : Int) = (u : Int) := wrap64_id (by omega) (by omega)
    go_enter Tryd.func51, Tryd.ntmps51
    go_wp2_with (go_at_call 61; refine (Tryd.internal_strconv_small u hs _).mono ?_; rintro e w' ⟨rfl, rfl⟩)
    go_ret
    exact ⟨rfl, Below.refl _ _⟩
  · have hs' : ¬ (u : Int) < 100 := by omega
    have hu1 : 1 ≤ u := by omega
    have hnd20 : Lib.nDigits u ≤ 20 := by have := Lib.numDigits_eq u hu1 hu64; split at this <;> omega
    have hal : Tryd.prog.arrayLen 106 = 24 := by kernel_rfl
    have hH0 := Lib.holds_zero0 w 106 (Lib.nDigits u) (by omega)
    have hfmt := Tryd.internal_strconv_formatBase10 w.heap.size 0 24 u (Array.replicate (Lib.nDigits u) 0) (w.alloc (.cells Lib.zeros24 106)) hH0 (by rw [Array.size_replicate]; exact Lib.lt_pow_nDigits u) hu64 (by rw [Array.size_replicate]; omega)
    rw [Array.size_replicate] at hfmt
    have hsl : ∀ W, (Instr.sliceAt 106 (.pointer (some ⟨w.heap.size, 0, none⟩)) none (some (.int .i64 (Lib.nDigits u : Int))) none).run Tryd.prog W = .ok (.slice (some ⟨w.heap.size, 0, none⟩) (Lib.nDigits u) 24) W := fun W => by
      rw [run_sliceAt_array_h W 106 ⟨w.heap.size, 0, none⟩ (by kernel_rfl) .i64 (Lib.nDigits u : Int) (by omega) (by rw [hal]; omega)]
      go_simp
    go_enter Tryd.func51, Tryd.ntmps51
    go_wp2_with (first
      | (go_at_call 62; refine (Tryd.internal_strconv_numDigits u hu1 hu64 _ (Lib.tabIs_alloc htab _)).mono ?_; rintro e w' ⟨rfl, rfl⟩))
    go_at_call 63
    refine hfmt.mono ?_
    rintro e w' ⟨rfl, k, v', dk, rfl, hF⟩
    have hcv : (convert 35 9 (.slice (some ⟨w.heap.size, 0, none⟩) (Lib.nDigits u) 24)).run Tryd.prog ((putRow (fun (b : UInt8) => Value.int .u8 (b.toNat : Int)) (w.alloc (.cells Lib.zeros24 106)) w.heap.size 0 dk).drewN k) = .ok (.string ⟨(Lib.decDigits u).toArray⟩) ((putRow (fun (b : UInt8) => Value.int .u8 (b.toNat : Int)) (w.alloc (.cells Lib.zeros24 106)) w.heap.size 0 dk).drewN k) := by
      have h := run_convert_bytes_back (P := Tryd.prog) ((putRow (fun (b : UInt8) => Value.int .u8 (b.toNat : Int)) (w.alloc (.cells Lib.zeros24 106)) w.heap.size 0 dk).drewN k) 35 9 5 ⟨w.heap.size, 0, none⟩ 24 (Lib.decDigits u) Tryd.underlying35 Tryd.underlying5 Tryd.underlying9 (fun j hj => by
        rw [Lib.row_is_numeral hF j hj, Lib.add_plain, World.cell?_drewN]
        exact cell?_putRow (fun (b : UInt8) => Value.int .u8 (b.toNat : Int)) _ w.heap.size 0 _ dk hH0 (by rw [hF.size, Array.size_replicate]) j (by rw [hF.size]; rw [Lib.decDigits_length] at hj; exact hj))
      rw [Lib.decDigits_length] at h
      exact h
    go_wp2
    go_ret
    refine ⟨rfl, ?_⟩
    obtain ⟨os, eo⟩ := fin_zero w (.cells Lib.zeros24 106) dk k
    rw [eo]
    exact below_grow _ w (Nat.le_refl _) _ _
def strconv_FormatUint.f (a0 a1 : Int) : Option ByteArray := if a1 = 10 ∧ 0 ≤ a0 ∧ a0 ≤ 18446744073709551615 then some (ba (Wel.Scr.tens a0.toNat)) else none
theorem strconv_FormatUint.calls (a0 a1 : Int) (r : ByteArray) (w : World) (hI : Inv w) (h : strconv_FormatUint.f a0 a1 = some r) :
    Calls Tryd.prog 39 #[.int .u64 a0, .int .i64 a1] w fun e w' => e = .returned (.string r) ∧ Below w.heap.size w w' := by
  unfold strconv_FormatUint.f at h
  split at h
  case isFalse => cases h
  rename_i hs
  obtain ⟨rfl, h0, h1⟩ := hs
  rw [Option.some.injEq] at h
  subst h
  obtain ⟨u, rfl⟩ : ∃ u : Nat, a0 = u := ⟨a0.toNat, by omega⟩
  go_enter Tryd.func39, Tryd.ntmps39
  go_wp2_with (go_at_call 51; refine (formatUint_calls u (by omega) _ hI.pow).mono ?_; rintro e w' ⟨rfl, hb⟩)
  go_ret
  refine ⟨?_, hb⟩
  rw [decDigits_tens]
  rfl
end Go.Proofs.YtmndhgiblpfcgaaDoor.W
end

section
/-
The program's line of a command ((Command).line) is the plain one: the walk.
-/
namespace Go.Proofs.YtmndhgiblpfcgaaDoor.W
open Go.RowKit Go.Proofs.YtmndhgiblpfcgaaDoorW.PrintWords Go.Proofs.YtmndhgiblpfcgaaDoorW.PrintLast Go.Proofs.YtmndhgiblpfcgaaDoorW.PrintMore
set_option linter.unusedVariables false
set_option linter.unusedSimpArgs false

/-- The numbers of a line. -/
def numsL (l : List Nat) : List UInt8 := l.flatMap fun n => 32 :: Wel.Scr.tens n
theorem numsL_len : ∀ {l : List Nat}, (∀ n, n ∈ l → n < 18446744073709551616) → (numsL l).length ≤ 21 * l.length
  | [], _ => Nat.le_refl _
  | n :: l, h => by
    have h1 := numsL_len (l := l) fun m hm => h m (List.mem_cons_of_mem _ hm)
    have h2 := Wel.Scr.tens_len20 (h n (List.mem_cons_self ..))
    have e : numsL (n :: l) = 32 :: Wel.Scr.tens n ++ numsL l := rfl
    rw [e, List.length_append, List.length_cons, List.length_cons]; omega
theorem numsL_snoc (l : List Nat) (i : Nat) (h : i < l.length) : numsL (l.take (i + 1)) = numsL (l.take i) ++ 32 :: Wel.Scr.tens l[i] := by
  unfold numsL
  rw [List.take_succ_eq_append_getElem h, List.flatMap_append]; simp
theorem rd_nats (l : List Nat) (i : Nat) (h : i < l.length) : rd (nats l) (i : Int) = (l[i] : Int) := by
  unfold rd nats
  rw [Int.toNat_natCast, List.getD_eq_getElem?_getD, List.getElem?_map, List.getElem?_eq_getElem h]; rfl
/-- A builder of the call's own: block b, which holds the bytes l. -/
def LB (b : Nat) (l : List UInt8) (w : World) : Prop := Lib.IsBuilder 59 5 b b (Lib.byteCells l) w ∧ b < w.heap.size
theorem LB_wstr {b : Nat} {l : List UInt8} {w : World} (h : LB b l w) (s : List UInt8) (hl : l.length + s.length ≤ 140737488355328) :
    Calls Tryd.prog 21 #[.pointer (some ⟨b, 0, none⟩), .string (ba s)] w fun e w' => e = .returned (.tuple #[.int .i64 s.length, .nilIface]) ∧ LB b (l ++ s) w' ∧ Below b w w' := by
  refine (Builder_WriteString b b _ (ba s) w h.1 (by rw [Lib.byteCells_length, ba_size]; exact hl) (Nat.le_of_lt h.2)).mono ?_
  rintro e w' ⟨rfl, h1, h2⟩
  refine ⟨by rw [ba_size], ⟨.inr ?_, Nat.lt_of_lt_of_le h.2 h2.size⟩, h2⟩
  have e : Lib.byteCells (l ++ s) = Lib.byteCells l ++ Lib.strCells (ba s) := by rw [Lib.strCells_eq, ba_data]; simp [Lib.byteCells]
  rw [e]; exact h1
theorem LB_wbyte {b : Nat} {l : List UInt8} {w : World} (h : LB b l w) (c : UInt8) (hl : l.length + 1 ≤ 140737488355328) (x : Int) (hx : x = c.toNat) :
    Calls Tryd.prog 38 #[.pointer (some ⟨b, 0, none⟩), .int .u8 x] w fun e w' => e = .returned .nilIface ∧ LB b (l ++ [c]) w' ∧ Below b w w' := by
  subst hx
  refine (Builder_WriteByte b b _ (c.toNat : Int) w h.1 (by rw [Lib.byteCells_length]; exact hl) (Nat.le_of_lt h.2)).mono ?_
  rintro e w' ⟨rfl, h1, h2⟩
  refine ⟨rfl, ⟨.inr ?_, Nat.lt_of_lt_of_le h.2 h2.size⟩, h2⟩
  have e : Lib.byteCells (l ++ [c]) = Lib.byteCells l ++ [.int .u8 (c.toNat : Int)] := by simp [Lib.byteCells]
  rw [e]; exact h1
theorem LB_wany {b : Nat} {l : List UInt8} {w : World} (h : LB b l w) (x : Int) (h0 : 0 ≤ x) (h1 : x < 256) (hl : l.length + 1 ≤ 140737488355328) :
    Calls Tryd.prog 38 #[.pointer (some ⟨b, 0, none⟩), .int .u8 x] w fun e w' => e = .returned .nilIface ∧ LB b (l ++ [UInt8.ofNat x.toNat]) w' ∧ Below b w w' :=
  LB_wbyte h (UInt8.ofNat x.toNat) hl x (by rw [Wel.Scr.toNat_ofNat (by omega)]; omega)
theorem dig_at : ∀ n : Fin 16, ((⟨#[48, 49, 50, 51, 52, 53, 54, 55, 56, 57, 97, 98, 99, 100, 101, 102]⟩ : ByteArray)[n.val]'(n.isLt)).toNat = (Wel.Scr.dig16 n.val).toNat := by decide
/-- What a word's form says of bytes. -/
def formB (word : List UInt8) : Bool := match Wel.Scr.shape word with | some (_, b) => b | none => false
theorem find_any (word : List UInt8) : ∃ (r1 : ByteArray) (r2 : Int) (r4 : Bool), script_find.f (ba word) = some (r1, r2, formB word, r4) := by
  rw [script_find.f, ba_data, findR, formB]
  cases Wel.Scr.shape word with
  | none => exact ⟨_, _, _, rfl⟩
  | some f => exact ⟨_, _, _, rfl⟩
theorem line_eq (word : List UInt8) (nums : List Nat) (bs : List UInt8) : Wel.Scr.line ⟨word, nums, bs⟩ = word ++ numsL nums ++ (if formB word then 32 :: Wel.Scr.hexOr bs else []) ++ [10] := by
  have hj : ∀ (c : UInt8) (a : List UInt8) (l : List (List UInt8)), Wel.Scr.joinB c (a :: l) = a ++ l.flatMap (fun x => c :: x) := by
    intro c a l
    induction l generalizing a with
    | nil => simp [Wel.Scr.joinB]
    | cons b l ih => simp only [Wel.Scr.joinB, List.flatMap_cons]; rw [ih]; rfl
  unfold Wel.Scr.line Wel.Scr.parts formB numsL
  simp only
  cases Wel.Scr.shape word with
  | none => rw [hj, List.flatMap_append, List.flatMap_map]; simp
  | some f =>
    obtain ⟨k, b⟩ := f
    rw [hj, List.flatMap_append, List.flatMap_map]
    cases b <;> simp
theorem LB_string {b : Nat} {l : List UInt8} {w : World} (h : LB b l w) :
    Calls Tryd.prog 24 #[.pointer (some ⟨b, 0, none⟩)] w fun e w' => e = .returned (.string (ba l)) ∧ Below b w w' :=
  Tryd.Builder_String_any b b l w h.1 (Nat.le_of_lt h.2)
theorem LB_len {b : Nat} {l : List UInt8} {w : World} (h : LB b l w) :
    Calls Tryd.prog 23 #[.pointer (some ⟨b, 0, none⟩)] w fun e w' => e = .returned (.int .i64 l.length) ∧ w = w' := by
  have := Tryd.Builder_Len b b (Lib.byteCells l) w h.1
  rw [Lib.byteCells_length] at this
  exact this.mono fun e w' h => ⟨h.1, h.2.symm⟩
theorem LB_fresh (w : World) : LB w.heap.size [] (w.alloc (.cells #[.pointer none, .slice none 0 0] 59)) := ⟨Lib.fresh_isBuilder _ _ w, by simp⟩
theorem LB_at {b n : Nat} {w : World} (h : b = w.heap.size) : LB b [] (w.alloc (.cells #[.pointer none, .slice none 0 0] 59)) := by subst h; exact LB_fresh w
/-- A block above the builder's is laid, or written. -/
theorem LB_below {b : Nat} {l : List UInt8} {w w' : World} (h : LB b l w) (hb : Below w.heap.size w w') : LB b l w' := by
  refine ⟨?_, Nat.lt_of_lt_of_le h.2 hb.size⟩
  have key : ∀ p, Lib.BuilderAt 59 5 b b p (Lib.byteCells l) w → Lib.BuilderAt 59 5 b b p (Lib.byteCells l) w' := by
    rintro p ⟨h1, v, h2, h3, h4⟩
    exact ⟨h1, v, (hb.block _ h.2).trans h2, pw_own_below h3 hb, h4⟩
  rcases h.1 with h1 | h1
  · exact .inl (key _ h1)
  · exact .inr (key _ h1)

set_option maxHeartbeats 2000000 in
set_option maxRecDepth 100000 in
theorem line_walk (word : List UInt8) (nums : List Nat) (bs : List UInt8) (A1 : Option Addr) (c1 : Nat) (A2 : Option Addr) (c2 : Nat) (w : World) (hI : Inv w)
    (hr1 : Kd.C (Kd.int .u64) w A1 (nats nums).length (nats nums)) (hc1 : (nats nums).length ≤ c1) (hr2 : Kd.C (Kd.int .u8) w A2 (ints bs).length (ints bs)) (hc2 : (ints bs).length ≤ c2)
    (hw : word.length ≤ 1099511627776) (hn : nums.length ≤ 1099511627776) (hb : bs.length ≤ 1099511627776) (hu : ∀ n, n ∈ nums → n < 18446744073709551616) :
    Calls Tryd.prog 22 #[.agg #[.string (ba word), .slice A1 (nats nums).length c1, .slice A2 (ints bs).length c2]] w fun e w' => e = .returned (.string (ba (Wel.Scr.line ⟨word, nums, bs⟩))) ∧ Below w.heap.size w w' := by
  replace hI := Aside0.mk hI
  replace hr1 := Aside0.mk hr1
  replace hr2 := Aside0.mk hr2
  replace hu := Aside0.mk hu
  rw [nats_length] at hr1 hc1 ⊢
  rw [ints_length] at hr2 hc2 ⊢
  go_enter Tryd.func22, Tryd.ntmps22
  have hz0 : (w.alloc (.cells #[.string (ba word), .slice A1 nums.length c1, .slice A2 bs.length c2] 37)).heap.size = w.heap.size + 1 := by simp
  have hfr := LB_at (n := 0) hz0.symm
  have hbl : Below w.heap.size w ((w.alloc (.cells #[.string (ba word), .slice A1 nums.length c1, .slice A2 bs.length c2] 37)).alloc (.cells #[.pointer none, .slice none 0 0] 59)) := ((Below.refl _ w).alloc (Nat.le_refl _) _).alloc (by simp) _
  have hcm : ((w.alloc (.cells #[.string (ba word), .slice A1 nums.length c1, .slice A2 bs.length c2] 37)).alloc (.cells #[.pointer none, .slice none 0 0] 59)).heap[w.heap.size]? = some (.cells #[.string (ba word), .slice A1 nums.length c1, .slice A2 bs.length c2] 37 (0, 0)) := blk_alloc (blk_new w _) _
  clear hz0
  replace hfr := Aside0.mk hfr
  replace hbl := Aside0.mk hbl
  replace hcm := Aside0.mk hcm
  go_wp2_with (first
    | (go_at_call 21; refine (LB_wstr hfr.out word (by simp; omega)).mono ?_; rintro e w1 ⟨rfl, hl1, hb1⟩; replace hl1 := Aside0.mk hl1; replace hb1 := Aside0.mk hb1; have hc1 := Aside0.mk ((hb1.out.block _ (Nat.lt_succ_self _)).trans hcm.out); clear hfr hcm; have hcc0 := blk_cell hc1.out 0; have hcc1 := blk_cell hc1.out 1; simp at hcc0 hcc1))
  go_loopw [5, 16] (fun _ s16 wr => ∃ (i : Nat), s16 = .int .i64 i ∧ Aside0 (i ≤ nums.length ∧ LB (w.heap.size + 1) (word ++ numsL (nums.take i)) wr ∧ Below (w.heap.size + 1) w1 wr)) (fun _ s16 _ => nums.length - (intOf s16).toNat)
  case atStart => exact ⟨0, rfl, ⟨Nat.zero_le _, by simpa [numsL] using hl1.out, Below.refl _ _⟩⟩
  case round =>
    obtain ⟨i, rfl, HREL⟩ := hrel
    obtain ⟨hin, hlb, hbr⟩ := HREL.out
    clear HREL
    have hwr : Below w.heap.size w wr := (hbl.out.trans (hb1.out.mono (by omega))).trans (hbr.mono (by omega))
    have hcw : wr.heap[w.heap.size]? = some (.cells #[.string (ba word), .slice A1 nums.length c1, .slice A2 bs.length c2] 37 (0, 0)) := (hbr.block _ (Nat.lt_succ_self _)).trans hc1.out
    replace hlb := Aside0.mk hlb
    replace hbr := Aside0.mk hbr
    replace hwr := Aside0.mk hwr
    replace hcw := Aside0.mk hcw
    by_cases hlt : i < nums.length
    · obtain ⟨ad, e, hx⟩ := Kd.at_int (Kd.C_below hr1.out hwr.out) (i : Int) (by omega) (by omega)
      cases e
      rw [rd_nats nums i hlt, Int.toNat_natCast] at hx
      have hlen : (numsL (nums.take i)).length ≤ 21 * nums.length := by
        have := numsL_len (l := nums.take i) fun n hm => hu.out n (List.mem_of_mem_take hm)
        rw [List.length_take] at this; omega
      have hsn := Aside0.mk (numsL_snoc nums i hlt)
      have hun := hu.out nums[i] (List.getElem_mem hlt)
      have h20 := Wel.Scr.tens_len20 hun
      have hltI : (i : Int) < (nums.length : Int) := by omega
      have hi0 : (0 : Int) ≤ (i : Int) := by omega
      have hu1 : (nums[i] : Int) ≤ 18446744073709551615 := by omega
      replace hu1 := Aside0.mk hu1
      generalize nums[i] = x at hx hsn hun h20 hu1
      clear hun
      have hlen1 : (word ++ numsL (nums.take i)).length ≤ 30786325577728 := by rw [List.length_append]; omega
      clear hlen
      generalize hL : word ++ numsL (nums.take i) = L at hlb hlen1
      replace hL := Aside0.mk hL
      go_wp2_with (first
        | (go_at_call 38; refine (LB_wbyte hlb.out 32 (by omega) _ rfl).mono ?_; rintro e w2 ⟨rfl, hl2, hb2⟩; replace hl2 := Aside0.mk hl2; replace hb2 := Aside0.mk hb2)
        | (go_at_call 39; refine (strconv_FormatUint.calls (x : Int) 10 (ba (Wel.Scr.tens x)) _ (hI.out.below (hwr.out.trans (hb2.out.mono (by omega)))) (by rw [strconv_FormatUint.f, if_pos ⟨rfl, by omega, hu1.out⟩, Int.toNat_natCast])).mono ?_; rintro e w3 ⟨rfl, hb3⟩; have hl3 := Aside0.mk (LB_below hl2.out hb3); replace hb3 := Aside0.mk hb3)
        | (go_at_call 21; refine (LB_wstr hl3.out (Wel.Scr.tens x) (by rw [List.length_append]; simp; omega)).mono ?_; rintro e w4 ⟨rfl, hl4, hb4⟩; replace hl4 := Aside0.mk hl4; replace hb4 := Aside0.mk hb4))
      go_roundw
      case rel =>
        have hq2 : w.heap.size + 1 ≤ w2.heap.size := Nat.le_of_lt hl2.out.2
        exact ⟨i + 1, rfl, ⟨hlt, by rw [hsn.out, ← List.append_assoc, hL.out]; simpa using hl4.out, ((hbr.out.trans hb2.out).trans (hb3.out.mono hq2)).trans hb4.out⟩⟩
      case measure => simp [intOf]; omega
    · obtain rfl : i = nums.length := by omega
      have hltI : ¬ (nums.length : Int) < (nums.length : Int) := by omega
      rw [List.take_length] at hlb
      have hw0 := (blk_cell hcw.out 0).trans rfl
      have hw2 := (blk_cell hcw.out 2).trans rfl
      have hlen : (numsL nums).length ≤ 21 * nums.length := numsL_len hu.out
      obtain ⟨r1, r2, r4, hf⟩ := find_any word
      have hfind := Aside0.mk fun W => script_find.calls (ba word) r1 r2 (formB word) r4 W hf
      have hpost := Aside0.mk (line_eq word nums bs)
      have hB := hbr
      have hlenL : (word ++ numsL nums).length ≤ 30786325577728 := by rw [List.length_append]; omega
      clear hlen hf hcc0 hcc1
      generalize hL0 : word ++ numsL nums = L at hlb hlenL
      replace hL0 := Aside0.mk hL0
      cases hfb : formB word with
      | false =>
        rw [hfb] at hfind hpost
        go_wp2_with (first
          | (go_at_call 31; refine (hfind.out _).mono ?_; rintro e w5 ⟨rfl, hb5⟩; have hl5 := Aside0.mk (LB_below (LB_below hlb.out hb5) ((Below.refl _ w5).alloc (Nat.le_refl _) (.cells #[.string r1, .int .i64 r2, .bool false] 69))); replace hB := Aside0.mk ((hB.out.trans (hb5.mono (Nat.le_of_lt hlb.out.2))).alloc (Nat.le_trans (Nat.le_of_lt hlb.out.2) hb5.size) (.cells #[.string r1, .int .i64 r2, .bool false] 69)))
          | (go_at_call 38; refine (LB_wany hl5.out _ (by decide) (by decide) (by omega)).mono ?_; rintro e w6 ⟨rfl, hl6, hb6⟩; replace hl6 := Aside0.mk hl6; replace hB := Aside0.mk (hB.out.trans hb6))
          | (go_at_call 24; refine (LB_string hl6.out).mono ?_; rintro e w7 ⟨rfl, hb7⟩; replace hB := Aside0.mk (hB.out.trans hb7)))
        go_ret
        refine ⟨?_, (hbl.out.trans (hb1.out.mono (by omega))).trans (hB.out.mono (by omega))⟩
        rw [hpost.out, hL0.out]; simp
      | true =>
        rw [hfb] at hfind hpost
        by_cases hbs : bs = []
        · subst hbs
          have hpost2 : Wel.Scr.line ⟨word, nums, []⟩ = L ++ [32] ++ [45] ++ [10] := by
            rw [hpost.out, hL0.out]; simp [Wel.Scr.hexOr]
          replace hpost2 := Aside0.mk hpost2
          go_wp2_with (first
            | (go_at_call 31; refine (hfind.out _).mono ?_; rintro e w5 ⟨rfl, hb5⟩; have hl5 := Aside0.mk (LB_below (LB_below hlb.out hb5) ((Below.refl _ w5).alloc (Nat.le_refl _) (.cells #[.string r1, .int .i64 r2, .bool true] 69))); replace hB := Aside0.mk ((hB.out.trans (hb5.mono (Nat.le_of_lt hlb.out.2))).alloc (Nat.le_trans (Nat.le_of_lt hlb.out.2) hb5.size) (.cells #[.string r1, .int .i64 r2, .bool true] 69))))
          refine (LB_wany hl5.out _ (by decide) (by decide) (by omega)).mono ?_
          rintro e w6 ⟨rfl, hl6, hb6⟩
          replace hl6 := Aside0.mk hl6
          replace hB := Aside0.mk (hB.out.trans hb6)
          have hw6 := (blk_cell ((hB.out.block _ (Nat.lt_succ_self _)).trans hc1.out) 2).trans rfl
          go_wp2_with fail
          refine (LB_wany hl6.out _ (by decide) (by decide) (by rw [List.length_append, List.length_singleton]; omega)).mono ?_
          rintro e w7 ⟨rfl, hl7, hb7⟩
          replace hl7 := Aside0.mk hl7
          replace hB := Aside0.mk (hB.out.trans hb7)
          have hw7 := (blk_cell ((hB.out.block _ (Nat.lt_succ_self _)).trans hc1.out) 2).trans rfl
          have hlenH : (L ++ [UInt8.ofNat (Int.toNat 32)] ++ [UInt8.ofNat (Int.toNat 45)]).length ≤ 32985348833290 := by
            simp only [List.length_append, List.length_cons, List.length_nil]; omega
          go_wp2_with fail
          refine wp_loop_rounds 1 ?_
          rw [rounds_succ]
          go_wp2_with (first
            | (go_at_call 38; refine (LB_wany hl7.out _ (by decide) (by decide) (by omega)).mono ?_; rintro e w8 ⟨rfl, hl8, hb8⟩; replace hl8 := Aside0.mk hl8; replace hb8 := Aside0.mk hb8)
            | (go_at_call 24; refine (LB_string hl8.out).mono ?_; rintro e w9 ⟨rfl, hb9⟩))
          go_ret
          refine ⟨?_, (hbl.out.trans (hb1.out.mono (by omega))).trans (((hB.out.trans hb8.out).trans hb9).mono (by omega))⟩
          rw [hpost2.out]; first | rfl | simp
        · have hpos : 0 < bs.length := Wel.Scr.pos_len hbs
          have hposI : ¬ ((bs.length : Int) = 0) := by omega
          have hposB : ((bs.length : Int) == 0) = false := by rw [beq_eq_false_iff_ne]; omega
          go_wp2_with (first
            | (go_at_call 31; refine (hfind.out _).mono ?_; rintro e w5 ⟨rfl, hb5⟩; have hl5 := Aside0.mk (LB_below (LB_below hlb.out hb5) ((Below.refl _ w5).alloc (Nat.le_refl _) (.cells #[.string r1, .int .i64 r2, .bool true] 69))); replace hB := Aside0.mk ((hB.out.trans (hb5.mono (Nat.le_of_lt hlb.out.2))).alloc (Nat.le_trans (Nat.le_of_lt hlb.out.2) hb5.size) (.cells #[.string r1, .int .i64 r2, .bool true] 69)))
            | (go_at_call 38; refine (LB_wany hl5.out _ (by decide) (by decide) (by omega)).mono ?_; rintro e w6 ⟨rfl, hl6, hb6⟩; replace hl6 := Aside0.mk hl6; replace hB := Aside0.mk (hB.out.trans hb6); have hw6 := (blk_cell ((hB.out.block _ (Nat.lt_succ_self _)).trans hc1.out) 2).trans rfl))
          go_loopw [9, 42] (fun _ s42 wr' => ∃ (i : Nat), s42 = .int .i64 i ∧ Aside0 (i ≤ bs.length ∧ LB (w.heap.size + 1) (L ++ [32] ++ Wel.Scr.hex (bs.take i)) wr' ∧ Below (w.heap.size + 1) w1 wr')) (fun _ s42 _ => bs.length - (intOf s42).toNat)
          case atStart => exact ⟨0, rfl, ⟨Nat.zero_le _, by simpa [Wel.Scr.hex] using hl6.out, hB.out⟩⟩
          case round =>
            obtain ⟨i, rfl, HREL⟩ := hrel
            obtain ⟨hin, hlb', hbr'⟩ := HREL.out
            clear HREL
            by_cases hlt' : i < bs.length
            · obtain ⟨ad, e, hx⟩ := Kd.at_int (Kd.C_below hr2.out ((hbl.out.trans (hb1.out.mono (by omega))).trans (hbr'.mono (by omega)))) (i : Int) (by omega) (by omega)
              cases e
              rw [rd_ints, Int.toNat_natCast] at hx
              have hltI' : (i : Int) < (bs.length : Int) := by omega
              have hi0' : (0 : Int) ≤ (i : Int) := by omega
              generalize hy : bs.getD i 0 = y at hx
              have hy0 : (0 : Int) ≤ (y.toNat : Int) := by omega
              have hy1 : (y.toNat : Int) < 256 := by have := y.toNat_lt; omega
              replace hlb' := Aside0.mk hlb'
              replace hbr' := Aside0.mk hbr'
              replace hy := Aside0.mk hy
              have hyn : y.toNat / 16 < 16 := by omega
              have hym : y.toNat % 16 < 16 := by omega
              have hlenH : (L ++ [32] ++ Wel.Scr.hex (bs.take i)).length ≤ 32985348833290 := by
                have h1 := Wel.Scr.hex_length (bs.take i)
                rw [List.length_take] at h1
                simp only [List.length_append, List.length_cons, List.length_nil]; omega
              generalize hG : L ++ [32] ++ Wel.Scr.hex (bs.take i) = G at hlb' hlenH
              replace hG := Aside0.mk hG
              go_wp2_with fail
              generalize hd1 : ((⟨#[48, 49, 50, 51, 52, 53, 54, 55, 56, 57, 97, 98, 99, 100, 101, 102]⟩ : ByteArray)[y.toNat / 16]'hyn) = D1
              have hd1' := Aside0.mk (hd1 ▸ dig_at ⟨y.toNat / 16, hyn⟩ : D1.toNat = (Wel.Scr.dig16 (y.toNat / 16)).toNat)
              clear hd1
              refine (LB_wbyte hlb'.out D1 (by omega) _ rfl).mono ?_
              rintro e w7 ⟨rfl, hl7, hb7⟩
              rw [UInt8.toNat_inj.1 hd1'.out] at hl7
              replace hl7 := Aside0.mk hl7
              replace hb7 := Aside0.mk hb7
              go_wp2_with fail
              generalize hd2 : ((⟨#[48, 49, 50, 51, 52, 53, 54, 55, 56, 57, 97, 98, 99, 100, 101, 102]⟩ : ByteArray)[y.toNat % 16]'hym) = D2
              have hd2' := Aside0.mk (hd2 ▸ dig_at ⟨y.toNat % 16, hym⟩ : D2.toNat = (Wel.Scr.dig16 (y.toNat % 16)).toNat)
              clear hd2
              refine (LB_wbyte hl7.out D2 (by rw [List.length_append, List.length_singleton]; omega) _ rfl).mono ?_
              rintro e w8 ⟨rfl, hl8, hb8⟩
              rw [UInt8.toNat_inj.1 hd2'.out] at hl8
              replace hl8 := Aside0.mk hl8
              replace hb8 := Aside0.mk hb8
              go_wp2
              go_roundw
              case rel =>
                refine ⟨i + 1, rfl, ⟨hlt', ?_, (hbr'.out.trans hb7.out).trans hb8.out⟩⟩
                have h1 : bs.take (i + 1) = bs.take i ++ [y] := by
                  rw [← hy.out, List.getD_eq_getElem?_getD, List.getElem?_eq_getElem hlt']
                  exact List.take_succ_eq_append_getElem hlt'
                have hexa : ∀ (a b : List UInt8), Wel.Scr.hex (a ++ b) = Wel.Scr.hex a ++ Wel.Scr.hex b := by
                  intro a b
                  induction a with
                  | nil => rfl
                  | cons x a ih => simp only [List.cons_append, Wel.Scr.hex, ih]
                have h2 := hl8.out
                rw [← hG.out] at h2
                rw [h1, hexa]
                simpa [Wel.Scr.hex] using h2
              case measure => simp [intOf]; omega
            · obtain rfl : i = bs.length := by omega
              have hltI' : ¬ (bs.length : Int) < (bs.length : Int) := by omega
              rw [List.take_length] at hlb'
              have hlenH : (L ++ [32] ++ Wel.Scr.hex bs).length ≤ 32985348833290 := by
                have h1 := Wel.Scr.hex_length bs
                simp only [List.length_append, List.length_cons, List.length_nil]; omega
              have hpost2 : Wel.Scr.line ⟨word, nums, bs⟩ = L ++ [32] ++ Wel.Scr.hex bs ++ [10] := by
                rw [hpost.out, hL0.out, Wel.Scr.hexOr, if_neg hbs]; simp
              replace hpost2 := Aside0.mk hpost2
              generalize L ++ [32] ++ Wel.Scr.hex bs = G at hlb' hlenH hpost2
              replace hlb' := Aside0.mk hlb'
              replace hbr' := Aside0.mk hbr'
              go_wp2_with (first
                | (go_at_call 38; refine (LB_wany hlb'.out _ (by decide) (by decide) (by omega)).mono ?_; rintro e w8 ⟨rfl, hl8, hb8⟩; replace hl8 := Aside0.mk hl8; replace hb8 := Aside0.mk hb8)
                | (go_at_call 24; refine (LB_string hl8.out).mono ?_; rintro e w9 ⟨rfl, hb9⟩))
              go_ret
              refine ⟨?_, (hbl.out.trans (hb1.out.mono (by omega))).trans (((hbr'.out.trans hb8.out).trans hb9).mono (by omega))⟩
              rw [hpost2.out]; first | rfl | simp
end Go.Proofs.YtmndhgiblpfcgaaDoor.W
end
