/-
ScriptWords: the words are the document's, a text of 65,536 bytes is read and a longer one is not, as many bytes are printed and not more (the given card, without a condition).
(This text: part 5 of 7, merged out of: F20, Print, Read3, Read4, Read5, Read6, F7, F15, F16.)
-/
import Derived.Test.YtmndhgiblpfcgaaDoorZwo1
import Derived.Test.YtmndhgiblpfcgaaDoorZwo4
section
namespace Go.Proofs.YtmndhgiblpfcgaaDoor.W
open Go.RowKit Go.Proofs.YtmndhgiblpfcgaaDoorW.PrintWords Go.Proofs.YtmndhgiblpfcgaaDoorW.PrintLast Go.Proofs.YtmndhgiblpfcgaaDoorW.PrintMore
attribute [local go_sem] max2_int min2_int max_two min_two max_three min_three max_four min_four
set_option linter.unusedVariables false
set_option linter.unusedSimpArgs false

/-! ### script_Command_check: function 20 -/
def script_Command_check.f (a0_0 : ByteArray) (l0_1 : List Int) (l0_2 : List Int) : Option (Int) := (script_find.f a0_0).bind fun bt252 => (if bt252.2.2.2 = true then (if (l0_1.length : Int) = bt252.2.1 then (if bt252.2.2.1 = true then (some 0) else (if (l0_2.length : Int) > 0 then (some 14) else (some 0))) else (some 14)) else (some 20))
set_option maxHeartbeats 8000000 in
set_option maxRecDepth 100000 in
theorem script_Command_check.calls (a0_0 : ByteArray) (A0_1 : Option Addr) (c0_1 : Nat) (l0_1 : List Int) (A0_2 : Option Addr) (c0_2 : Nat) (l0_2 : List Int) (r : Int) (w : World) (hr0_1 : Kd.C (Kd.int .u64) w A0_1 l0_1.length l0_1) (hc0_1 : l0_1.length ≤ c0_1) (hr0_2 : Kd.C (Kd.int .u8) w A0_2 l0_2.length l0_2) (hc0_2 : l0_2.length ≤ c0_2) (h : script_Command_check.f a0_0 l0_1 l0_2 = some r) :
  Calls Tryd.prog 20 #[.agg #[.string a0_0, .slice A0_1 l0_1.length c0_1, .slice A0_2 l0_2.length c0_2]] w fun e w' => e = .returned (.int .i64 r) ∧ Below w.heap.size w w' := by
 have hu37 := Tryd.underlying37
 have hu69 := Tryd.underlying69
 have HR0_1 := Aside0.mk hr0_1
 have HC0_1 := Aside0.mk hc0_1
 clear hr0_1 hc0_1
 have HR0_2 := Aside0.mk hr0_2
 have HC0_2 := Aside0.mk hc0_2
 clear hr0_2 hc0_2
 have HB := Aside0.mk (Below.refl w.heap.size w)
 have H : ((script_find.f a0_0).bind fun bt252 => (if bt252.2.2.2 = true then (if (l0_1.length : Int) = bt252.2.1 then (if bt252.2.2.1 = true then (some 0) else (if (l0_2.length : Int) > 0 then (some 14) else (some 0))) else (some 14)) else (some 20))) = some r := h
 clear h
 replace H := Option.bind_eq_some_iff.mp H
 obtain ⟨⟨t252, t253, t254, t255⟩, A20, H⟩ := H
 replace H : (if t255 = true then (if (l0_1.length : Int) = t253 then (if t254 = true then (some 0) else (if (l0_2.length : Int) > 0 then (some 14) else (some 0))) else (some 14)) else (some 20)) = some r := H
 have A2 := Aside0.mk A20
 clear A20
 by_cases c3 : t255 = true
 ·subst c3
  have H1 : (if (l0_1.length : Int) = t253 then (if t254 = true then (some 0) else (if (l0_2.length : Int) > 0 then (some 14) else (some 0))) else (some 14)) = some r := by rw [if_pos rfl] at H; exact H
  clear H
  have H := H1
  clear H1
  by_cases c4 : (l0_1.length : Int) = t253
  ·rw [if_pos c4] at H
   have c4b0 : ((l0_1.length : Int) == t253) = true := beq_iff_eq.mpr c4
   have c4b1 : ((l0_1.length : Int) != t253) = false := bne_eq_false_iff_eq.mpr c4
   clear c4
   by_cases c5 : t254 = true
   ·subst c5
    have H1 : (some 0) = some r := by rw [if_pos rfl] at H; exact H
    clear H
    have H := H1
    clear H1
    obtain rfl := Option.some.inj H
    go_enter Tryd.func20, Tryd.ntmps20
    go_wp2_with (first | ((with_reducible refine gate_dst (N := 1) rfl ?_); (try (refine gate_guard (by rfl) ?_; dsimp only)); refine box_event ?hg (N := 1) ?hd (cs := #[.string a0_0, .slice A0_1 l0_1.length c0_1, .slice A0_2 l0_2.length c0_2]) (t := 37) ?hr ?_; (case hd => rfl); (case hg => rfl); (case hr => first | (go_simp; done) | (go_simp; rfl)); intro gb251 hg w6 hbox hb; have n0_ := Aside0.mk (below_step (by repeat (first | (with_reducible first | exact HB.out | apply below_alloc | apply pw_below_drewN | apply below_drew1) | exact HB.out)) hb); have n1_ := Aside0.mk (hbox); have n2_ := Aside0.mk ((by rw [hg]; exact (below_size (by repeat (first | (with_reducible first | exact HB.out | apply below_alloc | apply pw_below_drewN | apply below_drew1) | exact HB.out))) : w.heap.size ≤ gb251)); have n3_ := Aside0.mk ((by rw [hg]; exact (below_size (by repeat (first | (with_reducible first | exact HB.out | apply below_alloc | apply pw_below_drewN | apply below_drew1) | exact HB.out))) : w.heap.size ≤ gb251)); clear HB; have HB := n0_; have BK251 := n1_; have GW251 := n2_; have GE251 := n3_; clear n0_ n1_ n2_ n3_; clear hb hbox hg; have hcz7_0 : w6.cell? ⟨gb251, 0, none⟩ = some (.string a0_0) := (blk_cell BK251.out 0).trans rfl; have hcz7_1 : w6.cell? ⟨gb251, 1, none⟩ = some (.slice A0_1 l0_1.length c0_1) := (blk_cell BK251.out 1).trans rfl; have hcz7_2 : w6.cell? ⟨gb251, 2, none⟩ = some (.slice A0_2 l0_2.length c0_2) := (blk_cell BK251.out 2).trans rfl; have hfz7_0 := blk_frozen BK251.out 0; have hfz7_1 := blk_frozen BK251.out 1; have hfz7_2 := blk_frozen BK251.out 2) | ((with_reducible refine gate_callee (f := 31) rfl ?_); refine goesL_ (some 8) rfl rfl Tryd.func31 (by kernel_rfl) rfl #[.string a0_0] rfl (by (try simp only [List.map_toArray, List.map_cons, List.map_nil]); first | done | rfl | (simp only [List.length_drop, List.length_take]; rfl)) ?_; (with_reducible refine (script_find.calls a0_0 t252 t253 true true _ A2.out).mono ?_); rintro e w8 ⟨rfl, hb⟩; refine ⟨_, rfl, ?_⟩; have n0_ := Aside0.mk (blk_below (g := gb251) (o := .cells #[.string a0_0, .slice A0_1 l0_1.length c0_1, .slice A0_2 l0_2.length c0_2] 37 (0, 0)) (by (with_reducible repeat (first | refine blk_drewN ?_ _ | refine blk_drew ?_ | refine blk_alloc ?_ _)); exact BK251.out) hb); have n1_ := Aside0.mk (below_step (by repeat (first | (with_reducible first | exact HB.out | apply below_alloc | apply pw_below_drewN | apply below_drew1 | refine below_set ?_ GE251.out) | exact HB.out)) hb); clear BK251; clear HB; have BK251 := n0_; have HB := n1_; clear n0_ n1_; (try clear hb); (try clear hb2); (try clear hk); (try clear hi)) | ((with_reducible refine gate_dst (N := 3) rfl ?_); (try (refine gate_guard (by rfl) ?_; dsimp only)); refine box_event ?hg (N := 3) ?hd (cs := #[.string (⟨#[]⟩ : ByteArray), .int .i64 0, .bool false]) (t := 69) ?hr ?_; (case hd => rfl); (case hg => rfl); (case hr => first | (go_simp; done) | (go_simp; rfl)); intro gb256 hg w9 hbox hb; have n0_ := Aside0.mk (blk_below (g := gb251) (o := .cells #[.string a0_0, .slice A0_1 l0_1.length c0_1, .slice A0_2 l0_2.length c0_2] 37 (0, 0)) (by (with_reducible repeat (first | refine blk_drewN ?_ _ | refine blk_drew ?_ | refine blk_alloc ?_ _)); exact BK251.out) hb); have n1_ := Aside0.mk (below_step (by repeat (first | (with_reducible first | exact HB.out | apply below_alloc | apply pw_below_drewN | apply below_drew1 | refine below_set ?_ GE251.out) | exact HB.out)) hb); have n2_ := Aside0.mk (hbox); have n3_ := Aside0.mk ((by rw [hg]; exact (below_size (by repeat (first | (with_reducible first | exact HB.out | apply below_alloc | apply pw_below_drewN | apply below_drew1 | refine below_set ?_ GE251.out) | exact HB.out))) : w.heap.size ≤ gb256)); have n4_ := Aside0.mk ((by rw [hg]; exact (below_size (by repeat (first | (with_reducible first | exact HB.out | apply below_alloc | apply pw_below_drewN | apply below_drew1 | refine below_set ?_ GE251.out) | exact HB.out))) : w.heap.size ≤ gb256)); have n5_ := Aside0.mk ((by rw [hg]; exact Nat.ne_of_lt (blk_lt (g := gb251) (o := .cells #[.string a0_0, .slice A0_1 l0_1.length c0_1, .slice A0_2 l0_2.length c0_2] 37 (0, 0)) (by (with_reducible repeat (first | refine blk_drewN ?_ _ | refine blk_drew ?_ | refine blk_alloc ?_ _)); exact BK251.out)) : gb251 ≠ gb256)); have n6_ := Aside0.mk ((by rw [hg]; exact Nat.ne_of_gt (blk_lt (g := gb251) (o := .cells #[.string a0_0, .slice A0_1 l0_1.length c0_1, .slice A0_2 l0_2.length c0_2] 37 (0, 0)) (by (with_reducible repeat (first | refine blk_drewN ?_ _ | refine blk_drew ?_ | refine blk_alloc ?_ _)); exact BK251.out)) : gb256 ≠ gb251)); clear BK251; clear HB; have BK251 := n0_; have HB := n1_; have BK256 := n2_; have GW256 := n3_; have GE256 := n4_; have NB251_256 := n5_; have NB256_251 := n6_; clear n0_ n1_ n2_ n3_ n4_ n5_ n6_; clear hb hbox hg; have hnb10 := NB256_251.out; have hnc10 := NB251_256.out; have hcz11_0 : w9.cell? ⟨gb256, 0, none⟩ = some (.string (⟨#[]⟩ : ByteArray)) := (blk_cell BK256.out 0).trans rfl; have hcz11_1 : w9.cell? ⟨gb256, 1, none⟩ = some (.int .i64 0) := (blk_cell BK256.out 1).trans rfl; have hcz11_2 : w9.cell? ⟨gb256, 2, none⟩ = some (.bool false) := (blk_cell BK256.out 2).trans rfl; have hfz11_0 := blk_frozen BK256.out 0; have hfz11_1 := blk_frozen BK256.out 1; have hfz11_2 := blk_frozen BK256.out 2; have hcz12_0 : w9.cell? ⟨gb251, 0, none⟩ = some (.string a0_0) := (blk_cell BK251.out 0).trans rfl; have hcz12_1 : w9.cell? ⟨gb251, 1, none⟩ = some (.slice A0_1 l0_1.length c0_1) := (blk_cell BK251.out 1).trans rfl; have hcz12_2 : w9.cell? ⟨gb251, 2, none⟩ = some (.slice A0_2 l0_2.length c0_2) := (blk_cell BK251.out 2).trans rfl; have hfz12_0 := blk_frozen BK251.out 0; have hfz12_1 := blk_frozen BK251.out 1; have hfz12_2 := blk_frozen BK251.out 2))
    go_ret
    exact ⟨by first | rfl | (simp [errW_none, errW_some] <;> rfl) | (simp [*, errW_none, errW_some] <;> rfl), by repeat (first | (with_reducible first | exact HB.out | apply below_alloc | apply pw_below_drewN | apply below_drew1 | refine below_set ?_ GE251.out | refine below_set ?_ GE256.out) | exact HB.out)⟩
   ·replace c5 := Bool.eq_false_iff.mpr c5
    subst c5
    have H1 : (if (l0_2.length : Int) > 0 then (some 14) else (some 0)) = some r := by rw [if_neg (show ¬ (false = true) by decide)] at H; exact H
    clear H
    have H := H1
    clear H1
    by_cases c13 : (l0_2.length : Int) > 0
    ·rw [if_pos c13] at H
     have c13b0 : decide (0 < (l0_2.length : Int)) = true := decide_eq_true c13
     have c13b1 : decide (0 < l0_2.length) = true := decide_eq_true (by omega)
     clear c13
     obtain rfl := Option.some.inj H
     go_enter Tryd.func20, Tryd.ntmps20
     go_wp2_with (first | ((with_reducible refine gate_dst (N := 1) rfl ?_); (try (refine gate_guard (by rfl) ?_; dsimp only)); refine box_event ?hg (N := 1) ?hd (cs := #[.string a0_0, .slice A0_1 l0_1.length c0_1, .slice A0_2 l0_2.length c0_2]) (t := 37) ?hr ?_; (case hd => rfl); (case hg => rfl); (case hr => first | (go_simp; done) | (go_simp; rfl)); intro gb251 hg w14 hbox hb; have n0_ := Aside0.mk (below_step (by repeat (first | (with_reducible first | exact HB.out | apply below_alloc | apply pw_below_drewN | apply below_drew1) | exact HB.out)) hb); have n1_ := Aside0.mk (hbox); have n2_ := Aside0.mk ((by rw [hg]; exact (below_size (by repeat (first | (with_reducible first | exact HB.out | apply below_alloc | apply pw_below_drewN | apply below_drew1) | exact HB.out))) : w.heap.size ≤ gb251)); have n3_ := Aside0.mk ((by rw [hg]; exact (below_size (by repeat (first | (with_reducible first | exact HB.out | apply below_alloc | apply pw_below_drewN | apply below_drew1) | exact HB.out))) : w.heap.size ≤ gb251)); clear HB; have HB := n0_; have BK251 := n1_; have GW251 := n2_; have GE251 := n3_; clear n0_ n1_ n2_ n3_; clear hb hbox hg; have hcz15_0 : w14.cell? ⟨gb251, 0, none⟩ = some (.string a0_0) := (blk_cell BK251.out 0).trans rfl; have hcz15_1 : w14.cell? ⟨gb251, 1, none⟩ = some (.slice A0_1 l0_1.length c0_1) := (blk_cell BK251.out 1).trans rfl; have hcz15_2 : w14.cell? ⟨gb251, 2, none⟩ = some (.slice A0_2 l0_2.length c0_2) := (blk_cell BK251.out 2).trans rfl; have hfz15_0 := blk_frozen BK251.out 0; have hfz15_1 := blk_frozen BK251.out 1; have hfz15_2 := blk_frozen BK251.out 2) | ((with_reducible refine gate_callee (f := 31) rfl ?_); refine goesL_ (some 8) rfl rfl Tryd.func31 (by kernel_rfl) rfl #[.string a0_0] rfl (by (try simp only [List.map_toArray, List.map_cons, List.map_nil]); first | done | rfl | (simp only [List.length_drop, List.length_take]; rfl)) ?_; (with_reducible refine (script_find.calls a0_0 t252 t253 false true _ A2.out).mono ?_); rintro e w16 ⟨rfl, hb⟩; refine ⟨_, rfl, ?_⟩; have n0_ := Aside0.mk (blk_below (g := gb251) (o := .cells #[.string a0_0, .slice A0_1 l0_1.length c0_1, .slice A0_2 l0_2.length c0_2] 37 (0, 0)) (by (with_reducible repeat (first | refine blk_drewN ?_ _ | refine blk_drew ?_ | refine blk_alloc ?_ _)); exact BK251.out) hb); have n1_ := Aside0.mk (below_step (by repeat (first | (with_reducible first | exact HB.out | apply below_alloc | apply pw_below_drewN | apply below_drew1 | refine below_set ?_ GE251.out) | exact HB.out)) hb); clear BK251; clear HB; have BK251 := n0_; have HB := n1_; clear n0_ n1_; (try clear hb); (try clear hb2); (try clear hk); (try clear hi)) | ((with_reducible refine gate_dst (N := 3) rfl ?_); (try (refine gate_guard (by rfl) ?_; dsimp only)); refine box_event ?hg (N := 3) ?hd (cs := #[.string (⟨#[]⟩ : ByteArray), .int .i64 0, .bool false]) (t := 69) ?hr ?_; (case hd => rfl); (case hg => rfl); (case hr => first | (go_simp; done) | (go_simp; rfl)); intro gb256 hg w17 hbox hb; have n0_ := Aside0.mk (blk_below (g := gb251) (o := .cells #[.string a0_0, .slice A0_1 l0_1.length c0_1, .slice A0_2 l0_2.length c0_2] 37 (0, 0)) (by (with_reducible repeat (first | refine blk_drewN ?_ _ | refine blk_drew ?_ | refine blk_alloc ?_ _)); exact BK251.out) hb); have n1_ := Aside0.mk (below_step (by repeat (first | (with_reducible first | exact HB.out | apply below_alloc | apply pw_below_drewN | apply below_drew1 | refine below_set ?_ GE251.out) | exact HB.out)) hb); have n2_ := Aside0.mk (hbox); have n3_ := Aside0.mk ((by rw [hg]; exact (below_size (by repeat (first | (with_reducible first | exact HB.out | apply below_alloc | apply pw_below_drewN | apply below_drew1 | refine below_set ?_ GE251.out) | exact HB.out))) : w.heap.size ≤ gb256)); have n4_ := Aside0.mk ((by rw [hg]; exact (below_size (by repeat (first | (with_reducible first | exact HB.out | apply below_alloc | apply pw_below_drewN | apply below_drew1 | refine below_set ?_ GE251.out) | exact HB.out))) : w.heap.size ≤ gb256)); have n5_ := Aside0.mk ((by rw [hg]; exact Nat.ne_of_lt (blk_lt (g := gb251) (o := .cells #[.string a0_0, .slice A0_1 l0_1.length c0_1, .slice A0_2 l0_2.length c0_2] 37 (0, 0)) (by (with_reducible repeat (first | refine blk_drewN ?_ _ | refine blk_drew ?_ | refine blk_alloc ?_ _)); exact BK251.out)) : gb251 ≠ gb256)); have n6_ := Aside0.mk ((by rw [hg]; exact Nat.ne_of_gt (blk_lt (g := gb251) (o := .cells #[.string a0_0, .slice A0_1 l0_1.length c0_1, .slice A0_2 l0_2.length c0_2] 37 (0, 0)) (by (with_reducible repeat (first | refine blk_drewN ?_ _ | refine blk_drew ?_ | refine blk_alloc ?_ _)); exact BK251.out)) : gb256 ≠ gb251)); clear BK251; clear HB; have BK251 := n0_; have HB := n1_; have BK256 := n2_; have GW256 := n3_; have GE256 := n4_; have NB251_256 := n5_; have NB256_251 := n6_; clear n0_ n1_ n2_ n3_ n4_ n5_ n6_; clear hb hbox hg; have hnb18 := NB256_251.out; have hnc18 := NB251_256.out; have hcz19_0 : w17.cell? ⟨gb256, 0, none⟩ = some (.string (⟨#[]⟩ : ByteArray)) := (blk_cell BK256.out 0).trans rfl; have hcz19_1 : w17.cell? ⟨gb256, 1, none⟩ = some (.int .i64 0) := (blk_cell BK256.out 1).trans rfl; have hcz19_2 : w17.cell? ⟨gb256, 2, none⟩ = some (.bool false) := (blk_cell BK256.out 2).trans rfl; have hfz19_0 := blk_frozen BK256.out 0; have hfz19_1 := blk_frozen BK256.out 1; have hfz19_2 := blk_frozen BK256.out 2; have hcz20_0 : w17.cell? ⟨gb251, 0, none⟩ = some (.string a0_0) := (blk_cell BK251.out 0).trans rfl; have hcz20_1 : w17.cell? ⟨gb251, 1, none⟩ = some (.slice A0_1 l0_1.length c0_1) := (blk_cell BK251.out 1).trans rfl; have hcz20_2 : w17.cell? ⟨gb251, 2, none⟩ = some (.slice A0_2 l0_2.length c0_2) := (blk_cell BK251.out 2).trans rfl; have hfz20_0 := blk_frozen BK251.out 0; have hfz20_1 := blk_frozen BK251.out 1; have hfz20_2 := blk_frozen BK251.out 2))
     go_ret
     exact ⟨by first | rfl | (simp [errW_none, errW_some] <;> rfl) | (simp [*, errW_none, errW_some] <;> rfl), by repeat (first | (with_reducible first | exact HB.out | apply below_alloc | apply pw_below_drewN | apply below_drew1 | refine below_set ?_ GE251.out | refine below_set ?_ GE256.out) | exact HB.out)⟩
    ·rw [if_neg c13] at H
     have c13b0 : decide (0 < (l0_2.length : Int)) = false := decide_eq_false c13
     have c13b1 : decide (0 < l0_2.length) = false := decide_eq_false (by omega)
     clear c13
     obtain rfl := Option.some.inj H
     go_enter Tryd.func20, Tryd.ntmps20
     go_wp2_with (first | ((with_reducible refine gate_dst (N := 1) rfl ?_); (try (refine gate_guard (by rfl) ?_; dsimp only)); refine box_event ?hg (N := 1) ?hd (cs := #[.string a0_0, .slice A0_1 l0_1.length c0_1, .slice A0_2 l0_2.length c0_2]) (t := 37) ?hr ?_; (case hd => rfl); (case hg => rfl); (case hr => first | (go_simp; done) | (go_simp; rfl)); intro gb251 hg w21 hbox hb; have n0_ := Aside0.mk (below_step (by repeat (first | (with_reducible first | exact HB.out | apply below_alloc | apply pw_below_drewN | apply below_drew1) | exact HB.out)) hb); have n1_ := Aside0.mk (hbox); have n2_ := Aside0.mk ((by rw [hg]; exact (below_size (by repeat (first | (with_reducible first | exact HB.out | apply below_alloc | apply pw_below_drewN | apply below_drew1) | exact HB.out))) : w.heap.size ≤ gb251)); have n3_ := Aside0.mk ((by rw [hg]; exact (below_size (by repeat (first | (with_reducible first | exact HB.out | apply below_alloc | apply pw_below_drewN | apply below_drew1) | exact HB.out))) : w.heap.size ≤ gb251)); clear HB; have HB := n0_; have BK251 := n1_; have GW251 := n2_; have GE251 := n3_; clear n0_ n1_ n2_ n3_; clear hb hbox hg; have hcz22_0 : w21.cell? ⟨gb251, 0, none⟩ = some (.string a0_0) := (blk_cell BK251.out 0).trans rfl; have hcz22_1 : w21.cell? ⟨gb251, 1, none⟩ = some (.slice A0_1 l0_1.length c0_1) := (blk_cell BK251.out 1).trans rfl; have hcz22_2 : w21.cell? ⟨gb251, 2, none⟩ = some (.slice A0_2 l0_2.length c0_2) := (blk_cell BK251.out 2).trans rfl; have hfz22_0 := blk_frozen BK251.out 0; have hfz22_1 := blk_frozen BK251.out 1; have hfz22_2 := blk_frozen BK251.out 2) | ((with_reducible refine gate_callee (f := 31) rfl ?_); refine goesL_ (some 8) rfl rfl Tryd.func31 (by kernel_rfl) rfl #[.string a0_0] rfl (by (try simp only [List.map_toArray, List.map_cons, List.map_nil]); first | done | rfl | (simp only [List.length_drop, List.length_take]; rfl)) ?_; (with_reducible refine (script_find.calls a0_0 t252 t253 false true _ A2.out).mono ?_); rintro e w23 ⟨rfl, hb⟩; refine ⟨_, rfl, ?_⟩; have n0_ := Aside0.mk (blk_below (g := gb251) (o := .cells #[.string a0_0, .slice A0_1 l0_1.length c0_1, .slice A0_2 l0_2.length c0_2] 37 (0, 0)) (by (with_reducible repeat (first | refine blk_drewN ?_ _ | refine blk_drew ?_ | refine blk_alloc ?_ _)); exact BK251.out) hb); have n1_ := Aside0.mk (below_step (by repeat (first | (with_reducible first | exact HB.out | apply below_alloc | apply pw_below_drewN | apply below_drew1 | refine below_set ?_ GE251.out) | exact HB.out)) hb); clear BK251; clear HB; have BK251 := n0_; have HB := n1_; clear n0_ n1_; (try clear hb); (try clear hb2); (try clear hk); (try clear hi)) | ((with_reducible refine gate_dst (N := 3) rfl ?_); (try (refine gate_guard (by rfl) ?_; dsimp only)); refine box_event ?hg (N := 3) ?hd (cs := #[.string (⟨#[]⟩ : ByteArray), .int .i64 0, .bool false]) (t := 69) ?hr ?_; (case hd => rfl); (case hg => rfl); (case hr => first | (go_simp; done) | (go_simp; rfl)); intro gb256 hg w24 hbox hb; have n0_ := Aside0.mk (blk_below (g := gb251) (o := .cells #[.string a0_0, .slice A0_1 l0_1.length c0_1, .slice A0_2 l0_2.length c0_2] 37 (0, 0)) (by (with_reducible repeat (first | refine blk_drewN ?_ _ | refine blk_drew ?_ | refine blk_alloc ?_ _)); exact BK251.out) hb); have n1_ := Aside0.mk (below_step (by repeat (first | (with_reducible first | exact HB.out | apply below_alloc | apply pw_below_drewN | apply below_drew1 | refine below_set ?_ GE251.out) | exact HB.out)) hb); have n2_ := Aside0.mk (hbox); have n3_ := Aside0.mk ((by rw [hg]; exact (below_size (by repeat (first | (with_reducible first | exact HB.out | apply below_alloc | apply pw_below_drewN | apply below_drew1 | refine below_set ?_ GE251.out) | exact HB.out))) : w.heap.size ≤ gb256)); have n4_ := Aside0.mk ((by rw [hg]; exact (below_size (by repeat (first | (with_reducible first | exact HB.out | apply below_alloc | apply pw_below_drewN | apply below_drew1 | refine below_set ?_ GE251.out) | exact HB.out))) : w.heap.size ≤ gb256)); have n5_ := Aside0.mk ((by rw [hg]; exact Nat.ne_of_lt (blk_lt (g := gb251) (o := .cells #[.string a0_0, .slice A0_1 l0_1.length c0_1, .slice A0_2 l0_2.length c0_2] 37 (0, 0)) (by (with_reducible repeat (first | refine blk_drewN ?_ _ | refine blk_drew ?_ | refine blk_alloc ?_ _)); exact BK251.out)) : gb251 ≠ gb256)); have n6_ := Aside0.mk ((by rw [hg]; exact Nat.ne_of_gt (blk_lt (g := gb251) (o := .cells #[.string a0_0, .slice A0_1 l0_1.length c0_1, .slice A0_2 l0_2.length c0_2] 37 (0, 0)) (by (with_reducible repeat (first | refine blk_drewN ?_ _ | refine blk_drew ?_ | refine blk_alloc ?_ _)); exact BK251.out)) : gb256 ≠ gb251)); clear BK251; clear HB; have BK251 := n0_; have HB := n1_; have BK256 := n2_; have GW256 := n3_; have GE256 := n4_; have NB251_256 := n5_; have NB256_251 := n6_; clear n0_ n1_ n2_ n3_ n4_ n5_ n6_; clear hb hbox hg; have hnb25 := NB256_251.out; have hnc25 := NB251_256.out; have hcz26_0 : w24.cell? ⟨gb256, 0, none⟩ = some (.string (⟨#[]⟩ : ByteArray)) := (blk_cell BK256.out 0).trans rfl; have hcz26_1 : w24.cell? ⟨gb256, 1, none⟩ = some (.int .i64 0) := (blk_cell BK256.out 1).trans rfl; have hcz26_2 : w24.cell? ⟨gb256, 2, none⟩ = some (.bool false) := (blk_cell BK256.out 2).trans rfl; have hfz26_0 := blk_frozen BK256.out 0; have hfz26_1 := blk_frozen BK256.out 1; have hfz26_2 := blk_frozen BK256.out 2; have hcz27_0 : w24.cell? ⟨gb251, 0, none⟩ = some (.string a0_0) := (blk_cell BK251.out 0).trans rfl; have hcz27_1 : w24.cell? ⟨gb251, 1, none⟩ = some (.slice A0_1 l0_1.length c0_1) := (blk_cell BK251.out 1).trans rfl; have hcz27_2 : w24.cell? ⟨gb251, 2, none⟩ = some (.slice A0_2 l0_2.length c0_2) := (blk_cell BK251.out 2).trans rfl; have hfz27_0 := blk_frozen BK251.out 0; have hfz27_1 := blk_frozen BK251.out 1; have hfz27_2 := blk_frozen BK251.out 2))
     go_ret
     exact ⟨by first | rfl | (simp [errW_none, errW_some] <;> rfl) | (simp [*, errW_none, errW_some] <;> rfl), by repeat (first | (with_reducible first | exact HB.out | apply below_alloc | apply pw_below_drewN | apply below_drew1 | refine below_set ?_ GE251.out | refine below_set ?_ GE256.out) | exact HB.out)⟩
  ·rw [if_neg c4] at H
   have c4b0 : ((l0_1.length : Int) == t253) = false := beq_eq_false_iff_ne.mpr c4
   have c4b1 : ((l0_1.length : Int) != t253) = true := bne_iff_ne.mpr c4
   obtain rfl := Option.some.inj H
   go_enter Tryd.func20, Tryd.ntmps20
   go_wp2_with (first | ((with_reducible refine gate_dst (N := 1) rfl ?_); (try (refine gate_guard (by rfl) ?_; dsimp only)); refine box_event ?hg (N := 1) ?hd (cs := #[.string a0_0, .slice A0_1 l0_1.length c0_1, .slice A0_2 l0_2.length c0_2]) (t := 37) ?hr ?_; (case hd => rfl); (case hg => rfl); (case hr => first | (go_simp; done) | (go_simp; rfl)); intro gb251 hg w28 hbox hb; have n0_ := Aside0.mk (below_step (by repeat (first | (with_reducible first | exact HB.out | apply below_alloc | apply pw_below_drewN | apply below_drew1) | exact HB.out)) hb); have n1_ := Aside0.mk (hbox); have n2_ := Aside0.mk ((by rw [hg]; exact (below_size (by repeat (first | (with_reducible first | exact HB.out | apply below_alloc | apply pw_below_drewN | apply below_drew1) | exact HB.out))) : w.heap.size ≤ gb251)); have n3_ := Aside0.mk ((by rw [hg]; exact (below_size (by repeat (first | (with_reducible first | exact HB.out | apply below_alloc | apply pw_below_drewN | apply below_drew1) | exact HB.out))) : w.heap.size ≤ gb251)); clear HB; have HB := n0_; have BK251 := n1_; have GW251 := n2_; have GE251 := n3_; clear n0_ n1_ n2_ n3_; clear hb hbox hg; have hcz29_0 : w28.cell? ⟨gb251, 0, none⟩ = some (.string a0_0) := (blk_cell BK251.out 0).trans rfl; have hcz29_1 : w28.cell? ⟨gb251, 1, none⟩ = some (.slice A0_1 l0_1.length c0_1) := (blk_cell BK251.out 1).trans rfl; have hcz29_2 : w28.cell? ⟨gb251, 2, none⟩ = some (.slice A0_2 l0_2.length c0_2) := (blk_cell BK251.out 2).trans rfl; have hfz29_0 := blk_frozen BK251.out 0; have hfz29_1 := blk_frozen BK251.out 1; have hfz29_2 := blk_frozen BK251.out 2) | ((with_reducible refine gate_callee (f := 31) rfl ?_); refine goesL_ (some 8) rfl rfl Tryd.func31 (by kernel_rfl) rfl #[.string a0_0] rfl (by (try simp only [List.map_toArray, List.map_cons, List.map_nil]); first | done | rfl | (simp only [List.length_drop, List.length_take]; rfl)) ?_; (with_reducible refine (script_find.calls a0_0 t252 t253 t254 true _ A2.out).mono ?_); rintro e w30 ⟨rfl, hb⟩; refine ⟨_, rfl, ?_⟩; have n0_ := Aside0.mk (blk_below (g := gb251) (o := .cells #[.string a0_0, .slice A0_1 l0_1.length c0_1, .slice A0_2 l0_2.length c0_2] 37 (0, 0)) (by (with_reducible repeat (first | refine blk_drewN ?_ _ | refine blk_drew ?_ | refine blk_alloc ?_ _)); exact BK251.out) hb); have n1_ := Aside0.mk (below_step (by repeat (first | (with_reducible first | exact HB.out | apply below_alloc | apply pw_below_drewN | apply below_drew1 | refine below_set ?_ GE251.out) | exact HB.out)) hb); clear BK251; clear HB; have BK251 := n0_; have HB := n1_; clear n0_ n1_; (try clear hb); (try clear hb2); (try clear hk); (try clear hi)) | ((with_reducible refine gate_dst (N := 3) rfl ?_); (try (refine gate_guard (by rfl) ?_; dsimp only)); refine box_event ?hg (N := 3) ?hd (cs := #[.string (⟨#[]⟩ : ByteArray), .int .i64 0, .bool false]) (t := 69) ?hr ?_; (case hd => rfl); (case hg => rfl); (case hr => first | (go_simp; done) | (go_simp; rfl)); intro gb256 hg w31 hbox hb; have n0_ := Aside0.mk (blk_below (g := gb251) (o := .cells #[.string a0_0, .slice A0_1 l0_1.length c0_1, .slice A0_2 l0_2.length c0_2] 37 (0, 0)) (by (with_reducible repeat (first | refine blk_drewN ?_ _ | refine blk_drew ?_ | refine blk_alloc ?_ _)); exact BK251.out) hb); have n1_ := Aside0.mk (below_step (by repeat (first | (with_reducible first | exact HB.out | apply below_alloc | apply pw_below_drewN | apply below_drew1 | refine below_set ?_ GE251.out) | exact HB.out)) hb); have n2_ := Aside0.mk (hbox); have n3_ := Aside0.mk ((by rw [hg]; exact (below_size (by repeat (first | (with_reducible first | exact HB.out | apply below_alloc | apply pw_below_drewN | apply below_drew1 | refine below_set ?_ GE251.out) | exact HB.out))) : w.heap.size ≤ gb256)); have n4_ := Aside0.mk ((by rw [hg]; exact (below_size (by repeat (first | (with_reducible first | exact HB.out | apply below_alloc | apply pw_below_drewN | apply below_drew1 | refine below_set ?_ GE251.out) | exact HB.out))) : w.heap.size ≤ gb256)); have n5_ := Aside0.mk ((by rw [hg]; exact Nat.ne_of_lt (blk_lt (g := gb251) (o := .cells #[.string a0_0, .slice A0_1 l0_1.length c0_1, .slice A0_2 l0_2.length c0_2] 37 (0, 0)) (by (with_reducible repeat (first | refine blk_drewN ?_ _ | refine blk_drew ?_ | refine blk_alloc ?_ _)); exact BK251.out)) : gb251 ≠ gb256)); have n6_ := Aside0.mk ((by rw [hg]; exact Nat.ne_of_gt (blk_lt (g := gb251) (o := .cells #[.string a0_0, .slice A0_1 l0_1.length c0_1, .slice A0_2 l0_2.length c0_2] 37 (0, 0)) (by (with_reducible repeat (first | refine blk_drewN ?_ _ | refine blk_drew ?_ | refine blk_alloc ?_ _)); exact BK251.out)) : gb256 ≠ gb251)); clear BK251; clear HB; have BK251 := n0_; have HB := n1_; have BK256 := n2_; have GW256 := n3_; have GE256 := n4_; have NB251_256 := n5_; have NB256_251 := n6_; clear n0_ n1_ n2_ n3_ n4_ n5_ n6_; clear hb hbox hg; have hnb32 := NB256_251.out; have hnc32 := NB251_256.out; have hcz33_0 : w31.cell? ⟨gb256, 0, none⟩ = some (.string (⟨#[]⟩ : ByteArray)) := (blk_cell BK256.out 0).trans rfl; have hcz33_1 : w31.cell? ⟨gb256, 1, none⟩ = some (.int .i64 0) := (blk_cell BK256.out 1).trans rfl; have hcz33_2 : w31.cell? ⟨gb256, 2, none⟩ = some (.bool false) := (blk_cell BK256.out 2).trans rfl; have hfz33_0 := blk_frozen BK256.out 0; have hfz33_1 := blk_frozen BK256.out 1; have hfz33_2 := blk_frozen BK256.out 2; have hcz34_0 : w31.cell? ⟨gb251, 0, none⟩ = some (.string a0_0) := (blk_cell BK251.out 0).trans rfl; have hcz34_1 : w31.cell? ⟨gb251, 1, none⟩ = some (.slice A0_1 l0_1.length c0_1) := (blk_cell BK251.out 1).trans rfl; have hcz34_2 : w31.cell? ⟨gb251, 2, none⟩ = some (.slice A0_2 l0_2.length c0_2) := (blk_cell BK251.out 2).trans rfl; have hfz34_0 := blk_frozen BK251.out 0; have hfz34_1 := blk_frozen BK251.out 1; have hfz34_2 := blk_frozen BK251.out 2))
   go_ret
   exact ⟨by first | rfl | (simp [errW_none, errW_some] <;> rfl) | (simp [*, errW_none, errW_some] <;> rfl), by repeat (first | (with_reducible first | exact HB.out | apply below_alloc | apply pw_below_drewN | apply below_drew1 | refine below_set ?_ GE251.out | refine below_set ?_ GE256.out) | exact HB.out)⟩
 ·replace c3 := Bool.eq_false_iff.mpr c3
  subst c3
  have H1 : (some 20) = some r := by rw [if_neg (show ¬ (false = true) by decide)] at H; exact H
  clear H
  have H := H1
  clear H1
  obtain rfl := Option.some.inj H
  go_enter Tryd.func20, Tryd.ntmps20
  go_wp2_with (first | ((with_reducible refine gate_dst (N := 1) rfl ?_); (try (refine gate_guard (by rfl) ?_; dsimp only)); refine box_event ?hg (N := 1) ?hd (cs := #[.string a0_0, .slice A0_1 l0_1.length c0_1, .slice A0_2 l0_2.length c0_2]) (t := 37) ?hr ?_; (case hd => rfl); (case hg => rfl); (case hr => first | (go_simp; done) | (go_simp; rfl)); intro gb251 hg w35 hbox hb; have n0_ := Aside0.mk (below_step (by repeat (first | (with_reducible first | exact HB.out | apply below_alloc | apply pw_below_drewN | apply below_drew1) | exact HB.out)) hb); have n1_ := Aside0.mk (hbox); have n2_ := Aside0.mk ((by rw [hg]; exact (below_size (by repeat (first | (with_reducible first | exact HB.out | apply below_alloc | apply pw_below_drewN | apply below_drew1) | exact HB.out))) : w.heap.size ≤ gb251)); have n3_ := Aside0.mk ((by rw [hg]; exact (below_size (by repeat (first | (with_reducible first | exact HB.out | apply below_alloc | apply pw_below_drewN | apply below_drew1) | exact HB.out))) : w.heap.size ≤ gb251)); clear HB; have HB := n0_; have BK251 := n1_; have GW251 := n2_; have GE251 := n3_; clear n0_ n1_ n2_ n3_; clear hb hbox hg; have hcz36_0 : w35.cell? ⟨gb251, 0, none⟩ = some (.string a0_0) := (blk_cell BK251.out 0).trans rfl; have hcz36_1 : w35.cell? ⟨gb251, 1, none⟩ = some (.slice A0_1 l0_1.length c0_1) := (blk_cell BK251.out 1).trans rfl; have hcz36_2 : w35.cell? ⟨gb251, 2, none⟩ = some (.slice A0_2 l0_2.length c0_2) := (blk_cell BK251.out 2).trans rfl; have hfz36_0 := blk_frozen BK251.out 0; have hfz36_1 := blk_frozen BK251.out 1; have hfz36_2 := blk_frozen BK251.out 2) | ((with_reducible refine gate_callee (f := 31) rfl ?_); refine goesL_ (some 8) rfl rfl Tryd.func31 (by kernel_rfl) rfl #[.string a0_0] rfl (by (try simp only [List.map_toArray, List.map_cons, List.map_nil]); first | done | rfl | (simp only [List.length_drop, List.length_take]; rfl)) ?_; (with_reducible refine (script_find.calls a0_0 t252 t253 t254 false _ A2.out).mono ?_); rintro e w37 ⟨rfl, hb⟩; refine ⟨_, rfl, ?_⟩; have n0_ := Aside0.mk (blk_below (g := gb251) (o := .cells #[.string a0_0, .slice A0_1 l0_1.length c0_1, .slice A0_2 l0_2.length c0_2] 37 (0, 0)) (by (with_reducible repeat (first | refine blk_drewN ?_ _ | refine blk_drew ?_ | refine blk_alloc ?_ _)); exact BK251.out) hb); have n1_ := Aside0.mk (below_step (by repeat (first | (with_reducible first | exact HB.out | apply below_alloc | apply pw_below_drewN | apply below_drew1 | refine below_set ?_ GE251.out) | exact HB.out)) hb); clear BK251; clear HB; have BK251 := n0_; have HB := n1_; clear n0_ n1_; (try clear hb); (try clear hb2); (try clear hk); (try clear hi)) | ((with_reducible refine gate_dst (N := 3) rfl ?_); (try (refine gate_guard (by rfl) ?_; dsimp only)); refine box_event ?hg (N := 3) ?hd (cs := #[.string (⟨#[]⟩ : ByteArray), .int .i64 0, .bool false]) (t := 69) ?hr ?_; (case hd => rfl); (case hg => rfl); (case hr => first | (go_simp; done) | (go_simp; rfl)); intro gb256 hg w38 hbox hb; have n0_ := Aside0.mk (blk_below (g := gb251) (o := .cells #[.string a0_0, .slice A0_1 l0_1.length c0_1, .slice A0_2 l0_2.length c0_2] 37 (0, 0)) (by (with_reducible repeat (first | refine blk_drewN ?_ _ | refine blk_drew ?_ | refine blk_alloc ?_ _)); exact BK251.out) hb); have n1_ := Aside0.mk (below_step (by repeat (first | (with_reducible first | exact HB.out | apply below_alloc | apply pw_below_drewN | apply below_drew1 | refine below_set ?_ GE251.out) | exact HB.out)) hb); have n2_ := Aside0.mk (hbox); have n3_ := Aside0.mk ((by rw [hg]; exact (below_size (by repeat (first | (with_reducible first | exact HB.out | apply below_alloc | apply pw_below_drewN | apply below_drew1 | refine below_set ?_ GE251.out) | exact HB.out))) : w.heap.size ≤ gb256)); have n4_ := Aside0.mk ((by rw [hg]; exact (below_size (by repeat (first | (with_reducible first | exact HB.out | apply below_alloc | apply pw_below_drewN | apply below_drew1 | refine below_set ?_ GE251.out) | exact HB.out))) : w.heap.size ≤ gb256)); have n5_ := Aside0.mk ((by rw [hg]; exact Nat.ne_of_lt (blk_lt (g := gb251) (o := .cells #[.string a0_0, .slice A0_1 l0_1.length c0_1, .slice A0_2 l0_2.length c0_2] 37 (0, 0)) (by (with_reducible repeat (first | refine blk_drewN ?_ _ | refine blk_drew ?_ | refine blk_alloc ?_ _)); exact BK251.out)) : gb251 ≠ gb256)); have n6_ := Aside0.mk ((by rw [hg]; exact Nat.ne_of_gt (blk_lt (g := gb251) (o := .cells #[.string a0_0, .slice A0_1 l0_1.length c0_1, .slice A0_2 l0_2.length c0_2] 37 (0, 0)) (by (with_reducible repeat (first | refine blk_drewN ?_ _ | refine blk_drew ?_ | refine blk_alloc ?_ _)); exact BK251.out)) : gb256 ≠ gb251)); clear BK251; clear HB; have BK251 := n0_; have HB := n1_; have BK256 := n2_; have GW256 := n3_; have GE256 := n4_; have NB251_256 := n5_; have NB256_251 := n6_; clear n0_ n1_ n2_ n3_ n4_ n5_ n6_; clear hb hbox hg; have hnb39 := NB256_251.out; have hnc39 := NB251_256.out; have hcz40_0 : w38.cell? ⟨gb256, 0, none⟩ = some (.string (⟨#[]⟩ : ByteArray)) := (blk_cell BK256.out 0).trans rfl; have hcz40_1 : w38.cell? ⟨gb256, 1, none⟩ = some (.int .i64 0) := (blk_cell BK256.out 1).trans rfl; have hcz40_2 : w38.cell? ⟨gb256, 2, none⟩ = some (.bool false) := (blk_cell BK256.out 2).trans rfl; have hfz40_0 := blk_frozen BK256.out 0; have hfz40_1 := blk_frozen BK256.out 1; have hfz40_2 := blk_frozen BK256.out 2))
  go_ret
  exact ⟨by first | rfl | (simp [errW_none, errW_some] <;> rfl) | (simp [*, errW_none, errW_some] <;> rfl), by repeat (first | (with_reducible first | exact HB.out | apply below_alloc | apply pw_below_drewN | apply below_drew1 | refine below_set ?_ GE251.out | refine below_set ?_ GE256.out) | exact HB.out)⟩

end Go.Proofs.YtmndhgiblpfcgaaDoor.W
end

section
/-
The program's printing of commands (script.Print) is the plain one: the walk.
-/
namespace Go.Proofs.YtmndhgiblpfcgaaDoor.W
open Go.RowKit Go.Proofs.YtmndhgiblpfcgaaDoorW.PrintWords Go.Proofs.YtmndhgiblpfcgaaDoorW.PrintLast Go.Proofs.YtmndhgiblpfcgaaDoorW.PrintMore
set_option linter.unusedVariables false
set_option linter.unusedSimpArgs false

def encP (c : Wel.Scr.Cmd) : S37 := ⟨ba c.word, nats c.nums, ints c.bytes⟩
theorem check_f (c : Wel.Scr.Cmd) : script_Command_check.f (ba c.word) (nats c.nums) (ints c.bytes) = some (Wel.Scr.check c : Int) := by
  unfold script_Command_check.f Wel.Scr.check script_find.f findR
  rw [ba_data, nats_length, ints_length]
  cases Wel.Scr.shape c.word with
  | none => simp
  | some f =>
    obtain ⟨k, b⟩ := f
    simp only [Option.bind_some, if_true]
    by_cases h : c.nums.length = k
    · rw [if_pos (by omega)]
      cases b with
      | true => simp [h]
      | false =>
        by_cases hb : c.bytes = []
        · simp [h, hb]
        · have := Wel.Scr.pos_len hb
          simp [h, hb, this]
    · rw [if_neg (by omega), if_pos (.inl h)]; rfl
theorem rd_enc (l : List Wel.Scr.Cmd) (i : Nat) (h : i < l.length) : rd_T37 (l.map encP) (i : Int) = encP l[i] := by
  unfold rd_T37
  rw [Int.toNat_natCast, List.getD_eq_getElem?_getD, List.getElem?_map, List.getElem?_eq_getElem h]; rfl
def cmdSmall (c : Wel.Scr.Cmd) : Prop := c.word.length ≤ 1099511627776 ∧ c.nums.length ≤ 1099511627776 ∧ c.bytes.length ≤ 1099511627776 ∧ Wel.Scr.okNums c
theorem line_len (c : Wel.Scr.Cmd) (h : cmdSmall c) (hb : c.bytes.length ≤ 65536) : (Wel.Scr.line c).length ≤ 30786325577728 + 131100 := by
  obtain ⟨h1, h2, h3, h4⟩ := h
  obtain ⟨word, nums, bs⟩ := c
  simp only at h1 h2 h3 hb
  rw [line_eq]
  have h5 := numsL_len (l := nums) h4
  have h6 : (Wel.Scr.hexOr bs).length ≤ 2 * bs.length + 1 := by
    unfold Wel.Scr.hexOr
    split
    · simp
    · rw [Wel.Scr.hex_length]; omega
  simp only [List.length_append, List.length_cons, List.length_nil]
  split
  · simp only [List.length_cons]; omega
  · simp only [List.length_nil]; omega
/-- What the call hands back. -/
def PrintPost (w : World) (r : List UInt8 × Nat) (e : Ending) (w' : World) : Prop := e = .returned (.tuple #[.string (ba r.1), .int .i64 r.2]) ∧ Below w.heap.size w w'

set_option maxHeartbeats 2000000 in
set_option maxRecDepth 100000 in
theorem print_walk (l : List Wel.Scr.Cmd) (A : Option Addr) (c : Nat) (w : World) (hI : Inv w) (hr : Kd.C k37 w A l.length (l.map encP)) (hc : l.length ≤ c) (hl : l.length ≤ 9223372036854775807) (hs : ∀ c, c ∈ l → cmdSmall c) (r : List UInt8 × Nat) (hR : r = Wel.Scr.print l) :
    Calls Tryd.prog 10 #[.slice A l.length c] w (PrintPost w r) := by
  replace hI := Aside0.mk hI
  replace hr := Aside0.mk hr
  replace hs := Aside0.mk hs
  replace hR := Aside0.mk hR
  go_enter Tryd.func10, Tryd.ntmps10
  go_wp2_with fail
  go_loopw [12] (fun s12 wr => ∃ (i : Nat), s12 = .int .i64 i ∧ Aside0 (i ≤ l.length ∧ Below w.heap.size w wr ∧ Wel.Scr.firstBad (l.take i) = 0)) (fun s12 _ => l.length - (intOf s12).toNat)
  case atStart => exact ⟨0, rfl, ⟨Nat.zero_le _, Below.refl _ _, rfl⟩⟩
  case round =>
    obtain ⟨i, rfl, HREL⟩ := hrel
    obtain ⟨hin, hbr, hfb⟩ := HREL.out
    clear HREL
    replace hfb := Aside0.mk hfb
    by_cases hlt : i < l.length
    · have hltI : (i : Int) < (l.length : Int) := by omega
      have hi0 : (0 : Int) ≤ (i : Int) := by omega
      obtain ⟨ad, A1, c1, A2, c2, e, g0, g1, g2, hc1, hr1, hc2, hr2⟩ := at_T37 (Kd.C_below hr.out hbr) (i : Int) (by omega) (by omega)
      cases e
      rw [rd_enc l i hlt] at g0 g1 g2 hc1 hr1 hc2 hr2
      rw [Int.toNat_natCast] at g0 g1 g2
      have hsm := hs.out l[i] (List.getElem_mem hlt)
      obtain ⟨hok, hno⟩ := Wel.Scr.firstBad_at hlt hfb.out
      generalize l[i] = x at g0 g1 g2 hc1 hr1 hc2 hr2 hsm hok hno
      replace g0 : wr.cell? (ad.add (i * 3)) = some (.string (ba x.word)) := g0
      replace g1 : wr.cell? ⟨(ad.add (i * 3)).block, (ad.add (i * 3)).off + 1, none⟩ = some (.slice A1 (nats x.nums).length c1) := g1
      replace g2 : wr.cell? ⟨(ad.add (i * 3)).block, (ad.add (i * 3)).off + 2, none⟩ = some (.slice A2 (ints x.bytes).length c2) := g2
      replace hc1 := Aside0.mk hc1
      replace hc2 := Aside0.mk hc2
      replace hr1 := Aside0.mk hr1
      replace hr2 := Aside0.mk hr2
      replace hbr := Aside0.mk hbr
      replace hsm := Aside0.mk hsm
      have hck := fun W (hW : Below wr.heap.size wr W) => script_Command_check.calls (ba x.word) A1 c1 (nats x.nums) A2 c2 (ints x.bytes) (Wel.Scr.check x : Int) W (Kd.C_below hr1.out hW) hc1.out (Kd.C_below hr2.out hW) hc2.out (check_f x)
      replace hck := Aside0.mk hck
      by_cases hz : Wel.Scr.check x = 0
      · replace hok := Aside0.mk (hok hz)
        rw [hz] at hck
        clear hno hz
        go_wp2_with ((go_at_call 20; refine (hck.out _ ((Below.refl _ _).alloc (Nat.le_refl _) _)).mono ?_; rintro e w3 ⟨rfl, hb3⟩; replace hb3 := Aside0.mk hb3))
        go_roundw
        case rel => exact ⟨i + 1, rfl, ⟨hlt, (hbr.out.alloc hbr.out.size _).trans (hb3.out.mono (by have := hbr.out.size; simp; omega)), hok.out⟩⟩
        case measure => simp [intOf]; omega
      · replace hno := Aside0.mk (hno hz)
        have hzI : ¬ ((Wel.Scr.check x : Int) = 0) := by omega
        have hzB : ((Wel.Scr.check x : Int) != 0) = true := by rw [bne_iff_ne]; omega
        clear hok hz
        generalize Wel.Scr.check x = q at hck hno hzI hzB
        replace hzI := Aside0.mk hzI
        go_wp2_with ((go_at_call 20; refine (hck.out _ ((Below.refl _ _).alloc (Nat.le_refl _) _)).mono ?_; rintro e w3 ⟨rfl, hb3⟩; replace hb3 := Aside0.mk hb3))
        go_ret2
        refine ⟨by rw [hR.out, hno.out]; rfl, (hbr.out.alloc hbr.out.size _).trans (hb3.out.mono (by have := hbr.out.size; simp; omega))⟩
    · obtain rfl : i = l.length := by omega
      rw [List.take_length] at hfb
      have hltI : ¬ (l.length : Int) < (l.length : Int) := by omega
      replace hbr := Aside0.mk hbr
      have hP : r = Wel.Scr.printL [] l := by rw [hR.out, Wel.Scr.print, if_neg (by rw [hfb.out]; simp)]
      replace hP := Aside0.mk hP
      obtain ⟨wo, rfl⟩ : ∃ wo : World, wo = wr := ⟨_, rfl⟩
      have hfr := LB_fresh wo
      have hB0 : Below w.heap.size w (wo.alloc (.cells #[.pointer none, .slice none 0 0] 59)) := hbr.out.alloc hbr.out.size _
      have hsz : w.heap.size ≤ wo.heap.size := hbr.out.size
      replace hfr := Aside0.mk hfr
      replace hB0 := Aside0.mk hB0
      go_wp2_with fail
      go_loopw [24] (fun s24 wz => ∃ (i : Nat), s24 = .int .i64 i ∧ Aside0 (i ≤ l.length ∧ ∃ acc : List UInt8, LB wo.heap.size acc wz ∧ acc.length ≤ 65536 ∧ Below w.heap.size w wz ∧ r = Wel.Scr.printL acc (l.drop i))) (fun s24 _ => l.length - (intOf s24).toNat)
      case atStart => exact ⟨0, rfl, ⟨Nat.zero_le _, [], hfr.out, by simp, hB0.out, hP.out⟩⟩
      case round =>
        obtain ⟨i, rfl, HREL⟩ := hrel
        obtain ⟨hin, acc, hlb, hacc, hbz, hP2⟩ := HREL.out
        clear HREL hP
        replace hP2 := Aside0.mk hP2
        by_cases hlt : i < l.length
        · have hltI : (i : Int) < (l.length : Int) := by omega
          have hi0 : (0 : Int) ≤ (i : Int) := by omega
          obtain ⟨ad, A1, c1, A2, c2, e, g0, g1, g2, hc1, hr1, hc2, hr2⟩ := at_T37 (Kd.C_below hr.out hbz) (i : Int) (by omega) (by omega)
          cases e
          rw [rd_enc l i hlt] at g0 g1 g2 hc1 hr1 hc2 hr2
          rw [Int.toNat_natCast] at g0 g1 g2
          have hsm := hs.out l[i] (List.getElem_mem hlt)
          have hat := Wel.Scr.printL_at hlt acc
          generalize l[i] = x at g0 g1 g2 hc1 hr1 hc2 hr2 hsm hat
          replace g0 : wr.cell? (ad.add (i * 3)) = some (.string (ba x.word)) := g0
          replace g1 : wr.cell? ⟨(ad.add (i * 3)).block, (ad.add (i * 3)).off + 1, none⟩ = some (.slice A1 (nats x.nums).length c1) := g1
          replace g2 : wr.cell? ⟨(ad.add (i * 3)).block, (ad.add (i * 3)).off + 2, none⟩ = some (.slice A2 (ints x.bytes).length c2) := g2
          replace hc1 := Aside0.mk hc1
          replace hc2 := Aside0.mk hc2
          replace hr1 := Aside0.mk hr1
          replace hr2 := Aside0.mk hr2
          replace hbz := Aside0.mk hbz
          replace hsm := Aside0.mk hsm
          replace hlb := Aside0.mk hlb
          by_cases hbig : 65536 < x.bytes.length
          · have hbigI : (65536 : Int) < ((ints x.bytes).length : Int) := by rw [ints_length]; omega
            have hr2' : r = ([], 16) := by rw [hP2.out, hat, if_pos hbig]
            subst hr2'
            clear hat hP2
            replace hbig := Aside0.mk hbig
            go_wp2_with fail
            go_ret2
            exact ⟨rfl, hbz.out.alloc hbz.out.size _⟩
          · have hbigI : ¬ (65536 : Int) < ((ints x.bytes).length : Int) := by rw [ints_length]; omega
            have hbigB : decide ((65536 : Int) < ((ints x.bytes).length : Int)) = false := decide_eq_false hbigI
            have hP3 : r = if 65536 < (acc ++ Wel.Scr.line x).length then ([], 16) else Wel.Scr.printL (acc ++ Wel.Scr.line x) (l.drop (i + 1)) := by rw [hP2.out, hat, if_neg hbig]
            have hline := fun W (hW : Below wr.heap.size wr W) => line_walk x.word x.nums x.bytes A1 c1 A2 c2 W (hI.out.below (hbz.out.trans (hW.mono hbz.out.size))) (Kd.C_below hr1.out hW) hc1.out (Kd.C_below hr2.out hW) hc2.out hsm.out.1 hsm.out.2.1 (by omega) hsm.out.2.2.2
            have hlen := line_len x hsm.out (by omega)
            replace hline := Aside0.mk hline
            replace hbigI := Aside0.mk hbigI
            replace hP3 := Aside0.mk hP3
            clear hat hP2 hbig
            generalize hY : Wel.Scr.line x = Y at hP3 hlen
            replace hY := Aside0.mk hY
            by_cases hov : 65536 < (acc ++ Y).length
            · have hovI : (65536 : Int) < ((acc ++ Y).length : Int) := by omega
              have hP4 : r = ([], 16) := by rw [hP3.out, if_pos hov]
              subst hP4
              clear hP3
              replace hov := Aside0.mk hov
              have hovI2 : (65536 : Int) < (acc.length : Int) + (Y.length : Int) := by rw [List.length_append] at hovI; omega
              go_wp2_with (first
                | (go_at_call 22; refine (hline.out _ ((Below.refl _ _).alloc (Nat.le_refl _) _)).mono ?_; rintro e w3 ⟨rfl, hb3⟩; have hl3 := Aside0.mk (LB_below (LB_below hlb.out ((Below.refl _ wr).alloc (Nat.le_refl _) (.cells #[.string (ba x.word), .slice A1 (nats x.nums).length c1, .slice A2 (ints x.bytes).length c2] 37))) hb3); replace hb3 := Aside0.mk (((Below.refl _ wr).alloc (Nat.le_refl _) (.cells #[.string (ba x.word), .slice A1 (nats x.nums).length c1, .slice A2 (ints x.bytes).length c2] 37)).trans (hb3.mono (by simp))))
                | (go_at_call 21; refine (LB_wstr hl3.out (Wel.Scr.line x) (by rw [hY.out]; omega)).mono ?_; rintro e w4 ⟨rfl, hl4, hb4⟩; rw [hY.out] at hl4; replace hl4 := Aside0.mk hl4; replace hb4 := Aside0.mk hb4)
                | (go_at_call 23; refine (LB_len hl4.out).mono ?_; rintro e w5 ⟨rfl, rfl⟩))
              go_ret2
              exact ⟨rfl, hbz.out.trans ((hb3.out.mono hbz.out.size).trans (hb4.out.mono hsz))⟩
            · have hovI : ¬ (65536 : Int) < ((acc ++ Y).length : Int) := by omega
              have hP4 : r = Wel.Scr.printL (acc ++ Y) (l.drop (i + 1)) := by rw [hP3.out, if_neg hov]
              have hovN : (acc ++ Y).length ≤ 65536 := by omega
              clear hP3
              replace hov := Aside0.mk hov
              replace hP4 := Aside0.mk hP4
              replace hovN := Aside0.mk hovN
              have hovI2 : ¬ (65536 : Int) < (acc.length : Int) + (Y.length : Int) := by rw [List.length_append] at hovI; omega
              replace hovI := Aside0.mk hovI
              go_wp2_with (first
                | (go_at_call 22; refine (hline.out _ ((Below.refl _ _).alloc (Nat.le_refl _) _)).mono ?_; rintro e w3 ⟨rfl, hb3⟩; have hl3 := Aside0.mk (LB_below (LB_below hlb.out ((Below.refl _ wr).alloc (Nat.le_refl _) (.cells #[.string (ba x.word), .slice A1 (nats x.nums).length c1, .slice A2 (ints x.bytes).length c2] 37))) hb3); replace hb3 := Aside0.mk (((Below.refl _ wr).alloc (Nat.le_refl _) (.cells #[.string (ba x.word), .slice A1 (nats x.nums).length c1, .slice A2 (ints x.bytes).length c2] 37)).trans (hb3.mono (by simp))))
                | (go_at_call 21; refine (LB_wstr hl3.out (Wel.Scr.line x) (by rw [hY.out]; omega)).mono ?_; rintro e w4 ⟨rfl, hl4, hb4⟩; rw [hY.out] at hl4; replace hl4 := Aside0.mk hl4; replace hb4 := Aside0.mk hb4)
                | (go_at_call 23; refine (LB_len hl4.out).mono ?_; rintro e w5 ⟨rfl, rfl⟩))
              go_roundw
              case rel => exact ⟨i + 1, rfl, ⟨hlt, acc ++ Y, hl4.out, hovN.out, hbz.out.trans ((hb3.out.mono hbz.out.size).trans (hb4.out.mono hsz)), hP4.out⟩⟩
              case measure => simp [intOf]; omega
        · obtain rfl : i = l.length := by omega
          have hltI : ¬ (l.length : Int) < (l.length : Int) := by omega
          have hP3 : r = (acc, 0) := by rw [hP2.out, List.drop_length]; rfl
          subst hP3
          clear hP2
          replace hlb := Aside0.mk hlb
          replace hbz := Aside0.mk hbz
          go_wp2_with ((go_at_call 24; refine (LB_string hlb.out).mono ?_; rintro e w7 ⟨rfl, hb7⟩; replace hb7 := Aside0.mk hb7))
          go_ret2
          exact ⟨rfl, hbz.out.trans (hb7.out.mono hsz)⟩

/-! ### in the print's form -/
def decP (x : S37) : Wel.Scr.Cmd := ⟨x.f0.data.toList, x.f1.map Int.toNat, x.f2.map fun b => UInt8.ofNat b.toNat⟩
def fitP (x : S37) : Bool := decide (x.f0.size ≤ 1099511627776) && decide (x.f1.length ≤ 1099511627776) && decide (x.f2.length ≤ 1099511627776) && x.f1.all (fun n => decide (0 ≤ n ∧ n ≤ 18446744073709551615)) && x.f2.all (fun b => decide (0 ≤ b ∧ b ≤ 255))
theorem enc_dec {x : S37} (h : fitP x = true) : encP (decP x) = x ∧ cmdSmall (decP x) := by
  obtain ⟨a, ns, bs⟩ := x
  simp only [fitP, Bool.and_eq_true, decide_eq_true_eq, List.all_eq_true] at h
  obtain ⟨⟨⟨⟨h1, h2⟩, h3⟩, h4⟩, h5⟩ := h
  have e0 : ba a.data.toList = a := by cases a; simp [ba]
  have e1 : nats (ns.map Int.toNat) = ns := by
    unfold nats
    rw [List.map_map]
    conv => rhs; rw [← List.map_id ns]
    refine List.map_congr_left fun n hn => ?_
    have := (h4 n hn).1
    simp only [Function.comp_apply, id_eq]; omega
  have e2 : ints (bs.map fun b => UInt8.ofNat b.toNat) = bs := by
    unfold ints
    rw [List.map_map]
    conv => rhs; rw [← List.map_id bs]
    refine List.map_congr_left fun n hn => ?_
    have := h5 n hn
    simp only [Function.comp_apply, id_eq]
    rw [Wel.Scr.toNat_ofNat (by omega)]; omega
  refine ⟨?_, ?_⟩
  · simp only [encP, decP, e0, e1, e2]
  · refine ⟨h1, by simpa [decP] using h2, by simpa [decP] using h3, fun n hn => ?_⟩
    simp only [decP, List.mem_map] at hn
    obtain ⟨m, hm, rfl⟩ := hn
    have := h4 m hm
    omega
def script_Print.f (l0 : List S37) : Option (ByteArray × Int) := if l0.length ≤ 9223372036854775807 ∧ l0.all fitP = true then some (ba (Wel.Scr.print (l0.map decP)).1, ((Wel.Scr.print (l0.map decP)).2 : Int)) else none
theorem script_Print.calls (A0 : Option Addr) (c0 : Nat) (l0 : List S37) (r1 : ByteArray) (r2 : Int) (w : World) (hr0 : Kd.C k37 w A0 l0.length l0) (hc0 : l0.length ≤ c0) (hI : Inv w) (h : script_Print.f l0 = some (r1, r2)) :
    Calls Tryd.prog 10 #[.slice A0 l0.length c0] w fun e w' => e = .returned (.tuple #[.string r1, .int .i64 r2]) ∧ Below w.heap.size w w' := by
  unfold script_Print.f at h
  split at h
  case isFalse => cases h
  rename_i hf
  simp only [Option.some.injEq, Prod.mk.injEq] at h
  obtain ⟨rfl, rfl⟩ := h
  have hall := List.all_eq_true.1 hf.2
  have e : (l0.map decP).map encP = l0 := by
    rw [List.map_map]
    conv => rhs; rw [← List.map_id l0]
    exact List.map_congr_left fun x hx => (enc_dec (hall x hx)).1
  have hl : (l0.map decP).length = l0.length := List.length_map ..
  have := print_walk (l0.map decP) A0 c0 w hI (by rw [hl, e]; exact hr0) (by rw [hl]; exact hc0) (by rw [hl]; exact hf.1) (fun c hc => by
    obtain ⟨x, hx, rfl⟩ := List.mem_map.1 hc
    exact (enc_dec (hall x hx)).2) _ rfl
  rw [hl] at this
  exact this
end Go.Proofs.YtmndhgiblpfcgaaDoor.W
end

section
/-
The program's reading of a line (script.read): the early ends.
-/
namespace Go.Proofs.YtmndhgiblpfcgaaDoor.W
open Go.RowKit Go.Proofs.YtmndhgiblpfcgaaDoorW.PrintWords Go.Proofs.YtmndhgiblpfcgaaDoorW.PrintLast Go.Proofs.YtmndhgiblpfcgaaDoorW.PrintMore
set_option linter.unusedVariables false
set_option linter.unusedSimpArgs false

set_option maxHeartbeats 1000000 in
set_option maxRecDepth 100000 in
theorem read_noword (s p0 : List UInt8) (rest : List (List UInt8)) (PARTS : Array Value) (n : Nat) (w : World) (hp : ReadPre s p0 rest PARTS n w) (hs : Wel.Scr.shape p0 = none) :
    Calls Tryd.prog 18 #[.string (ba s)] w (ReadPost w (ba [], [], [], 20)) := by
  have hP0 := hp.hP0
  have hn0 : 0 < n := by have := hp.hn; omega
  have hfind : ∀ W, Calls Tryd.prog 31 #[.string (ba p0)] W fun e w' => e = .returned (.tuple #[.agg #[.string (ba []), .int .i64 0, .bool false], .bool false]) ∧ Below W.heap.size W w' := fun W => script_find.calls (ba p0) (ba []) 0 false false W (by rw [script_find.f, ba_data, findR, hs])
  replace hfind := Aside0.mk hfind
  replace hs := Aside0.mk hs
  go_enter Tryd.func18, Tryd.ntmps18
  go_wp2_with (first
    | (go_at_call 30; refine (hp.hsplit _).mono ?_; rintro e w1 ⟨rfl, rfl⟩)
    | (go_at_call 31; refine (hfind.out _).mono ?_; rintro e w2 ⟨rfl, hb2⟩; obtain ⟨hx2, hx4, hxb, hxz⟩ := read_w0 w PARTS w2 hb2)
    | (with_reducible refine wpList_store_row rfl 37 _ _ rfl w.heap.size cmd0 rfl rfl 37 cmd0 (blk_alloc hx2 _) cmd_sz rfl cmd_one ?_))
  refine bodyPost_ret (results_ct rfl _ _ w.heap.size 37 cmd0 (0, 0) _ rfl (setRow_heap _ _ _ _ _ _ (blk_alloc hx2 _)) Tryd.underlying37 rfl cmd_sz) rfl ?_
  exact read_bad _ (hxb.alloc (by omega) _)

set_option maxHeartbeats 1000000 in
set_option maxRecDepth 100000 in
theorem read_nolen (s p0 : List UInt8) (rest : List (List UInt8)) (PARTS : Array Value) (n : Nat) (w : World) (hp : ReadPre s p0 rest PARTS n w) (k : Nat) (b : Bool) (hs : Wel.Scr.shape p0 = some (k, b)) (hlen : rest.length ≠ k + (if b then 1 else 0)) :
    Calls Tryd.prog 18 #[.string (ba s)] w (ReadPost w (ba [], [], [], 14)) := by
  have hP0 := hp.hP0
  have hn0 : 0 < n := by have := hp.hn; omega
  have hk3 : k ≤ 3 := (Wel.Scr.shape_word hs).2.1
  have hfind : ∀ W, Calls Tryd.prog 31 #[.string (ba p0)] W fun e w' => e = .returned (.tuple #[.agg #[.string (ba p0), .int .i64 k, .bool b], .bool true]) ∧ Below W.heap.size W w' := fun W => script_find.calls (ba p0) (ba p0) k b true W (by rw [script_find.f, ba_data, findR, hs])
  replace hfind := Aside0.mk hfind
  replace hs := Aside0.mk hs
  have hn := Aside0.mk hp.hn
  have hn2 := hp.hn2
  cases b with
  | true =>
    have hq : ((n : Int) != 1 + (k : Int) + 1) = true := by have := hn.out; simp at hlen; rw [bne_iff_ne]; omega
    clear hlen
    go_enter Tryd.func18, Tryd.ntmps18
    go_wp2_with (first
      | (go_at_call 30; refine (hp.hsplit _).mono ?_; rintro e w1 ⟨rfl, rfl⟩)
      | (go_at_call 31; refine (hfind.out _).mono ?_; rintro e w2 ⟨rfl, hb2⟩; obtain ⟨hx2, hx4, hxb, hxz⟩ := read_w0 w PARTS w2 hb2)
      | (with_reducible refine wpList_store_row rfl 37 _ _ rfl w.heap.size cmd0 rfl rfl 37 cmd0 (blk_alloc hx2 _) cmd_sz rfl cmd_one ?_))
    refine bodyPost_ret (results_ct rfl _ _ w.heap.size 37 cmd0 (0, 0) _ rfl (setRow_heap _ _ _ _ _ _ (blk_alloc hx2 _)) Tryd.underlying37 rfl cmd_sz) rfl ?_
    exact read_bad _ (hxb.alloc (by omega) _)
  | false =>
    have hq : ((n : Int) != 1 + (k : Int)) = true := by have := hn.out; simp at hlen; rw [bne_iff_ne]; omega
    clear hlen
    go_enter Tryd.func18, Tryd.ntmps18
    go_wp2_with (first
      | (go_at_call 30; refine (hp.hsplit _).mono ?_; rintro e w1 ⟨rfl, rfl⟩)
      | (go_at_call 31; refine (hfind.out _).mono ?_; rintro e w2 ⟨rfl, hb2⟩; obtain ⟨hx2, hx4, hxb, hxz⟩ := read_w0 w PARTS w2 hb2)
      | (with_reducible refine wpList_store_row rfl 37 _ _ rfl w.heap.size cmd0 rfl rfl 37 cmd0 (blk_alloc hx2 _) cmd_sz rfl cmd_one ?_))
    refine bodyPost_ret (results_ct rfl _ _ w.heap.size 37 cmd0 (0, 0) _ rfl (setRow_heap _ _ _ _ _ _ (blk_alloc hx2 _)) Tryd.underlying37 rfl cmd_sz) rfl ?_
    exact read_bad _ (hxb.alloc (by omega) _)
end Go.Proofs.YtmndhgiblpfcgaaDoor.W
end

section
/-
The program's reading of a line (script.read): of a word with  bytes behind it.
-/
namespace Go.Proofs.YtmndhgiblpfcgaaDoor.W
open Go.RowKit Go.Proofs.YtmndhgiblpfcgaaDoorW.PrintWords Go.Proofs.YtmndhgiblpfcgaaDoorW.PrintLast Go.Proofs.YtmndhgiblpfcgaaDoorW.PrintMore
set_option linter.unusedVariables false
set_option linter.unusedSimpArgs false
set_option maxHeartbeats 2000000 in
set_option maxRecDepth 100000 in
theorem read_true (s p0 : List UInt8) (rest : List (List UInt8)) (PARTS : Array Value) (n : Nat) (w : World) (hI : Inv w) (hp : ReadPre s p0 rest PARTS n w) (k : Nat) (hs : Wel.Scr.shape p0 = some (k, true)) (hlen : rest.length = k + 1)
    (R : ByteArray × List Int × List Int × Int) (hR0 : R = (match Wel.Scr.readNums (rest.take k) with | none => (ba [], [], [], 14) | some l => (match Wel.Scr.readHex (rest.getD k []) with | none => (ba [], [], [], 14) | some h => (ba p0, nats l, ints h, 0)))) :
    Calls Tryd.prog 18 #[.string (ba s)] w (ReadPost w R) := by
  have hP0 := hp.hP0
  have hk3 : k ≤ 3 := (Wel.Scr.shape_word hs).2.1
  have hfind : ∀ W, Calls Tryd.prog 31 #[.string (ba p0)] W fun e w' => e = .returned (.tuple #[.agg #[.string (ba p0), .int .i64 k, .bool true], .bool true]) ∧ Below W.heap.size W w' := fun W => script_find.calls (ba p0) (ba p0) k true true W (by rw [script_find.f, ba_data, findR, hs])
  replace hfind := Aside0.mk hfind
  replace hs := Aside0.mk hs
  have HR := Aside0.mk hR0
  clear hR0
  obtain rfl : n = 1 + (k + 1) := by have := hp.hn; rw [hlen] at this; omega
  have hq : (1 + ((k : Int) + 1) != 1 + (k : Int) + 1) = false := by rw [bne_eq_false_iff_eq]; omega
  have hq1 : 0 ≤ 1 + (k : Int) ∧ 1 + (k : Int) ≤ ((1 + (k + 1) : Nat) : Int) := by omega
  have hn0 : 0 < 1 + (k + 1) := by omega
  replace hlen := Aside0.mk hlen
  obtain ⟨i0, hi, hz0, hz1, hz2⟩ := info_parts u64_info
  go_enter Tryd.func18, Tryd.ntmps18
  go_wp2_with (first
    | (go_at_call 30; refine (hp.hsplit _).mono ?_; rintro e w1 ⟨rfl, rfl⟩)
    | (go_at_call 31; refine (hfind.out _).mono ?_; rintro e w2 ⟨rfl, hb2⟩; obtain ⟨hx2, hx4, hxb, hxz⟩ := read_w0 w PARTS w2 hb2))
  have h3c : ((w2.alloc (.cells #[.string (ba p0), .int .i64 k, .bool true] 69)).alloc (.cells #[.string (ba p0), .slice none 0 0, .slice none 0 0] 37)).heap[w2.heap.size + 1]? = some (.cells #[.string (ba p0), .slice none 0 0, .slice none 0 0] 37 (0, 0)) := by
    have := blk_new (w2.alloc (.cells #[.string (ba p0), .int .i64 k, .bool true] 69)) (.cells #[.string (ba p0), .slice none 0 0, .slice none 0 0] 37)
    simpa using this
  have h3p : ((w2.alloc (.cells #[.string (ba p0), .int .i64 k, .bool true] 69)).alloc (.cells #[.string (ba p0), .slice none 0 0, .slice none 0 0] 37)).heap[w.heap.size + 1]? = some (.cells PARTS 9 (0, 0)) := blk_alloc (blk_alloc hx4 _) _
  have h3r : ((w2.alloc (.cells #[.string (ba p0), .int .i64 k, .bool true] 69)).alloc (.cells #[.string (ba p0), .slice none 0 0, .slice none 0 0] 37)).heap[w.heap.size]? = some (.cells cmd0 37 (0, 0)) := blk_alloc (blk_alloc hx2 _) _
  have h3f : ((w2.alloc (.cells #[.string (ba p0), .int .i64 k, .bool true] 69)).alloc (.cells #[.string (ba p0), .slice none 0 0, .slice none 0 0] 37)).heap[w2.heap.size]? = some (.cells #[.string (ba p0), .int .i64 k, .bool true] 69 (0, 0)) := blk_alloc (blk_new w2 _) _
  have h3b : Below w.heap.size w ((w2.alloc (.cells #[.string (ba p0), .int .i64 k, .bool true] 69)).alloc (.cells #[.string (ba p0), .slice none 0 0, .slice none 0 0] 37)) := (hxb.alloc (by omega) _).alloc (by simp only [World.alloc, Array.size_push]; omega) _
  have h3z : ((w2.alloc (.cells #[.string (ba p0), .int .i64 k, .bool true] 69)).alloc (.cells #[.string (ba p0), .slice none 0 0, .slice none 0 0] 37)).heap.size = w2.heap.size + 2 := by simp only [World.alloc, Array.size_push]
  generalize ((w2.alloc (.cells #[.string (ba p0), .int .i64 k, .bool true] 69)).alloc (.cells #[.string (ba p0), .slice none 0 0, .slice none 0 0] 37)) = W3 at h3c h3p h3r h3f h3b h3z ⊢
  replace h3p := Aside0.mk h3p
  replace h3r := Aside0.mk h3r
  replace h3f := Aside0.mk h3f
  replace h3b := Aside0.mk h3b
  replace h3c := Aside0.mk h3c
  replace h3z := Aside0.mk h3z
  replace hx2 := Aside0.mk hx2
  replace hx4 := Aside0.mk hx4
  replace hxb := Aside0.mk hxb
  replace hI := Aside0.mk hI
  rw [Nat.add_sub_cancel_left]
  go_loopw [10, 11, 12, 46] (fun _ _ _ s46 wr => ∃ (i : Nat), s46 = .int .i64 i ∧ Aside0 (∃ (nums : List Nat) (v8 : Value), i ≤ k ∧ Wel.Scr.readNums (rest.take i) = some nums ∧ nums.length = i ∧ Below (w2.heap.size + 1) W3 wr ∧ wr.heap[w2.heap.size + 1]? = some (.cells #[.string (ba p0), v8, .slice none 0 0] 37 (0, 0)) ∧ wr.ownsRow (w2.heap.size + 2) 48 1 v8 i ((nats nums).map (Value.int .u64)) ∧ wr.heap.size ≥ w2.heap.size + 2)) (fun _ _ _ s46 _ => k - (intOf s46).toNat)
  case atStart => exact ⟨0, rfl, ⟨[], _, Nat.zero_le _, rfl, rfl, Below.refl _ _, h3c.out, own_nil _ _ _ _, by have := h3z.out; omega⟩⟩
  case round =>
    obtain ⟨i, rfl, HREL⟩ := hrel
    obtain ⟨nums, v8, hik, hrn, hnl, hbr, hc8, hown, hsz⟩ := HREL.out
    clear HREL
    by_cases hlt : i < k
    · have hir : i < rest.length := by have := hlen.out; omega
      have hltI : (i : Int) < (k : Int) := by omega
      have hi0 : (0 : Int) ≤ (i : Int) := by omega
      have hpc : wr.cell? ⟨w.heap.size + 1, 1 + i, none⟩ = some (.string (ba (rest.getD i []))) := by
        rw [Lib.cell_of_heap (by rw [hbr.block _ (by omega)]; exact h3p.out)]
        exact hp.hPj i hir
      have hIr : Inv wr := hI.out.below (h3b.out.trans (hbr.mono (by omega)))
      have hnc : ∀ W, Inv W → Calls Tryd.prog 32 #[.string (ba (rest.getD i []))] W fun e w' => e = .returned (.tuple #[.int .u64 (readNR (rest.getD i [])).1, .bool (readNR (rest.getD i [])).2]) ∧ Below W.heap.size W w' := fun W hW => script_readNumber.calls (ba (rest.getD i [])) (readNR (rest.getD i [])).1 (readNR (rest.getD i [])).2 W hW (by rw [script_readNumber.f, ba_size, ba_data, if_pos (by have := hp.hpm i hir; omega)])
      have hts := take_snoc hir
      have hstop := readNums_stop (k := k) hir hlt
      have hrr : wr.heap[w.heap.size]? = some (.cells cmd0 37 (0, 0)) := (hbr.block _ (by omega)).trans h3r.out
      generalize rest.getD i [] = X at hpc hnc hts hstop
      replace hrr := Aside0.mk hrr
      replace hbr := Aside0.mk hbr
      replace hc8 := Aside0.mk hc8
      replace hown := Aside0.mk hown
      replace hts := Aside0.mk hts
      replace hrn := Aside0.mk hrn
      replace hnl := Aside0.mk hnl
      replace hIr := Aside0.mk hIr
      cases hno : Wel.Scr.numOf X with
      | none =>
        have hv : readNR X = (0, false) := by unfold readNR; rw [hno]
        rw [hv] at hnc
        simp only at hnc
        have HR2 : R = (ba [], [], [], 14) := by have := HR.out; rw [hstop hno] at this; exact this
        subst HR2
        replace hnc := Aside0.mk hnc
        clear HR hstop hno hv
        go_wp2_with (first
          | (go_at_call 32; refine (hnc.out _ hIr.out).mono ?_; rintro e w4 ⟨rfl, hb4⟩; have h4r : w4.heap[w.heap.size]? = some (.cells cmd0 37 (0, 0)) := (hb4.block _ (by omega)).trans hrr.out)
          | (with_reducible refine wpList_store_row rfl 37 _ _ rfl w.heap.size cmd0 rfl rfl 37 cmd0 h4r cmd_sz rfl cmd_one ?_))
        refine bodyPost_ret (results_ct rfl _ _ w.heap.size 37 cmd0 (0, 0) _ rfl (setRow_heap _ _ _ _ _ _ h4r) Tryd.underlying37 rfl cmd_sz) rfl ?_
        exact read_bad _ ((h3b.out.trans (hbr.out.mono (by omega))).trans (hb4.mono (by omega)))
      | some x =>
        have hv : readNR X = ((x : Int), true) := by unfold readNR; rw [hno]
        rw [hv] at hnc
        simp only at hnc
        replace hnc := Aside0.mk hnc
        replace hno := Aside0.mk hno
        clear hstop hv
        go_wp2_with (first
          | (go_at_call 32; refine (hnc.out _ hIr.out).mono ?_; rintro e w4 ⟨rfl, hb4⟩; have h48 : w4.heap[w2.heap.size + 1]? = some (.cells #[.string (ba p0), v8, .slice none 0 0] 37 (0, 0)) := (hb4.block _ (by omega)).trans hc8.out; have hown4 := pw_own_below hown.out hb4; have c81 : w4.cell? ⟨w2.heap.size + 1, 1, none⟩ = some v8 := by rw [Lib.cell_of_heap h48]; rfl)
          | (at_builtin; refine wpList_append_own _ rfl _ _ 34 rfl (w2.heap.size + 2) 48 i0 (.int .u64 0) 1 8 Tryd.underlying34 hi hz0 hz1 hz2 rfl (by decide) _ _ _ rfl (hown4.alloc _) ⟨w4.heap.size, 0, none⟩ 1 1 [.int .u64 x] rfl rfl ?c1 ?c2 ?c3 ?c4 ?c5 ?_))
        case c1 =>
          intro j u hj
          match j, hj with
          | 0, hj => simp at hj; subst hj; simp [Addr.add]
        case c2 => intro u hu; simp at hu; subst hu; rfl
        case c3 => unfold maxLen; omega
        case c4 => omega
        case c5 => have := hb4.size; simp only [World.alloc, Array.size_push]; omega
        intro v' w5 hown' hgrow hnn
        have hz4 := hb4.size
        have hne8 : some (w2.heap.size + 1) ≠ v8.ownBlock := fun e => by
          have := own_base hown4 _ e.symm
          omega
        have h58 : w5.heap[w2.heap.size + 1]? = some (.cells #[.string (ba p0), v8, .slice none 0 0] 37 (0, 0)) := by
          rw [hgrow.block _ (by simp only [World.alloc, Array.size_push]; omega) hne8, Lib.alloc_old _ _ _ (by omega)]
          exact h48
        have d81 : w5.cell? ⟨w2.heap.size + 1, 1, none⟩ = some v8 := by rw [Lib.cell_of_heap h58]; rfl
        have f81 : w5.frozen? ⟨w2.heap.size + 1, 1, none⟩ = false := Lib.frozen_of_heap h58 1
        obtain ⟨ao, n', cap, rfl⟩ : ∃ ao n' cap, v' = .slice ao n' cap := by
          rcases hown'.2 with ⟨hv', _⟩ | ⟨g, cap, cur, hv', _⟩
          · exact ⟨_, _, _, hv'⟩
          · exact ⟨_, _, _, hv'⟩
        have hbn : Below (w2.heap.size + 1) W3 w5 := (((hbr.out.trans (hb4.mono (by omega))).alloc (by omega) _).grown hgrow (by simp only [World.alloc, Array.size_push]; omega) (fun q hq => by have := own_base hown4 q hq; omega))
        replace h58 := Aside0.mk h58
        replace hown' := Aside0.mk hown'
        replace hbn := Aside0.mk hbn
        clear hne8 hgrow hnn h48 hown4
        go_wp2
        go_roundw
        case rel =>
          refine ⟨i + 1, rfl, ⟨nums ++ [x], _, hlt, ?_, by simp [hnl.out], hbn.out.setCell (by simp) _, blk_put h58.out 1 _ rfl, ?_, ?_⟩⟩
          · rw [hts.out, readNums_end, hrn.out, hno.out]; rfl
          · have := ownsRow_setCell_below hown'.out (a := ⟨w2.heap.size + 1, 1, none⟩) (by simp) (.slice ao n' cap)
            simpa [nats] using this
          · have := hbn.out.size
            have := h3z.out
            simp
            omega
        case measure => simp [intOf]; omega
    · obtain rfl : i = k := by omega
      have hltI : ¬ (i : Int) < (i : Int) := by omega
      have hrr : wr.heap[w.heap.size]? = some (.cells cmd0 37 (0, 0)) := (hbr.block _ (by omega)).trans h3r.out
      have hf5 : wr.cell? ⟨w2.heap.size, 2, none⟩ = some (.bool true) := by
        rw [Lib.cell_of_heap ((hbr.block _ (by omega)).trans h3f.out)]; rfl
      have hwd : Below w.heap.size w wr := h3b.out.trans (hbr.mono (by omega))
      rw [hrn] at HR
      have hkr : i < rest.length := by have := hlen.out; omega
      have hpc : wr.cell? ⟨w.heap.size + 1, 1 + i, none⟩ = some (.string (ba (rest.getD i []))) := by
        rw [Lib.cell_of_heap (by rw [hbr.block _ (by omega)]; exact h3p.out)]
        exact hp.hPj i hkr
      have hYl := hp.hpm i hkr
      generalize rest.getD i [] = Y at hpc HR hYl
      obtain ⟨K, hK⟩ := readBytes_ev Y (by omega)
      have hby := fun W => script_readBytes.calls K (ba Y) (bytesR Y).1 (bytesR Y).2 W (hK K (Nat.le_refl _))
      clear hK
      have hv8 : v8.oneCell' = true := by
        rcases hown.2 with ⟨hv', _⟩ | ⟨g, cap, cur, hv', _⟩ <;> rw [hv'] <;> rfl
      have hv8r : Kd.R (Kd.int .u64) 48 wr w.heap.size (fun _ => True) v8 (nats nums) := R_of_own (Value.int .u64) (fun _ => rfl) hown (by rw [nats_length, hnl]) (by omega)
      have hne : w2.heap.size + 1 ≠ w.heap.size := by omega
      replace hv8 := Aside0.mk hv8
      replace hv8r := Aside0.mk hv8r
      replace hrr := Aside0.mk hrr
      replace hbr := Aside0.mk hbr
      replace hc8 := Aside0.mk hc8
      replace hown := Aside0.mk hown
      replace hrn := Aside0.mk hrn
      replace hnl := Aside0.mk hnl
      replace hwd := Aside0.mk hwd
      replace hby := Aside0.mk hby
      have h1i : ((1 + (i + 1) : Nat) : Int) - 1 = ((1 + i : Nat) : Int) := by omega
      cases hrh : Wel.Scr.readHex Y with
      | none =>
        have hv : bytesR Y = ([], false) := by unfold bytesR; rw [hrh]
        rw [hv] at hby
        have HR2 : R = (ba [], [], [], 14) := by have := HR.out; simp only at this; rw [hrh] at this; exact this
        subst HR2
        clear HR hrh hv hYl
        go_wp2_with (first
          | (go_at_call 33; refine (hby.out _).mono ?_; rintro e w6 ⟨v6, rfl, ho6, hb6⟩; obtain ⟨a6, c6, rfl⟩ := Kd.R_slice ho6; have h68 : w6.heap[w2.heap.size + 1]? = some (.cells #[.string (ba p0), v8, .slice none 0 0] 37 (0, 0)) := (hb6.block _ (by omega)).trans hc8.out; have h6r : w6.heap[w.heap.size]? = some (.cells cmd0 37 (0, 0)) := (hb6.block _ (by omega)).trans hrr.out; have e2 : w6.cell? ⟨w2.heap.size + 1, 2, none⟩ = some (.slice none 0 0) := (by rw [Lib.cell_of_heap h68]; rfl); have e2f : w6.frozen? ⟨w2.heap.size + 1, 2, none⟩ = false := Lib.frozen_of_heap h68 2; replace h68 := Aside0.mk h68; replace h6r := Aside0.mk h6r; replace ho6 := Aside0.mk ho6; replace hb6 := Aside0.mk hb6)
          | (with_reducible refine wpList_store_row rfl 37 _ _ rfl w.heap.size cmd0 rfl rfl 37 cmd0 (blk_far (p := ⟨w2.heap.size + 1, 2, none⟩) h6r.out (Ne.symm hne) _) cmd_sz rfl cmd_one ?_))
        refine bodyPost_ret (results_ct rfl _ _ w.heap.size 37 cmd0 (0, 0) _ rfl (setRow_heap _ _ _ _ _ _ (blk_far (p := ⟨w2.heap.size + 1, 2, none⟩) h6r.out (Ne.symm hne) _)) Tryd.underlying37 rfl cmd_sz) rfl ?_
        exact read_bad _ ((hwd.out.trans (hb6.out.mono (by have := hwd.out.size; omega))).setCell (by simp; omega) _)
      | some hx =>
        have hv : bytesR Y = (ints hx, true) := by unfold bytesR; rw [hrh]
        rw [hv] at hby
        have HR2 : R = (ba p0, nats nums, ints hx, 0) := by have := HR.out; simp only at this; rw [hrh] at this; exact this
        subst HR2
        clear HR hrh hv hYl
        go_wp2_with (first
          | (go_at_call 33; refine (hby.out _).mono ?_; rintro e w6 ⟨v6, rfl, ho6, hb6⟩; obtain ⟨a6, c6, rfl⟩ := Kd.R_slice ho6; have h68 : w6.heap[w2.heap.size + 1]? = some (.cells #[.string (ba p0), v8, .slice none 0 0] 37 (0, 0)) := (hb6.block _ (by omega)).trans hc8.out; have h6r : w6.heap[w.heap.size]? = some (.cells cmd0 37 (0, 0)) := (hb6.block _ (by omega)).trans hrr.out; have e2 : w6.cell? ⟨w2.heap.size + 1, 2, none⟩ = some (.slice none 0 0) := (by rw [Lib.cell_of_heap h68]; rfl); have e2f : w6.frozen? ⟨w2.heap.size + 1, 2, none⟩ = false := Lib.frozen_of_heap h68 2; replace h68 := Aside0.mk h68; replace h6r := Aside0.mk h6r; replace ho6 := Aside0.mk ho6; replace hb6 := Aside0.mk hb6)
          | (with_reducible refine wpList_load_row rfl 37 _ rfl (w2.heap.size + 1) rfl 37 #[.string (ba p0), v8, .slice a6 (ints hx).length c6] (0, 0) _ (blk_put h68.out 2 _ rfl) Tryd.underlying37 rfl (cmd_size _ _ _) ?_)
          | (with_reducible refine wpList_store_row rfl 37 _ _ rfl w.heap.size #[.string (ba p0), v8, .slice a6 (ints hx).length c6] rfl rfl 37 cmd0 (blk_far (p := ⟨w2.heap.size + 1, 2, none⟩) h6r.out (Ne.symm hne) _) (cmd_size _ _ _) rfl (cmd_ones _ _ _ rfl hv8.out rfl) ?_))
        refine bodyPost_ret (results_ct rfl _ _ w.heap.size 37 #[.string (ba p0), v8, .slice a6 (ints hx).length c6] (0, 0) _ rfl (setRow_heap _ _ _ _ _ _ (blk_far (p := ⟨w2.heap.size + 1, 2, none⟩) h6r.out (Ne.symm hne) _)) Tryd.underlying37 rfl (cmd_size _ _ _)) rfl ?_
        exact read_good (w1 := w6.setCell ⟨w2.heap.size + 1, 2, none⟩ (.slice a6 (ints hx).length c6)) ((hwd.out.trans (hb6.out.mono (by have := hwd.out.size; omega))).setCell (by simp; omega) _) ⟨_, blk_far (p := ⟨w2.heap.size + 1, 2, none⟩) h6r.out (Ne.symm hne) _⟩ (Kd.R_mono (Kd.R_far (Kd.R_types (Kd.R_below hv8r.out hb6.out) h68.out (by decide)) (fun _ hk => hk.2) _) (fun _ _ => trivial)) (Kd.R_lower (Kd.R_mono (Kd.R_far (Kd.R_types ho6.out h68.out (by decide)) (fun _ hk => hk.2) _) (fun _ _ => trivial)) hwd.out.size)
end Go.Proofs.YtmndhgiblpfcgaaDoor.W
end

section
/-
The program's reading of a line (script.read): of a word with no bytes behind it.
-/
namespace Go.Proofs.YtmndhgiblpfcgaaDoor.W
open Go.RowKit Go.Proofs.YtmndhgiblpfcgaaDoorW.PrintWords Go.Proofs.YtmndhgiblpfcgaaDoorW.PrintLast Go.Proofs.YtmndhgiblpfcgaaDoorW.PrintMore
set_option linter.unusedVariables false
set_option linter.unusedSimpArgs false
set_option maxHeartbeats 2000000 in
set_option maxRecDepth 100000 in
theorem read_false1 (s p0 : List UInt8) (rest : List (List UInt8)) (PARTS : Array Value) (n : Nat) (w : World) (hI : Inv w) (hp : ReadPre s p0 rest PARTS n w) (k : Nat) (hk1 : 1 ≤ k) (hs : Wel.Scr.shape p0 = some (k, false)) (hlen : rest.length = k)
    (R : ByteArray × List Int × List Int × Int) (hR0 : R = (match Wel.Scr.readNums (rest.take k) with | none => (ba [], [], [], 14) | some l => (ba p0, nats l, [], 0))) :
    Calls Tryd.prog 18 #[.string (ba s)] w (ReadPost w R) := by
  have hP0 := hp.hP0
  have hk3 : k ≤ 3 := (Wel.Scr.shape_word hs).2.1
  have hfind : ∀ W, Calls Tryd.prog 31 #[.string (ba p0)] W fun e w' => e = .returned (.tuple #[.agg #[.string (ba p0), .int .i64 k, .bool false], .bool true]) ∧ Below W.heap.size W w' := fun W => script_find.calls (ba p0) (ba p0) k false true W (by rw [script_find.f, ba_data, findR, hs])
  replace hfind := Aside0.mk hfind
  replace hs := Aside0.mk hs
  have HR := Aside0.mk hR0
  clear hR0
  obtain rfl : n = 1 + k := by have := hp.hn; rw [hlen] at this; omega
  have hq : (1 + (k : Int) != 1 + (k : Int)) = false := by simp
  have hq1 : 0 ≤ 1 + (k : Int) ∧ 1 + (k : Int) ≤ ((1 + k : Nat) : Int) := by omega
  have hk1n : ((1 : Int) = 1 + (k : Int)) = False := eq_false (by omega)
  have hk1m : (1 = 1 + k) = False := eq_false (by omega)
  have hk1p : ((k : Int) = 0) = False := eq_false (by omega)
  have hk1q : (k = 0) = False := eq_false (by omega)
  have hn0 : 0 < 1 + k := by omega
  replace hlen := Aside0.mk hlen
  obtain ⟨i0, hi, hz0, hz1, hz2⟩ := info_parts u64_info
  go_enter Tryd.func18, Tryd.ntmps18
  go_wp2_with (first
    | (go_at_call 30; refine (hp.hsplit _).mono ?_; rintro e w1 ⟨rfl, rfl⟩)
    | (go_at_call 31; refine (hfind.out _).mono ?_; rintro e w2 ⟨rfl, hb2⟩; obtain ⟨hx2, hx4, hxb, hxz⟩ := read_w0 w PARTS w2 hb2))
  have h3c : ((w2.alloc (.cells #[.string (ba p0), .int .i64 k, .bool false] 69)).alloc (.cells #[.string (ba p0), .slice none 0 0, .slice none 0 0] 37)).heap[w2.heap.size + 1]? = some (.cells #[.string (ba p0), .slice none 0 0, .slice none 0 0] 37 (0, 0)) := by
    have := blk_new (w2.alloc (.cells #[.string (ba p0), .int .i64 k, .bool false] 69)) (.cells #[.string (ba p0), .slice none 0 0, .slice none 0 0] 37)
    simpa using this
  have h3p : ((w2.alloc (.cells #[.string (ba p0), .int .i64 k, .bool false] 69)).alloc (.cells #[.string (ba p0), .slice none 0 0, .slice none 0 0] 37)).heap[w.heap.size + 1]? = some (.cells PARTS 9 (0, 0)) := blk_alloc (blk_alloc hx4 _) _
  have h3r : ((w2.alloc (.cells #[.string (ba p0), .int .i64 k, .bool false] 69)).alloc (.cells #[.string (ba p0), .slice none 0 0, .slice none 0 0] 37)).heap[w.heap.size]? = some (.cells cmd0 37 (0, 0)) := blk_alloc (blk_alloc hx2 _) _
  have h3f : ((w2.alloc (.cells #[.string (ba p0), .int .i64 k, .bool false] 69)).alloc (.cells #[.string (ba p0), .slice none 0 0, .slice none 0 0] 37)).heap[w2.heap.size]? = some (.cells #[.string (ba p0), .int .i64 k, .bool false] 69 (0, 0)) := blk_alloc (blk_new w2 _) _
  have h3b : Below w.heap.size w ((w2.alloc (.cells #[.string (ba p0), .int .i64 k, .bool false] 69)).alloc (.cells #[.string (ba p0), .slice none 0 0, .slice none 0 0] 37)) := (hxb.alloc (by omega) _).alloc (by simp only [World.alloc, Array.size_push]; omega) _
  have h3z : ((w2.alloc (.cells #[.string (ba p0), .int .i64 k, .bool false] 69)).alloc (.cells #[.string (ba p0), .slice none 0 0, .slice none 0 0] 37)).heap.size = w2.heap.size + 2 := by simp only [World.alloc, Array.size_push]
  generalize ((w2.alloc (.cells #[.string (ba p0), .int .i64 k, .bool false] 69)).alloc (.cells #[.string (ba p0), .slice none 0 0, .slice none 0 0] 37)) = W3 at h3c h3p h3r h3f h3b h3z ⊢
  replace h3p := Aside0.mk h3p
  replace h3r := Aside0.mk h3r
  replace h3f := Aside0.mk h3f
  replace h3b := Aside0.mk h3b
  replace h3c := Aside0.mk h3c
  replace h3z := Aside0.mk h3z
  replace hx2 := Aside0.mk hx2
  replace hx4 := Aside0.mk hx4
  replace hxb := Aside0.mk hxb
  replace hI := Aside0.mk hI
  rw [Nat.add_sub_cancel_left]
  go_loopw [10, 11, 12, 46] (fun _ _ _ s46 wr => ∃ (i : Nat), s46 = .int .i64 i ∧ Aside0 (∃ (nums : List Nat) (v8 : Value), i ≤ k ∧ Wel.Scr.readNums (rest.take i) = some nums ∧ nums.length = i ∧ Below (w2.heap.size + 1) W3 wr ∧ wr.heap[w2.heap.size + 1]? = some (.cells #[.string (ba p0), v8, .slice none 0 0] 37 (0, 0)) ∧ wr.ownsRow (w2.heap.size + 2) 48 1 v8 i ((nats nums).map (Value.int .u64)) ∧ wr.heap.size ≥ w2.heap.size + 2)) (fun _ _ _ s46 _ => k - (intOf s46).toNat)
  case atStart => exact ⟨0, rfl, ⟨[], _, Nat.zero_le _, rfl, rfl, Below.refl _ _, h3c.out, own_nil _ _ _ _, by have := h3z.out; omega⟩⟩
  case round =>
    obtain ⟨i, rfl, HREL⟩ := hrel
    obtain ⟨nums, v8, hik, hrn, hnl, hbr, hc8, hown, hsz⟩ := HREL.out
    clear HREL
    by_cases hlt : i < k
    · have hir : i < rest.length := by have := hlen.out; omega
      have hltI : (i : Int) < (k : Int) := by omega
      have hi0 : (0 : Int) ≤ (i : Int) := by omega
      have hpc : wr.cell? ⟨w.heap.size + 1, 1 + i, none⟩ = some (.string (ba (rest.getD i []))) := by
        rw [Lib.cell_of_heap (by rw [hbr.block _ (by omega)]; exact h3p.out)]
        exact hp.hPj i hir
      have hIr : Inv wr := hI.out.below (h3b.out.trans (hbr.mono (by omega)))
      have hnc : ∀ W, Inv W → Calls Tryd.prog 32 #[.string (ba (rest.getD i []))] W fun e w' => e = .returned (.tuple #[.int .u64 (readNR (rest.getD i [])).1, .bool (readNR (rest.getD i [])).2]) ∧ Below W.heap.size W w' := fun W hW => script_readNumber.calls (ba (rest.getD i [])) (readNR (rest.getD i [])).1 (readNR (rest.getD i [])).2 W hW (by rw [script_readNumber.f, ba_size, ba_data, if_pos (by have := hp.hpm i hir; omega)])
      have hts := take_snoc hir
      have hstop := readNums_stop (k := k) hir hlt
      have hrr : wr.heap[w.heap.size]? = some (.cells cmd0 37 (0, 0)) := (hbr.block _ (by omega)).trans h3r.out
      generalize rest.getD i [] = X at hpc hnc hts hstop
      replace hrr := Aside0.mk hrr
      replace hbr := Aside0.mk hbr
      replace hc8 := Aside0.mk hc8
      replace hown := Aside0.mk hown
      replace hts := Aside0.mk hts
      replace hrn := Aside0.mk hrn
      replace hnl := Aside0.mk hnl
      replace hIr := Aside0.mk hIr
      cases hno : Wel.Scr.numOf X with
      | none =>
        have hv : readNR X = (0, false) := by unfold readNR; rw [hno]
        rw [hv] at hnc
        simp only at hnc
        have HR2 : R = (ba [], [], [], 14) := by have := HR.out; rw [hstop hno] at this; exact this
        subst HR2
        replace hnc := Aside0.mk hnc
        clear HR hstop hno hv
        go_wp2_with (first
          | (go_at_call 32; refine (hnc.out _ hIr.out).mono ?_; rintro e w4 ⟨rfl, hb4⟩; have h4r : w4.heap[w.heap.size]? = some (.cells cmd0 37 (0, 0)) := (hb4.block _ (by omega)).trans hrr.out)
          | (with_reducible refine wpList_store_row rfl 37 _ _ rfl w.heap.size cmd0 rfl rfl 37 cmd0 h4r cmd_sz rfl cmd_one ?_))
        refine bodyPost_ret (results_ct rfl _ _ w.heap.size 37 cmd0 (0, 0) _ rfl (setRow_heap _ _ _ _ _ _ h4r) Tryd.underlying37 rfl cmd_sz) rfl ?_
        exact read_bad _ ((h3b.out.trans (hbr.out.mono (by omega))).trans (hb4.mono (by omega)))
      | some x =>
        have hv : readNR X = ((x : Int), true) := by unfold readNR; rw [hno]
        rw [hv] at hnc
        simp only at hnc
        replace hnc := Aside0.mk hnc
        replace hno := Aside0.mk hno
        clear hstop hv
        go_wp2_with (first
          | (go_at_call 32; refine (hnc.out _ hIr.out).mono ?_; rintro e w4 ⟨rfl, hb4⟩; have h48 : w4.heap[w2.heap.size + 1]? = some (.cells #[.string (ba p0), v8, .slice none 0 0] 37 (0, 0)) := (hb4.block _ (by omega)).trans hc8.out; have hown4 := pw_own_below hown.out hb4; have c81 : w4.cell? ⟨w2.heap.size + 1, 1, none⟩ = some v8 := by rw [Lib.cell_of_heap h48]; rfl)
          | (at_builtin; refine wpList_append_own _ rfl _ _ 34 rfl (w2.heap.size + 2) 48 i0 (.int .u64 0) 1 8 Tryd.underlying34 hi hz0 hz1 hz2 rfl (by decide) _ _ _ rfl (hown4.alloc _) ⟨w4.heap.size, 0, none⟩ 1 1 [.int .u64 x] rfl rfl ?c1 ?c2 ?c3 ?c4 ?c5 ?_))
        case c1 =>
          intro j u hj
          match j, hj with
          | 0, hj => simp at hj; subst hj; simp [Addr.add]
        case c2 => intro u hu; simp at hu; subst hu; rfl
        case c3 => unfold maxLen; omega
        case c4 => omega
        case c5 => have := hb4.size; simp only [World.alloc, Array.size_push]; omega
        intro v' w5 hown' hgrow hnn
        have hz4 := hb4.size
        have hne8 : some (w2.heap.size + 1) ≠ v8.ownBlock := fun e => by
          have := own_base hown4 _ e.symm
          omega
        have h58 : w5.heap[w2.heap.size + 1]? = some (.cells #[.string (ba p0), v8, .slice none 0 0] 37 (0, 0)) := by
          rw [hgrow.block _ (by simp only [World.alloc, Array.size_push]; omega) hne8, Lib.alloc_old _ _ _ (by omega)]
          exact h48
        have d81 : w5.cell? ⟨w2.heap.size + 1, 1, none⟩ = some v8 := by rw [Lib.cell_of_heap h58]; rfl
        have f81 : w5.frozen? ⟨w2.heap.size + 1, 1, none⟩ = false := Lib.frozen_of_heap h58 1
        obtain ⟨ao, n', cap, rfl⟩ : ∃ ao n' cap, v' = .slice ao n' cap := by
          rcases hown'.2 with ⟨hv', _⟩ | ⟨g, cap, cur, hv', _⟩
          · exact ⟨_, _, _, hv'⟩
          · exact ⟨_, _, _, hv'⟩
        have hbn : Below (w2.heap.size + 1) W3 w5 := (((hbr.out.trans (hb4.mono (by omega))).alloc (by omega) _).grown hgrow (by simp only [World.alloc, Array.size_push]; omega) (fun q hq => by have := own_base hown4 q hq; omega))
        replace h58 := Aside0.mk h58
        replace hown' := Aside0.mk hown'
        replace hbn := Aside0.mk hbn
        clear hne8 hgrow hnn h48 hown4
        go_wp2
        go_roundw
        case rel =>
          refine ⟨i + 1, rfl, ⟨nums ++ [x], _, hlt, ?_, by simp [hnl.out], hbn.out.setCell (by simp) _, blk_put h58.out 1 _ rfl, ?_, ?_⟩⟩
          · rw [hts.out, readNums_end, hrn.out, hno.out]; rfl
          · have := ownsRow_setCell_below hown'.out (a := ⟨w2.heap.size + 1, 1, none⟩) (by simp) (.slice ao n' cap)
            simpa [nats] using this
          · have := hbn.out.size
            have := h3z.out
            simp
            omega
        case measure => simp [intOf]; omega
    · obtain rfl : i = k := by omega
      have hltI : ¬ (i : Int) < (i : Int) := by omega
      have hrr : wr.heap[w.heap.size]? = some (.cells cmd0 37 (0, 0)) := (hbr.block _ (by omega)).trans h3r.out
      have hf5 : wr.cell? ⟨w2.heap.size, 2, none⟩ = some (.bool false) := by
        rw [Lib.cell_of_heap ((hbr.block _ (by omega)).trans h3f.out)]; rfl
      have hwd : Below w.heap.size w wr := h3b.out.trans (hbr.mono (by omega))
      rw [hrn] at HR
      have c1 : wr.cell? ⟨w2.heap.size + 1, 1, none⟩ = some v8 := by rw [Lib.cell_of_heap hc8]; rfl
      have hv8 : v8.oneCell' = true := by
        rcases hown.2 with ⟨hv', _⟩ | ⟨g, cap, cur, hv', _⟩ <;> rw [hv'] <;> rfl
      have hv8r : Kd.R (Kd.int .u64) 48 wr w.heap.size (fun _ => True) v8 (nats nums) := R_of_own (Value.int .u64) (fun _ => rfl) hown (by rw [nats_length, hnl]) (by omega)
      have hne : w2.heap.size + 1 ≠ w.heap.size := by omega
      replace hv8 := Aside0.mk hv8
      replace hv8r := Aside0.mk hv8r
      replace hrr := Aside0.mk hrr
      replace hbr := Aside0.mk hbr
      replace hc8 := Aside0.mk hc8
      replace hown := Aside0.mk hown
      replace hrn := Aside0.mk hrn
      replace hnl := Aside0.mk hnl
      replace hwd := Aside0.mk hwd
      have HR2 : R = (ba p0, nats nums, [], 0) := HR.out
      subst HR2
      clear HR
      go_wp2_with (first
          | (with_reducible refine wpList_load_row rfl 37 _ rfl (w2.heap.size + 1) rfl 37 #[.string (ba p0), v8, .slice none 0 0] (0, 0) _ hc8.out Tryd.underlying37 rfl (cmd_size _ _ _) ?_)
          | (with_reducible refine wpList_store_row rfl 37 _ _ rfl w.heap.size #[.string (ba p0), v8, .slice none 0 0] rfl rfl 37 cmd0 hrr.out (cmd_size _ _ _) rfl (cmd_ones _ _ _ rfl hv8.out rfl) ?_))
      refine bodyPost_ret (results_ct rfl _ _ w.heap.size 37 #[.string (ba p0), v8, .slice none 0 0] (0, 0) _ rfl (setRow_heap _ _ _ _ _ _ hrr.out) Tryd.underlying37 rfl (cmd_size _ _ _)) rfl ?_
      exact read_good hwd.out ⟨_, hrr.out⟩ hv8r.out (Kd.R_nil _ _ _ _ _)

set_option maxHeartbeats 2000000 in
set_option maxRecDepth 100000 in
theorem read_false0 (s p0 : List UInt8) (PARTS : Array Value) (w : World) (hp : ReadPre s p0 [] PARTS 1 w) (hs : Wel.Scr.shape p0 = some (0, false)) :
    Calls Tryd.prog 18 #[.string (ba s)] w (ReadPost w (ba p0, [], [], 0)) := by
  have hP0 := hp.hP0
  have hfind : ∀ W, Calls Tryd.prog 31 #[.string (ba p0)] W fun e w' => e = .returned (.tuple #[.agg #[.string (ba p0), .int .i64 0, .bool false], .bool true]) ∧ Below W.heap.size W w' := fun W => script_find.calls (ba p0) (ba p0) 0 false true W (by rw [script_find.f, ba_data, findR, hs]; rfl)
  replace hfind := Aside0.mk hfind
  replace hs := Aside0.mk hs
  go_enter Tryd.func18, Tryd.ntmps18
  go_wp2_with (first
    | (go_at_call 30; refine (hp.hsplit _).mono ?_; rintro e w1 ⟨rfl, rfl⟩)
    | (go_at_call 31; refine (hfind.out _).mono ?_; rintro e w2 ⟨rfl, hb2⟩; obtain ⟨hx2, hx4, hxb, hxz⟩ := read_w0 w PARTS w2 hb2))
  have h3c : ((w2.alloc (.cells #[.string (ba p0), .int .i64 0, .bool false] 69)).alloc (.cells #[.string (ba p0), .slice none 0 0, .slice none 0 0] 37)).heap[w2.heap.size + 1]? = some (.cells #[.string (ba p0), .slice none 0 0, .slice none 0 0] 37 (0, 0)) := by
    have := blk_new (w2.alloc (.cells #[.string (ba p0), .int .i64 0, .bool false] 69)) (.cells #[.string (ba p0), .slice none 0 0, .slice none 0 0] 37)
    simpa using this
  have h3r : ((w2.alloc (.cells #[.string (ba p0), .int .i64 0, .bool false] 69)).alloc (.cells #[.string (ba p0), .slice none 0 0, .slice none 0 0] 37)).heap[w.heap.size]? = some (.cells cmd0 37 (0, 0)) := blk_alloc (blk_alloc hx2 _) _
  have h3f : ((w2.alloc (.cells #[.string (ba p0), .int .i64 0, .bool false] 69)).alloc (.cells #[.string (ba p0), .slice none 0 0, .slice none 0 0] 37)).heap[w2.heap.size]? = some (.cells #[.string (ba p0), .int .i64 0, .bool false] 69 (0, 0)) := blk_alloc (blk_new w2 _) _
  have h3b : Below w.heap.size w ((w2.alloc (.cells #[.string (ba p0), .int .i64 0, .bool false] 69)).alloc (.cells #[.string (ba p0), .slice none 0 0, .slice none 0 0] 37)) := (hxb.alloc (by omega) _).alloc (by simp only [World.alloc, Array.size_push]; omega) _
  generalize ((w2.alloc (.cells #[.string (ba p0), .int .i64 0, .bool false] 69)).alloc (.cells #[.string (ba p0), .slice none 0 0, .slice none 0 0] 37)) = W3 at h3c h3r h3f h3b ⊢
  have hf5 : W3.cell? ⟨w2.heap.size, 2, none⟩ = some (.bool false) := by
    rw [Lib.cell_of_heap h3f]; rfl
  replace h3c := Aside0.mk h3c
  replace h3r := Aside0.mk h3r
  replace h3f := Aside0.mk h3f
  replace h3b := Aside0.mk h3b
  refine wp_loop_rounds 1 ?_
  rw [rounds_succ]
  go_wp2_with (first
          | (with_reducible refine wpList_load_row rfl 37 _ rfl (w2.heap.size + 1) rfl 37 #[.string (ba p0), .slice none 0 0, .slice none 0 0] (0, 0) _ h3c.out Tryd.underlying37 rfl (cmd_size _ _ _) ?_)
          | (with_reducible refine wpList_store_row rfl 37 _ _ rfl w.heap.size #[.string (ba p0), .slice none 0 0, .slice none 0 0] rfl rfl 37 cmd0 h3r.out (cmd_size _ _ _) rfl (cmd_ones _ _ _ rfl rfl rfl) ?_))
  refine bodyPost_ret (results_ct rfl _ _ w.heap.size 37 #[.string (ba p0), .slice none 0 0, .slice none 0 0] (0, 0) _ rfl (setRow_heap _ _ _ _ _ _ h3r.out) Tryd.underlying37 rfl (cmd_size _ _ _)) rfl ?_
  exact read_good h3b.out ⟨_, h3r.out⟩ (Kd.R_nil _ _ _ _ _) (Kd.R_nil _ _ _ _ _)
end Go.Proofs.YtmndhgiblpfcgaaDoor.W
end

section
/-
The program's reading of a line (script.read) is the plain one: the walk, joined.
-/
namespace Go.Proofs.YtmndhgiblpfcgaaDoor.W
open Go.RowKit Go.Proofs.YtmndhgiblpfcgaaDoorW.PrintWords Go.Proofs.YtmndhgiblpfcgaaDoorW.PrintLast Go.Proofs.YtmndhgiblpfcgaaDoorW.PrintMore
set_option linter.unusedVariables false
set_option linter.unusedSimpArgs false

theorem read_walk (s : List UInt8) (w : World) (hI : Inv w) (hlen : s.length ≤ 65536) : Calls Tryd.prog 18 #[.string (ba s)] w (ReadPost w (readR s)) := by
  obtain ⟨p0, rest, PARTS, n, hp⟩ := read_pre s w hI hlen
  have hR : readR s = (ba (Wel.Scr.read s).1.word, nats (Wel.Scr.read s).1.nums, ints (Wel.Scr.read s).1.bytes, ((Wel.Scr.read s).2 : Int)) := rfl
  rw [hR]
  clear hR
  unfold Wel.Scr.read
  rw [hp.hL]
  simp only
  cases hs : Wel.Scr.shape p0 with
  | none => exact read_noword s p0 rest PARTS n w hp hs
  | some f =>
    obtain ⟨k, b⟩ := f
    simp only
    by_cases hl : rest.length ≠ k + (if b then 1 else 0)
    · rw [if_pos hl]
      exact read_nolen s p0 rest PARTS n w hp k b hs hl
    · rw [if_neg hl]
      have hl' : rest.length = k + (if b then 1 else 0) := by omega
      cases b with
      | true =>
        refine read_true s p0 rest PARTS n w hI hp k hs hl' _ ?_
        cases Wel.Scr.readNums (rest.take k) with
        | none => rfl
        | some l =>
          simp only [if_true]
          cases Wel.Scr.readHex (rest.getD k []) <;> rfl
      | false =>
        simp only [Bool.false_eq_true, if_false, Nat.add_zero] at hl' ⊢
        by_cases hk : k = 0
        · subst hk
          obtain rfl : rest = [] := List.length_eq_zero_iff.1 hl'
          obtain rfl : n = 1 := hp.hn
          exact read_false0 s p0 PARTS w hp hs
        · refine read_false1 s p0 rest PARTS n w hI hp k (by omega) hs hl' _ ?_
          cases Wel.Scr.readNums (rest.take k) <;> rfl
def script_read.f (a0 : ByteArray) : Option (ByteArray × List Int × List Int × Int) := if a0.size ≤ 65536 then some (readR a0.data.toList) else none
theorem script_read.calls (a0 : ByteArray) (r1 : ByteArray) (r2 : List Int) (r3 : List Int) (r4 : Int) (w : World) (hI : Inv w) (h : script_read.f a0 = some (r1, r2, r3, r4)) :
    Calls Tryd.prog 18 #[.string a0] w fun e w' => ∃ v1_ v2_ : Value, e = .returned (.tuple #[.agg #[.string r1, v1_, v2_], .int .i64 r4]) ∧ Kd.R (Kd.int .u64) 48 w' w.heap.size (fun _ => True) v1_ r2 ∧ Kd.R (Kd.int .u8) 5 w' w.heap.size (fun _ => True) v2_ r3 ∧ Below w.heap.size w w' := by
  obtain ⟨s, rfl⟩ := ba_ex a0
  rw [script_read.f, ba_data, ba_size] at h
  split at h
  case isFalse => cases h
  rename_i hlen
  rw [Option.some.injEq] at h
  have := read_walk s w hI hlen
  rw [h] at this
  exact this
end Go.Proofs.YtmndhgiblpfcgaaDoor.W
end

section
namespace Go.Proofs.YtmndhgiblpfcgaaDoor.W
open Go.RowKit Go.Proofs.YtmndhgiblpfcgaaDoorW.PrintWords Go.Proofs.YtmndhgiblpfcgaaDoorW.PrintLast Go.Proofs.YtmndhgiblpfcgaaDoorW.PrintMore
attribute [local go_sem] max2_int min2_int max_two min_two max_three min_three max_four min_four
set_option linter.unusedVariables false
set_option linter.unusedSimpArgs false

/-! ### script_Parse: function 7 -/
mutual
def script_Parse.l0 : Nat → ByteArray → List (S37) → Int → Option ((List (S37)) × Int × Int)
 | 0, _, _, _ => none
 | k + 1, x0, x5, x6 => if x0.toList = ([] : List UInt8) then (some (x5, 0, 0)) else ((strings_Cut.f x0 (⟨#[10]⟩ : ByteArray)).bind fun bt142 => ((script_read.f bt142.1).bind fun bt145 => (if bt145.2.2.2 = 0 then (script_Parse.j1 k x5 x6 bt142.2.1 bt145.2.2.2 (!bt142.2.2) bt145.1 bt145.2.1 bt145.2.2.1) else (script_Parse.j1 k x5 x6 bt142.2.1 bt145.2.2.2 false bt145.1 bt145.2.1 bt145.2.2.1))))
def script_Parse.j1 : Nat → List (S37) → Int → ByteArray → Int → Bool → ByteArray → List Int → List Int → Option ((List (S37)) × Int × Int)
 | 0, _, _, _, _, _, _, _, _ => none
 | k + 1, x5, x6, x8, x11, x35, x154000, x154001, x154002 => if x35 = true then (if 14 = 0 then (if x5.length < 2199023255552 then (script_Parse.l0 k x8 (x5 ++ [(⟨x154000, x154001, x154002⟩ : S37)]) (wrap64 (x6 + 1))) else (none)) else (some (([] : List (S37)), x6, 14))) else (if x11 = 0 then (if x5.length < 2199023255552 then (script_Parse.l0 k x8 (x5 ++ [(⟨x154000, x154001, x154002⟩ : S37)]) (wrap64 (x6 + 1))) else (none)) else (some (([] : List (S37)), x6, x11)))
end
def script_Parse.f (k : Nat) (a0 : ByteArray) : Option ((List (S37)) × Int × Int) := if (a0.size : Int) > 65536 then (some (([] : List (S37)), 0, 16)) else (script_Parse.l0 k a0 ([] : List (S37)) 1)
theorem script_Parse.mono_l : ∀ k, (∀ y0 y1 y2, LeO (script_Parse.l0 k y0 y1 y2) (script_Parse.l0 (k + 1) y0 y1 y2)) ∧ (∀ y0 y1 y2 y3 y4 y5 y6 y7, LeO (script_Parse.j1 k y0 y1 y2 y3 y4 y5 y6 y7) (script_Parse.j1 (k + 1) y0 y1 y2 y3 y4 y5 y6 y7))
 | 0 => ⟨fun _ _ _ r h => by simp [script_Parse.l0] at h, fun _ _ _ _ _ _ _ _ r h => by simp [script_Parse.j1] at h⟩
 | k + 1 => by
  obtain ⟨ih0, ih1⟩ := script_Parse.mono_l k
  refine ⟨?_, ?_⟩
  ·intro y0 y1 y2
   unfold script_Parse.l0
   repeat' first
   | (with_reducible exact ih0 _ _ _)
   | (with_reducible exact ih1 _ _ _ _ _ _ _ _)
   | (with_reducible exact LeO.refl _)
   | (with_reducible exact LeO.none _)
   | (with_reducible refine LeO.ite ?_ ?_)
   | (with_reducible refine LeO.bind ?_ (fun _ => ?_))
   | exact ih0 _ _ _
   | exact ih1 _ _ _ _ _ _ _ _
   | exact LeO.none _
   | refine LeO.ite ?_ ?_
   | refine LeO.bind ?_ (fun _ => ?_)
  ·intro y0 y1 y2 y3 y4 y5 y6 y7
   unfold script_Parse.j1
   repeat' first
   | (with_reducible exact ih0 _ _ _)
   | (with_reducible exact ih1 _ _ _ _ _ _ _ _)
   | (with_reducible exact LeO.refl _)
   | (with_reducible exact LeO.none _)
   | (with_reducible refine LeO.ite ?_ ?_)
   | (with_reducible refine LeO.bind ?_ (fun _ => ?_))
   | exact ih0 _ _ _
   | exact ih1 _ _ _ _ _ _ _ _
   | exact LeO.none _
   | refine LeO.ite ?_ ?_
   | refine LeO.bind ?_ (fun _ => ?_)
theorem script_Parse.mono : ∀ a0 k, LeO (script_Parse.f k a0) (script_Parse.f (k + 1) a0) := by
 intro a0 k
 obtain ⟨ih0, ih1⟩ := script_Parse.mono_l k
 unfold script_Parse.f
 repeat' first
   | (with_reducible exact ih0 _ _ _)
   | (with_reducible exact ih1 _ _ _ _ _ _ _ _)
   | (with_reducible exact LeO.refl _)
   | (with_reducible exact LeO.none _)
   | (with_reducible refine LeO.ite ?_ ?_)
   | (with_reducible refine LeO.bind ?_ (fun _ => ?_))
   | exact ih0 _ _ _
   | exact ih1 _ _ _ _ _ _ _ _
   | exact LeO.none _
   | refine LeO.ite ?_ ?_
   | refine LeO.bind ?_ (fun _ => ?_)
set_option maxHeartbeats 8000000 in
set_option maxRecDepth 100000 in
theorem script_Parse.calls (k : Nat) (a0 : ByteArray) (r1 : List (S37)) (r2 : Int) (r3 : Int) (w : World) (hI : Inv w) (h : script_Parse.f k a0 = some (r1, r2, r3)) :
  Calls Tryd.prog 7 #[.string a0] w fun e w' => ∃ v0_ : Value, e = .returned (.tuple #[v0_, .int .i64 r2, .int .i64 r3]) ∧ Kd.S k37 37 w' w.heap.size (fun _ => True) v0_ r1 ∧ Below w.heap.size w w' := by
 have hu37 := Tryd.underlying37
 have HB := Aside0.mk (Below.refl w.heap.size w)
 have H : (if (a0.size : Int) > 65536 then (some (([] : List (S37)), 0, 16)) else (script_Parse.l0 k a0 ([] : List (S37)) 1)) = some (r1, r2, r3) := h
 clear h
 by_cases c2 : (a0.size : Int) > 65536
 ·rw [if_pos c2] at H
  have c2b0 : decide (65536 < (a0.size : Int)) = true := decide_eq_true c2
  have c2b1 : decide (65536 < a0.size) = true := decide_eq_true (by omega)
  clear c2
  simp only [Option.some.injEq, Prod.mk.injEq] at H
  obtain ⟨rfl, rfl, rfl⟩ := H
  go_enter Tryd.func7, Tryd.ntmps7
  go_wp2
  go_ret3
  exact ⟨_, by first | rfl | (simp [errW_none, errW_some] <;> rfl) | (simp [*, errW_none, errW_some] <;> rfl), by first | exact Kd.S_nil _ _ _ _ _ | exact Kd.N_nil _ _ _ _ _ | exact Kd.V_nil _ _ _ _ _ | exact Kd.Q_nil _ _ _ _ _ | exact Kd.R_nil _ _ _ _ _, by repeat (first | (with_reducible first | exact HB.out | apply below_alloc | apply pw_below_drewN | apply below_drew1) | exact HB.out)⟩
 ·rw [if_neg c2] at H
  have c2b0 : decide (65536 < (a0.size : Int)) = false := decide_eq_false c2
  have c2b1 : decide (65536 < a0.size) = false := decide_eq_false (by omega)
  clear c2
  have H' := Aside0.mk H
  clear H
  go_enter Tryd.func7, Tryd.ntmps7
  go_wp2
  go_loopg [0, 5, 6] k (fun kq v0 v5 v6 w' => ∃ (x0_1 : ByteArray) (x5_1 : List (S37)) (x6_1 : Int), v0 = .string x0_1 ∧ v6 = .int .i64 x6_1 ∧ Aside0 (script_Parse.l0 kq x0_1 x5_1 x6_1 = some (r1, r2, r3)) ∧ Aside0 (kq ≤ k) ∧ Aside0 (Kd.S k37 37 w' w.heap.size (fun _ => True) v5 x5_1) ∧ Aside0 (Below w.heap.size w w'))
  case atStart => exact ⟨(a0), (([] : List (S37))), (1), (by first | rfl | (simp; done) | (simp [*]; done)), (by first | rfl | (simp; done) | (simp [*]; done)), H', ⟨Nat.le_refl _⟩, ⟨by first | exact Kd.S_nil _ _ _ _ _ | exact Kd.N_nil _ _ _ _ _ | exact Kd.V_nil _ _ _ _ _ | exact Kd.Q_nil _ _ _ _ _ | exact Kd.R_nil _ _ _ _ _⟩, ⟨by repeat (first | (with_reducible first | exact HB.out | apply below_alloc | apply pw_below_drewN | apply below_drew1) | exact HB.out)⟩⟩
  case round =>
   clear H'
   try clear c2
   try clear c2b0
   try clear c2b1
   try clear p2
   obtain ⟨x0_1, x5_1, x6_1, rfl, rfl, HA, HK1, HO_5, HB⟩ := hrel
   cases gk with
   | zero => exact absurd HA.out (by simp [script_Parse.l0])
   | succ k1 =>
    have H := HA.out
    clear HA
    simp only [script_Parse.l0] at H
    by_cases c3 : x0_1.toList = ([] : List UInt8)
    ·rw [if_pos c3] at H
     have c3b0 : (x0_1.toList == ([] : List UInt8)) = true := beq_iff_eq.mpr c3
     have c3b1 : (x0_1.toList != ([] : List UInt8)) = false := bne_eq_false_iff_eq.mpr c3
     clear c3
     simp only [Option.some.injEq, Prod.mk.injEq] at H
     obtain ⟨rfl, rfl, rfl⟩ := H
     go_wp2
     go_ret3
     exact ⟨_, by first | rfl | (simp [errW_none, errW_some] <;> rfl) | (simp [*, errW_none, errW_some] <;> rfl), by (with_reducible repeat (first | apply Kd.S_alloc | apply Kd.S_drewN | apply Kd.S_drew)); exact HO_5.out, by repeat (first | (with_reducible first | exact HB.out | apply below_alloc | apply pw_below_drewN | apply below_drew1) | exact HB.out)⟩
    ·rw [if_neg c3] at H
     have c3b0 : (x0_1.toList == ([] : List UInt8)) = false := beq_eq_false_iff_ne.mpr c3
     have c3b1 : (x0_1.toList != ([] : List UInt8)) = true := bne_iff_ne.mpr c3
     replace H := Option.bind_eq_some_iff.mp H
     obtain ⟨⟨t142, t143, t144⟩, A40, H⟩ := H
     replace H : ((script_read.f t142).bind fun bt145 => (if bt145.2.2.2 = 0 then (script_Parse.j1 k1 x5_1 x6_1 t143 bt145.2.2.2 (!t144) bt145.1 bt145.2.1 bt145.2.2.1) else (script_Parse.j1 k1 x5_1 x6_1 t143 bt145.2.2.2 false bt145.1 bt145.2.1 bt145.2.2.1))) = some (r1, r2, r3) := H
     have A4 := Aside0.mk A40
     clear A40
     replace H := Option.bind_eq_some_iff.mp H
     obtain ⟨⟨t145, t146, t149, t152⟩, A50, H⟩ := H
     replace H : (if t152 = 0 then (script_Parse.j1 k1 x5_1 x6_1 t143 t152 (!t144) t145 t146 t149) else (script_Parse.j1 k1 x5_1 x6_1 t143 t152 false t145 t146 t149)) = some (r1, r2, r3) := H
     have A5 := Aside0.mk A50
     clear A50
     have HC6 := Aside0.mk H
     clear H
     go_upto_region 9 with (first | ((with_reducible refine gate_callee (f := 17) rfl ?_); refine goesL_ (some 21) rfl rfl Tryd.func17 (by kernel_rfl) rfl #[.string x0_1, .string (⟨#[10]⟩ : ByteArray)] rfl (by (try simp only [List.map_toArray, List.map_cons, List.map_nil]); first | done | rfl | (simp only [List.length_drop, List.length_take]; rfl)) ?_; (with_reducible refine (strings_Cut.calls x0_1 (⟨#[10]⟩ : ByteArray) t142 t143 t144 _ (by exact hI.below (by repeat (first | (with_reducible first | exact HB.out | exact (Below.refl _ _) | apply below_alloc | apply pw_below_drewN | apply below_drew1) | exact HB.out))) A4.out).mono ?_); rintro e w' ⟨rfl, ⟨nd, rfl⟩⟩; refine ⟨_, rfl, ?_⟩; (try (rw [drewN_self wr]; generalize hq_ : World.drewN wr _ = wr; have n0_ : Aside0 (Kd.S k37 37 wr w.heap.size (fun _ => True) u5 x5_1) := ⟨by rw [← hq_]; exact (by (with_reducible repeat (first | apply Kd.S_alloc | apply Kd.S_drewN | apply Kd.S_drew)); exact HO_5.out)⟩; have n1_ : Aside0 (Below w.heap.size w wr) := ⟨by rw [← hq_]; exact (by repeat (first | (with_reducible first | exact HB.out | apply below_alloc | apply pw_below_drewN | apply below_drew1) | exact HB.out))⟩; clear HO_5 HB hq_; have HO_5 := n0_; have HB := n1_; clear n0_ n1_))) | ((with_reducible refine gate_callee (f := 18) rfl ?_); refine goesL_ (some 27) rfl rfl Tryd.func18 (by kernel_rfl) rfl #[.string t142] rfl (by (try simp only [List.map_toArray, List.map_cons, List.map_nil]); first | done | rfl | (simp only [List.length_drop, List.length_take]; rfl)) ?_; (with_reducible refine (script_read.calls t142 t145 t146 t149 t152 _ (by exact hI.below (by repeat (first | (with_reducible first | exact HB.out | exact (Below.refl _ _) | apply below_alloc | apply pw_below_drewN | apply below_drew1) | exact HB.out))) A5.out).mono ?_); rintro e w7 ⟨v147, v150, rfl, ho0, ho1, hb⟩; refine ⟨_, rfl, ?_⟩; have n0_ := Aside0.mk (Kd.S_mono (Kd.S_told (Kd.S_told (Kd.S_old (by (with_reducible repeat (first | apply Kd.S_alloc | apply Kd.S_drewN | apply Kd.S_drew)); exact HO_5.out) hb) (Kd.R_base ho0)) (Kd.R_base ho1)) (fun _ h_ => h_.1)); have n1_ := Aside0.mk (Kd.R_lower ho0 (below_size (by repeat (first | (with_reducible first | exact HB.out | apply below_alloc | apply pw_below_drewN | apply below_drew1) | exact HB.out)))); have n2_ := Aside0.mk (Kd.R_lower ho1 (below_size (by repeat (first | (with_reducible first | exact HB.out | apply below_alloc | apply pw_below_drewN | apply below_drew1) | exact HB.out)))); have n3_ := Aside0.mk (below_step (by repeat (first | (with_reducible first | exact HB.out | apply below_alloc | apply pw_below_drewN | apply below_drew1) | exact HB.out)) hb); clear HO_5; clear HB; have HO_5 := n0_; have HO148 := n1_; have HO151 := n2_; have HB := n3_; clear n0_ n1_ n2_ n3_; (try clear hb); (try clear hb2); (try clear hk); (try clear hi); (try clear ho0); (try clear ho1)) | ((with_reducible refine gate_dst (N := 10) rfl ?_); refine box_event ?hg (N := 10) ?hd (cs := #[.string (⟨#[]⟩ : ByteArray), .slice none 0 0, .slice none 0 0]) (t := 37) ?hr ?_; (case hd => rfl); (case hg => rfl); (case hr => first | (go_simp; done) | (go_simp; rfl)); intro gb153 hg w8 hbox hb; have n0_ := Aside0.mk (Kd.S_below (Kd.S_elderB (by (with_reducible repeat (first | apply Kd.S_alloc | apply Kd.S_drewN | apply Kd.S_drew)); exact HO_5.out) gb153 (Nat.le_of_eq hg.symm)) hb); have n1_ := Aside0.mk (Kd.R_below (by (with_reducible repeat (first | apply Kd.R_alloc | apply Kd.R_drewN | apply Kd.R_drew)); exact HO148.out) hb); have n2_ := Aside0.mk (Kd.R_below (by (with_reducible repeat (first | apply Kd.R_alloc | apply Kd.R_drewN | apply Kd.R_drew)); exact HO151.out) hb); have n3_ := Aside0.mk (below_step (by repeat (first | (with_reducible first | exact HB.out | apply below_alloc | apply pw_below_drewN | apply below_drew1) | exact HB.out)) hb); have n4_ := Aside0.mk (hbox); have n5_ := Aside0.mk ((by rw [hg]; exact (below_size (by repeat (first | (with_reducible first | exact HB.out | apply below_alloc | apply pw_below_drewN | apply below_drew1) | exact HB.out))) : w.heap.size ≤ gb153)); have n6_ := Aside0.mk ((by rw [hg]; exact (below_size (by repeat (first | (with_reducible first | exact HB.out | apply below_alloc | apply pw_below_drewN | apply below_drew1) | exact HB.out))) : w.heap.size ≤ gb153)); clear HO_5; clear HO148; clear HO151; clear HB; have HO_5 := n0_; have HO148 := n1_; have HO151 := n2_; have HB := n3_; have BK153 := n4_; have GW153 := n5_; have GE153 := n6_; clear n0_ n1_ n2_ n3_ n4_ n5_ n6_; clear hb hbox hg; have hcz9_0 : w8.cell? ⟨gb153, 0, none⟩ = some (.string (⟨#[]⟩ : ByteArray)) := (blk_cell BK153.out 0).trans rfl; have hcz9_1 : w8.cell? ⟨gb153, 1, none⟩ = some (.slice none 0 0) := (blk_cell BK153.out 1).trans rfl; have hcz9_2 : w8.cell? ⟨gb153, 2, none⟩ = some (.slice none 0 0) := (blk_cell BK153.out 2).trans rfl; have hfz9_0 := blk_frozen BK153.out 0; have hfz9_1 := blk_frozen BK153.out 1; have hfz9_2 := blk_frozen BK153.out 2; obtain ⟨Ao10, co10, eo10⟩ := Kd.R_slice HO148.out; subst eo10; obtain ⟨Ao11, co11, eo11⟩ := Kd.R_slice HO151.out; subst eo11))
     (try simp only [Act.put, List.setIfInBounds_toArray, List.set_cons_zero, List.set_cons_succ])
     go_cut [35] (fun v35 wc => ∃ (kq : Nat) (x35_5 : Bool), v35 = .bool x35_5 ∧ Aside0 (script_Parse.j1 kq x5_1 x6_1 t143 t152 x35_5 t145 t146 t149 = some (r1, r2, r3)) ∧ Aside0 (kq ≤ k1) ∧ Aside0 (Kd.S k37 37 wc w.heap.size (fun k_ => some k_ ≠ ((.slice Ao10 t146.length co10) : Value).ownBlock ∧ some k_ ≠ ((.slice Ao11 t149.length co11) : Value).ownBlock ∧ k_ ≠ gb153) u5 x5_1) ∧ Aside0 (Kd.R (Kd.int .u64) 48 wc w.heap.size (fun _ => True) (.slice Ao10 t146.length co10) t146) ∧ Aside0 (Kd.R (Kd.int .u8) 5 wc w.heap.size (fun _ => True) (.slice Ao11 t149.length co11) t149) ∧ Aside0 (wc.heap[gb153]? = some (.cells #[.string t145, (.slice Ao10 t146.length co10), (.slice Ao11 t149.length co11)] 37 (0, 0))) ∧ Aside0 (Below w.heap.size w wc))
     case first =>
      have H := HC6.out
      clear HC6
      by_cases c12 : t152 = 0
      ·rw [if_pos c12] at H
       have c12b0 : (t152 == 0) = true := beq_iff_eq.mpr c12
       have c12b1 : (t152 != 0) = false := bne_eq_false_iff_eq.mpr c12
       clear c12
       (first | rw [c12b0] | (simp only [i64_w, i32_w]; rw [c12b0]) | skip)
       have H' := Aside0.mk H
       clear H
       go_wp2
       go_meet
       case rel => exact ⟨_, (!t144), (by first | rfl | (simp; done) | (simp [*]; done)), H', ⟨by have := HK1.out; first | omega | exact Nat.le_refl _⟩, ⟨by (with_reducible repeat (first | apply Kd.S_alloc | apply Kd.S_drewN | apply Kd.S_drew)); exact Kd.S_mono (Kd.S_far (p := ⟨gb153, 2, none⟩) (Kd.S_far (p := ⟨gb153, 1, none⟩) (Kd.S_far (p := ⟨gb153, 0, none⟩) (Kd.S_mono HO_5.out (fun k_ hk => (⟨hk, hk.2⟩ : _ ∧ k_ ≠ gb153))) (fun _ hk => hk.2) (.string t145)) (fun _ hk => hk.2) (.slice Ao10 t146.length co10)) (fun _ hk => hk.2) (.slice Ao11 t149.length co11)) (fun _ hk => ⟨hk.1.1.1.2, ⟨hk.1.1.2, hk.1.2⟩⟩)⟩, ⟨by (with_reducible repeat (first | apply Kd.R_alloc | apply Kd.R_drewN | apply Kd.R_drew)); exact Kd.R_mono (Kd.R_far (p := ⟨gb153, 2, none⟩) (Kd.R_far (p := ⟨gb153, 1, none⟩) (Kd.R_far (p := ⟨gb153, 0, none⟩) (Kd.R_types HO148.out BK153.out (by decide)) (fun _ hk => hk.2) (.string t145)) (fun _ hk => hk.2) (.slice Ao10 t146.length co10)) (fun _ hk => hk.2) (.slice Ao11 t149.length co11)) (fun _ hk => trivial)⟩, ⟨by (with_reducible repeat (first | apply Kd.R_alloc | apply Kd.R_drewN | apply Kd.R_drew)); exact Kd.R_mono (Kd.R_far (p := ⟨gb153, 2, none⟩) (Kd.R_far (p := ⟨gb153, 1, none⟩) (Kd.R_far (p := ⟨gb153, 0, none⟩) (Kd.R_types HO151.out BK153.out (by decide)) (fun _ hk => hk.2) (.string t145)) (fun _ hk => hk.2) (.slice Ao10 t146.length co10)) (fun _ hk => hk.2) (.slice Ao11 t149.length co11)) (fun _ hk => trivial)⟩, ⟨by (with_reducible repeat (first | refine blk_drewN ?_ _ | refine blk_drew ?_ | refine blk_alloc ?_ _)); refine blk_put (cs := #[.string t145, .slice Ao10 t146.length co10, .slice none 0 0]) ?_ 2 _ rfl; (with_reducible repeat (first | refine blk_drewN ?_ _ | refine blk_drew ?_ | refine blk_alloc ?_ _)); refine blk_put (cs := #[.string t145, .slice none 0 0, .slice none 0 0]) ?_ 1 _ rfl; (with_reducible repeat (first | refine blk_drewN ?_ _ | refine blk_drew ?_ | refine blk_alloc ?_ _)); refine blk_put (cs := #[.string (⟨#[]⟩ : ByteArray), .slice none 0 0, .slice none 0 0]) ?_ 0 _ rfl; (with_reducible repeat (first | refine blk_drewN ?_ _ | refine blk_drew ?_ | refine blk_alloc ?_ _)); exact BK153.out⟩, ⟨by repeat (first | (with_reducible first | exact HB.out | apply below_alloc | apply pw_below_drewN | apply below_drew1 | refine below_set ?_ GE153.out) | exact HB.out)⟩⟩
      ·rw [if_neg c12] at H
       have c12b0 : (t152 == 0) = false := beq_eq_false_iff_ne.mpr c12
       have c12b1 : (t152 != 0) = true := bne_iff_ne.mpr c12
       (first | rw [c12b0] | (simp only [i64_w, i32_w]; rw [c12b0]) | skip)
       have H' := Aside0.mk H
       clear H
       go_wp2
       go_meet
       case rel => exact ⟨_, (false), (by first | rfl | (simp; done) | (simp [*]; done)), H', ⟨by have := HK1.out; first | omega | exact Nat.le_refl _⟩, ⟨by (with_reducible repeat (first | apply Kd.S_alloc | apply Kd.S_drewN | apply Kd.S_drew)); exact Kd.S_mono (Kd.S_far (p := ⟨gb153, 2, none⟩) (Kd.S_far (p := ⟨gb153, 1, none⟩) (Kd.S_far (p := ⟨gb153, 0, none⟩) (Kd.S_mono HO_5.out (fun k_ hk => (⟨hk, hk.2⟩ : _ ∧ k_ ≠ gb153))) (fun _ hk => hk.2) (.string t145)) (fun _ hk => hk.2) (.slice Ao10 t146.length co10)) (fun _ hk => hk.2) (.slice Ao11 t149.length co11)) (fun _ hk => ⟨hk.1.1.1.2, ⟨hk.1.1.2, hk.1.2⟩⟩)⟩, ⟨by (with_reducible repeat (first | apply Kd.R_alloc | apply Kd.R_drewN | apply Kd.R_drew)); exact Kd.R_mono (Kd.R_far (p := ⟨gb153, 2, none⟩) (Kd.R_far (p := ⟨gb153, 1, none⟩) (Kd.R_far (p := ⟨gb153, 0, none⟩) (Kd.R_types HO148.out BK153.out (by decide)) (fun _ hk => hk.2) (.string t145)) (fun _ hk => hk.2) (.slice Ao10 t146.length co10)) (fun _ hk => hk.2) (.slice Ao11 t149.length co11)) (fun _ hk => trivial)⟩, ⟨by (with_reducible repeat (first | apply Kd.R_alloc | apply Kd.R_drewN | apply Kd.R_drew)); exact Kd.R_mono (Kd.R_far (p := ⟨gb153, 2, none⟩) (Kd.R_far (p := ⟨gb153, 1, none⟩) (Kd.R_far (p := ⟨gb153, 0, none⟩) (Kd.R_types HO151.out BK153.out (by decide)) (fun _ hk => hk.2) (.string t145)) (fun _ hk => hk.2) (.slice Ao10 t146.length co10)) (fun _ hk => hk.2) (.slice Ao11 t149.length co11)) (fun _ hk => trivial)⟩, ⟨by (with_reducible repeat (first | refine blk_drewN ?_ _ | refine blk_drew ?_ | refine blk_alloc ?_ _)); refine blk_put (cs := #[.string t145, .slice Ao10 t146.length co10, .slice none 0 0]) ?_ 2 _ rfl; (with_reducible repeat (first | refine blk_drewN ?_ _ | refine blk_drew ?_ | refine blk_alloc ?_ _)); refine blk_put (cs := #[.string t145, .slice none 0 0, .slice none 0 0]) ?_ 1 _ rfl; (with_reducible repeat (first | refine blk_drewN ?_ _ | refine blk_drew ?_ | refine blk_alloc ?_ _)); refine blk_put (cs := #[.string (⟨#[]⟩ : ByteArray), .slice none 0 0, .slice none 0 0]) ?_ 0 _ rfl; (with_reducible repeat (first | refine blk_drewN ?_ _ | refine blk_drew ?_ | refine blk_alloc ?_ _)); exact BK153.out⟩, ⟨by repeat (first | (with_reducible first | exact HB.out | apply below_alloc | apply pw_below_drewN | apply below_drew1 | refine below_set ?_ GE153.out) | exact HB.out)⟩⟩
     case rest =>
      clear HC6
      try clear c1
      try clear c2
      try clear c2b0
      try clear c2b1
      try clear p2
      try clear c3
      try clear c3b0
      try clear c3b1
      try clear c7
      try clear c12
      try clear c12b0
      try clear c12b1
      try clear hcz9_0
      try clear hcz9_1
      try clear hcz9_2
      try clear hfz9_0
      try clear hfz9_1
      try clear hfz9_2
      try clear p2
      obtain ⟨kq, x35_5, rfl, HA, HJ5, HO_5, HO_154001, HO_154002, BK153, HB⟩ := hcut
      cases kq with
      | zero => exact absurd HA.out (by simp [script_Parse.j1])
      | succ kj5 =>
       have H := HA.out
       clear HA
       simp only [script_Parse.j1] at H
       by_cases c13 : x35_5 = true
       ·subst c13
        have H1 : (if 14 = 0 then (if x5_1.length < 2199023255552 then (script_Parse.l0 kj5 t143 (x5_1 ++ [(⟨t145, t146, t149⟩ : S37)]) (wrap64 (x6_1 + 1))) else (none)) else (some (([] : List (S37)), x6_1, 14))) = some (r1, r2, r3) := by rw [if_pos rfl] at H; exact H
        clear H
        have H := H1
        clear H1
        by_cases c14 : 14 = 0
        ·exact absurd c14 (by decide)
        ·rw [if_neg c14] at H
         have c14b0 : (14 == 0) = false := beq_eq_false_iff_ne.mpr c14
         have c14b1 : (14 != 0) = true := bne_iff_ne.mpr c14
         simp only [Option.some.injEq, Prod.mk.injEq] at H
         obtain ⟨rfl, rfl, rfl⟩ := H
         go_wp2
         go_ret3
         exact ⟨_, by first | rfl | (simp [errW_none, errW_some] <;> rfl) | (simp [*, errW_none, errW_some] <;> rfl), by first | exact Kd.S_nil _ _ _ _ _ | exact Kd.N_nil _ _ _ _ _ | exact Kd.V_nil _ _ _ _ _ | exact Kd.Q_nil _ _ _ _ _ | exact Kd.R_nil _ _ _ _ _, by repeat (first | (with_reducible first | exact HB.out | apply below_alloc | apply pw_below_drewN | apply below_drew1 | refine below_set ?_ GE153.out) | exact HB.out)⟩
       ·replace c13 := Bool.eq_false_iff.mpr c13
        subst c13
        have H1 : (if t152 = 0 then (if x5_1.length < 2199023255552 then (script_Parse.l0 kj5 t143 (x5_1 ++ [(⟨t145, t146, t149⟩ : S37)]) (wrap64 (x6_1 + 1))) else (none)) else (some (([] : List (S37)), x6_1, t152))) = some (r1, r2, r3) := by rw [if_neg (show ¬ (false = true) by decide)] at H; exact H
        clear H
        have H := H1
        clear H1
        by_cases c18 : t152 = 0
        ·rw [if_pos c18] at H
         have c18b0 : (t152 == 0) = true := beq_iff_eq.mpr c18
         have c18b1 : (t152 != 0) = false := bne_eq_false_iff_eq.mpr c18
         clear c18
         by_cases c19 : x5_1.length < 2199023255552
         ·rw [if_pos c19] at H
          have LMc19 := Aside0.mk c19
          clear c19
          obtain ⟨y157, hy157⟩ : ∃ y_ : List (S37), y_ = (x5_1 ++ [(⟨t145, t146, t149⟩ : S37)]) := ⟨_, rfl⟩
          replace H : (script_Parse.l0 kj5 t143 y157 (wrap64 (x6_1 + 1))) = some (r1, r2, r3) := by first | (rw [hy157]; with_reducible exact H) | (have H2_ := (Option.bind_some _ _).symm.trans H; rw [hy157]; with_reducible exact H2_) | (have H2_ := (Option.bind_some _ _).symm.trans H; with_reducible exact H2_) | with_reducible exact H | (rw [hy157]; exact H) | exact H
          have Ny157 := Aside0.mk hy157
          clear hy157
          have H' := Aside0.mk H
          clear H
          have hcz20_0 : wc.cell? ⟨gb153, 0, none⟩ = some (.string t145) := (blk_cell BK153.out 0).trans rfl
          have hcz20_1 : wc.cell? ⟨gb153, 1, none⟩ = some (.slice Ao10 t146.length co10) := (blk_cell BK153.out 1).trans rfl
          have hcz20_2 : wc.cell? ⟨gb153, 2, none⟩ = some (.slice Ao11 t149.length co11) := (blk_cell BK153.out 2).trans rfl
          have hfz20_0 := blk_frozen BK153.out 0
          have hfz20_1 := blk_frozen BK153.out 1
          have hfz20_2 := blk_frozen BK153.out 2
          go_wp2_with (first | ((with_reducible refine gate_builtin (b := .append) (xs := #[.tmp 40, .tmp 42]) rfl ?_); at_builtin; refine Kd.S_append k37 (w0 := w) w.heap.size rfl (.tmp 40) (.tmp 42) 23 37 (.agg #[(.string ⟨#[]⟩), (.slice none 0 0), (.slice none 0 0)]) 64 rfl Tryd.underlying23 info37 rfl (by decide) (by omega) u5 x5_1 (⟨t145, t146, t149⟩ : S37) [.string t145, .slice Ao10 t146.length co10, .slice Ao11 t149.length co11] (fun k_ => k_ ≠ gb153) (fun k_ => some k_ = (.slice Ao10 t146.length co10 : Value).ownBlock ∨ some k_ = (.slice Ao11 t149.length co11 : Value).ownBlock) rfl rfl ?aP (fun k_ hk_ => hk_.elim (fun h_ => ((Kd.R_mono (ok' := fun k_ => ((fun k_ => k_ ≠ gb153)) k_ ∧ some k_ ≠ (u5 : Value).ownBlock) (Kd.R_types (Kd.R_apart' (HO_154001.out) (Kd.S_typed HO_5.out) (by decide)) BK153.out (by decide)) (fun k_ hk => ⟨hk.2, hk.1.2⟩))).1 k_ h_.symm) (fun h_ => ((Kd.R_mono (ok' := fun k_ => ((fun k_ => k_ ≠ gb153)) k_ ∧ some k_ ≠ (u5 : Value).ownBlock) (Kd.R_types (Kd.R_apart' (HO_154002.out) (Kd.S_typed HO_5.out) (by decide)) BK153.out (by decide)) (fun k_ hk => ⟨hk.2, hk.1.2⟩))).1 k_ h_.symm)) ?aF ?aO ?aB ?aS ?aL ?_; (case aP => exact k37_mkM _ _ _ (⟨t145, t146, t149⟩ : S37) (Kd.R_mono (Kd.R_tight rfl (Kd.R_mono (ok' := fun k_ => ((fun k_ => k_ ≠ gb153)) k_ ∧ some k_ ≠ (u5 : Value).ownBlock) (Kd.R_types (Kd.R_apart' (HO_154001.out) (Kd.S_typed HO_5.out) (by decide)) BK153.out (by decide)) (fun k_ hk => ⟨hk.2, hk.1.2⟩))) (fun _ h_ => Or.inl h_)) (Kd.R_mono (Kd.R_tight rfl (Kd.R_mono (ok' := fun k_ => ((fun k_ => k_ ≠ gb153)) k_ ∧ some k_ ≠ (u5 : Value).ownBlock) (Kd.R_types (Kd.R_apart' (HO_154002.out) (Kd.S_typed HO_5.out) (by decide)) BK153.out (by decide)) (fun k_ hk => ⟨hk.2, hk.1.2⟩))) (fun _ h_ => Or.inr (h_)))); (case aB => exact (by repeat (first | (with_reducible first | exact HB.out | apply below_alloc | apply pw_below_drewN | apply below_drew1 | refine below_set ?_ GE153.out) | exact HB.out))); (case aF => exact (fun k_ hk => Kd.freshB (g := gb153) (o := .cells #[.string t145, .slice Ao10 t146.length co10, .slice Ao11 t149.length co11] 37 (0, 0)) (by (with_reducible repeat (first | refine blk_drewN ?_ _ | refine blk_drew ?_ | refine blk_alloc ?_ _)); exact BK153.out) k_ hk)); (case aO => exact (by (with_reducible repeat (first | apply Kd.S_alloc | apply Kd.S_drewN | apply Kd.S_drew)); exact Kd.S_mono HO_5.out (fun k_ hk => ⟨hk.2.2, fun e_ => e_.elim (fun h_ => hk.1 h_) (fun h_ => hk.2.1 h_)⟩))); (case aS => exact (below_size (by repeat (first | (with_reducible first | exact HB.out | apply below_alloc | apply pw_below_drewN | apply below_drew1 | refine below_set ?_ GE153.out) | exact HB.out)))); (case aL => have := LMc19.out; omega); intro v158 w21 ho hb hg hat; rw [← Ny157.out] at ho; have n0_ := Aside0.mk (blk_grown (g := gb153) (o := .cells #[.string t145, .slice Ao10 t146.length co10, .slice Ao11 t149.length co11] 37 (0, 0)) (by (with_reducible repeat (first | refine blk_drewN ?_ _ | refine blk_drew ?_ | refine blk_alloc ?_ _)); exact BK153.out) hg (Kd.S_away HO_5.out (fun _ hk => hk.2.2))); have n1_ := Aside0.mk (hb); have n2_ := Aside0.mk (ho); clear BK153; clear HB; clear HO_5; clear HO_154001; clear HO_154002; have BK153 := n0_; have HB := n1_; have HO159 := n2_; clear n0_ n1_ n2_; clear ho hb hg hat))
          go_roundg kj5
          case measure => have := HK1.out; have := HJ5.out; omega
          case rel => exact ⟨(t143), (y157), (wrap64 (x6_1 + 1)), (by first | rfl | (simp; done) | (simp [*]; done)), (by first | rfl | (simp; done) | (simp [*]; done)), H', ⟨by have := HK1.out; have := HJ5.out; omega⟩, ⟨by (with_reducible repeat (first | apply Kd.S_alloc | apply Kd.S_drewN | apply Kd.S_drew)); exact Kd.S_mono HO159.out (fun _ hk => trivial)⟩, ⟨by repeat (first | (with_reducible first | exact HB.out | apply below_alloc | apply pw_below_drewN | apply below_drew1 | refine below_set ?_ GE153.out) | exact HB.out)⟩⟩
         ·rw [if_neg c19] at H
          exact absurd H (by simp)
        ·rw [if_neg c18] at H
         have c18b0 : (t152 == 0) = false := beq_eq_false_iff_ne.mpr c18
         have c18b1 : (t152 != 0) = true := bne_iff_ne.mpr c18
         simp only [Option.some.injEq, Prod.mk.injEq] at H
         obtain ⟨rfl, rfl, rfl⟩ := H
         go_wp2
         go_ret3
         exact ⟨_, by first | rfl | (simp [errW_none, errW_some] <;> rfl) | (simp [*, errW_none, errW_some] <;> rfl), by first | exact Kd.S_nil _ _ _ _ _ | exact Kd.N_nil _ _ _ _ _ | exact Kd.V_nil _ _ _ _ _ | exact Kd.Q_nil _ _ _ _ _ | exact Kd.R_nil _ _ _ _ _, by repeat (first | (with_reducible first | exact HB.out | apply below_alloc | apply pw_below_drewN | apply below_drew1 | refine below_set ?_ GE153.out) | exact HB.out)⟩

end Go.Proofs.YtmndhgiblpfcgaaDoor.W
end

section
namespace Go.Proofs.YtmndhgiblpfcgaaDoor.W
open Go.RowKit Go.Proofs.YtmndhgiblpfcgaaDoorW.PrintWords Go.Proofs.YtmndhgiblpfcgaaDoorW.PrintLast Go.Proofs.YtmndhgiblpfcgaaDoorW.PrintMore
attribute [local go_sem] max2_int min2_int max_two min_two max_three min_three max_four min_four
set_option linter.unusedVariables false
set_option linter.unusedSimpArgs false

/-! ### slices_Equal_uint64_uint64: function 15 -/
def slices_Equal_uint64_uint64.l0 : Nat → List Int → List Int → Int → Int → Option (Bool)
 | 0, _, _, _, _ => none
 | k + 1, x0, x1, x12, x13 => if x13 < x12 then (if 0 ≤ x13 then (if x13 < (x0.length : Int) then (if x13 < (x1.length : Int) then (if (rd x0 x13) = (rd x1 x13) then (slices_Equal_uint64_uint64.l0 k x0 x1 x12 (wrap64 (x13 + 1))) else (some false)) else (none)) else (none)) else (none)) else (some true)
def slices_Equal_uint64_uint64.f (k : Nat) (l0 : List Int) (l1 : List Int) : Option (Bool) := if (l0.length : Int) = (l1.length : Int) then (slices_Equal_uint64_uint64.l0 k l0 l1 (l0.length : Int) 0) else (some false)
theorem slices_Equal_uint64_uint64.mono_l : ∀ k, (∀ y0 y1 y2 y3, LeO (slices_Equal_uint64_uint64.l0 k y0 y1 y2 y3) (slices_Equal_uint64_uint64.l0 (k + 1) y0 y1 y2 y3))
 | 0 => fun _ _ _ _ r h => by simp [slices_Equal_uint64_uint64.l0] at h
 | k + 1 => by
  have ih0 := slices_Equal_uint64_uint64.mono_l k
  ·intro y0 y1 y2 y3
   unfold slices_Equal_uint64_uint64.l0
   repeat' first
   | (with_reducible exact ih0 _ _ _ _)
   | (with_reducible exact LeO.refl _)
   | (with_reducible exact LeO.none _)
   | (with_reducible refine LeO.ite ?_ ?_)
   | (with_reducible refine LeO.bind ?_ (fun _ => ?_))
   | exact ih0 _ _ _ _
   | exact LeO.none _
   | refine LeO.ite ?_ ?_
   | refine LeO.bind ?_ (fun _ => ?_)
theorem slices_Equal_uint64_uint64.mono : ∀ a0 a1 k, LeO (slices_Equal_uint64_uint64.f k a0 a1) (slices_Equal_uint64_uint64.f (k + 1) a0 a1) := by
 intro a0 a1 k
 have ih0 := slices_Equal_uint64_uint64.mono_l k
 unfold slices_Equal_uint64_uint64.f
 repeat' first
   | (with_reducible exact ih0 _ _ _ _)
   | (with_reducible exact LeO.refl _)
   | (with_reducible exact LeO.none _)
   | (with_reducible refine LeO.ite ?_ ?_)
   | (with_reducible refine LeO.bind ?_ (fun _ => ?_))
   | exact ih0 _ _ _ _
   | exact LeO.none _
   | refine LeO.ite ?_ ?_
   | refine LeO.bind ?_ (fun _ => ?_)
set_option maxHeartbeats 8000000 in
set_option maxRecDepth 100000 in
theorem slices_Equal_uint64_uint64.calls (k : Nat) (A0 : Option Addr) (c0 : Nat) (l0 : List Int) (A1 : Option Addr) (c1 : Nat) (l1 : List Int) (r : Bool) (w : World) (hr0 : Kd.C (Kd.int .u64) w A0 l0.length l0) (hc0 : l0.length ≤ c0) (hr1 : Kd.C (Kd.int .u64) w A1 l1.length l1) (hc1 : l1.length ≤ c1) (h : slices_Equal_uint64_uint64.f k l0 l1 = some r) :
  Calls Tryd.prog 15 #[.slice A0 l0.length c0, .slice A1 l1.length c1] w fun e w' => e = .returned (.bool r) ∧ Drawn0 w w' := by
 have HR0 := Aside0.mk hr0
 have HC0 := Aside0.mk hc0
 clear hr0 hc0
 have HR1 := Aside0.mk hr1
 have HC1 := Aside0.mk hc1
 clear hr1 hc1
 have H : (if (l0.length : Int) = (l1.length : Int) then (slices_Equal_uint64_uint64.l0 k l0 l1 (l0.length : Int) 0) else (some false)) = some r := h
 clear h
 by_cases c3 : (l0.length : Int) = (l1.length : Int)
 ·rw [if_pos c3] at H
  have c3b0 : ((l0.length : Int) == (l1.length : Int)) = true := beq_iff_eq.mpr c3
  have c3b1 : ((l0.length : Int) != (l1.length : Int)) = false := bne_eq_false_iff_eq.mpr c3
  have c3b2 : (l0.length == l1.length) = true := by first | simpa using c3 | (simp at c3 ⊢; omega)
  clear c3
  have H' := Aside0.mk H
  clear H
  go_enter Tryd.func15, Tryd.ntmps15
  go_wp2
  repeat (go_quiet (fail); try go_wp2)
  go_loopg [13] k (fun kq v13 w' => ∃ (x13_1 : Int), v13 = .int .i64 x13_1 ∧ Aside0 (slices_Equal_uint64_uint64.l0 kq l0 l1 (l0.length : Int) x13_1 = some r) ∧ Aside0 (kq ≤ k) ∧ Drawn0 w w')
  case atStart => exact ⟨(0), (by first | rfl | (simp; done) | (simp [*]; done)), H', ⟨Nat.le_refl _⟩, by repeat (first | exact Drawn0.refl _ | apply Drawn0.step)⟩
  case round =>
   clear H'
   try clear c1
   try clear p2
   try clear c3
   try clear c3b0
   try clear c3b1
   try clear c3b2
   obtain ⟨x13_1, rfl, HA, HK1, ⟨m1, rfl⟩⟩ := hrel
   cases gk with
   | zero => exact absurd HA.out (by simp [slices_Equal_uint64_uint64.l0])
   | succ k1 =>
    have H := HA.out
    clear HA
    simp only [slices_Equal_uint64_uint64.l0] at H
    by_cases c4 : x13_1 < (l0.length : Int)
    ·rw [if_pos c4] at H
     have c4b0 : decide (x13_1 < (l0.length : Int)) = true := decide_eq_true c4
     clear c4
     by_cases c5 : 0 ≤ x13_1
     ·rw [if_pos c5] at H
      have c5b0 : decide (0 ≤ x13_1) = true := decide_eq_true c5
      clear c5
      by_cases c6 : x13_1 < (l0.length : Int)
      ·rw [if_pos c6] at H
       have c6b0 : decide (x13_1 < (l0.length : Int)) = true := decide_eq_true c6
       clear c6
       by_cases c7 : x13_1 < (l1.length : Int)
       ·rw [if_pos c7] at H
        have c7b0 : decide (x13_1 < (l1.length : Int)) = true := decide_eq_true c7
        clear c7
        by_cases c8 : (rd l0 x13_1) = (rd l1 x13_1)
        ·rw [if_pos c8] at H
         have c8b0 : ((rd l0 x13_1) == (rd l1 x13_1)) = true := beq_iff_eq.mpr c8
         have c8b1 : ((rd l0 x13_1) != (rd l1 x13_1)) = false := bne_eq_false_iff_eq.mpr c8
         clear c8
         have H' := Aside0.mk H
         clear H
         have p160 : 0 ≤ (x13_1 : Int) := of_decide_eq_true (by first | (with_reducible assumption) | assumption)
         have q160 : x13_1 < (l0.length : Int) := of_decide_eq_true (by first | (with_reducible assumption) | assumption)
         obtain ⟨ad160, e160, hx160_0⟩ := Kd.at_int HR0.out x13_1 p160 q160
         cases e160
         replace p160 := eq_true p160
         replace q160 := eq_true q160
         have p161 : 0 ≤ (x13_1 : Int) := of_decide_eq_true (by first | (with_reducible assumption) | assumption)
         have q161 : x13_1 < (l1.length : Int) := of_decide_eq_true (by first | (with_reducible assumption) | assumption)
         obtain ⟨ad161, e161, hx161_0⟩ := Kd.at_int HR1.out x13_1 p161 q161
         cases e161
         replace p161 := eq_true p161
         replace q161 := eq_true q161
         go_wp2
         repeat (go_quiet (fail); try go_wp2)
         go_roundg k1
         case measure => have := HK1.out; omega
         case rel => exact ⟨(wrap64 (x13_1 + 1)), (by first | rfl | (simp; done) | (simp [*]; done)), H', ⟨by have := HK1.out; omega⟩, by repeat (first | exact Drawn0.refl _ | apply Drawn0.step)⟩
        ·rw [if_neg c8] at H
         have c8b0 : ((rd l0 x13_1) == (rd l1 x13_1)) = false := beq_eq_false_iff_ne.mpr c8
         have c8b1 : ((rd l0 x13_1) != (rd l1 x13_1)) = true := bne_iff_ne.mpr c8
         obtain rfl := Option.some.inj H
         have p160 : 0 ≤ (x13_1 : Int) := of_decide_eq_true (by first | (with_reducible assumption) | assumption)
         have q160 : x13_1 < (l0.length : Int) := of_decide_eq_true (by first | (with_reducible assumption) | assumption)
         obtain ⟨ad160, e160, hx160_0⟩ := Kd.at_int HR0.out x13_1 p160 q160
         cases e160
         replace p160 := eq_true p160
         replace q160 := eq_true q160
         have p161 : 0 ≤ (x13_1 : Int) := of_decide_eq_true (by first | (with_reducible assumption) | assumption)
         have q161 : x13_1 < (l1.length : Int) := of_decide_eq_true (by first | (with_reducible assumption) | assumption)
         obtain ⟨ad161, e161, hx161_0⟩ := Kd.at_int HR1.out x13_1 p161 q161
         cases e161
         replace p161 := eq_true p161
         replace q161 := eq_true q161
         go_wp2
         repeat (go_quiet (fail); try go_wp2)
         go_ret
         exact ⟨by first | rfl | (simp; done) | (simp [*]; done), by repeat (first | exact Drawn0.refl _ | apply Drawn0.step)⟩
       ·rw [if_neg c7] at H
        exact absurd H (by simp)
      ·rw [if_neg c6] at H
       exact absurd H (by simp)
     ·rw [if_neg c5] at H
      exact absurd H (by simp)
    ·rw [if_neg c4] at H
     have c4b0 : decide (x13_1 < (l0.length : Int)) = false := decide_eq_false c4
     clear c4
     obtain rfl := Option.some.inj H
     go_wp2
     repeat (go_quiet (fail); try go_wp2)
     go_ret
     exact ⟨by first | rfl | (simp; done) | (simp [*]; done), by repeat (first | exact Drawn0.refl _ | apply Drawn0.step)⟩
 ·rw [if_neg c3] at H
  have c3b0 : ((l0.length : Int) == (l1.length : Int)) = false := beq_eq_false_iff_ne.mpr c3
  have c3b1 : ((l0.length : Int) != (l1.length : Int)) = true := bne_iff_ne.mpr c3
  have c3b2 : (l0.length == l1.length) = false := by first | simpa using c3 | (simp at c3 ⊢; omega)
  obtain rfl := Option.some.inj H
  go_enter Tryd.func15, Tryd.ntmps15
  go_wp2
  repeat (go_quiet (fail); try go_wp2)
  go_ret
  exact ⟨by first | rfl | (simp; done) | (simp [*]; done), by repeat (first | exact Drawn0.refl _ | apply Drawn0.step)⟩

end Go.Proofs.YtmndhgiblpfcgaaDoor.W
end

section
namespace Go.Proofs.YtmndhgiblpfcgaaDoor.W
open Go.RowKit Go.Proofs.YtmndhgiblpfcgaaDoorW.PrintWords Go.Proofs.YtmndhgiblpfcgaaDoorW.PrintLast Go.Proofs.YtmndhgiblpfcgaaDoorW.PrintMore
attribute [local go_sem] max2_int min2_int max_two min_two max_three min_three max_four min_four
set_option linter.unusedVariables false
set_option linter.unusedSimpArgs false

/-! ### wellspringref02_Same: function 16 -/
def wellspringref02_Same.l0 : Nat → List Int → List Int → Int → Option (Bool)
 | 0, _, _, _ => none
 | k + 1, x0, x1, x5 => if x5 < (x0.length : Int) then (if 0 ≤ x5 then (if x5 < (x1.length : Int) then (if (rd x0 x5) = (rd x1 x5) then (wellspringref02_Same.l0 k x0 x1 (wrap64 (x5 + 1))) else (some false)) else (none)) else (none)) else (some true)
def wellspringref02_Same.f (k : Nat) (l0 : List Int) (l1 : List Int) : Option (Bool) := if (l0.length : Int) = (l1.length : Int) then (wellspringref02_Same.l0 k l0 l1 0) else (some false)
theorem wellspringref02_Same.mono_l : ∀ k, (∀ y0 y1 y2, LeO (wellspringref02_Same.l0 k y0 y1 y2) (wellspringref02_Same.l0 (k + 1) y0 y1 y2))
 | 0 => fun _ _ _ r h => by simp [wellspringref02_Same.l0] at h
 | k + 1 => by
  have ih0 := wellspringref02_Same.mono_l k
  ·intro y0 y1 y2
   unfold wellspringref02_Same.l0
   repeat' first
   | (with_reducible exact ih0 _ _ _)
   | (with_reducible exact LeO.refl _)
   | (with_reducible exact LeO.none _)
   | (with_reducible refine LeO.ite ?_ ?_)
   | (with_reducible refine LeO.bind ?_ (fun _ => ?_))
   | exact ih0 _ _ _
   | exact LeO.none _
   | refine LeO.ite ?_ ?_
   | refine LeO.bind ?_ (fun _ => ?_)
theorem wellspringref02_Same.mono : ∀ a0 a1 k, LeO (wellspringref02_Same.f k a0 a1) (wellspringref02_Same.f (k + 1) a0 a1) := by
 intro a0 a1 k
 have ih0 := wellspringref02_Same.mono_l k
 unfold wellspringref02_Same.f
 repeat' first
   | (with_reducible exact ih0 _ _ _)
   | (with_reducible exact LeO.refl _)
   | (with_reducible exact LeO.none _)
   | (with_reducible refine LeO.ite ?_ ?_)
   | (with_reducible refine LeO.bind ?_ (fun _ => ?_))
   | exact ih0 _ _ _
   | exact LeO.none _
   | refine LeO.ite ?_ ?_
   | refine LeO.bind ?_ (fun _ => ?_)
set_option maxHeartbeats 8000000 in
set_option maxRecDepth 100000 in
theorem wellspringref02_Same.calls (k : Nat) (A0 : Option Addr) (c0 : Nat) (l0 : List Int) (A1 : Option Addr) (c1 : Nat) (l1 : List Int) (r : Bool) (w : World) (hr0 : Kd.C (Kd.int .u8) w A0 l0.length l0) (hc0 : l0.length ≤ c0) (hr1 : Kd.C (Kd.int .u8) w A1 l1.length l1) (hc1 : l1.length ≤ c1) (h : wellspringref02_Same.f k l0 l1 = some r) :
  Calls Tryd.prog 16 #[.slice A0 l0.length c0, .slice A1 l1.length c1] w fun e w' => e = .returned (.bool r) ∧ Drawn0 w w' := by
 have HR0 := Aside0.mk hr0
 have HC0 := Aside0.mk hc0
 clear hr0 hc0
 have HR1 := Aside0.mk hr1
 have HC1 := Aside0.mk hc1
 clear hr1 hc1
 have H : (if (l0.length : Int) = (l1.length : Int) then (wellspringref02_Same.l0 k l0 l1 0) else (some false)) = some r := h
 clear h
 by_cases c3 : (l0.length : Int) = (l1.length : Int)
 ·rw [if_pos c3] at H
  have c3b0 : ((l0.length : Int) == (l1.length : Int)) = true := beq_iff_eq.mpr c3
  have c3b1 : ((l0.length : Int) != (l1.length : Int)) = false := bne_eq_false_iff_eq.mpr c3
  have c3b2 : (l0.length == l1.length) = true := by first | simpa using c3 | (simp at c3 ⊢; omega)
  clear c3
  have H' := Aside0.mk H
  clear H
  go_enter Tryd.func16, Tryd.ntmps16
  go_wp2
  repeat (go_quiet (fail); try go_wp2)
  go_loopg [5] k (fun kq v5 w' => ∃ (x5_1 : Int), v5 = .int .i64 x5_1 ∧ Aside0 (wellspringref02_Same.l0 kq l0 l1 x5_1 = some r) ∧ Aside0 (kq ≤ k) ∧ Drawn0 w w')
  case atStart => exact ⟨(0), (by first | rfl | (simp; done) | (simp [*]; done)), H', ⟨Nat.le_refl _⟩, by repeat (first | exact Drawn0.refl _ | apply Drawn0.step)⟩
  case round =>
   clear H'
   try clear c1
   try clear p2
   try clear c3
   try clear c3b0
   try clear c3b1
   try clear c3b2
   obtain ⟨x5_1, rfl, HA, HK1, ⟨m1, rfl⟩⟩ := hrel
   cases gk with
   | zero => exact absurd HA.out (by simp [wellspringref02_Same.l0])
   | succ k1 =>
    have H := HA.out
    clear HA
    simp only [wellspringref02_Same.l0] at H
    by_cases c4 : x5_1 < (l0.length : Int)
    ·rw [if_pos c4] at H
     have c4b0 : decide (x5_1 < (l0.length : Int)) = true := decide_eq_true c4
     clear c4
     by_cases c5 : 0 ≤ x5_1
     ·rw [if_pos c5] at H
      have c5b0 : decide (0 ≤ x5_1) = true := decide_eq_true c5
      clear c5
      by_cases c6 : x5_1 < (l1.length : Int)
      ·rw [if_pos c6] at H
       have c6b0 : decide (x5_1 < (l1.length : Int)) = true := decide_eq_true c6
       clear c6
       by_cases c7 : (rd l0 x5_1) = (rd l1 x5_1)
       ·rw [if_pos c7] at H
        have c7b0 : ((rd l0 x5_1) == (rd l1 x5_1)) = true := beq_iff_eq.mpr c7
        have c7b1 : ((rd l0 x5_1) != (rd l1 x5_1)) = false := bne_eq_false_iff_eq.mpr c7
        clear c7
        have H' := Aside0.mk H
        clear H
        have p162 : 0 ≤ (x5_1 : Int) := of_decide_eq_true (by first | (with_reducible assumption) | assumption)
        have q162 : x5_1 < (l0.length : Int) := of_decide_eq_true (by first | (with_reducible assumption) | assumption)
        obtain ⟨ad162, e162, hx162_0⟩ := Kd.at_int HR0.out x5_1 p162 q162
        cases e162
        replace p162 := eq_true p162
        replace q162 := eq_true q162
        have p163 : 0 ≤ (x5_1 : Int) := of_decide_eq_true (by first | (with_reducible assumption) | assumption)
        have q163 : x5_1 < (l1.length : Int) := of_decide_eq_true (by first | (with_reducible assumption) | assumption)
        obtain ⟨ad163, e163, hx163_0⟩ := Kd.at_int HR1.out x5_1 p163 q163
        cases e163
        replace p163 := eq_true p163
        replace q163 := eq_true q163
        go_wp2
        repeat (go_quiet (fail); try go_wp2)
        go_roundg k1
        case measure => have := HK1.out; omega
        case rel => exact ⟨(wrap64 (x5_1 + 1)), (by first | rfl | (simp; done) | (simp [*]; done)), H', ⟨by have := HK1.out; omega⟩, by repeat (first | exact Drawn0.refl _ | apply Drawn0.step)⟩
       ·rw [if_neg c7] at H
        have c7b0 : ((rd l0 x5_1) == (rd l1 x5_1)) = false := beq_eq_false_iff_ne.mpr c7
        have c7b1 : ((rd l0 x5_1) != (rd l1 x5_1)) = true := bne_iff_ne.mpr c7
        obtain rfl := Option.some.inj H
        have p162 : 0 ≤ (x5_1 : Int) := of_decide_eq_true (by first | (with_reducible assumption) | assumption)
        have q162 : x5_1 < (l0.length : Int) := of_decide_eq_true (by first | (with_reducible assumption) | assumption)
        obtain ⟨ad162, e162, hx162_0⟩ := Kd.at_int HR0.out x5_1 p162 q162
        cases e162
        replace p162 := eq_true p162
        replace q162 := eq_true q162
        have p163 : 0 ≤ (x5_1 : Int) := of_decide_eq_true (by first | (with_reducible assumption) | assumption)
        have q163 : x5_1 < (l1.length : Int) := of_decide_eq_true (by first | (with_reducible assumption) | assumption)
        obtain ⟨ad163, e163, hx163_0⟩ := Kd.at_int HR1.out x5_1 p163 q163
        cases e163
        replace p163 := eq_true p163
        replace q163 := eq_true q163
        go_wp2
        repeat (go_quiet (fail); try go_wp2)
        go_ret
        exact ⟨by first | rfl | (simp; done) | (simp [*]; done), by repeat (first | exact Drawn0.refl _ | apply Drawn0.step)⟩
      ·rw [if_neg c6] at H
       exact absurd H (by simp)
     ·rw [if_neg c5] at H
      exact absurd H (by simp)
    ·rw [if_neg c4] at H
     have c4b0 : decide (x5_1 < (l0.length : Int)) = false := decide_eq_false c4
     clear c4
     obtain rfl := Option.some.inj H
     go_wp2
     repeat (go_quiet (fail); try go_wp2)
     go_ret
     exact ⟨by first | rfl | (simp; done) | (simp [*]; done), by repeat (first | exact Drawn0.refl _ | apply Drawn0.step)⟩
 ·rw [if_neg c3] at H
  have c3b0 : ((l0.length : Int) == (l1.length : Int)) = false := beq_eq_false_iff_ne.mpr c3
  have c3b1 : ((l0.length : Int) != (l1.length : Int)) = true := bne_iff_ne.mpr c3
  have c3b2 : (l0.length == l1.length) = false := by first | simpa using c3 | (simp at c3 ⊢; omega)
  obtain rfl := Option.some.inj H
  go_enter Tryd.func16, Tryd.ntmps16
  go_wp2
  repeat (go_quiet (fail); try go_wp2)
  go_ret
  exact ⟨by first | rfl | (simp; done) | (simp [*]; done), by repeat (first | exact Drawn0.refl _ | apply Drawn0.step)⟩

end Go.Proofs.YtmndhgiblpfcgaaDoor.W
end
