/-
ScriptWords: the words are the document's, a text of 65,536 bytes is read and a longer one is not, as many bytes are printed and not more (the given card, without a condition).
(This text: part 7 of 7, merged out of: Law26, F6, F3, Law26a, Repeat, SWords, WordsCard.)
-/
import Derived.Test.YtmndhgiblpfcgaaDoorZwo5
import Derived.Test.YtmndhgiblpfcgaaDoorZwo4
import Derived.Test.YtmndhgiblpfcgaaDoorZwo3
import Derived.Test.YtmndhgiblpfcgaaDoorZwo6
import Derived.Test.YtmndhgiblpfcgaaDoorZwo1
import Derived.Laws.CopyRow
import Derived.Laws.MakeOwn
import Derived.Outline
import Derived.Deep.RegionLaw
import Derived.Lib.LaidU8
section
/-
Chapter 26's laws, plain: what the printed functions of the script layer come to.
-/
namespace Go.Proofs.YtmndhgiblpfcgaaDoor.W
open Go.RowKit Go.Proofs.YtmndhgiblpfcgaaDoorW.PrintWords
set_option linter.unusedVariables false
set_option linter.unusedSimpArgs false

theorem rd_intl (l : List Int) (i : Nat) (h : i < l.length) : rd l (i : Int) = l[i] := by
  unfold rd
  rw [Int.toNat_natCast, List.getD_eq_getElem?_getD, List.getElem?_eq_getElem h]; rfl
theorem drop_inj_at {α : Type} [DecidableEq α] {a b : List α} {i : Nat} (ha : i < a.length) (hb : i < b.length) : decide (a.drop i = b.drop i) = (decide (a[i] = b[i]) && decide (a.drop (i + 1) = b.drop (i + 1))) := by
  rw [List.drop_eq_getElem_cons ha, List.drop_eq_getElem_cons hb, Bool.eq_iff_iff]
  simp only [decide_eq_true_eq, Bool.and_eq_true, List.cons.injEq]
theorem EqU64_ev (a b : List Int) (ha : a.length ≤ 9223372036854775807) : Ev (fun k => slices_Equal_uint64_uint64.f k a b) (decide (a = b)) := by
  unfold slices_Equal_uint64_uint64.f
  by_cases hl : a.length = b.length
  · refine Ev.congr (fun k => if_pos (by omega)) ?_
    have loop : ∀ (d i : Nat), i + d = a.length → Ev (fun k => slices_Equal_uint64_uint64.l0 k a b (a.length : Int) (i : Int)) (decide (a.drop i = b.drop i)) := by
      intro d
      induction d with
      | zero =>
        intro i hi
        refine ev_now fun k => ?_
        simp only [slices_Equal_uint64_uint64.l0]
        rw [if_neg (by omega), List.drop_of_length_le (by omega), List.drop_of_length_le (by omega)]; simp
      | succ d ih =>
        intro i hi
        have h1 : i < a.length := by omega
        have h2 : i < b.length := by omega
        have w1 : wrap64 ((i : Int) + 1) = ((i + 1 : Nat) : Int) := by rw [wrap64_id (by omega) (by omega)]; omega
        rw [drop_inj_at h1 h2]
        by_cases he : a[i] = b[i]
        · rw [decide_eq_true he, Bool.true_and]
          refine Ev.step (fun k => ?_) (ih (i + 1) (by omega))
          simp only [slices_Equal_uint64_uint64.l0]
          rw [if_pos (by omega), if_pos (by omega), if_pos (by omega), if_pos (by omega), rd_intl a i h1, rd_intl b i h2, if_pos he, w1]
        · rw [decide_eq_false he, Bool.false_and]
          refine ev_now fun k => ?_
          simp only [slices_Equal_uint64_uint64.l0]
          rw [if_pos (by omega), if_pos (by omega), if_pos (by omega), if_pos (by omega), rd_intl a i h1, rd_intl b i h2, if_neg he]
    have := loop a.length 0 (by omega)
    simpa using this
  · refine Ev.congr (fun k => if_neg (by omega)) ?_
    have e : decide (a = b) = false := decide_eq_false fun e => hl (by rw [e])
    rw [e]; exact ev_const
theorem Same02_ev (a b : List Int) (ha : a.length ≤ 9223372036854775807) : Ev (fun k => wellspringref02_Same.f k a b) (decide (a = b)) := by
  unfold wellspringref02_Same.f
  by_cases hl : a.length = b.length
  · refine Ev.congr (fun k => if_pos (by omega)) ?_
    have loop : ∀ (d i : Nat), i + d = a.length → Ev (fun k => wellspringref02_Same.l0 k a b (i : Int)) (decide (a.drop i = b.drop i)) := by
      intro d
      induction d with
      | zero =>
        intro i hi
        refine ev_now fun k => ?_
        simp only [wellspringref02_Same.l0]
        rw [if_neg (by omega), List.drop_of_length_le (by omega), List.drop_of_length_le (by omega)]; simp
      | succ d ih =>
        intro i hi
        have h1 : i < a.length := by omega
        have h2 : i < b.length := by omega
        have w1 : wrap64 ((i : Int) + 1) = ((i + 1 : Nat) : Int) := by rw [wrap64_id (by omega) (by omega)]; omega
        rw [drop_inj_at h1 h2]
        by_cases he : a[i] = b[i]
        · rw [decide_eq_true he, Bool.true_and]
          refine Ev.step (fun k => ?_) (ih (i + 1) (by omega))
          simp only [wellspringref02_Same.l0]
          rw [if_pos (by omega), if_pos (by omega), if_pos (by omega), rd_intl a i h1, rd_intl b i h2, if_pos he, w1]
        · rw [decide_eq_false he, Bool.false_and]
          refine ev_now fun k => ?_
          simp only [wellspringref02_Same.l0]
          rw [if_pos (by omega), if_pos (by omega), if_pos (by omega), rd_intl a i h1, rd_intl b i h2, if_neg he]
    have := loop a.length 0 (by omega)
    simpa using this
  · refine Ev.congr (fun k => if_neg (by omega)) ?_
    have e : decide (a = b) = false := decide_eq_false fun e => hl (by rw [e])
    rw [e]; exact ev_const
/-! ### The program's Parse -/
theorem nl_sep (s : List UInt8) : Wel.Scr.splitB 10 s = [s] ∧ Lib.cut s [10] = (s, [], false) ∨ ∃ a r, Wel.Scr.splitB 10 s = a :: Wel.Scr.splitB 10 r ∧ Lib.cut s [10] = (a, r, true) ∧ a.length + r.length + 1 = s.length := by
  have h := cut_one 10 s
  have hj := Wel.Scr.joinB_split 10 s
  cases hs : Wel.Scr.splitB 10 s with
  | nil => exact absurd hs (Wel.Scr.splitB_ne _ _)
  | cons a t =>
    cases t with
    | nil =>
      rw [hs] at h hj
      have e : a = s := hj
      subst e
      exact .inl ⟨rfl, h⟩
    | cons b t =>
      rw [hs] at h hj
      have hp := Wel.Scr.splitB_parts (c := 10) (l := s)
      rw [hs] at hp
      refine .inr ⟨a, Wel.Scr.joinB 10 (b :: t), ?_, h, ?_⟩
      · rw [Wel.Scr.splitB_join (by simp) fun x hx => hp x (List.mem_cons_of_mem _ hx)]
      · have := congrArg List.length hj
        simp only [Wel.Scr.joinB, List.length_append, List.length_cons] at this
        omega
def parseP (s : List UInt8) : List S37 × Int × Int := ((Wel.Scr.parse s).1.map encP, ((Wel.Scr.parse s).2.1 : Int), ((Wel.Scr.parse s).2.2 : Int))
theorem ParseP_ev (s : List UInt8) : Ev (fun k => script_Parse.f k (ba s)) (parseP s) := by
  unfold script_Parse.f parseP Wel.Scr.parse
  by_cases hl : 65536 < s.length
  · refine Ev.congr (fun k => if_pos (by rw [ba_size]; omega)) ?_
    rw [if_pos hl]; exact ev_const
  · refine Ev.congr (fun k => if_neg (by rw [ba_size]; omega)) ?_
    rw [if_neg hl]
    have loop : ∀ (d : Nat) (r : List UInt8) (n : Nat) (acc : List Wel.Scr.Cmd), r.length ≤ d → d ≤ 65536 → n + d ≤ 65537 → acc.length ≤ n →
        Ev (fun k => script_Parse.l0 k (ba r) (acc.map encP) (n : Int)) ((Wel.Scr.parseL n acc (Wel.Scr.splitB 10 r)).1.map encP, ((Wel.Scr.parseL n acc (Wel.Scr.splitB 10 r)).2.1 : Int), ((Wel.Scr.parseL n acc (Wel.Scr.splitB 10 r)).2.2 : Int)) := by
      intro d
      induction d with
      | zero =>
        intro r n acc hr hd hn ha
        obtain rfl : r = [] := List.length_eq_zero_iff.1 (by omega)
        refine ev_now fun k => ?_
        simp only [script_Parse.l0]
        rw [if_pos (by rw [ba_toList])]
        simp [Wel.Scr.splitB, Wel.Scr.parseL]
      | succ d ih =>
        intro r n acc hr hd hn ha
        by_cases h0 : r = []
        · subst h0
          refine ev_now fun k => ?_
          simp only [script_Parse.l0]
          rw [if_pos (by rw [ba_toList])]
          simp [Wel.Scr.splitB, Wel.Scr.parseL]
        · have w1 : wrap64 ((n : Int) + 1) = ((n + 1 : Nat) : Int) := by rw [wrap64_id (by omega) (by omega)]; omega
          have hcut : strings_Cut.f (ba r) (⟨#[10]⟩ : ByteArray) = some (ba (Lib.cut r [10]).1, ba (Lib.cut r [10]).2.1, (Lib.cut r [10]).2.2) := by
            unfold strings_Cut.f
            rw [if_pos (by rw [ba_size]; omega), ba_data]
          have hrd : ∀ a : List UInt8, a.length ≤ 65536 → script_read.f (ba a) = some (readR a) := fun a ha => by
            rw [script_read.f, if_pos (by rw [ba_size]; exact ha), ba_data]
          have step : ∀ k, script_Parse.l0 (k + 1) (ba r) (acc.map encP) (n : Int) = ((script_read.f (ba (Lib.cut r [10]).1)).bind fun bt145 => (if bt145.2.2.2 = 0 then (script_Parse.j1 k (acc.map encP) (n : Int) (ba (Lib.cut r [10]).2.1) bt145.2.2.2 (!(Lib.cut r [10]).2.2) bt145.1 bt145.2.1 bt145.2.2.1) else (script_Parse.j1 k (acc.map encP) (n : Int) (ba (Lib.cut r [10]).2.1) bt145.2.2.2 false bt145.1 bt145.2.1 bt145.2.2.1))) := fun k => by
            simp only [script_Parse.l0]
            rw [if_neg (by rw [ba_toList]; exact h0), hcut]
            rfl
          have jbad : ∀ (x8 : ByteArray) (x11 : Int) (y : ByteArray) (y1 y2 : List Int), Ev (fun k => script_Parse.j1 k (acc.map encP) (n : Int) x8 x11 true y y1 y2) (([] : List S37), (n : Int), (14 : Int)) := fun x8 x11 y y1 y2 => ev_now fun k => by
            simp only [script_Parse.j1]
            rw [if_pos trivial, if_neg (by decide)]
          have jerr : ∀ (x8 : ByteArray) (x11 : Int) (y : ByteArray) (y1 y2 : List Int), x11 ≠ 0 → Ev (fun k => script_Parse.j1 k (acc.map encP) (n : Int) x8 x11 false y y1 y2) (([] : List S37), (n : Int), x11) := fun x8 x11 y y1 y2 hx => ev_now fun k => by
            simp only [script_Parse.j1]
            rw [if_neg (by decide), if_neg hx]
          rcases nl_sep r with ⟨hsp, hc⟩ | ⟨a, r', hsp, hc, hlen⟩
          · rw [hc] at step
            simp only [Bool.not_false] at step
            rw [hsp]
            refine Ev.step step ?_
            rw [hrd r (by omega)]
            simp only [Option.bind_some, Wel.Scr.parseL, h0, if_false, readR]
            by_cases he : (Wel.Scr.read r).2 = 0
            · simp only [he, if_true]
              refine Ev.congr (fun k => if_pos (by rfl)) ?_
              exact jbad _ _ _ _ _
            · simp only [he, if_false]
              refine Ev.congr (fun k => if_neg (by omega)) ?_
              exact jerr _ _ _ _ _ (by omega)
          · rw [hc] at step
            simp only [Bool.not_true] at step
            rw [hsp]
            refine Ev.step step ?_
            rw [hrd a (by omega)]
            simp only [Option.bind_some, readR]
            cases hsr : Wel.Scr.splitB 10 r' with
            | nil => exact absurd hsr (Wel.Scr.splitB_ne _ _)
            | cons b t =>
              simp only [Wel.Scr.parseL]
              by_cases he : (Wel.Scr.read a).2 = 0
              · simp only [he, ne_eq, not_true_eq_false, if_false]
                refine Ev.congr (fun k => if_pos (by rfl)) ?_
                have hih := ih r' (n + 1) (acc ++ [(Wel.Scr.read a).1]) (by omega) (by omega) (by omega) (by simp; omega)
                rw [hsr] at hih
                refine Ev.step (fun k => ?_) hih
                simp only [script_Parse.j1]
                rw [if_neg (by decide), if_pos (by rfl), if_pos (by rw [List.length_map]; omega), w1]
                congr 1
                simp [encP]
              · simp only [he, ne_eq, not_false_eq_true, if_true]
                refine Ev.congr (fun k => if_neg (by omega)) ?_
                exact jerr _ _ _ _ _ (by omega)
    have h := loop s.length s 1 [] (Nat.le_refl _) (by omega) (by omega) (by simp)
    exact h
end Go.Proofs.YtmndhgiblpfcgaaDoor.W
end

section
namespace Go.Proofs.YtmndhgiblpfcgaaDoor.W
open Go.RowKit Go.Proofs.YtmndhgiblpfcgaaDoorW.PrintWords Go.Proofs.YtmndhgiblpfcgaaDoorW.PrintLast Go.Proofs.YtmndhgiblpfcgaaDoorW.PrintMore
attribute [local go_sem] max2_int min2_int max_two min_two max_three min_three max_four min_four
set_option linter.unusedVariables false
set_option linter.unusedSimpArgs false

/-! ### wellspringlaw26_awake: function 6 -/
def wellspringlaw26_awake.f (k : Nat)  : Option (Bool) := (script_Parse.f k (⟨#[98, 101, 103, 105, 110, 32, 55, 32, 50, 32, 48, 49, 48, 50, 102, 102, 10]⟩ : ByteArray)).bind fun bt164 => (if bt164.2.2 = 0 then (if bt164.2.1 = 0 then (if (bt164.1.length : Int) = 1 then (if 0 < (bt164.1.length : Int) then (if ((rd_T37 bt164.1 0).f0).toList = ([98, 101, 103, 105, 110] : List UInt8) then ((slices_Equal_uint64_uint64.f k ((rd_T37 bt164.1 0).f1) (([7, 2] : List Int))).bind fun t174 => (if t174 = true then ((wellspringref02_Same.f k ((rd_T37 bt164.1 0).f2) (([1, 2, 255] : List Int))).bind fun t179 => (some t179)) else (some false))) else (some false)) else (none)) else (some false)) else (some false)) else (some false))
theorem wellspringlaw26_awake.mono : ∀ k, LeO (wellspringlaw26_awake.f k ) (wellspringlaw26_awake.f (k + 1) ) := by
 intro  k
 unfold wellspringlaw26_awake.f
 repeat' first
   | (with_reducible exact script_Parse.mono _ _)
   | (with_reducible exact slices_Equal_uint64_uint64.mono _ _ _)
   | (with_reducible exact wellspringref02_Same.mono _ _ _)
   | (with_reducible exact LeO.refl _)
   | (with_reducible exact LeO.none _)
   | (with_reducible refine LeO.ite ?_ ?_)
   | (with_reducible refine LeO.bind ?_ (fun _ => ?_))
   | exact script_Parse.mono _ _
   | exact slices_Equal_uint64_uint64.mono _ _ _
   | exact wellspringref02_Same.mono _ _ _
   | exact LeO.none _
   | refine LeO.ite ?_ ?_
   | refine LeO.bind ?_ (fun _ => ?_)
set_option maxHeartbeats 8000000 in
set_option maxRecDepth 100000 in
theorem wellspringlaw26_awake.calls (k : Nat)  (r : Bool) (w : World) (hI : Inv w) (h : wellspringlaw26_awake.f k  = some r) :
  Calls Tryd.prog 6 #[] w fun e w' => e = .returned (.bool r) ∧ Below w.heap.size w w' := by
 have HB := Aside0.mk (Below.refl w.heap.size w)
 have H : ((script_Parse.f k (⟨#[98, 101, 103, 105, 110, 32, 55, 32, 50, 32, 48, 49, 48, 50, 102, 102, 10]⟩ : ByteArray)).bind fun bt164 => (if bt164.2.2 = 0 then (if bt164.2.1 = 0 then (if (bt164.1.length : Int) = 1 then (if 0 < (bt164.1.length : Int) then (if ((rd_T37 bt164.1 0).f0).toList = ([98, 101, 103, 105, 110] : List UInt8) then ((slices_Equal_uint64_uint64.f k ((rd_T37 bt164.1 0).f1) (([7, 2] : List Int))).bind fun t174 => (if t174 = true then ((wellspringref02_Same.f k ((rd_T37 bt164.1 0).f2) (([1, 2, 255] : List Int))).bind fun t179 => (some t179)) else (some false))) else (some false)) else (none)) else (some false)) else (some false)) else (some false))) = some r := h
 clear h
 replace H := Option.bind_eq_some_iff.mp H
 obtain ⟨⟨t164, t165, t166⟩, A10, H⟩ := H
 replace H : (if t166 = 0 then (if t165 = 0 then (if (t164.length : Int) = 1 then (if 0 < (t164.length : Int) then (if ((rd_T37 t164 0).f0).toList = ([98, 101, 103, 105, 110] : List UInt8) then ((slices_Equal_uint64_uint64.f k ((rd_T37 t164 0).f1) (([7, 2] : List Int))).bind fun t174 => (if t174 = true then ((wellspringref02_Same.f k ((rd_T37 t164 0).f2) (([1, 2, 255] : List Int))).bind fun t179 => (some t179)) else (some false))) else (some false)) else (none)) else (some false)) else (some false)) else (some false)) = some r := H
 have A1 := Aside0.mk A10
 clear A10
 by_cases c2 : t166 = 0
 ·rw [if_pos c2] at H
  have c2b0 : (t166 == 0) = true := beq_iff_eq.mpr c2
  have c2b1 : (t166 != 0) = false := bne_eq_false_iff_eq.mpr c2
  clear c2
  by_cases c3 : t165 = 0
  ·rw [if_pos c3] at H
   have c3b0 : (t165 == 0) = true := beq_iff_eq.mpr c3
   have c3b1 : (t165 != 0) = false := bne_eq_false_iff_eq.mpr c3
   clear c3
   by_cases c4 : (t164.length : Int) = 1
   ·rw [if_pos c4] at H
    have c4b0 : ((t164.length : Int) == 1) = true := beq_iff_eq.mpr c4
    have c4b1 : ((t164.length : Int) != 1) = false := bne_eq_false_iff_eq.mpr c4
    clear c4
    by_cases c5 : 0 < (t164.length : Int)
    ·rw [if_pos c5] at H
     have c5b0 : decide (0 < (t164.length : Int)) = true := decide_eq_true c5
     have c5b1 : decide (0 < t164.length) = true := decide_eq_true (by omega)
     clear c5
     by_cases c6 : ((rd_T37 t164 0).f0).toList = ([98, 101, 103, 105, 110] : List UInt8)
     ·rw [if_pos c6] at H
      have c6b0 : (((rd_T37 t164 0).f0).toList == ([98, 101, 103, 105, 110] : List UInt8)) = true := beq_iff_eq.mpr c6
      have c6b1 : (((rd_T37 t164 0).f0).toList != ([98, 101, 103, 105, 110] : List UInt8)) = false := bne_eq_false_iff_eq.mpr c6
      clear c6
      obtain ⟨y171, hy171⟩ : ∃ y_ : List Int, y_ = (([7, 2] : List Int)) := ⟨_, rfl⟩
      replace H : ((slices_Equal_uint64_uint64.f k ((rd_T37 t164 0).f1) y171).bind fun t174 => (if t174 = true then ((wellspringref02_Same.f k ((rd_T37 t164 0).f2) (([1, 2, 255] : List Int))).bind fun t179 => (some t179)) else (some false))) = some r := by first | (rw [hy171]; with_reducible exact H) | (have H2_ := (Option.bind_some _ _).symm.trans H; rw [hy171]; with_reducible exact H2_) | (have H2_ := (Option.bind_some _ _).symm.trans H; with_reducible exact H2_) | with_reducible exact H | (rw [hy171]; exact H) | exact H
      have Ny171 := Aside0.mk hy171
      clear hy171
      replace H := Option.bind_eq_some_iff.mp H
      obtain ⟨t174, A70, H⟩ := H
      replace H : (if t174 = true then ((wellspringref02_Same.f k ((rd_T37 t164 0).f2) (([1, 2, 255] : List Int))).bind fun t179 => (some t179)) else (some false)) = some r := H
      have A7 := Aside0.mk A70
      clear A70
      by_cases c8 : t174 = true
      ·subst c8
       have H1 : ((wellspringref02_Same.f k ((rd_T37 t164 0).f2) (([1, 2, 255] : List Int))).bind fun t179 => (some t179)) = some r := by rw [if_pos rfl] at H; exact H
       clear H
       have H := H1
       clear H1
       obtain ⟨y176, hy176⟩ : ∃ y_ : List Int, y_ = (([1, 2, 255] : List Int)) := ⟨_, rfl⟩
       replace H : ((wellspringref02_Same.f k ((rd_T37 t164 0).f2) y176).bind fun t179 => (some t179)) = some r := by first | (rw [hy176]; with_reducible exact H) | (have H2_ := (Option.bind_some _ _).symm.trans H; rw [hy176]; with_reducible exact H2_) | (have H2_ := (Option.bind_some _ _).symm.trans H; with_reducible exact H2_) | with_reducible exact H | (rw [hy176]; exact H) | exact H
       have Ny176 := Aside0.mk hy176
       clear hy176
       replace H := Option.bind_eq_some_iff.mp H
       obtain ⟨t179, A90, H⟩ := H
       replace H : (some t179) = some r := H
       have A9 := Aside0.mk A90
       clear A90
       obtain rfl := Option.some.inj H
       go_enter Tryd.func6, Tryd.ntmps6
       go_wp2_with (first | ((with_reducible refine gate_callee (f := 7) rfl ?_); refine goesL_ (some 5) rfl rfl Tryd.func7 (by kernel_rfl) rfl #[.string (⟨#[98, 101, 103, 105, 110, 32, 55, 32, 50, 32, 48, 49, 48, 50, 102, 102, 10]⟩ : ByteArray)] rfl (by (try simp only [List.map_toArray, List.map_cons, List.map_nil]); first | done | rfl | (simp only [List.length_drop, List.length_take]; rfl)) ?_; (with_reducible refine (script_Parse.calls k (⟨#[98, 101, 103, 105, 110, 32, 55, 32, 50, 32, 48, 49, 48, 50, 102, 102, 10]⟩ : ByteArray) t164 t165 t166 _ (by exact hI.below (by repeat (first | (with_reducible first | exact HB.out | exact (Below.refl _ _) | apply below_alloc | apply pw_below_drewN | apply below_drew1) | exact HB.out))) A1.out).mono ?_); rintro e w10 ⟨v167, rfl, ho0, hb⟩; refine ⟨_, rfl, ?_⟩; have n0_ := Aside0.mk (Kd.S_lower ho0 (below_size (by repeat (first | (with_reducible first | exact HB.out | apply below_alloc | apply pw_below_drewN | apply below_drew1) | exact HB.out)))); have n1_ := Aside0.mk (below_step (by repeat (first | (with_reducible first | exact HB.out | apply below_alloc | apply pw_below_drewN | apply below_drew1) | exact HB.out)) hb); clear HB; have HO168 := n0_; have HB := n1_; clear n0_ n1_; (try clear hb); (try clear hb2); (try clear hk); (try clear hi); (try clear ho0); obtain ⟨Ao11, co11, eo11⟩ := Kd.S_slice HO168.out; subst eo11; have p169 : 0 ≤ (0 : Int) := (by omega); have q169 : 0 < (t164.length : Int) := of_decide_eq_true (by first | (with_reducible assumption) | assumption); obtain ⟨ad169, A169_1, c169_1, A169_2, c169_2, e169, hx169_0, hx169_1, hx169_2, hl169_1, hi169_1, hl169_2, hi169_2⟩ := at_T37 (Kd.S_reads' HO168.out).2.2 0 p169 q169; cases e169; obtain ⟨ce169, hce169, hMe169, hcc169⟩ := Kd.S_get HO168.out z37 0 p169 (by first | exact q169 | exact of_decide_eq_true (by first | (with_reducible assumption) | assumption) | (have e_ := (Kd.S_reads' HO168.out).1; omega)); obtain ⟨ve169_1, ve169_2, rfl, ge169_1, ge169_2⟩ := k37_openM hMe169; have hv169_1 := hcc169 1 _ rfl; rw [add_field _ _ 1 (by omega)] at hv169_1; replace hv169_1 := Option.some.inj (hv169_1.symm.trans hx169_1); rw [hv169_1] at ge169_1; have HL169_1 := Aside0.mk (show Kd.R (Kd.int .u64) 48 _ _ _ _ ((rd_T37 t164 0).f1) from ge169_1); clear hv169_1 ge169_1; have hv169_2 := hcc169 2 _ rfl; rw [add_field _ _ 2 (by omega)] at hv169_2; replace hv169_2 := Option.some.inj (hv169_2.symm.trans hx169_2); rw [hv169_2] at ge169_2; have HL169_2 := Aside0.mk (show Kd.R (Kd.int .u8) 5 _ _ _ _ ((rd_T37 t164 0).f2) from ge169_2); clear hv169_2 ge169_2; clear hcc169 hce169; have qi169 : (0 < t164.length) = True := eq_true (by omega); (try rw [show ((0 : Int)).toNat = 0 from rfl] at hx169_0); (try rw [show 0 * 3 = 0 from rfl] at hx169_0); (try rw [Addr.add_zero'] at hx169_0); (try rw [show ((0 : Int)).toNat = 0 from rfl] at hx169_1); (try rw [show 0 * 3 = 0 from rfl] at hx169_1); (try rw [Addr.add_zero'] at hx169_1); (try rw [show ((0 : Int)).toNat = 0 from rfl] at hx169_2); (try rw [show 0 * 3 = 0 from rfl] at hx169_2); (try rw [Addr.add_zero'] at hx169_2); have HR169_1 := Aside0.mk hi169_1; have HC169_1 := Aside0.mk hl169_1; clear hi169_1 hl169_1; have HR169_2 := Aside0.mk hi169_2; have HC169_2 := Aside0.mk hl169_2; clear hi169_2 hl169_2; replace p169 := eq_true p169; replace q169 := eq_true q169; have p170 : 0 ≤ (0 : Int) := (by omega); have q170 : 0 < (t164.length : Int) := of_decide_eq_true (by first | (with_reducible assumption) | assumption); obtain ⟨ad170, A170_1, c170_1, A170_2, c170_2, e170, hx170_0, hx170_1, hx170_2, hl170_1, hi170_1, hl170_2, hi170_2⟩ := at_T37 (Kd.S_reads' HO168.out).2.2 0 p170 q170; obtain rfl : ad169 = ad170 := (by injection e170); obtain ⟨ce170, hce170, hMe170, hcc170⟩ := Kd.S_get HO168.out z37 0 p170 (by first | exact q170 | exact of_decide_eq_true (by first | (with_reducible assumption) | assumption) | (have e_ := (Kd.S_reads' HO168.out).1; omega)); obtain ⟨ve170_1, ve170_2, rfl, ge170_1, ge170_2⟩ := k37_openM hMe170; have hv170_1 := hcc170 1 _ rfl; rw [add_field _ _ 1 (by omega)] at hv170_1; replace hv170_1 := Option.some.inj (hv170_1.symm.trans hx170_1); rw [hv170_1] at ge170_1; have HL170_1 := Aside0.mk (show Kd.R (Kd.int .u64) 48 _ _ _ _ ((rd_T37 t164 0).f1) from ge170_1); clear hv170_1 ge170_1; have hv170_2 := hcc170 2 _ rfl; rw [add_field _ _ 2 (by omega)] at hv170_2; replace hv170_2 := Option.some.inj (hv170_2.symm.trans hx170_2); rw [hv170_2] at ge170_2; have HL170_2 := Aside0.mk (show Kd.R (Kd.int .u8) 5 _ _ _ _ ((rd_T37 t164 0).f2) from ge170_2); clear hv170_2 ge170_2; clear hcc170 hce170; have qi170 : (0 < t164.length) = True := eq_true (by omega); (try rw [show ((0 : Int)).toNat = 0 from rfl] at hx170_0); (try rw [show 0 * 3 = 0 from rfl] at hx170_0); (try rw [Addr.add_zero'] at hx170_0); (try rw [show ((0 : Int)).toNat = 0 from rfl] at hx170_1); (try rw [show 0 * 3 = 0 from rfl] at hx170_1); (try rw [Addr.add_zero'] at hx170_1); (try rw [show ((0 : Int)).toNat = 0 from rfl] at hx170_2); (try rw [show 0 * 3 = 0 from rfl] at hx170_2); (try rw [Addr.add_zero'] at hx170_2); have HR170_1 := Aside0.mk hi170_1; have HC170_1 := Aside0.mk hl170_1; clear hi170_1 hl170_1; have HR170_2 := Aside0.mk hi170_2; have HC170_2 := Aside0.mk hl170_2; clear hi170_2 hl170_2; replace p170 := eq_true p170; replace q170 := eq_true q170; have ea_ := Option.some.inj (hx169_1.symm.trans hx170_1); injection ea_ with ea_ en_ ec_; subst ea_; subst ec_; clear en_; have ea_ := Option.some.inj (hx169_2.symm.trans hx170_2); injection ea_ with ea_ en_ ec_; subst ea_; subst ec_; clear en_) | ((with_reducible refine gate_dst (N := 32) rfl ?_); (try (refine gate_guard (by rfl) ?_; dsimp only)); refine Kd.R_lit (Kd.int .u64) _ 48 ?hg (N := 32) ?hd (xs := ([7, 2] : List Int)) (inner := [.int .u64 7, .int .u64 2]) (ok := fun _ => True) (okp := fun _ => True) ?hr ?hp (fun _ hk => hk) trivial (Below.refl _ _) (Nat.le_refl _) (by simp) ?_; (case hd => rfl); (case hg => rfl); (case hr => first | (go_simp; done) | (go_simp; rfl)); (case hp => exact (Reps.one (show Kd.M (Kd.int .u64) _ _ _ 7 [.int .u64 7] from rfl) (Reps.one (show Kd.M (Kd.int .u64) _ _ _ 2 [.int .u64 2] from rfl) (Reps.none _ _)))); intro v172 w12 ho13 hb hg_ hnew_; clear hg_ hnew_; (first | rw [← Ny171.out] at ho13 | (simp only [Int.reduceToNat] at ho13; rw [← Ny171.out] at ho13)); have n0_ := Aside0.mk (Kd.S_elder' (by (with_reducible repeat (first | apply Kd.S_alloc | apply Kd.S_drewN | apply Kd.S_drew)); exact HO168.out) (Kd.R_base ho13) hb); have n1_ := Aside0.mk (Kd.R_elder' (by (with_reducible repeat (first | apply Kd.R_alloc | apply Kd.R_drewN | apply Kd.R_drew)); exact HL169_1.out) (Kd.R_base ho13) hb); have n2_ := Aside0.mk (Kd.R_below (by (with_reducible repeat (first | apply Kd.R_alloc | apply Kd.R_drewN | apply Kd.R_drew)); exact HL169_2.out) hb); have n3_ := Aside0.mk (Kd.R_elder' (by (with_reducible repeat (first | apply Kd.R_alloc | apply Kd.R_drewN | apply Kd.R_drew)); exact HL170_1.out) (Kd.R_base ho13) hb); have n4_ := Aside0.mk (Kd.R_below (by (with_reducible repeat (first | apply Kd.R_alloc | apply Kd.R_drewN | apply Kd.R_drew)); exact HL170_2.out) hb); have n5_ := Aside0.mk (Kd.R_lower (Kd.R_new' (Kd.R_new' ho13 (Kd.R_lt (by (with_reducible repeat (first | apply Kd.R_alloc | apply Kd.R_drewN | apply Kd.R_drew)); exact HL169_1.out))) (Kd.R_lt (by (with_reducible repeat (first | apply Kd.R_alloc | apply Kd.R_drewN | apply Kd.R_drew)); exact HL170_1.out))) (below_size (by repeat (first | (with_reducible first | exact HB.out | apply below_alloc | apply pw_below_drewN | apply below_drew1) | exact HB.out)))); have n6_ := Aside0.mk (Kd.C_below (by repeat (first | (with_reducible exact HR169_1.out) | (with_reducible refine Kd.C_alloc ?_ _) | (with_reducible refine Kd.C_drewN ?_ _) | (with_reducible refine Kd.C_drew ?_) | exact HR169_1.out)) hb); have n7_ := Aside0.mk (Kd.C_below (by repeat (first | (with_reducible exact HR169_2.out) | (with_reducible refine Kd.C_alloc ?_ _) | (with_reducible refine Kd.C_drewN ?_ _) | (with_reducible refine Kd.C_drew ?_) | exact HR169_2.out)) hb); have n8_ := Aside0.mk (Kd.C_below (by repeat (first | (with_reducible exact HR170_1.out) | (with_reducible refine Kd.C_alloc ?_ _) | (with_reducible refine Kd.C_drewN ?_ _) | (with_reducible refine Kd.C_drew ?_) | exact HR170_1.out)) hb); have n9_ := Aside0.mk (Kd.C_below (by repeat (first | (with_reducible exact HR170_2.out) | (with_reducible refine Kd.C_alloc ?_ _) | (with_reducible refine Kd.C_drewN ?_ _) | (with_reducible refine Kd.C_drew ?_) | exact HR170_2.out)) hb); have n10_ := Aside0.mk (below_step (by repeat (first | (with_reducible first | exact HB.out | apply below_alloc | apply pw_below_drewN | apply below_drew1) | exact HB.out)) hb); clear HO168; clear HL169_1; clear HL169_2; clear HL170_1; clear HL170_2; clear HR169_1; clear HR169_2; clear HR170_1; clear HR170_2; clear HB; have HO168 := n0_; have HL169_1 := n1_; have HL169_2 := n2_; have HL170_1 := n3_; have HL170_2 := n4_; have HO173 := n5_; have HR169_1 := n6_; have HR169_2 := n7_; have HR170_1 := n8_; have HR170_2 := n9_; have HB := n10_; clear n0_ n1_ n2_ n3_ n4_ n5_ n6_ n7_ n8_ n9_ n10_; clear hb ho13; obtain ⟨Ao14, co14, eo14⟩ := Kd.R_slice HO173.out; subst eo14) | (go_at_call 15; (with_reducible refine (slices_Equal_uint64_uint64.calls k _ _ ((rd_T37 t164 0).f1) _ _ y171 true _ ?side1 ?side2 ?side3 ?side4 A7.out).mono ?_); (case side1 => repeat (first | exact (by repeat (first | (with_reducible exact HR170_1.out) | (with_reducible refine Kd.C_alloc ?_ _) | (with_reducible refine Kd.C_drewN ?_ _) | (with_reducible refine Kd.C_drew ?_) | exact HR170_1.out)) | (with_reducible refine Kd.C_alloc ?_ _) | (with_reducible refine Kd.C_drewN ?_ _) | (with_reducible refine Kd.C_drew ?_))); (case side2 => exact HC170_1.out); (case side3 => repeat (first | exact (Kd.R_reads' HO173.out).2.2 | (with_reducible refine Kd.C_alloc ?_ _) | (with_reducible refine Kd.C_drewN ?_ _) | (with_reducible refine Kd.C_drew ?_))); (case side4 => exact (Kd.R_reads' HO173.out).2.1); rintro e w' ⟨rfl, ⟨nd, rfl⟩⟩; have p175 : 0 ≤ (0 : Int) := (by omega); have q175 : 0 < (t164.length : Int) := of_decide_eq_true (by first | (with_reducible assumption) | assumption); obtain ⟨ad175, A175_1, c175_1, A175_2, c175_2, e175, hx175_0, hx175_1, hx175_2, hl175_1, hi175_1, hl175_2, hi175_2⟩ := at_T37 (Kd.S_reads' HO168.out).2.2 0 p175 q175; obtain rfl : ad169 = ad175 := (by injection e175); obtain ⟨ce175, hce175, hMe175, hcc175⟩ := Kd.S_get HO168.out z37 0 p175 (by first | exact q175 | exact of_decide_eq_true (by first | (with_reducible assumption) | assumption) | (have e_ := (Kd.S_reads' HO168.out).1; omega)); obtain ⟨ve175_1, ve175_2, rfl, ge175_1, ge175_2⟩ := k37_openM hMe175; have hv175_1 := hcc175 1 _ rfl; rw [add_field _ _ 1 (by omega)] at hv175_1; replace hv175_1 := Option.some.inj (hv175_1.symm.trans hx175_1); rw [hv175_1] at ge175_1; have HL175_1 := Aside0.mk (show Kd.R (Kd.int .u64) 48 _ _ _ _ ((rd_T37 t164 0).f1) from ge175_1); clear hv175_1 ge175_1; have hv175_2 := hcc175 2 _ rfl; rw [add_field _ _ 2 (by omega)] at hv175_2; replace hv175_2 := Option.some.inj (hv175_2.symm.trans hx175_2); rw [hv175_2] at ge175_2; have HL175_2 := Aside0.mk (show Kd.R (Kd.int .u8) 5 _ _ _ _ ((rd_T37 t164 0).f2) from ge175_2); clear hv175_2 ge175_2; clear hcc175 hce175; have qi175 : (0 < t164.length) = True := eq_true (by omega); (try rw [show ((0 : Int)).toNat = 0 from rfl] at hx175_0); (try rw [show 0 * 3 = 0 from rfl] at hx175_0); (try rw [Addr.add_zero'] at hx175_0); (try rw [show ((0 : Int)).toNat = 0 from rfl] at hx175_1); (try rw [show 0 * 3 = 0 from rfl] at hx175_1); (try rw [Addr.add_zero'] at hx175_1); (try rw [show ((0 : Int)).toNat = 0 from rfl] at hx175_2); (try rw [show 0 * 3 = 0 from rfl] at hx175_2); (try rw [Addr.add_zero'] at hx175_2); have HR175_1 := Aside0.mk hi175_1; have HC175_1 := Aside0.mk hl175_1; clear hi175_1 hl175_1; have HR175_2 := Aside0.mk hi175_2; have HC175_2 := Aside0.mk hl175_2; clear hi175_2 hl175_2; replace p175 := eq_true p175; replace q175 := eq_true q175) | ((with_reducible refine gate_dst (N := 40) rfl ?_); (try (refine gate_guard (by rfl) ?_; dsimp only)); refine Kd.R_lit (Kd.int .u8) _ 5 ?hg (N := 40) ?hd (xs := ([1, 2, 255] : List Int)) (inner := [.int .u8 1, .int .u8 2, .int .u8 255]) (ok := fun _ => True) (okp := fun _ => True) ?hr ?hp (fun _ hk => hk) trivial (Below.refl _ _) (Nat.le_refl _) (by simp) ?_; (case hd => rfl); (case hg => rfl); (case hr => first | (go_simp; done) | (go_simp; rfl)); (case hp => exact (Reps.one (show Kd.M (Kd.int .u8) _ _ _ 1 [.int .u8 1] from rfl) (Reps.one (show Kd.M (Kd.int .u8) _ _ _ 2 [.int .u8 2] from rfl) (Reps.one (show Kd.M (Kd.int .u8) _ _ _ 255 [.int .u8 255] from rfl) (Reps.none _ _))))); intro v177 w15 ho16 hb hg_ hnew_; clear hg_ hnew_; (first | rw [← Ny176.out] at ho16 | (simp only [Int.reduceToNat] at ho16; rw [← Ny176.out] at ho16)); have n0_ := Aside0.mk (Kd.S_elder' (by (with_reducible repeat (first | apply Kd.S_alloc | apply Kd.S_drewN | apply Kd.S_drew)); exact HO168.out) (Kd.R_base ho16) hb); have n1_ := Aside0.mk (Kd.R_below (by (with_reducible repeat (first | apply Kd.R_alloc | apply Kd.R_drewN | apply Kd.R_drew)); exact HL169_1.out) hb); have n2_ := Aside0.mk (Kd.R_elder' (by (with_reducible repeat (first | apply Kd.R_alloc | apply Kd.R_drewN | apply Kd.R_drew)); exact HL169_2.out) (Kd.R_base ho16) hb); have n3_ := Aside0.mk (Kd.R_below (by (with_reducible repeat (first | apply Kd.R_alloc | apply Kd.R_drewN | apply Kd.R_drew)); exact HL170_1.out) hb); have n4_ := Aside0.mk (Kd.R_elder' (by (with_reducible repeat (first | apply Kd.R_alloc | apply Kd.R_drewN | apply Kd.R_drew)); exact HL170_2.out) (Kd.R_base ho16) hb); have n5_ := Aside0.mk (Kd.R_below (by (with_reducible repeat (first | apply Kd.R_alloc | apply Kd.R_drewN | apply Kd.R_drew)); exact HO173.out) hb); have n6_ := Aside0.mk (Kd.R_below (by (with_reducible repeat (first | apply Kd.R_alloc | apply Kd.R_drewN | apply Kd.R_drew)); exact HL175_1.out) hb); have n7_ := Aside0.mk (Kd.R_elder' (by (with_reducible repeat (first | apply Kd.R_alloc | apply Kd.R_drewN | apply Kd.R_drew)); exact HL175_2.out) (Kd.R_base ho16) hb); have n8_ := Aside0.mk (Kd.R_lower (Kd.R_new' (Kd.R_new' (Kd.R_new' ho16 (Kd.R_lt (by (with_reducible repeat (first | apply Kd.R_alloc | apply Kd.R_drewN | apply Kd.R_drew)); exact HL169_2.out))) (Kd.R_lt (by (with_reducible repeat (first | apply Kd.R_alloc | apply Kd.R_drewN | apply Kd.R_drew)); exact HL170_2.out))) (Kd.R_lt (by (with_reducible repeat (first | apply Kd.R_alloc | apply Kd.R_drewN | apply Kd.R_drew)); exact HL175_2.out))) (below_size (by repeat (first | (with_reducible first | exact HB.out | apply below_alloc | apply pw_below_drewN | apply below_drew1) | exact HB.out)))); have n9_ := Aside0.mk (Kd.C_below (by repeat (first | (with_reducible exact HR169_1.out) | (with_reducible refine Kd.C_alloc ?_ _) | (with_reducible refine Kd.C_drewN ?_ _) | (with_reducible refine Kd.C_drew ?_) | exact HR169_1.out)) hb); have n10_ := Aside0.mk (Kd.C_below (by repeat (first | (with_reducible exact HR169_2.out) | (with_reducible refine Kd.C_alloc ?_ _) | (with_reducible refine Kd.C_drewN ?_ _) | (with_reducible refine Kd.C_drew ?_) | exact HR169_2.out)) hb); have n11_ := Aside0.mk (Kd.C_below (by repeat (first | (with_reducible exact HR170_1.out) | (with_reducible refine Kd.C_alloc ?_ _) | (with_reducible refine Kd.C_drewN ?_ _) | (with_reducible refine Kd.C_drew ?_) | exact HR170_1.out)) hb); have n12_ := Aside0.mk (Kd.C_below (by repeat (first | (with_reducible exact HR170_2.out) | (with_reducible refine Kd.C_alloc ?_ _) | (with_reducible refine Kd.C_drewN ?_ _) | (with_reducible refine Kd.C_drew ?_) | exact HR170_2.out)) hb); have n13_ := Aside0.mk (Kd.C_below (by repeat (first | (with_reducible exact HR175_1.out) | (with_reducible refine Kd.C_alloc ?_ _) | (with_reducible refine Kd.C_drewN ?_ _) | (with_reducible refine Kd.C_drew ?_) | exact HR175_1.out)) hb); have n14_ := Aside0.mk (Kd.C_below (by repeat (first | (with_reducible exact HR175_2.out) | (with_reducible refine Kd.C_alloc ?_ _) | (with_reducible refine Kd.C_drewN ?_ _) | (with_reducible refine Kd.C_drew ?_) | exact HR175_2.out)) hb); have n15_ := Aside0.mk (below_step (by repeat (first | (with_reducible first | exact HB.out | apply below_alloc | apply pw_below_drewN | apply below_drew1) | exact HB.out)) hb); clear HO168; clear HL169_1; clear HL169_2; clear HL170_1; clear HL170_2; clear HO173; clear HL175_1; clear HL175_2; clear HR169_1; clear HR169_2; clear HR170_1; clear HR170_2; clear HR175_1; clear HR175_2; clear HB; have HO168 := n0_; have HL169_1 := n1_; have HL169_2 := n2_; have HL170_1 := n3_; have HL170_2 := n4_; have HO173 := n5_; have HL175_1 := n6_; have HL175_2 := n7_; have HO178 := n8_; have HR169_1 := n9_; have HR169_2 := n10_; have HR170_1 := n11_; have HR170_2 := n12_; have HR175_1 := n13_; have HR175_2 := n14_; have HB := n15_; clear n0_ n1_ n2_ n3_ n4_ n5_ n6_ n7_ n8_ n9_ n10_ n11_ n12_ n13_ n14_ n15_; clear hb ho16; obtain ⟨Ao17, co17, eo17⟩ := Kd.R_slice HO178.out; subst eo17) | (go_at_call 16; (with_reducible refine (wellspringref02_Same.calls k _ _ ((rd_T37 t164 0).f2) _ _ y176 t179 _ ?side1 ?side2 ?side3 ?side4 A9.out).mono ?_); (case side1 => repeat (first | exact (by repeat (first | (with_reducible exact HR175_2.out) | (with_reducible refine Kd.C_alloc ?_ _) | (with_reducible refine Kd.C_drewN ?_ _) | (with_reducible refine Kd.C_drew ?_) | exact HR175_2.out)) | (with_reducible refine Kd.C_alloc ?_ _) | (with_reducible refine Kd.C_drewN ?_ _) | (with_reducible refine Kd.C_drew ?_))); (case side2 => exact HC175_2.out); (case side3 => repeat (first | exact (Kd.R_reads' HO178.out).2.2 | (with_reducible refine Kd.C_alloc ?_ _) | (with_reducible refine Kd.C_drewN ?_ _) | (with_reducible refine Kd.C_drew ?_))); (case side4 => exact (Kd.R_reads' HO178.out).2.1); rintro e w' ⟨rfl, ⟨nd, rfl⟩⟩))
       go_ret
       exact ⟨by first | rfl | (simp [errW_none, errW_some] <;> rfl) | (simp [*, errW_none, errW_some] <;> rfl), by repeat (first | (with_reducible first | exact HB.out | apply below_alloc | apply pw_below_drewN | apply below_drew1) | exact HB.out)⟩
      ·replace c8 := Bool.eq_false_iff.mpr c8
       subst c8
       have H1 : (some false) = some r := by rw [if_neg (show ¬ (false = true) by decide)] at H; exact H
       clear H
       have H := H1
       clear H1
       obtain rfl := Option.some.inj H
       go_enter Tryd.func6, Tryd.ntmps6
       go_wp2_with (first | ((with_reducible refine gate_callee (f := 7) rfl ?_); refine goesL_ (some 5) rfl rfl Tryd.func7 (by kernel_rfl) rfl #[.string (⟨#[98, 101, 103, 105, 110, 32, 55, 32, 50, 32, 48, 49, 48, 50, 102, 102, 10]⟩ : ByteArray)] rfl (by (try simp only [List.map_toArray, List.map_cons, List.map_nil]); first | done | rfl | (simp only [List.length_drop, List.length_take]; rfl)) ?_; (with_reducible refine (script_Parse.calls k (⟨#[98, 101, 103, 105, 110, 32, 55, 32, 50, 32, 48, 49, 48, 50, 102, 102, 10]⟩ : ByteArray) t164 t165 t166 _ (by exact hI.below (by repeat (first | (with_reducible first | exact HB.out | exact (Below.refl _ _) | apply below_alloc | apply pw_below_drewN | apply below_drew1) | exact HB.out))) A1.out).mono ?_); rintro e w18 ⟨v167, rfl, ho0, hb⟩; refine ⟨_, rfl, ?_⟩; have n0_ := Aside0.mk (Kd.S_lower ho0 (below_size (by repeat (first | (with_reducible first | exact HB.out | apply below_alloc | apply pw_below_drewN | apply below_drew1) | exact HB.out)))); have n1_ := Aside0.mk (below_step (by repeat (first | (with_reducible first | exact HB.out | apply below_alloc | apply pw_below_drewN | apply below_drew1) | exact HB.out)) hb); clear HB; have HO168 := n0_; have HB := n1_; clear n0_ n1_; (try clear hb); (try clear hb2); (try clear hk); (try clear hi); (try clear ho0); obtain ⟨Ao19, co19, eo19⟩ := Kd.S_slice HO168.out; subst eo19; have p169 : 0 ≤ (0 : Int) := (by omega); have q169 : 0 < (t164.length : Int) := of_decide_eq_true (by first | (with_reducible assumption) | assumption); obtain ⟨ad169, A169_1, c169_1, A169_2, c169_2, e169, hx169_0, hx169_1, hx169_2, hl169_1, hi169_1, hl169_2, hi169_2⟩ := at_T37 (Kd.S_reads' HO168.out).2.2 0 p169 q169; cases e169; obtain ⟨ce169, hce169, hMe169, hcc169⟩ := Kd.S_get HO168.out z37 0 p169 (by first | exact q169 | exact of_decide_eq_true (by first | (with_reducible assumption) | assumption) | (have e_ := (Kd.S_reads' HO168.out).1; omega)); obtain ⟨ve169_1, ve169_2, rfl, ge169_1, ge169_2⟩ := k37_openM hMe169; have hv169_1 := hcc169 1 _ rfl; rw [add_field _ _ 1 (by omega)] at hv169_1; replace hv169_1 := Option.some.inj (hv169_1.symm.trans hx169_1); rw [hv169_1] at ge169_1; have HL169_1 := Aside0.mk (show Kd.R (Kd.int .u64) 48 _ _ _ _ ((rd_T37 t164 0).f1) from ge169_1); clear hv169_1 ge169_1; have hv169_2 := hcc169 2 _ rfl; rw [add_field _ _ 2 (by omega)] at hv169_2; replace hv169_2 := Option.some.inj (hv169_2.symm.trans hx169_2); rw [hv169_2] at ge169_2; have HL169_2 := Aside0.mk (show Kd.R (Kd.int .u8) 5 _ _ _ _ ((rd_T37 t164 0).f2) from ge169_2); clear hv169_2 ge169_2; clear hcc169 hce169; have qi169 : (0 < t164.length) = True := eq_true (by omega); (try rw [show ((0 : Int)).toNat = 0 from rfl] at hx169_0); (try rw [show 0 * 3 = 0 from rfl] at hx169_0); (try rw [Addr.add_zero'] at hx169_0); (try rw [show ((0 : Int)).toNat = 0 from rfl] at hx169_1); (try rw [show 0 * 3 = 0 from rfl] at hx169_1); (try rw [Addr.add_zero'] at hx169_1); (try rw [show ((0 : Int)).toNat = 0 from rfl] at hx169_2); (try rw [show 0 * 3 = 0 from rfl] at hx169_2); (try rw [Addr.add_zero'] at hx169_2); have HR169_1 := Aside0.mk hi169_1; have HC169_1 := Aside0.mk hl169_1; clear hi169_1 hl169_1; have HR169_2 := Aside0.mk hi169_2; have HC169_2 := Aside0.mk hl169_2; clear hi169_2 hl169_2; replace p169 := eq_true p169; replace q169 := eq_true q169; have p170 : 0 ≤ (0 : Int) := (by omega); have q170 : 0 < (t164.length : Int) := of_decide_eq_true (by first | (with_reducible assumption) | assumption); obtain ⟨ad170, A170_1, c170_1, A170_2, c170_2, e170, hx170_0, hx170_1, hx170_2, hl170_1, hi170_1, hl170_2, hi170_2⟩ := at_T37 (Kd.S_reads' HO168.out).2.2 0 p170 q170; obtain rfl : ad169 = ad170 := (by injection e170); obtain ⟨ce170, hce170, hMe170, hcc170⟩ := Kd.S_get HO168.out z37 0 p170 (by first | exact q170 | exact of_decide_eq_true (by first | (with_reducible assumption) | assumption) | (have e_ := (Kd.S_reads' HO168.out).1; omega)); obtain ⟨ve170_1, ve170_2, rfl, ge170_1, ge170_2⟩ := k37_openM hMe170; have hv170_1 := hcc170 1 _ rfl; rw [add_field _ _ 1 (by omega)] at hv170_1; replace hv170_1 := Option.some.inj (hv170_1.symm.trans hx170_1); rw [hv170_1] at ge170_1; have HL170_1 := Aside0.mk (show Kd.R (Kd.int .u64) 48 _ _ _ _ ((rd_T37 t164 0).f1) from ge170_1); clear hv170_1 ge170_1; have hv170_2 := hcc170 2 _ rfl; rw [add_field _ _ 2 (by omega)] at hv170_2; replace hv170_2 := Option.some.inj (hv170_2.symm.trans hx170_2); rw [hv170_2] at ge170_2; have HL170_2 := Aside0.mk (show Kd.R (Kd.int .u8) 5 _ _ _ _ ((rd_T37 t164 0).f2) from ge170_2); clear hv170_2 ge170_2; clear hcc170 hce170; have qi170 : (0 < t164.length) = True := eq_true (by omega); (try rw [show ((0 : Int)).toNat = 0 from rfl] at hx170_0); (try rw [show 0 * 3 = 0 from rfl] at hx170_0); (try rw [Addr.add_zero'] at hx170_0); (try rw [show ((0 : Int)).toNat = 0 from rfl] at hx170_1); (try rw [show 0 * 3 = 0 from rfl] at hx170_1); (try rw [Addr.add_zero'] at hx170_1); (try rw [show ((0 : Int)).toNat = 0 from rfl] at hx170_2); (try rw [show 0 * 3 = 0 from rfl] at hx170_2); (try rw [Addr.add_zero'] at hx170_2); have HR170_1 := Aside0.mk hi170_1; have HC170_1 := Aside0.mk hl170_1; clear hi170_1 hl170_1; have HR170_2 := Aside0.mk hi170_2; have HC170_2 := Aside0.mk hl170_2; clear hi170_2 hl170_2; replace p170 := eq_true p170; replace q170 := eq_true q170; have ea_ := Option.some.inj (hx169_1.symm.trans hx170_1); injection ea_ with ea_ en_ ec_; subst ea_; subst ec_; clear en_; have ea_ := Option.some.inj (hx169_2.symm.trans hx170_2); injection ea_ with ea_ en_ ec_; subst ea_; subst ec_; clear en_) | ((with_reducible refine gate_dst (N := 32) rfl ?_); (try (refine gate_guard (by rfl) ?_; dsimp only)); refine Kd.R_lit (Kd.int .u64) _ 48 ?hg (N := 32) ?hd (xs := ([7, 2] : List Int)) (inner := [.int .u64 7, .int .u64 2]) (ok := fun _ => True) (okp := fun _ => True) ?hr ?hp (fun _ hk => hk) trivial (Below.refl _ _) (Nat.le_refl _) (by simp) ?_; (case hd => rfl); (case hg => rfl); (case hr => first | (go_simp; done) | (go_simp; rfl)); (case hp => exact (Reps.one (show Kd.M (Kd.int .u64) _ _ _ 7 [.int .u64 7] from rfl) (Reps.one (show Kd.M (Kd.int .u64) _ _ _ 2 [.int .u64 2] from rfl) (Reps.none _ _)))); intro v172 w20 ho21 hb hg_ hnew_; clear hg_ hnew_; (first | rw [← Ny171.out] at ho21 | (simp only [Int.reduceToNat] at ho21; rw [← Ny171.out] at ho21)); have n0_ := Aside0.mk (Kd.S_elder' (by (with_reducible repeat (first | apply Kd.S_alloc | apply Kd.S_drewN | apply Kd.S_drew)); exact HO168.out) (Kd.R_base ho21) hb); have n1_ := Aside0.mk (Kd.R_elder' (by (with_reducible repeat (first | apply Kd.R_alloc | apply Kd.R_drewN | apply Kd.R_drew)); exact HL169_1.out) (Kd.R_base ho21) hb); have n2_ := Aside0.mk (Kd.R_below (by (with_reducible repeat (first | apply Kd.R_alloc | apply Kd.R_drewN | apply Kd.R_drew)); exact HL169_2.out) hb); have n3_ := Aside0.mk (Kd.R_elder' (by (with_reducible repeat (first | apply Kd.R_alloc | apply Kd.R_drewN | apply Kd.R_drew)); exact HL170_1.out) (Kd.R_base ho21) hb); have n4_ := Aside0.mk (Kd.R_below (by (with_reducible repeat (first | apply Kd.R_alloc | apply Kd.R_drewN | apply Kd.R_drew)); exact HL170_2.out) hb); have n5_ := Aside0.mk (Kd.R_lower (Kd.R_new' (Kd.R_new' ho21 (Kd.R_lt (by (with_reducible repeat (first | apply Kd.R_alloc | apply Kd.R_drewN | apply Kd.R_drew)); exact HL169_1.out))) (Kd.R_lt (by (with_reducible repeat (first | apply Kd.R_alloc | apply Kd.R_drewN | apply Kd.R_drew)); exact HL170_1.out))) (below_size (by repeat (first | (with_reducible first | exact HB.out | apply below_alloc | apply pw_below_drewN | apply below_drew1) | exact HB.out)))); have n6_ := Aside0.mk (Kd.C_below (by repeat (first | (with_reducible exact HR169_1.out) | (with_reducible refine Kd.C_alloc ?_ _) | (with_reducible refine Kd.C_drewN ?_ _) | (with_reducible refine Kd.C_drew ?_) | exact HR169_1.out)) hb); have n7_ := Aside0.mk (Kd.C_below (by repeat (first | (with_reducible exact HR169_2.out) | (with_reducible refine Kd.C_alloc ?_ _) | (with_reducible refine Kd.C_drewN ?_ _) | (with_reducible refine Kd.C_drew ?_) | exact HR169_2.out)) hb); have n8_ := Aside0.mk (Kd.C_below (by repeat (first | (with_reducible exact HR170_1.out) | (with_reducible refine Kd.C_alloc ?_ _) | (with_reducible refine Kd.C_drewN ?_ _) | (with_reducible refine Kd.C_drew ?_) | exact HR170_1.out)) hb); have n9_ := Aside0.mk (Kd.C_below (by repeat (first | (with_reducible exact HR170_2.out) | (with_reducible refine Kd.C_alloc ?_ _) | (with_reducible refine Kd.C_drewN ?_ _) | (with_reducible refine Kd.C_drew ?_) | exact HR170_2.out)) hb); have n10_ := Aside0.mk (below_step (by repeat (first | (with_reducible first | exact HB.out | apply below_alloc | apply pw_below_drewN | apply below_drew1) | exact HB.out)) hb); clear HO168; clear HL169_1; clear HL169_2; clear HL170_1; clear HL170_2; clear HR169_1; clear HR169_2; clear HR170_1; clear HR170_2; clear HB; have HO168 := n0_; have HL169_1 := n1_; have HL169_2 := n2_; have HL170_1 := n3_; have HL170_2 := n4_; have HO173 := n5_; have HR169_1 := n6_; have HR169_2 := n7_; have HR170_1 := n8_; have HR170_2 := n9_; have HB := n10_; clear n0_ n1_ n2_ n3_ n4_ n5_ n6_ n7_ n8_ n9_ n10_; clear hb ho21; obtain ⟨Ao22, co22, eo22⟩ := Kd.R_slice HO173.out; subst eo22) | (go_at_call 15; (with_reducible refine (slices_Equal_uint64_uint64.calls k _ _ ((rd_T37 t164 0).f1) _ _ y171 false _ ?side1 ?side2 ?side3 ?side4 A7.out).mono ?_); (case side1 => repeat (first | exact (by repeat (first | (with_reducible exact HR170_1.out) | (with_reducible refine Kd.C_alloc ?_ _) | (with_reducible refine Kd.C_drewN ?_ _) | (with_reducible refine Kd.C_drew ?_) | exact HR170_1.out)) | (with_reducible refine Kd.C_alloc ?_ _) | (with_reducible refine Kd.C_drewN ?_ _) | (with_reducible refine Kd.C_drew ?_))); (case side2 => exact HC170_1.out); (case side3 => repeat (first | exact (Kd.R_reads' HO173.out).2.2 | (with_reducible refine Kd.C_alloc ?_ _) | (with_reducible refine Kd.C_drewN ?_ _) | (with_reducible refine Kd.C_drew ?_))); (case side4 => exact (Kd.R_reads' HO173.out).2.1); rintro e w' ⟨rfl, ⟨nd, rfl⟩⟩))
       go_ret
       exact ⟨by first | rfl | (simp [errW_none, errW_some] <;> rfl) | (simp [*, errW_none, errW_some] <;> rfl), by repeat (first | (with_reducible first | exact HB.out | apply below_alloc | apply pw_below_drewN | apply below_drew1) | exact HB.out)⟩
     ·rw [if_neg c6] at H
      have c6b0 : (((rd_T37 t164 0).f0).toList == ([98, 101, 103, 105, 110] : List UInt8)) = false := beq_eq_false_iff_ne.mpr c6
      have c6b1 : (((rd_T37 t164 0).f0).toList != ([98, 101, 103, 105, 110] : List UInt8)) = true := bne_iff_ne.mpr c6
      obtain rfl := Option.some.inj H
      go_enter Tryd.func6, Tryd.ntmps6
      go_wp2_with (first | ((with_reducible refine gate_callee (f := 7) rfl ?_); refine goesL_ (some 5) rfl rfl Tryd.func7 (by kernel_rfl) rfl #[.string (⟨#[98, 101, 103, 105, 110, 32, 55, 32, 50, 32, 48, 49, 48, 50, 102, 102, 10]⟩ : ByteArray)] rfl (by (try simp only [List.map_toArray, List.map_cons, List.map_nil]); first | done | rfl | (simp only [List.length_drop, List.length_take]; rfl)) ?_; (with_reducible refine (script_Parse.calls k (⟨#[98, 101, 103, 105, 110, 32, 55, 32, 50, 32, 48, 49, 48, 50, 102, 102, 10]⟩ : ByteArray) t164 t165 t166 _ (by exact hI.below (by repeat (first | (with_reducible first | exact HB.out | exact (Below.refl _ _) | apply below_alloc | apply pw_below_drewN | apply below_drew1) | exact HB.out))) A1.out).mono ?_); rintro e w23 ⟨v167, rfl, ho0, hb⟩; refine ⟨_, rfl, ?_⟩; have n0_ := Aside0.mk (Kd.S_lower ho0 (below_size (by repeat (first | (with_reducible first | exact HB.out | apply below_alloc | apply pw_below_drewN | apply below_drew1) | exact HB.out)))); have n1_ := Aside0.mk (below_step (by repeat (first | (with_reducible first | exact HB.out | apply below_alloc | apply pw_below_drewN | apply below_drew1) | exact HB.out)) hb); clear HB; have HO168 := n0_; have HB := n1_; clear n0_ n1_; (try clear hb); (try clear hb2); (try clear hk); (try clear hi); (try clear ho0); obtain ⟨Ao24, co24, eo24⟩ := Kd.S_slice HO168.out; subst eo24; have p169 : 0 ≤ (0 : Int) := (by omega); have q169 : 0 < (t164.length : Int) := of_decide_eq_true (by first | (with_reducible assumption) | assumption); obtain ⟨ad169, A169_1, c169_1, A169_2, c169_2, e169, hx169_0, hx169_1, hx169_2, hl169_1, hi169_1, hl169_2, hi169_2⟩ := at_T37 (Kd.S_reads' HO168.out).2.2 0 p169 q169; cases e169; obtain ⟨ce169, hce169, hMe169, hcc169⟩ := Kd.S_get HO168.out z37 0 p169 (by first | exact q169 | exact of_decide_eq_true (by first | (with_reducible assumption) | assumption) | (have e_ := (Kd.S_reads' HO168.out).1; omega)); obtain ⟨ve169_1, ve169_2, rfl, ge169_1, ge169_2⟩ := k37_openM hMe169; have hv169_1 := hcc169 1 _ rfl; rw [add_field _ _ 1 (by omega)] at hv169_1; replace hv169_1 := Option.some.inj (hv169_1.symm.trans hx169_1); rw [hv169_1] at ge169_1; have HL169_1 := Aside0.mk (show Kd.R (Kd.int .u64) 48 _ _ _ _ ((rd_T37 t164 0).f1) from ge169_1); clear hv169_1 ge169_1; have hv169_2 := hcc169 2 _ rfl; rw [add_field _ _ 2 (by omega)] at hv169_2; replace hv169_2 := Option.some.inj (hv169_2.symm.trans hx169_2); rw [hv169_2] at ge169_2; have HL169_2 := Aside0.mk (show Kd.R (Kd.int .u8) 5 _ _ _ _ ((rd_T37 t164 0).f2) from ge169_2); clear hv169_2 ge169_2; clear hcc169 hce169; have qi169 : (0 < t164.length) = True := eq_true (by omega); (try rw [show ((0 : Int)).toNat = 0 from rfl] at hx169_0); (try rw [show 0 * 3 = 0 from rfl] at hx169_0); (try rw [Addr.add_zero'] at hx169_0); (try rw [show ((0 : Int)).toNat = 0 from rfl] at hx169_1); (try rw [show 0 * 3 = 0 from rfl] at hx169_1); (try rw [Addr.add_zero'] at hx169_1); (try rw [show ((0 : Int)).toNat = 0 from rfl] at hx169_2); (try rw [show 0 * 3 = 0 from rfl] at hx169_2); (try rw [Addr.add_zero'] at hx169_2); have HR169_1 := Aside0.mk hi169_1; have HC169_1 := Aside0.mk hl169_1; clear hi169_1 hl169_1; have HR169_2 := Aside0.mk hi169_2; have HC169_2 := Aside0.mk hl169_2; clear hi169_2 hl169_2; replace p169 := eq_true p169; replace q169 := eq_true q169))
      go_ret
      exact ⟨by first | rfl | (simp [errW_none, errW_some] <;> rfl) | (simp [*, errW_none, errW_some] <;> rfl), by repeat (first | (with_reducible first | exact HB.out | apply below_alloc | apply pw_below_drewN | apply below_drew1) | exact HB.out)⟩
    ·rw [if_neg c5] at H
     exact absurd H (by simp)
   ·rw [if_neg c4] at H
    have c4b0 : ((t164.length : Int) == 1) = false := beq_eq_false_iff_ne.mpr c4
    have c4b1 : ((t164.length : Int) != 1) = true := bne_iff_ne.mpr c4
    obtain rfl := Option.some.inj H
    go_enter Tryd.func6, Tryd.ntmps6
    go_wp2_with (first | ((with_reducible refine gate_callee (f := 7) rfl ?_); refine goesL_ (some 5) rfl rfl Tryd.func7 (by kernel_rfl) rfl #[.string (⟨#[98, 101, 103, 105, 110, 32, 55, 32, 50, 32, 48, 49, 48, 50, 102, 102, 10]⟩ : ByteArray)] rfl (by (try simp only [List.map_toArray, List.map_cons, List.map_nil]); first | done | rfl | (simp only [List.length_drop, List.length_take]; rfl)) ?_; (with_reducible refine (script_Parse.calls k (⟨#[98, 101, 103, 105, 110, 32, 55, 32, 50, 32, 48, 49, 48, 50, 102, 102, 10]⟩ : ByteArray) t164 t165 t166 _ (by exact hI.below (by repeat (first | (with_reducible first | exact HB.out | exact (Below.refl _ _) | apply below_alloc | apply pw_below_drewN | apply below_drew1) | exact HB.out))) A1.out).mono ?_); rintro e w25 ⟨v167, rfl, ho0, hb⟩; refine ⟨_, rfl, ?_⟩; have n0_ := Aside0.mk (Kd.S_lower ho0 (below_size (by repeat (first | (with_reducible first | exact HB.out | apply below_alloc | apply pw_below_drewN | apply below_drew1) | exact HB.out)))); have n1_ := Aside0.mk (below_step (by repeat (first | (with_reducible first | exact HB.out | apply below_alloc | apply pw_below_drewN | apply below_drew1) | exact HB.out)) hb); clear HB; have HO168 := n0_; have HB := n1_; clear n0_ n1_; (try clear hb); (try clear hb2); (try clear hk); (try clear hi); (try clear ho0); obtain ⟨Ao26, co26, eo26⟩ := Kd.S_slice HO168.out; subst eo26))
    go_ret
    exact ⟨by first | rfl | (simp [errW_none, errW_some] <;> rfl) | (simp [*, errW_none, errW_some] <;> rfl), by repeat (first | (with_reducible first | exact HB.out | apply below_alloc | apply pw_below_drewN | apply below_drew1) | exact HB.out)⟩
  ·rw [if_neg c3] at H
   have c3b0 : (t165 == 0) = false := beq_eq_false_iff_ne.mpr c3
   have c3b1 : (t165 != 0) = true := bne_iff_ne.mpr c3
   obtain rfl := Option.some.inj H
   go_enter Tryd.func6, Tryd.ntmps6
   go_wp2_with (first | ((with_reducible refine gate_callee (f := 7) rfl ?_); refine goesL_ (some 5) rfl rfl Tryd.func7 (by kernel_rfl) rfl #[.string (⟨#[98, 101, 103, 105, 110, 32, 55, 32, 50, 32, 48, 49, 48, 50, 102, 102, 10]⟩ : ByteArray)] rfl (by (try simp only [List.map_toArray, List.map_cons, List.map_nil]); first | done | rfl | (simp only [List.length_drop, List.length_take]; rfl)) ?_; (with_reducible refine (script_Parse.calls k (⟨#[98, 101, 103, 105, 110, 32, 55, 32, 50, 32, 48, 49, 48, 50, 102, 102, 10]⟩ : ByteArray) t164 t165 t166 _ (by exact hI.below (by repeat (first | (with_reducible first | exact HB.out | exact (Below.refl _ _) | apply below_alloc | apply pw_below_drewN | apply below_drew1) | exact HB.out))) A1.out).mono ?_); rintro e w27 ⟨v167, rfl, ho0, hb⟩; refine ⟨_, rfl, ?_⟩; have n0_ := Aside0.mk (Kd.S_lower ho0 (below_size (by repeat (first | (with_reducible first | exact HB.out | apply below_alloc | apply pw_below_drewN | apply below_drew1) | exact HB.out)))); have n1_ := Aside0.mk (below_step (by repeat (first | (with_reducible first | exact HB.out | apply below_alloc | apply pw_below_drewN | apply below_drew1) | exact HB.out)) hb); clear HB; have HO168 := n0_; have HB := n1_; clear n0_ n1_; (try clear hb); (try clear hb2); (try clear hk); (try clear hi); (try clear ho0)))
   go_ret
   exact ⟨by first | rfl | (simp [errW_none, errW_some] <;> rfl) | (simp [*, errW_none, errW_some] <;> rfl), by repeat (first | (with_reducible first | exact HB.out | apply below_alloc | apply pw_below_drewN | apply below_drew1) | exact HB.out)⟩
 ·rw [if_neg c2] at H
  have c2b0 : (t166 == 0) = false := beq_eq_false_iff_ne.mpr c2
  have c2b1 : (t166 != 0) = true := bne_iff_ne.mpr c2
  obtain rfl := Option.some.inj H
  go_enter Tryd.func6, Tryd.ntmps6
  go_wp2_with (first | ((with_reducible refine gate_callee (f := 7) rfl ?_); refine goesL_ (some 5) rfl rfl Tryd.func7 (by kernel_rfl) rfl #[.string (⟨#[98, 101, 103, 105, 110, 32, 55, 32, 50, 32, 48, 49, 48, 50, 102, 102, 10]⟩ : ByteArray)] rfl (by (try simp only [List.map_toArray, List.map_cons, List.map_nil]); first | done | rfl | (simp only [List.length_drop, List.length_take]; rfl)) ?_; (with_reducible refine (script_Parse.calls k (⟨#[98, 101, 103, 105, 110, 32, 55, 32, 50, 32, 48, 49, 48, 50, 102, 102, 10]⟩ : ByteArray) t164 t165 t166 _ (by exact hI.below (by repeat (first | (with_reducible first | exact HB.out | exact (Below.refl _ _) | apply below_alloc | apply pw_below_drewN | apply below_drew1) | exact HB.out))) A1.out).mono ?_); rintro e w28 ⟨v167, rfl, ho0, hb⟩; refine ⟨_, rfl, ?_⟩; have n0_ := Aside0.mk (Kd.S_lower ho0 (below_size (by repeat (first | (with_reducible first | exact HB.out | apply below_alloc | apply pw_below_drewN | apply below_drew1) | exact HB.out)))); have n1_ := Aside0.mk (below_step (by repeat (first | (with_reducible first | exact HB.out | apply below_alloc | apply pw_below_drewN | apply below_drew1) | exact HB.out)) hb); clear HB; have HO168 := n0_; have HB := n1_; clear n0_ n1_; (try clear hb); (try clear hb2); (try clear hk); (try clear hi); (try clear ho0)))
  go_ret
  exact ⟨by first | rfl | (simp [errW_none, errW_some] <;> rfl) | (simp [*, errW_none, errW_some] <;> rfl), by repeat (first | (with_reducible first | exact HB.out | apply below_alloc | apply pw_below_drewN | apply below_drew1) | exact HB.out)⟩

end Go.Proofs.YtmndhgiblpfcgaaDoor.W
end

section
namespace Go.Proofs.YtmndhgiblpfcgaaDoor.W
open Go.RowKit Go.Proofs.YtmndhgiblpfcgaaDoorW.PrintWords Go.Proofs.YtmndhgiblpfcgaaDoorW.PrintLast Go.Proofs.YtmndhgiblpfcgaaDoorW.PrintMore
attribute [local go_sem] max2_int min2_int max_two min_two max_three min_three max_four min_four
set_option linter.unusedVariables false
set_option linter.unusedSimpArgs false

/-! ### wellspringlaw26_ScriptParses: function 3 -/
def wellspringlaw26_ScriptParses.j0 : Nat → ByteArray → List (S37) → Int → Bool → Option (Bool)
 | 0, _, _, _, _ => none
 | k + 1, x0, x3, x8, x41 => if x41 = true then (some false) else (if x8 = 0 then ((script_Print.f x3).bind fun bt271 => (if bt271.2 = 0 then (some (bt271.1.toList == x0.toList)) else (some false))) else (some true))
def wellspringlaw26_ScriptParses.f (k : Nat) (a0 : ByteArray) : Option (Bool) := (wellspringlaw26_awake.f k).bind fun t259 => (if t259 = true then (if (a0.size : Int) > 3000 then (some true) else ((script_Parse.f k a0).bind fun bt260 => ((wellspringref26_Parse.f k a0).bind fun bt265 => (if bt260.2.1 = bt265.2.1 then (if bt260.2.2 = bt265.2.2 then ((wellspringlaw26_Same.f k bt260.1 bt265.1).bind fun t270 => (wellspringlaw26_ScriptParses.j0 k a0 bt260.1 bt265.2.2 (!t270))) else (wellspringlaw26_ScriptParses.j0 k a0 bt260.1 bt265.2.2 true)) else (wellspringlaw26_ScriptParses.j0 k a0 bt260.1 bt265.2.2 true))))) else (some false))
theorem wellspringlaw26_ScriptParses.mono_l : ∀ k, (∀ y0 y1 y2 y3, LeO (wellspringlaw26_ScriptParses.j0 k y0 y1 y2 y3) (wellspringlaw26_ScriptParses.j0 (k + 1) y0 y1 y2 y3))
 | 0 => fun _ _ _ _ r h => by simp [wellspringlaw26_ScriptParses.j0] at h
 | k + 1 => by
  have ih0 := wellspringlaw26_ScriptParses.mono_l k
  ·intro y0 y1 y2 y3
   unfold wellspringlaw26_ScriptParses.j0
   repeat' first
   | (with_reducible exact ih0 _ _ _ _)
   | (with_reducible exact script_Parse.mono _ _)
   | (with_reducible exact wellspringlaw26_Same.mono _ _ _)
   | (with_reducible exact wellspringlaw26_awake.mono _)
   | (with_reducible exact wellspringref26_Parse.mono _ _)
   | (with_reducible exact LeO.refl _)
   | (with_reducible exact LeO.none _)
   | (with_reducible refine LeO.ite ?_ ?_)
   | (with_reducible refine LeO.bind ?_ (fun _ => ?_))
   | exact ih0 _ _ _ _
   | exact script_Parse.mono _ _
   | exact wellspringlaw26_Same.mono _ _ _
   | exact wellspringlaw26_awake.mono _
   | exact wellspringref26_Parse.mono _ _
   | exact LeO.none _
   | refine LeO.ite ?_ ?_
   | refine LeO.bind ?_ (fun _ => ?_)
theorem wellspringlaw26_ScriptParses.mono : ∀ a0 k, LeO (wellspringlaw26_ScriptParses.f k a0) (wellspringlaw26_ScriptParses.f (k + 1) a0) := by
 intro a0 k
 have ih0 := wellspringlaw26_ScriptParses.mono_l k
 unfold wellspringlaw26_ScriptParses.f
 repeat' first
   | (with_reducible exact ih0 _ _ _ _)
   | (with_reducible exact script_Parse.mono _ _)
   | (with_reducible exact wellspringlaw26_Same.mono _ _ _)
   | (with_reducible exact wellspringlaw26_awake.mono _)
   | (with_reducible exact wellspringref26_Parse.mono _ _)
   | (with_reducible exact LeO.refl _)
   | (with_reducible exact LeO.none _)
   | (with_reducible refine LeO.ite ?_ ?_)
   | (with_reducible refine LeO.bind ?_ (fun _ => ?_))
   | exact ih0 _ _ _ _
   | exact script_Parse.mono _ _
   | exact wellspringlaw26_Same.mono _ _ _
   | exact wellspringlaw26_awake.mono _
   | exact wellspringref26_Parse.mono _ _
   | exact LeO.none _
   | refine LeO.ite ?_ ?_
   | refine LeO.bind ?_ (fun _ => ?_)
set_option maxHeartbeats 8000000 in
set_option maxRecDepth 100000 in
theorem wellspringlaw26_ScriptParses.calls (k : Nat) (a0 : ByteArray) (r : Bool) (w : World) (hI : Inv w) (h : wellspringlaw26_ScriptParses.f k a0 = some r) :
  Calls Tryd.prog 3 #[.string a0] w fun e w' => e = .returned (.bool r) ∧ Below w.heap.size w w' := by
 have HB := Aside0.mk (Below.refl w.heap.size w)
 have H : ((wellspringlaw26_awake.f k).bind fun t259 => (if t259 = true then (if (a0.size : Int) > 3000 then (some true) else ((script_Parse.f k a0).bind fun bt260 => ((wellspringref26_Parse.f k a0).bind fun bt265 => (if bt260.2.1 = bt265.2.1 then (if bt260.2.2 = bt265.2.2 then ((wellspringlaw26_Same.f k bt260.1 bt265.1).bind fun t270 => (wellspringlaw26_ScriptParses.j0 k a0 bt260.1 bt265.2.2 (!t270))) else (wellspringlaw26_ScriptParses.j0 k a0 bt260.1 bt265.2.2 true)) else (wellspringlaw26_ScriptParses.j0 k a0 bt260.1 bt265.2.2 true))))) else (some false))) = some r := h
 clear h
 replace H := Option.bind_eq_some_iff.mp H
 obtain ⟨t259, A20, H⟩ := H
 replace H : (if t259 = true then (if (a0.size : Int) > 3000 then (some true) else ((script_Parse.f k a0).bind fun bt260 => ((wellspringref26_Parse.f k a0).bind fun bt265 => (if bt260.2.1 = bt265.2.1 then (if bt260.2.2 = bt265.2.2 then ((wellspringlaw26_Same.f k bt260.1 bt265.1).bind fun t270 => (wellspringlaw26_ScriptParses.j0 k a0 bt260.1 bt265.2.2 (!t270))) else (wellspringlaw26_ScriptParses.j0 k a0 bt260.1 bt265.2.2 true)) else (wellspringlaw26_ScriptParses.j0 k a0 bt260.1 bt265.2.2 true))))) else (some false)) = some r := H
 have A2 := Aside0.mk A20
 clear A20
 by_cases c3 : t259 = true
 ·subst c3
  have H1 : (if (a0.size : Int) > 3000 then (some true) else ((script_Parse.f k a0).bind fun bt260 => ((wellspringref26_Parse.f k a0).bind fun bt265 => (if bt260.2.1 = bt265.2.1 then (if bt260.2.2 = bt265.2.2 then ((wellspringlaw26_Same.f k bt260.1 bt265.1).bind fun t270 => (wellspringlaw26_ScriptParses.j0 k a0 bt260.1 bt265.2.2 (!t270))) else (wellspringlaw26_ScriptParses.j0 k a0 bt260.1 bt265.2.2 true)) else (wellspringlaw26_ScriptParses.j0 k a0 bt260.1 bt265.2.2 true))))) = some r := by rw [if_pos rfl] at H; exact H
  clear H
  have H := H1
  clear H1
  by_cases c4 : (a0.size : Int) > 3000
  ·rw [if_pos c4] at H
   have c4b0 : decide (3000 < (a0.size : Int)) = true := decide_eq_true c4
   have c4b1 : decide (3000 < a0.size) = true := decide_eq_true (by omega)
   clear c4
   obtain rfl := Option.some.inj H
   go_enter Tryd.func3, Tryd.ntmps3
   go_wp2_with (first | ((with_reducible refine gate_callee (f := 6) rfl ?_); refine goesL_ (some 11) rfl rfl Tryd.func6 (by kernel_rfl) rfl #[] rfl (by (try simp only [List.map_toArray, List.map_cons, List.map_nil]); first | done | rfl | (simp only [List.length_drop, List.length_take]; rfl)) ?_; (with_reducible refine (wellspringlaw26_awake.calls k  true _ (by exact hI.below (by repeat (first | (with_reducible first | exact HB.out | exact (Below.refl _ _) | apply below_alloc | apply pw_below_drewN | apply below_drew1) | exact HB.out))) A2.out).mono ?_); rintro e w5 ⟨rfl, hb⟩; refine ⟨_, rfl, ?_⟩; have n0_ := Aside0.mk (below_step (by repeat (first | (with_reducible first | exact HB.out | apply below_alloc | apply pw_below_drewN | apply below_drew1) | exact HB.out)) hb); clear HB; have HB := n0_; clear n0_; (try clear hb); (try clear hb2); (try clear hk); (try clear hi)))
   go_ret
   exact ⟨by first | rfl | (simp [errW_none, errW_some] <;> rfl) | (simp [*, errW_none, errW_some] <;> rfl), by repeat (first | (with_reducible first | exact HB.out | apply below_alloc | apply pw_below_drewN | apply below_drew1) | exact HB.out)⟩
  ·rw [if_neg c4] at H
   have c4b0 : decide (3000 < (a0.size : Int)) = false := decide_eq_false c4
   have c4b1 : decide (3000 < a0.size) = false := decide_eq_false (by omega)
   clear c4
   replace H := Option.bind_eq_some_iff.mp H
   obtain ⟨⟨t260, t261, t262⟩, A60, H⟩ := H
   replace H : ((wellspringref26_Parse.f k a0).bind fun bt265 => (if t261 = bt265.2.1 then (if t262 = bt265.2.2 then ((wellspringlaw26_Same.f k t260 bt265.1).bind fun t270 => (wellspringlaw26_ScriptParses.j0 k a0 t260 bt265.2.2 (!t270))) else (wellspringlaw26_ScriptParses.j0 k a0 t260 bt265.2.2 true)) else (wellspringlaw26_ScriptParses.j0 k a0 t260 bt265.2.2 true))) = some r := H
   have A6 := Aside0.mk A60
   clear A60
   replace H := Option.bind_eq_some_iff.mp H
   obtain ⟨⟨t265, t266, t267⟩, A70, H⟩ := H
   replace H : (if t261 = t266 then (if t262 = t267 then ((wellspringlaw26_Same.f k t260 t265).bind fun t270 => (wellspringlaw26_ScriptParses.j0 k a0 t260 t267 (!t270))) else (wellspringlaw26_ScriptParses.j0 k a0 t260 t267 true)) else (wellspringlaw26_ScriptParses.j0 k a0 t260 t267 true)) = some r := H
   have A7 := Aside0.mk A70
   clear A70
   have HC8 := Aside0.mk H
   clear H
   go_enter Tryd.func3, Tryd.ntmps3
   go_upto_region 7 with (first | ((with_reducible refine gate_callee (f := 6) rfl ?_); refine goesL_ (some 11) rfl rfl Tryd.func6 (by kernel_rfl) rfl #[] rfl (by (try simp only [List.map_toArray, List.map_cons, List.map_nil]); first | done | rfl | (simp only [List.length_drop, List.length_take]; rfl)) ?_; (with_reducible refine (wellspringlaw26_awake.calls k  true _ (by exact hI.below (by repeat (first | (with_reducible first | exact HB.out | exact (Below.refl _ _) | apply below_alloc | apply pw_below_drewN | apply below_drew1) | exact HB.out))) A2.out).mono ?_); rintro e w9 ⟨rfl, hb⟩; refine ⟨_, rfl, ?_⟩; have n0_ := Aside0.mk (below_step (by repeat (first | (with_reducible first | exact HB.out | apply below_alloc | apply pw_below_drewN | apply below_drew1) | exact HB.out)) hb); clear HB; have HB := n0_; clear n0_; (try clear hb); (try clear hb2); (try clear hk); (try clear hi)) | ((with_reducible refine gate_callee (f := 7) rfl ?_); refine goesL_ (some 18) rfl rfl Tryd.func7 (by kernel_rfl) rfl #[.string a0] rfl (by (try simp only [List.map_toArray, List.map_cons, List.map_nil]); first | done | rfl | (simp only [List.length_drop, List.length_take]; rfl)) ?_; (with_reducible refine (script_Parse.calls k a0 t260 t261 t262 _ (by exact hI.below (by repeat (first | (with_reducible first | exact HB.out | exact (Below.refl _ _) | apply below_alloc | apply pw_below_drewN | apply below_drew1) | exact HB.out))) A6.out).mono ?_); rintro e w10 ⟨v263, rfl, ho0, hb⟩; refine ⟨_, rfl, ?_⟩; have n0_ := Aside0.mk (Kd.S_lower ho0 (below_size (by repeat (first | (with_reducible first | exact HB.out | apply below_alloc | apply pw_below_drewN | apply below_drew1) | exact HB.out)))); have n1_ := Aside0.mk (below_step (by repeat (first | (with_reducible first | exact HB.out | apply below_alloc | apply pw_below_drewN | apply below_drew1) | exact HB.out)) hb); clear HB; have HO264 := n0_; have HB := n1_; clear n0_ n1_; (try clear hb); (try clear hb2); (try clear hk); (try clear hi); (try clear ho0)) | ((with_reducible refine gate_callee (f := 8) rfl ?_); refine goesL_ (some 24) rfl rfl Tryd.func8 (by kernel_rfl) rfl #[.string a0] rfl (by (try simp only [List.map_toArray, List.map_cons, List.map_nil]); first | done | rfl | (simp only [List.length_drop, List.length_take]; rfl)) ?_; (with_reducible refine (wellspringref26_Parse.calls k a0 t265 t266 t267 _ A7.out).mono ?_); rintro e w11 ⟨v268, rfl, ho0, hb⟩; refine ⟨_, rfl, ?_⟩; have n0_ := Aside0.mk (Kd.S_below (by (with_reducible repeat (first | apply Kd.S_alloc | apply Kd.S_drewN | apply Kd.S_drew)); exact HO264.out) hb); have n1_ := Aside0.mk (Kd.S_lower ho0 (below_size (by repeat (first | (with_reducible first | exact HB.out | apply below_alloc | apply pw_below_drewN | apply below_drew1) | exact HB.out)))); have n2_ := Aside0.mk (below_step (by repeat (first | (with_reducible first | exact HB.out | apply below_alloc | apply pw_below_drewN | apply below_drew1) | exact HB.out)) hb); clear HO264; clear HB; have HO264 := n0_; have HO269 := n1_; have HB := n2_; clear n0_ n1_ n2_; (try clear hb); (try clear hb2); (try clear hk); (try clear hi); (try clear ho0)))
   (try simp only [Act.put, List.setIfInBounds_toArray, List.set_cons_zero, List.set_cons_succ])
   go_cut [41] (fun v41 wc => ∃ (kq : Nat) (x41_7 : Bool), v41 = .bool x41_7 ∧ Aside0 (wellspringlaw26_ScriptParses.j0 kq a0 t260 t267 x41_7 = some r) ∧ Aside0 (kq ≤ k) ∧ Aside0 (Kd.S k37 37 wc w.heap.size (fun _ => True) v263 t260) ∧ Aside0 (Below w.heap.size w wc))
   case first =>
    have H := HC8.out
    clear HC8
    by_cases c12 : t261 = t266
    ·rw [if_pos c12] at H
     have c12b0 : (t261 == t266) = true := beq_iff_eq.mpr c12
     have c12b1 : (t261 != t266) = false := bne_eq_false_iff_eq.mpr c12
     clear c12
     (first | rw [c12b0] | (simp only [i64_w, i32_w]; rw [c12b0]) | skip)
     by_cases c13 : t262 = t267
     ·rw [if_pos c13] at H
      have c13b0 : (t262 == t267) = true := beq_iff_eq.mpr c13
      have c13b1 : (t262 != t267) = false := bne_eq_false_iff_eq.mpr c13
      clear c13
      replace H := Option.bind_eq_some_iff.mp H
      obtain ⟨t270, A140, H⟩ := H
      replace H : (wellspringlaw26_ScriptParses.j0 k a0 t260 t267 (!t270)) = some r := H
      have A14 := Aside0.mk A140
      clear A140
      have H' := Aside0.mk H
      clear H
      obtain ⟨Ao15, co15, eo15⟩ := Kd.S_slice HO264.out
      subst eo15
      obtain ⟨Ao16, co16, eo16⟩ := Kd.S_slice HO269.out
      subst eo16
      go_wp2_with (first | (go_at_call 9; (with_reducible refine (wellspringlaw26_Same.calls k _ _ t260 _ _ t265 t270 _ ?side1 ?side2 ?side3 ?side4 A14.out).mono ?_); (case side1 => repeat (first | exact (Kd.S_reads' HO264.out).2.2 | (with_reducible refine Kd.C_alloc ?_ _) | (with_reducible refine Kd.C_drewN ?_ _) | (with_reducible refine Kd.C_drew ?_))); (case side2 => exact (Kd.S_reads' HO264.out).2.1); (case side3 => repeat (first | exact (Kd.S_reads' HO269.out).2.2 | (with_reducible refine Kd.C_alloc ?_ _) | (with_reducible refine Kd.C_drewN ?_ _) | (with_reducible refine Kd.C_drew ?_))); (case side4 => exact (Kd.S_reads' HO269.out).2.1); rintro e w17 ⟨rfl, hb⟩; have n0_ := Aside0.mk (Kd.S_below (by (with_reducible repeat (first | apply Kd.S_alloc | apply Kd.S_drewN | apply Kd.S_drew)); exact HO264.out) hb); have n1_ := Aside0.mk (Kd.S_below (by (with_reducible repeat (first | apply Kd.S_alloc | apply Kd.S_drewN | apply Kd.S_drew)); exact HO269.out) hb); have n2_ := Aside0.mk (below_step (by repeat (first | (with_reducible first | exact HB.out | apply below_alloc | apply pw_below_drewN | apply below_drew1) | exact HB.out)) hb); clear HO264; clear HO269; clear HB; have HO264 := n0_; have HO269 := n1_; have HB := n2_; clear n0_ n1_ n2_; (try clear hb); (try clear hb2); (try clear hk); (try clear hi)))
      go_meet
      case rel => exact ⟨_, (!t270), (by first | rfl | (simp; done) | (simp [*]; done)), H', ⟨by first | omega | exact Nat.le_refl _⟩, ⟨by (with_reducible repeat (first | apply Kd.S_alloc | apply Kd.S_drewN | apply Kd.S_drew)); exact HO264.out⟩, ⟨by repeat (first | (with_reducible first | exact HB.out | apply below_alloc | apply pw_below_drewN | apply below_drew1) | exact HB.out)⟩⟩
     ·rw [if_neg c13] at H
      have c13b0 : (t262 == t267) = false := beq_eq_false_iff_ne.mpr c13
      have c13b1 : (t262 != t267) = true := bne_iff_ne.mpr c13
      have H' := Aside0.mk H
      clear H
      go_wp2
      go_meet
      case rel => exact ⟨_, (true), (by first | rfl | (simp; done) | (simp [*]; done)), H', ⟨by first | omega | exact Nat.le_refl _⟩, ⟨by (with_reducible repeat (first | apply Kd.S_alloc | apply Kd.S_drewN | apply Kd.S_drew)); exact HO264.out⟩, ⟨by repeat (first | (with_reducible first | exact HB.out | apply below_alloc | apply pw_below_drewN | apply below_drew1) | exact HB.out)⟩⟩
    ·rw [if_neg c12] at H
     have c12b0 : (t261 == t266) = false := beq_eq_false_iff_ne.mpr c12
     have c12b1 : (t261 != t266) = true := bne_iff_ne.mpr c12
     (first | rw [c12b0] | (simp only [i64_w, i32_w]; rw [c12b0]) | skip)
     have H' := Aside0.mk H
     clear H
     go_wp2
     go_meet
     case rel => exact ⟨_, (true), (by first | rfl | (simp; done) | (simp [*]; done)), H', ⟨by first | omega | exact Nat.le_refl _⟩, ⟨by (with_reducible repeat (first | apply Kd.S_alloc | apply Kd.S_drewN | apply Kd.S_drew)); exact HO264.out⟩, ⟨by repeat (first | (with_reducible first | exact HB.out | apply below_alloc | apply pw_below_drewN | apply below_drew1) | exact HB.out)⟩⟩
   case rest =>
    clear HC8
    try clear c1
    try clear p2
    try clear c3
    try clear c4
    try clear c4b0
    try clear c4b1
    try clear c6
    try clear c7
    try clear c8
    try clear c12
    try clear c12b0
    try clear c12b1
    try clear c13
    try clear c13b0
    try clear c13b1
    obtain ⟨kq, x41_7, rfl, HA, HJ7, HO_3, HB⟩ := hcut
    cases kq with
    | zero => exact absurd HA.out (by simp [wellspringlaw26_ScriptParses.j0])
    | succ kj7 =>
     have H := HA.out
     clear HA
     simp only [wellspringlaw26_ScriptParses.j0] at H
     by_cases c18 : x41_7 = true
     ·subst c18
      have H1 : (some false) = some r := by rw [if_pos rfl] at H; exact H
      clear H
      have H := H1
      clear H1
      obtain rfl := Option.some.inj H
      go_wp2
      go_ret
      exact ⟨by first | rfl | (simp [errW_none, errW_some] <;> rfl) | (simp [*, errW_none, errW_some] <;> rfl), by repeat (first | (with_reducible first | exact HB.out | apply below_alloc | apply pw_below_drewN | apply below_drew1) | exact HB.out)⟩
     ·replace c18 := Bool.eq_false_iff.mpr c18
      subst c18
      have H1 : (if t267 = 0 then ((script_Print.f t260).bind fun bt271 => (if bt271.2 = 0 then (some (bt271.1.toList == a0.toList)) else (some false))) else (some true)) = some r := by rw [if_neg (show ¬ (false = true) by decide)] at H; exact H
      clear H
      have H := H1
      clear H1
      by_cases c19 : t267 = 0
      ·rw [if_pos c19] at H
       have c19b0 : (t267 == 0) = true := beq_iff_eq.mpr c19
       have c19b1 : (t267 != 0) = false := bne_eq_false_iff_eq.mpr c19
       clear c19
       replace H := Option.bind_eq_some_iff.mp H
       obtain ⟨⟨t271, t272⟩, A200, H⟩ := H
       replace H : (if t272 = 0 then (some (t271.toList == a0.toList)) else (some false)) = some r := H
       have A20 := Aside0.mk A200
       clear A200
       by_cases c21 : t272 = 0
       ·rw [if_pos c21] at H
        have c21b0 : (t272 == 0) = true := beq_iff_eq.mpr c21
        have c21b1 : (t272 != 0) = false := bne_eq_false_iff_eq.mpr c21
        clear c21
        obtain rfl := Option.some.inj H
        obtain ⟨Ao22, co22, eo22⟩ := Kd.S_slice HO_3.out
        subst eo22
        go_wp2_with (first | ((with_reducible refine gate_callee (f := 10) rfl ?_); refine goesL_ (some 46) rfl rfl Tryd.func10 (by kernel_rfl) rfl #[.slice Ao22 t260.length co22] rfl (by (try simp only [List.map_toArray, List.map_cons, List.map_nil]); first | done | rfl | (simp only [List.length_drop, List.length_take]; rfl)) ?_; (with_reducible refine (script_Print.calls _ _ t260 t271 t272 _ ?side1 ?side2 (by exact hI.below (by repeat (first | (with_reducible first | exact HB.out | exact (Below.refl _ _) | apply below_alloc | apply pw_below_drewN | apply below_drew1) | exact HB.out))) A20.out).mono ?_); (case side1 => repeat (first | exact (Kd.S_reads' HO_3.out).2.2 | (with_reducible refine Kd.C_alloc ?_ _) | (with_reducible refine Kd.C_drewN ?_ _) | (with_reducible refine Kd.C_drew ?_))); (case side2 => exact (Kd.S_reads' HO_3.out).2.1); rintro e w23 ⟨rfl, hb⟩; refine ⟨_, rfl, ?_⟩; have n0_ := Aside0.mk (Kd.S_below (by (with_reducible repeat (first | apply Kd.S_alloc | apply Kd.S_drewN | apply Kd.S_drew)); exact HO_3.out) hb); have n1_ := Aside0.mk (below_step (by repeat (first | (with_reducible first | exact HB.out | apply below_alloc | apply pw_below_drewN | apply below_drew1) | exact HB.out)) hb); clear HO_3; clear HB; have HO_3 := n0_; have HB := n1_; clear n0_ n1_; (try clear hb); (try clear hb2); (try clear hk); (try clear hi)))
        go_ret
        exact ⟨by first | rfl | (simp [errW_none, errW_some] <;> rfl) | (simp [*, errW_none, errW_some] <;> rfl), by repeat (first | (with_reducible first | exact HB.out | apply below_alloc | apply pw_below_drewN | apply below_drew1) | exact HB.out)⟩
       ·rw [if_neg c21] at H
        have c21b0 : (t272 == 0) = false := beq_eq_false_iff_ne.mpr c21
        have c21b1 : (t272 != 0) = true := bne_iff_ne.mpr c21
        obtain rfl := Option.some.inj H
        obtain ⟨Ao24, co24, eo24⟩ := Kd.S_slice HO_3.out
        subst eo24
        go_wp2_with (first | ((with_reducible refine gate_callee (f := 10) rfl ?_); refine goesL_ (some 46) rfl rfl Tryd.func10 (by kernel_rfl) rfl #[.slice Ao24 t260.length co24] rfl (by (try simp only [List.map_toArray, List.map_cons, List.map_nil]); first | done | rfl | (simp only [List.length_drop, List.length_take]; rfl)) ?_; (with_reducible refine (script_Print.calls _ _ t260 t271 t272 _ ?side1 ?side2 (by exact hI.below (by repeat (first | (with_reducible first | exact HB.out | exact (Below.refl _ _) | apply below_alloc | apply pw_below_drewN | apply below_drew1) | exact HB.out))) A20.out).mono ?_); (case side1 => repeat (first | exact (Kd.S_reads' HO_3.out).2.2 | (with_reducible refine Kd.C_alloc ?_ _) | (with_reducible refine Kd.C_drewN ?_ _) | (with_reducible refine Kd.C_drew ?_))); (case side2 => exact (Kd.S_reads' HO_3.out).2.1); rintro e w25 ⟨rfl, hb⟩; refine ⟨_, rfl, ?_⟩; have n0_ := Aside0.mk (Kd.S_below (by (with_reducible repeat (first | apply Kd.S_alloc | apply Kd.S_drewN | apply Kd.S_drew)); exact HO_3.out) hb); have n1_ := Aside0.mk (below_step (by repeat (first | (with_reducible first | exact HB.out | apply below_alloc | apply pw_below_drewN | apply below_drew1) | exact HB.out)) hb); clear HO_3; clear HB; have HO_3 := n0_; have HB := n1_; clear n0_ n1_; (try clear hb); (try clear hb2); (try clear hk); (try clear hi)))
        go_ret
        exact ⟨by first | rfl | (simp [errW_none, errW_some] <;> rfl) | (simp [*, errW_none, errW_some] <;> rfl), by repeat (first | (with_reducible first | exact HB.out | apply below_alloc | apply pw_below_drewN | apply below_drew1) | exact HB.out)⟩
      ·rw [if_neg c19] at H
       have c19b0 : (t267 == 0) = false := beq_eq_false_iff_ne.mpr c19
       have c19b1 : (t267 != 0) = true := bne_iff_ne.mpr c19
       obtain rfl := Option.some.inj H
       go_wp2
       go_ret
       exact ⟨by first | rfl | (simp [errW_none, errW_some] <;> rfl) | (simp [*, errW_none, errW_some] <;> rfl), by repeat (first | (with_reducible first | exact HB.out | apply below_alloc | apply pw_below_drewN | apply below_drew1) | exact HB.out)⟩
 ·replace c3 := Bool.eq_false_iff.mpr c3
  subst c3
  have H1 : (some false) = some r := by rw [if_neg (show ¬ (false = true) by decide)] at H; exact H
  clear H
  have H := H1
  clear H1
  obtain rfl := Option.some.inj H
  go_enter Tryd.func3, Tryd.ntmps3
  go_wp2_with (first | ((with_reducible refine gate_callee (f := 6) rfl ?_); refine goesL_ (some 11) rfl rfl Tryd.func6 (by kernel_rfl) rfl #[] rfl (by (try simp only [List.map_toArray, List.map_cons, List.map_nil]); first | done | rfl | (simp only [List.length_drop, List.length_take]; rfl)) ?_; (with_reducible refine (wellspringlaw26_awake.calls k  false _ (by exact hI.below (by repeat (first | (with_reducible first | exact HB.out | exact (Below.refl _ _) | apply below_alloc | apply pw_below_drewN | apply below_drew1) | exact HB.out))) A2.out).mono ?_); rintro e w26 ⟨rfl, hb⟩; refine ⟨_, rfl, ?_⟩; have n0_ := Aside0.mk (below_step (by repeat (first | (with_reducible first | exact HB.out | apply below_alloc | apply pw_below_drewN | apply below_drew1) | exact HB.out)) hb); clear HB; have HB := n0_; clear n0_; (try clear hb); (try clear hb2); (try clear hk); (try clear hi)))
  go_ret
  exact ⟨by first | rfl | (simp [errW_none, errW_some] <;> rfl) | (simp [*, errW_none, errW_some] <;> rfl), by repeat (first | (with_reducible first | exact HB.out | apply below_alloc | apply pw_below_drewN | apply below_drew1) | exact HB.out)⟩

end Go.Proofs.YtmndhgiblpfcgaaDoor.W
end

section
/-
Chapter 26's first law, plain: the printed ScriptParses answers true.
-/
namespace Go.Proofs.YtmndhgiblpfcgaaDoor.W
open Go.RowKit Go.Proofs.YtmndhgiblpfcgaaDoorW.PrintWords
set_option linter.unusedVariables false
set_option linter.unusedSimpArgs false

def awakeC : Wel.Scr.Cmd := ⟨[98, 101, 103, 105, 110], [7, 2], [1, 2, 255]⟩
theorem awake_line : Wel.Scr.linesOf [awakeC] = [98, 101, 103, 105, 110, 32, 55, 32, 50, 32, 48, 49, 48, 50, 102, 102, 10] := by
  have e : Wel.Scr.linesOf [awakeC] = Wel.Scr.line awakeC := by simp [Wel.Scr.linesOf]
  have t7 : Wel.Scr.tens 7 = [55] := by rw [Wel.Scr.tens, dif_pos (by decide)]; rfl
  have t2 : Wel.Scr.tens 2 = [50] := by rw [Wel.Scr.tens, dif_pos (by decide)]; rfl
  rw [e, awakeC, line_eq]
  have n : numsL [7, 2] = [32, 55, 32, 50] := by simp [numsL, t7, t2]
  rw [n]
  rfl
theorem awake_parse : Wel.Scr.parse [98, 101, 103, 105, 110, 32, 55, 32, 50, 32, 48, 49, 48, 50, 102, 102, 10] = ([awakeC], 0, 0) := by
  rw [← awake_line]
  refine Wel.Scr.parse_lines (fun c hc => ?_) (by rw [awake_line]; decide)
  obtain rfl := List.mem_singleton.1 hc
  exact ⟨rfl, by intro n hn; simp [awakeC] at hn; omega⟩
theorem awake_ev : Ev (fun k => wellspringlaw26_awake.f k) true := by
  unfold wellspringlaw26_awake.f
  have hp := ParseP_ev [98, 101, 103, 105, 110, 32, 55, 32, 50, 32, 48, 49, 48, 50, 102, 102, 10]
  unfold parseP at hp
  rw [awake_parse] at hp
  refine Ev.bind hp ?_
  have e0 : rd_T37 ([awakeC].map encP) 0 = encP awakeC := rfl
  have q1 := EqU64_ev [7, 2] [7, 2] (by decide)
  have q2 := Same02_ev [1, 2, 255] [1, 2, 255] (by decide)
  simp only [decide_true] at q1 q2
  simp only [e0]
  refine Ev.congr (fun k => if_pos rfl) (Ev.congr (fun k => if_pos rfl) (Ev.congr (fun k => if_pos rfl) (Ev.congr (fun k => if_pos (by decide)) (Ev.congr (fun k => if_pos (ba_toList _)) ?_))))
  refine Ev.bind q1 ?_
  refine Ev.congr (fun k => if_pos rfl) ?_
  refine Ev.bind q2 ?_
  exact ev_const
end Go.Proofs.YtmndhgiblpfcgaaDoor.W
end

section
/-
slices.Repeat at one command that is a bare word: what it makes; and script.Words: the words.
-/
namespace Go.Proofs.YtmndhgiblpfcgaaDoor.W
open Go.RowKit Go.Proofs.YtmndhgiblpfcgaaDoorW.PrintWords Go.Proofs.YtmndhgiblpfcgaaDoorW.PrintLast Go.Proofs.YtmndhgiblpfcgaaDoorW.PrintMore
set_option linter.unusedVariables false
set_option linter.unusedSimpArgs false

section
variable {P : Program}
/-- copy of elements of sz cells each, into a row that is known whole. -/
theorem run_copy_rows (w : World) (dT sT ty elem : TypeId) (g o dLen dCap : Nat) (a : Addr) (sLen sCap sz : Nat) (cur : Array Value) (t : TypeId) (cs : List Value)
    (hu : P.underlying dT = some (.slice elem)) (hs : (P.info? elem).map (·.size) = some sz)
    (hg : w.heap[g]? = some (.cells cur t (0, 0))) (hn : cs.length = Nat.min sLen dLen * sz)
    (hsrc : ∀ j v, cs[j]? = some v → w.cell? (a.add j) = some v) (hfit : o + cs.length ≤ cur.size) (h1 : ∀ v ∈ cs, v.oneCell' = true) :
    (Builtin.copy_ #[dT, sT] ty #[.slice (some ⟨g, o, none⟩) dLen dCap, .slice (some a) sLen sCap]).run P w =
      .ok (goInt (Nat.min sLen dLen)) (w.setRow g (cur.toList.take o ++ cs ++ cur.toList.drop (o + cs.length)).toArray) := by
  have hl := run_loadCells_list (P := P) w a cs hsrc
  have hst := run_storeCells_at P g o t cs 0 cur w hg (by simpa using hfit) h1
  cases hq : P.info? elem with
  | none => simp [hq] at hs
  | some i =>
    have hi : i.size = sz := by simpa [hq] using hs
    simp [Builtin.copy_, run_underlying hu, Builtin.lenOf, Builtin.firstCells, sizeOf, typeInfo, hq, hi, ← hn, hl, hst]
theorem wpList_copy_rows {w : World} {ops : Array Oper} {rest : List Oper} {o : Oper} {a : Act} {Q : Exit → Act → World → Prop} (hgd : o.guard = none) (d s : Operand) (dT sT : TypeId)
    (ho : o.op = .call { callee := .builtin .copy, args := #[d, s], argTypes := #[dT, sT] }) (elem : TypeId) (sz : Nat) (hu : P.underlying dT = some (.slice elem)) (hsz : (P.info? elem).map (·.size) = some sz)
    (g off dLen dCap : Nat) (ad : Addr) (sLen sCap : Nat) (hd : a.eval d = .slice (some ⟨g, off, none⟩) dLen dCap) (hs : a.eval s = .slice (some ad) sLen sCap)
    (cur : Array Value) (t : TypeId) (hg : w.heap[g]? = some (.cells cur t (0, 0))) (cs : List Value) (hn : cs.length = Nat.min sLen dLen * sz)
    (hsrc : ∀ j v, cs[j]? = some v → w.cell? (ad.add j) = some v) (hfit : off + cs.length ≤ cur.size) (h1 : ∀ v ∈ cs, v.oneCell' = true)
    (new : List Value) (hnew : cur.toList.take off ++ (cs ++ cur.toList.drop (off + cs.length)) = new) (B : Nat) (w0 : World) (hbl : Below B w0 w) (hBg : B ≤ g) (m : Nat) (hm : Nat.min sLen dLen = m)
    (h : ∀ w', Aside0 (w'.heap[g]? = some (.cells new.toArray t (0, 0))) → Aside0 (Below B w0 w') → wpList P ops Q rest (a.put o.dst (goInt m)) w') : wpList P ops Q (o :: rest) a w := by
  subst hnew hm
  refine wpList_plain hgd fun K hK => ?_
  have hrun := run_copy_rows (P := P) w dT sT o.type elem g off dLen dCap ad sLen sCap sz cur t cs hu hsz hg hn hsrc hfit h1
  unfold Oper.wp
  simp [execOp, ho, resolve, invoke, builtin, hd, hs, hrun, Result.andThen]
  refine hK _ _ (h _ ⟨?_⟩ ⟨Go.below_setRow hbl hBg _⟩)
  simpa using setRow_heap w g cur _ t _ hg
end

/-- The cells of one bare word's command, of a zero one, and of so many. -/
def mapC : Wel.Scr.Cmd := ⟨[109, 97, 112], [], []⟩
def map3 : List Value := [.string (ba [109, 97, 112]), .slice none 0 0, .slice none 0 0]
def zero3 : List Value := [.string ⟨#[]⟩, .slice none 0 0, .slice none 0 0]
def rep3 (c : List Value) : Nat → List Value
  | 0 => []
  | n + 1 => c ++ rep3 c n
theorem rep3_len (c : List Value) (hc : c.length = 3) : ∀ n, (rep3 c n).length = n * 3
  | 0 => rfl
  | n + 1 => by simp only [rep3, List.length_append, hc, rep3_len c hc n]; omega
theorem rep3_add (c : List Value) : ∀ n m, rep3 c (n + m) = rep3 c n ++ rep3 c m
  | 0, m => by simp [rep3]
  | n + 1, m => by rw [show n + 1 + m = (n + m) + 1 by omega]; simp only [rep3, rep3_add c n m, List.append_assoc]
theorem rep3_one {c : List Value} (h : ∀ v ∈ c, v.oneCell' = true) : ∀ n, ∀ v ∈ rep3 c n, v.oneCell' = true
  | 0, v, hv => by cases hv
  | n + 1, v, hv => by
    rcases List.mem_append.1 hv with hv | hv
    · exact h v hv
    · exact rep3_one h n v hv
theorem map3_one : ∀ v ∈ map3, v.oneCell' = true := by
  intro v hv
  simp only [map3, List.mem_cons, List.mem_nil_iff, or_false] at hv
  rcases hv with rfl | rfl | rfl <;> rfl
/-- So many, and then noughts. -/
def part (n : Nat) : List Value := rep3 map3 n ++ rep3 zero3 (16384 - n)
theorem part_len {n : Nat} (h : n ≤ 16384) : (part n).length = 49152 := by
  rw [part, List.length_append, rep3_len _ rfl, rep3_len _ rfl]; omega
/-- As many more as lie there, at most as many as there is room for. -/
theorem part_copy {n m : Nat} (hn : n + m ≤ 16384) : (part n).take (n * 3) ++ (rep3 map3 m ++ (part n).drop (n * 3 + (rep3 map3 m).length)) = part (n + m) := by
  have l1 := rep3_len map3 rfl n
  have l2 := rep3_len map3 rfl m
  have e1 : (part n).take (n * 3) = rep3 map3 n := by
    rw [part, ← l1, List.take_left]
  have e2 : (part n).drop (n * 3 + (rep3 map3 m).length) = rep3 zero3 (16384 - (n + m)) := by
    have e3 : 16384 - n = m + (16384 - (n + m)) := by omega
    rw [part, e3, rep3_add zero3, ← List.append_assoc]
    exact List.drop_left' (by rw [List.length_append, l1, l2, rep3_len _ rfl])
  rw [e1, e2, part, rep3_add, List.append_assoc]

theorem rep3_zero (c : List Value) : rep3 c 0 = [] := rfl
theorem rep3_single (c : List Value) : rep3 c 1 = c := List.append_nil c
theorem part_first : (rep3 zero3 16384).take 0 ++ (map3 ++ (rep3 zero3 16384).drop (0 + map3.length)) = part 1 := by
  have h := part_copy (n := 0) (m := 1) (by decide)
  have e0 : part 0 = rep3 zero3 16384 := by rw [part, rep3_zero, List.nil_append]
  rw [rep3_single, e0, Nat.zero_mul, Nat.zero_add, Nat.zero_add] at h
  rw [Nat.zero_add]
  exact h
theorem rep3_snoc (c : List Value) (n : Nat) : rep3 c (n + 1) = rep3 c n ++ c := by rw [rep3_add]; simp [rep3]
theorem made_rep (a b c : Value) : ∀ n, ((List.range (n * 3)).map fun i => (#[a, b, c] : Array Value)[i % 3]!) = rep3 [a, b, c] n
  | 0 => rfl
  | n + 1 => by
    have e : (n + 1) * 3 = n * 3 + 1 + 1 + 1 := by omega
    rw [e, List.range_succ, List.range_succ, List.range_succ, rep3_snoc, ← made_rep a b c n]
    have h0 : n * 3 % 3 = 0 := by omega
    have h1 : (n * 3 + 1) % 3 = 1 := by omega
    have h2 : (n * 3 + 1 + 1) % 3 = 2 := by omega
    simp only [List.map_append, List.map_cons, List.map_nil, h0, h1, h2, List.append_assoc]
    rfl
theorem madeCells_cmds : madeCells (Value.agg #[.string ⟨#[]⟩, .slice none 0 0, .slice none 0 0]).cells 49152 = (rep3 zero3 16384).toArray := by
  apply Array.ext'
  show ((Array.range 49152).map _).toList = _
  rw [Array.toList_map, Array.toList_range]
  exact made_rep _ _ _ 16384
theorem add_plain0 (b o j : Nat) : (⟨b, o, none⟩ : Addr).add j = ⟨b, o + j, none⟩ := by unfold Addr.add; split <;> simp_all
theorem cells37 : (Tryd.prog.info? 37).map (·.size) = some 3 := by kernel_rfl
theorem rep3_at (n : Nat) (j : Nat) (v : Value) (h : (rep3 map3 n)[j]? = some v) : ∀ m, n ≤ m → m ≤ 16384 → (part m)[j]? = some v := by
  intro m hm hm2
  have hj : j < (rep3 map3 n).length := (List.getElem?_eq_some_iff.1 h).1
  have e : m = n + (m - n) := by omega
  rw [part, e, rep3_add, List.append_assoc, List.getElem?_append_left hj]
  exact h

theorem zero3_len : zero3.length = 3 := rfl
theorem map3_len : map3.length = Nat.min 1 16384 * 3 := rfl
theorem map3_arr (j : Nat) (v : Value) (h : map3[j]? = some v) : map3.toArray[j]? = some v := by simpa using h
attribute [local irreducible] rep3 part map3 zero3
set_option maxHeartbeats 400000 in
set_option maxRecDepth 100000 in
theorem repeat_walk (b : Nat) (w : World) (hb : w.heap[b]? = some (.cells map3.toArray 37 (0, 0))) :
    Calls Tryd.prog 14 #[.slice (some ⟨b, 0, none⟩) 1 1, .int .i64 16384] w fun e w' => ∃ g, e = .returned (.slice (some ⟨g, 0, none⟩) 16384 16384) ∧ w.heap.size ≤ g ∧ w'.heap[g]? = some (.cells (rep3 map3 16384).toArray 37 (0, 0)) ∧ Below w.heap.size w w' := by
  obtain ⟨Z, hZ⟩ : ∃ Z : List Value, Z = rep3 zero3 16384 := ⟨_, rfl⟩
  obtain ⟨P1, hP1⟩ : ∃ Z : List Value, Z = part 1 := ⟨_, rfl⟩
  have hZl : Z.length = 49152 := by rw [hZ, rep3_len _ zero3_len]
  have hfirst : Z.take 0 ++ (map3 ++ Z.drop (0 + map3.length)) = P1 := by rw [hZ, hP1]; exact part_first
  obtain ⟨i0, hi, hz0, hz1, hz2⟩ := info_parts info37
  have hmk : ∀ W, (Instr.makeSlice 23 (.int .i64 16384) (.int .i64 16384)).run Tryd.prog W = .ok (.slice (some ⟨W.heap.size, 0, none⟩) 16384 16384) (W.alloc (.cells Z.toArray 37)) := fun W => by
    rw [hZ, ← madeCells_cmds]
    have h := run_make (P := Tryd.prog) W 23 37 i0 _ Tryd.underlying23 hi hz0 .i64 .i64 16384 16384 (by decide) (by decide) (by rw [hz2]; decide) (by decide)
    rw [hz1] at h
    exact h
  replace hZ := Aside0.mk hZ
  replace hP1 := Aside0.mk hP1
  replace hZl := Aside0.mk hZl
  replace hfirst := Aside0.mk hfirst
  replace hb := Aside0.mk hb
  go_enter Tryd.func14, Tryd.ntmps14
  go_wp2_with fail
  refine (Tryd.bits_Mul 1 16384 (by decide) (by decide) w).mono ?_
  rintro e w' ⟨rfl, hw'⟩
  obtain rfl := hw'.symm
  have hg0 := blk_new w (.cells Z.toArray 37)
  have hb0 := Aside0.mk ((Below.refl _ w).alloc (Nat.le_refl _) (.cells Z.toArray 37))
  have hbc := Aside0.mk (Lib.alloc_old w (.cells Z.toArray 37) b (blk_lt hb.out))
  replace hg0 := Aside0.mk hg0
  have hone := Aside0.mk map3_one
  go_wp2_with (((with_reducible refine gate_builtin (b := .copy) (xs := #[.tmp 31, .tmp 32]) rfl ?_); refine wpList_copy_rows rfl (.tmp 31) (.tmp 32) 23 23 rfl 37 3 Tryd.underlying23 cells37 w.heap.size 0 16384 16384 ⟨b, 0, none⟩ 1 1 rfl rfl _ 37 hg0.out map3 map3_len ?c1 ?c2 hone.out P1 ?c3 w.heap.size w hb0.out (Nat.le_refl _) 1 rfl ?_))
  case c1 =>
    intro j v hj
    rw [add_plain0, Nat.zero_add, blk_cell (hbc.out.trans hb.out)]
    exact map3_arr j v hj
  case c2 => rw [List.size_toArray, hZl.out, show map3.length = 3 from map3_len]; decide
  case c3 => simpa using hfirst.out
  intro w2 hg2 hb2
  go_wp2_with fail
  go_loopw [8] (fun s8 wr => ∃ n : Nat, s8 = .int .i64 n ∧ Aside0 (1 ≤ n ∧ n ≤ 16384 ∧ wr.heap[w.heap.size]? = some (.cells (part n).toArray 37 (0, 0)) ∧ Below w.heap.size w wr)) (fun s8 _ => 16384 - (intOf s8).toNat)
  case atStart => exact ⟨1, rfl, ⟨by decide, by decide, by rw [← hP1.out]; exact hg2.out, hb2.out⟩⟩
  case round =>
    obtain ⟨n, rfl, HREL⟩ := hrel
    obtain ⟨hn1, hn2, hrow, hbr⟩ := HREL.out
    clear HREL
    replace hrow := Aside0.mk hrow
    replace hbr := Aside0.mk hbr
    by_cases hlt : n < 16384
    · have hltI : (n : Int) < 16384 := by omega
      have hn0 : (0 : Int) ≤ (n : Int) := by omega
      have hnC : (n : Int) ≤ 16384 := by omega
      have hne : ¬ (n : Int) = 16384 := by omega
      have hne2 : (16384 = n) = False := eq_false (by omega)
      obtain ⟨m, hm⟩ : ∃ m, Nat.min n (16384 - n) = m := ⟨_, rfl⟩
      have hmle : m ≤ n ∧ n + m ≤ 16384 ∧ 1 ≤ m := by
        have : m = min n (16384 - n) := hm.symm
        omega
      replace hm := Aside0.mk hm
      have hlen : (rep3 map3 m).length = m * 3 := rep3_len _ map3_len m
      have hpc := part_copy (n := n) (m := m) hmle.2.1
      have hpl := part_len (n := n) hn2
      have hat : ∀ j v, (rep3 map3 m)[j]? = some v → (part n)[j]? = some v := fun j v h => rep3_at m j v h n hmle.1 hn2
      have hpo := rep3_one map3_one m
      replace hlen := Aside0.mk hlen
      replace hpc := Aside0.mk hpc
      replace hpl := Aside0.mk hpl
      replace hat := Aside0.mk hat
      replace hpo := Aside0.mk hpo
      replace hmle := Aside0.mk hmle
      generalize hRR : rep3 map3 m = RR at hlen hpc hat hpo
      generalize hPP : part n = PP at hrow hpc hpl hat
      clear hRR hPP
      obtain ⟨w4, hrun, hg4, hb4⟩ : ∃ w4, (Builtin.copy_ #[23, 23] 3 #[.slice (some ⟨w.heap.size, n * 3, none⟩) (16384 - n) (16384 - n), .slice (some ⟨w.heap.size, 0, none⟩) n 16384]).run Tryd.prog wr.drew = .ok (.int .i64 (m : Int)) w4 ∧ w4.heap[w.heap.size]? = some (.cells (part (n + m)).toArray 37 (0, 0)) ∧ Below w.heap.size w w4 := by
        have h := run_copy_rows (P := Tryd.prog) wr.drew 23 23 3 37 w.heap.size (n * 3) (16384 - n) (16384 - n) ⟨w.heap.size, 0, none⟩ n 16384 3 PP.toArray 37 RR Tryd.underlying23 cells37 hrow.out (by rw [hm.out, hlen.out]) (fun j v hj => by
          rw [add_plain0, Nat.zero_add, blk_cell (w := wr.drew) hrow.out]
          simpa using hat.out j v hj) (by rw [List.size_toArray, hpl.out, hlen.out]; have := hmle.out; omega) hpo.out
        rw [hm.out] at h
        refine ⟨_, h, ?_, Go.below_setRow hbr.out.drew (Nat.le_refl _) _⟩
        rw [setRow_heap (wr.drew) w.heap.size _ _ 37 _ hrow.out, ← hpc.out]
        simp
      replace hg4 := Aside0.mk hg4
      replace hb4 := Aside0.mk hb4
      have hmI : (m : Int) ≤ 16384 := by have := hmle.out; omega
      have hmI0 : (0 : Int) ≤ (m : Int) := by omega
      clear hm hlen hpc hpl hat hpo
      go_wp2_with fail
      go_region
      go_roundw
      case rel =>
        exact ⟨_, _, _, _, _, _, _, _, _, _, _, _, _, _, ⟨n + m, by go_num, ⟨by omega, by have := hmle.out; omega, hg4.out, hb4.out⟩⟩, rfl⟩
      case measure => have := hmle.out; simp [intOf]; omega
    · obtain rfl : n = 16384 := by omega
      have hpp : part 16384 = rep3 map3 16384 := by rw [part, Nat.sub_self, rep3_zero, List.append_nil]
      rw [hpp] at hrow
      clear hpp
      go_wp2
      go_ret
      exact ⟨_, rfl, Nat.le_refl _, hrow.out, hbr.out⟩
theorem forms_at0 (w : World) : (Instr.index 70 (.agg formCells.toArray) (.int .i64 ((0 : Nat) : Int))).run Tryd.prog w = .ok (.agg (encF Wel.Scr.forms[0]!).toArray) w := by kernel_rfl
theorem forms_at1 (w : World) : (Instr.index 70 (.agg formCells.toArray) (.int .i64 ((1 : Nat) : Int))).run Tryd.prog w = .ok (.agg (encF Wel.Scr.forms[1]!).toArray) w := by kernel_rfl
theorem forms_at2 (w : World) : (Instr.index 70 (.agg formCells.toArray) (.int .i64 ((2 : Nat) : Int))).run Tryd.prog w = .ok (.agg (encF Wel.Scr.forms[2]!).toArray) w := by kernel_rfl
theorem forms_at3 (w : World) : (Instr.index 70 (.agg formCells.toArray) (.int .i64 ((3 : Nat) : Int))).run Tryd.prog w = .ok (.agg (encF Wel.Scr.forms[3]!).toArray) w := by kernel_rfl
theorem forms_at4 (w : World) : (Instr.index 70 (.agg formCells.toArray) (.int .i64 ((4 : Nat) : Int))).run Tryd.prog w = .ok (.agg (encF Wel.Scr.forms[4]!).toArray) w := by kernel_rfl
theorem forms_at5 (w : World) : (Instr.index 70 (.agg formCells.toArray) (.int .i64 ((5 : Nat) : Int))).run Tryd.prog w = .ok (.agg (encF Wel.Scr.forms[5]!).toArray) w := by kernel_rfl
theorem forms_at6 (w : World) : (Instr.index 70 (.agg formCells.toArray) (.int .i64 ((6 : Nat) : Int))).run Tryd.prog w = .ok (.agg (encF Wel.Scr.forms[6]!).toArray) w := by kernel_rfl
theorem forms_at7 (w : World) : (Instr.index 70 (.agg formCells.toArray) (.int .i64 ((7 : Nat) : Int))).run Tryd.prog w = .ok (.agg (encF Wel.Scr.forms[7]!).toArray) w := by kernel_rfl
theorem forms_at8 (w : World) : (Instr.index 70 (.agg formCells.toArray) (.int .i64 ((8 : Nat) : Int))).run Tryd.prog w = .ok (.agg (encF Wel.Scr.forms[8]!).toArray) w := by kernel_rfl
theorem forms_at9 (w : World) : (Instr.index 70 (.agg formCells.toArray) (.int .i64 ((9 : Nat) : Int))).run Tryd.prog w = .ok (.agg (encF Wel.Scr.forms[9]!).toArray) w := by kernel_rfl
theorem forms_at10 (w : World) : (Instr.index 70 (.agg formCells.toArray) (.int .i64 ((10 : Nat) : Int))).run Tryd.prog w = .ok (.agg (encF Wel.Scr.forms[10]!).toArray) w := by kernel_rfl
theorem forms_at11 (w : World) : (Instr.index 70 (.agg formCells.toArray) (.int .i64 ((11 : Nat) : Int))).run Tryd.prog w = .ok (.agg (encF Wel.Scr.forms[11]!).toArray) w := by kernel_rfl
theorem forms_at12 (w : World) : (Instr.index 70 (.agg formCells.toArray) (.int .i64 ((12 : Nat) : Int))).run Tryd.prog w = .ok (.agg (encF Wel.Scr.forms[12]!).toArray) w := by kernel_rfl
theorem forms_at13 (w : World) : (Instr.index 70 (.agg formCells.toArray) (.int .i64 ((13 : Nat) : Int))).run Tryd.prog w = .ok (.agg (encF Wel.Scr.forms[13]!).toArray) w := by kernel_rfl
theorem forms_at14 (w : World) : (Instr.index 70 (.agg formCells.toArray) (.int .i64 ((14 : Nat) : Int))).run Tryd.prog w = .ok (.agg (encF Wel.Scr.forms[14]!).toArray) w := by kernel_rfl
theorem forms_at15 (w : World) : (Instr.index 70 (.agg formCells.toArray) (.int .i64 ((15 : Nat) : Int))).run Tryd.prog w = .ok (.agg (encF Wel.Scr.forms[15]!).toArray) w := by kernel_rfl
theorem forms_at16 (w : World) : (Instr.index 70 (.agg formCells.toArray) (.int .i64 ((16 : Nat) : Int))).run Tryd.prog w = .ok (.agg (encF Wel.Scr.forms[16]!).toArray) w := by kernel_rfl
theorem forms_index : ∀ i : Nat, i < 17 → ∀ w, (Instr.index 70 (.agg formCells.toArray) (.int .i64 (i : Int))).run Tryd.prog w = .ok (.agg (encF Wel.Scr.forms[i]!).toArray) w := by
  intro i hi w
  have : i = 0 ∨ i = 1 ∨ i = 2 ∨ i = 3 ∨ i = 4 ∨ i = 5 ∨ i = 6 ∨ i = 7 ∨ i = 8 ∨ i = 9 ∨ i = 10 ∨ i = 11 ∨ i = 12 ∨ i = 13 ∨ i = 14 ∨ i = 15 ∨ i = 16 := by omega
  rcases this with rfl | rfl | rfl | rfl | rfl | rfl | rfl | rfl | rfl | rfl | rfl | rfl | rfl | rfl | rfl | rfl | rfl
  · exact forms_at0 w
  · exact forms_at1 w
  · exact forms_at2 w
  · exact forms_at3 w
  · exact forms_at4 w
  · exact forms_at5 w
  · exact forms_at6 w
  · exact forms_at7 w
  · exact forms_at8 w
  · exact forms_at9 w
  · exact forms_at10 w
  · exact forms_at11 w
  · exact forms_at12 w
  · exact forms_at13 w
  · exact forms_at14 w
  · exact forms_at15 w
  · exact forms_at16 w
theorem str_info : (Tryd.prog.info? 9).map (fun i => (i.zero, i.size, i.bytes)) = some (some (.string ⟨#[]⟩), 1, 16) := by kernel_rfl
attribute [local irreducible] formCells
set_option maxHeartbeats 1000000 in
set_option maxRecDepth 100000 in
theorem words_walk (w : World) : Calls Tryd.prog 12 #[] w fun e w' => ∃ v, e = .returned v ∧ Kd.R Kd.string 9 w' w.heap.size (fun _ => True) v (Wel.Scr.forms.map fun f => ba f.1) ∧ Below w.heap.size w w' := by
  obtain ⟨i0, hi, hz0, hz1, hz2⟩ := info_parts str_info
  go_enter Tryd.func12, Tryd.ntmps12
  go_wp2_with (first
    | (go_at_call 27; refine (script_forms_calls _).mono ?_; rintro e w1 ⟨rfl, hb1⟩; replace hb1 := Aside0.mk hb1))
  go_loopw [1, 5] (fun s1 s5 wr => ∃ i : Nat, s5 = .int .i64 i ∧ Aside0 (i ≤ 17 ∧ OwnRow (fun (p : ByteArray) cs => cs = [Value.string p]) 9 1 wr w.heap.size s1 ((Wel.Scr.forms.take i).map fun f => ba f.1) ∧ Below w.heap.size w wr)) (fun _ s5 _ => 17 - (intOf s5).toNat)
  case atStart => exact ⟨0, rfl, ⟨by decide, OwnRow.none_ _ _ _ _ _, hb1.out⟩⟩
  case round =>
    obtain ⟨i, rfl, HREL⟩ := hrel
    obtain ⟨hin, hown, hbr⟩ := HREL.out
    clear HREL
    by_cases hlt : i < 17
    · have hltI : (i : Int) < 17 := by omega
      have hix := forms_index i hlt
      have htk : Wel.Scr.forms.take (i + 1) = Wel.Scr.forms.take i ++ [Wel.Scr.forms[i]!] := by
        have h17 : i < Wel.Scr.forms.length := hlt
        rw [List.take_succ_eq_append_getElem h17]
        simp [h17]
      generalize Wel.Scr.forms[i]! = f at hix htk
      obtain ⟨fw, fk, fb⟩ := f
      replace hix : ∀ w, (Instr.index 70 (.agg formCells.toArray) (.int .i64 (i : Int))).run Tryd.prog w = .ok (.agg #[.string (ba fw), .int .i64 fk, .bool fb]) w := hix
      replace htk := Aside0.mk htk
      replace hbr := Aside0.mk hbr
      replace hown := Aside0.mk hown
      have hlen17 : (Wel.Scr.forms.take i).length ≤ 17 := by rw [List.length_take]; exact Nat.le_trans (Nat.min_le_right _ _) (by decide)
      have hB3 := Aside0.mk (hbr.out.alloc hbr.out.size (.cells #[.string (ba fw), .int .i64 fk, .bool fb] 69))
      have hO3 := Aside0.mk (OwnRow.below hown.out ((Below.refl _ wr).alloc (Nat.le_refl _) (.cells #[.string (ba fw), .int .i64 fk, .bool fb] 69)))
      have hone : ∀ u ∈ ([.string (ba fw)] : List Value), u.oneCell' = true := fun u hu => by rw [List.mem_singleton.1 hu]; rfl
      have hsz3 := Aside0.mk (show (wr.alloc (.cells #[.string (ba fw), .int .i64 fk, .bool fb] 69)).heap.size = wr.heap.size + 1 by simp)
      replace hone := Aside0.mk hone
      replace hlen17 := Aside0.mk hlen17
      go_wp2_with (((with_reducible refine gate_builtin (b := .append) (xs := #[.tmp 8, .tmp 11]) rfl ?_); at_builtin; refine OwnRow.append (w0 := w) w.heap.size rfl (.tmp 8) (.tmp 11) 42 9 _ 1 16 rfl Tryd.underlying42 info9 rfl (by decide) (by decide) _ _ (ba fw) [.string (ba fw)] rfl (by rw [hsz3.out]; rfl) rfl rfl hone.out hO3.out hB3.out hB3.out.size ?cB ?_))
      case cB => rw [List.length_map]; have := hlen17.out; omega
      intro v5 w5 hown5 hb5 _ _
      replace hown5 := Aside0.mk hown5
      replace hb5 := Aside0.mk hb5
      go_wp2
      go_roundw
      case rel => exact ⟨i + 1, rfl, ⟨hlt, by rw [htk.out, List.map_append, List.map_take]; exact hown5.out, hb5.out⟩⟩
      case measure => simp [intOf]; omega
    · obtain rfl : i = 17 := by omega
      have hall : Wel.Scr.forms.take 17 = Wel.Scr.forms := rfl
      rw [hall] at hown
      replace hown := Aside0.mk hown
      replace hbr := Aside0.mk hbr
      clear hall
      go_wp2
      go_ret
      exact ⟨_, rfl, ⟨fun _ _ => trivial, OwnRow.imp_ hown.out fun _ _ h => h⟩, hbr.out⟩
end Go.Proofs.YtmndhgiblpfcgaaDoor.W
end

section
/-
Chapter 26's third law (ScriptWords): the walk.
-/
namespace Go.Proofs.YtmndhgiblpfcgaaDoor.W
open Go.RowKit Go.Proofs.YtmndhgiblpfcgaaDoorW.PrintWords Go.Proofs.YtmndhgiblpfcgaaDoorW.PrintLast Go.Proofs.YtmndhgiblpfcgaaDoorW.PrintMore
set_option linter.unusedVariables false
set_option linter.unusedSimpArgs false

theorem forms_len : (Wel.Scr.forms.map fun f => ba f.1).length = 17 := rfl
theorem shape_forms : ∀ i : Nat, i < 17 → ∃ k b, Wel.Scr.shape ((Wel.Scr.forms.map (·.1)).getD i []) = some (k, b) := by
  intro i hi
  have : ∀ i : Fin 17, (Wel.Scr.shape ((Wel.Scr.forms.map (·.1)).getD i.val [])).isSome = true := by decide
  have h := this ⟨i, hi⟩
  cases hs : Wel.Scr.shape ((Wel.Scr.forms.map (·.1)).getD i []) with
  | none => rw [hs] at h; cases h
  | some f => exact ⟨f.1, f.2, rfl⟩
theorem rd_forms (i : Nat) : rdOf ByteArray.empty (Wel.Scr.forms.map fun f => ba f.1) (i : Int) = ba ((Wel.Scr.forms.map (·.1)).getD i []) := by
  have e : (Wel.Scr.forms.map fun f => ba f.1) = (Wel.Scr.forms.map (·.1)).map ba := by rw [List.map_map]; rfl
  rw [e, ba_empty, rdOf_map, Int.toNat_natCast]

/-- So many ends of lines, and then noughts. -/
def nlPart (i : Nat) : List Value := List.replicate i (.int .u8 10) ++ List.replicate (65536 - i) (.int .u8 0)
theorem nlPart_get {i : Nat} (h : i < 65536) : (nlPart i).toArray[i]? = some (.int .u8 0) := by
  rw [List.getElem?_toArray, nlPart, List.getElem?_append_right (by rw [List.length_replicate]; exact Nat.le_refl _), List.length_replicate, Nat.sub_self]
  rw [List.getElem?_replicate, if_pos (by omega)]
theorem nlPart_set {i : Nat} (h : i < 65536) : (nlPart i).toArray.setIfInBounds i (.int .u8 10) = (nlPart (i + 1)).toArray := by
  have e1 : 65536 - i = (65536 - (i + 1)) + 1 := by omega
  apply Array.ext'
  rw [Array.toList_setIfInBounds]
  show (nlPart i).set i _ = nlPart (i + 1)
  rw [nlPart, nlPart, List.set_append_right _ _ (by rw [List.length_replicate]; exact Nat.le_refl _), List.length_replicate, Nat.sub_self, e1, List.replicate_succ, List.set_cons_zero]
  rw [List.replicate_succ', List.append_assoc]
  rfl
theorem made_bytes (n : Nat) : madeCells (Value.int .u8 0).cells n = (List.replicate n (Value.int .u8 0)).toArray := by
  apply Array.ext'
  show ((Array.range n).map _).toList = _
  rw [Array.toList_map, Array.toList_range]
  show (List.range n).map (fun i => (#[Value.int .u8 0] : Array Value)[i % 1]!) = List.replicate n (Value.int .u8 0)
  have h : ∀ l : List Nat, l.map (fun i => (#[Value.int .u8 0] : Array Value)[i % 1]!) = List.replicate l.length (Value.int .u8 0) := by
    intro l
    induction l with
    | nil => rfl
    | cons a l ih =>
      rw [List.map_cons, ih, List.length_cons, List.replicate_succ, Nat.mod_one]
      rfl
  rw [h, List.length_range]
theorem nl_make (W : World) : (Instr.makeSlice 35 (.int .i64 65536) (.int .i64 65536)).run Tryd.prog W = .ok (.slice (some ⟨W.heap.size, 0, none⟩) 65536 65536) (W.alloc (.cells (nlPart 0).toArray 5)) := by
  obtain ⟨i0, hi, hz0, hz1, hz2⟩ := info_parts info5
  have h := run_make (P := Tryd.prog) W 35 5 i0 _ Tryd.underlying35 hi hz0 .i64 .i64 65536 65536 (by decide) (by decide) (by rw [hz2]; decide) (by decide)
  rw [hz1, made_bytes] at h
  rw [h]
  rfl
def nl65536 : List UInt8 := List.replicate 65536 10
theorem nl_len : nl65536.length = 65536 := List.length_replicate ..
theorem nlPart_at {j : Nat} (h : j < nl65536.length) : (nlPart 65536).toArray[j]? = some (.int .u8 ((nl65536[j]).toNat : Int)) := by
  have e : nl65536[j] = 10 := List.getElem_replicate ..
  rw [nl_len] at h
  rw [e, List.getElem?_toArray, nlPart, Nat.sub_self, List.replicate_zero, List.append_nil, List.getElem?_replicate, if_pos h]
  rfl
theorem parse_nl : parseP nl65536 = ([], 1, 20) := by
  have e : nl65536 = 10 :: List.replicate 65535 10 := rfl
  have h : Wel.Scr.parse nl65536 = ([], 1, 20) := by
    unfold Wel.Scr.parse
    rw [if_neg (by rw [nl_len]; decide), e]
    simp only [Wel.Scr.splitB, if_true]
    cases hs : Wel.Scr.splitB 10 (List.replicate 65535 10) with
    | nil => exact absurd hs (Wel.Scr.splitB_ne _ _)
    | cons b t =>
      have hr : Wel.Scr.read [] = (⟨[], [], []⟩, 20) := rfl
      simp only [Wel.Scr.parseL, hr]
      rfl
  rw [parseP, h]; rfl
theorem parse_long : parseP (nl65536 ++ [10]) = ([], 0, 16) := by
  have h : Wel.Scr.parse (nl65536 ++ [10]) = ([], 0, 16) := by
    unfold Wel.Scr.parse
    rw [if_pos (by rw [List.length_append, nl_len]; decide)]
  rw [parseP, h]; rfl
theorem rep3_cut (c : List Value) (hc : c.length = 3) (n j : Nat) (h : j < n) : ((rep3 c n).drop (j * 3)).take 3 = c := by
  have e : n = j + ((n - j - 1) + 1) := by omega
  rw [e, rep3_add, List.drop_left' (rep3_len c hc j), Nat.add_comm, rep3_add, rep3_single, List.take_left' hc]
theorem map_K (W : World) : k37.K W (encP mapC) map3 :=
  k37_mk W (encP mapC) (A1 := none) (c1 := 0) (Nat.le_refl _) ⟨rfl, by decide, fun h => absurd h (by decide)⟩ (A2 := none) (c2 := 0) (Nat.le_refl _) ⟨rfl, by decide, fun h => absurd h (by decide)⟩
def MapRow (p : S37) (cs : List Value) : Prop := p = encP mapC ∧ cs = map3
theorem MapRow.K {p : S37} {cs : List Value} (h : MapRow p cs) (W : World) : k37.K W p cs := by
  obtain ⟨rfl, rfl⟩ := h
  exact map_K W
theorem most_own (w' : World) (base g n : Nat) (hb : base ≤ g) (hn : n ≤ maxLen) (h : w'.heap[g]? = some (.cells (rep3 map3 n).toArray 37 (0, 0))) : OwnRow MapRow 37 3 w' base (.slice (some ⟨g, 0, none⟩) n n) ((List.replicate n mapC).map encP) := by
  have hl := rep3_len map3 rfl n
  refine ⟨rep3 map3 n, ⟨by rw [hl, List.length_map, List.length_replicate], .inr ⟨g, n, (rep3 map3 n).toArray, by rw [List.length_map, List.length_replicate], hb, h, by rw [List.length_map, List.length_replicate]; exact Nat.le_refl _, hn, by rw [List.size_toArray, hl], by rw [List.length_map, List.length_replicate]; exact List.take_of_length_le (by rw [hl]; exact Nat.le_refl _)⟩⟩, by rw [hl, List.length_map, List.length_replicate], fun j p hj => ?_⟩
  have hjn : j < n := by
    have := (List.getElem?_eq_some_iff.1 hj).1
    rwa [List.length_map, List.length_replicate] at this
  rw [List.map_replicate, List.getElem?_replicate, if_pos hjn] at hj
  injection hj with hj
  subst hj
  rw [rep3_cut map3 rfl n j hjn]
  exact ⟨rfl, rfl⟩
theorem cell_spot0 {w : World} {b o : Nat} {sp : Option Nat} {v : Value} (h : w.cell? ⟨b, o, sp⟩ = some v) : sp = none := by
  cases sp with
  | none => rfl
  | some x =>
    unfold World.cell? at h
    split at h <;> simp at h
theorem add_zero0 (a : Addr) : a.add 0 = a := by
  cases a
  unfold Addr.add
  split <;> simp_all
theorem map_check : Wel.Scr.check mapC = 0 := rfl
theorem map_line : Wel.Scr.line mapC = [109, 97, 112, 10] := rfl
theorem maps_len : ∀ n, (Wel.Scr.linesOf (List.replicate n mapC)).length = 4 * n
  | 0 => rfl
  | n + 1 => by
    have e : Wel.Scr.linesOf (List.replicate (n + 1) mapC) = Wel.Scr.line mapC ++ Wel.Scr.linesOf (List.replicate n mapC) := rfl
    rw [e, List.length_append, maps_len n, map_line]
    simp only [List.length_cons, List.length_nil]; omega
theorem maps_print (n : Nat) : Wel.Scr.print (List.replicate n mapC) = if 4 * n ≤ 65536 then (Wel.Scr.linesOf (List.replicate n mapC), 0) else ([], 16) := by
  have h : Wel.Scr.firstBad (List.replicate n mapC) = 0 := Wel.Scr.firstBad_zero.2 fun c hc => by
    rw [(List.mem_replicate.1 hc).2]; exact map_check
  rw [Wel.Scr.print_eq, if_neg (by rw [h]; simp), maps_len]
theorem maps_small (n : Nat) : ∀ c, c ∈ List.replicate n mapC → cmdSmall c := fun c hc => by
  rw [(List.mem_replicate.1 hc).2]
  exact ⟨by decide, by decide, by decide, fun m hm => by cases hm⟩
/-- The walk of Print over so many bare words. -/
theorem maps_walk (n : Nat) (A : Option Addr) (c : Nat) (w : World) (hI : Inv w) (hr : Kd.C k37 w A n ((List.replicate n mapC).map encP)) (hc : n ≤ c) (hn : n ≤ 9223372036854775807) (r : List UInt8 × Nat) (hR : r = Wel.Scr.print (List.replicate n mapC)) :
    Calls Tryd.prog 10 #[.slice A n c] w (PrintPost w r) := by
  have hl : (List.replicate n mapC).length = n := List.length_replicate ..
  have h := print_walk (List.replicate n mapC) A c w hI (by rw [hl]; exact hr) (by rw [hl]; exact hc) (by rw [hl]; exact hn) (maps_small n) r hR
  rw [hl] at h
  exact h
attribute [local irreducible] nlPart nl65536
set_option maxHeartbeats 1000000 in
set_option maxRecDepth 100000 in
theorem swords_walk (w : World) (hI : Inv w) : Calls Tryd.prog 5 #[] w fun e w' => e = .returned (.bool true) ∧ Below w.heap.size w w' := by
  replace hI := Aside0.mk hI
  go_enter Tryd.func5, Tryd.ntmps5
  go_wp2_with fail
  refine (words_walk w).mono ?_
  rintro e w1 ⟨v1, rfl, hw1, hb1⟩
  obtain ⟨A1, c1, rfl, hc1, hr1⟩ := Kd.R_reads hw1
  rw [forms_len] at hc1 hr1
  rw [forms_len]
  replace hr1 := Aside0.mk hr1
  replace hb1 := Aside0.mk hb1
  clear hw1
  go_wp2_with fail
  go_loopw [26] (fun s26 wr => ∃ i : Nat, s26 = .int .i64 i ∧ Aside0 (i ≤ 17 ∧ Below w1.heap.size w1 wr)) (fun s26 _ => 17 - (intOf s26).toNat)
  case atStart => exact ⟨0, rfl, ⟨by decide, Below.refl _ _⟩⟩
  case round =>
    obtain ⟨i, rfl, HREL⟩ := hrel
    obtain ⟨hin, hbr⟩ := HREL.out
    clear HREL
    by_cases hlt : i < 17
    · have hltI : (i : Int) < 17 := by omega
      have hi0 : (0 : Int) ≤ (i : Int) := by omega
      obtain ⟨ad, e, hx⟩ := Kd.at_string (Kd.C_below hr1.out hbr) (i : Int) (by omega) (by omega)
      cases e
      rw [rd_forms, Int.toNat_natCast] at hx
      obtain ⟨k, b, hsh⟩ := shape_forms i hlt
      generalize (Wel.Scr.forms.map (·.1)).getD i [] = s at hx hsh
      obtain ⟨KS, hKS⟩ := Shape_ev s
      have hrs : shapeR s = ((k : Int), b, true) := by rw [shapeR, hsh]
      have hshape := fun W => wellspringref26_Shape.calls KS (ba s) k b true W (by rw [← hrs]; exact hKS KS (Nat.le_refl _))
      replace hshape := Aside0.mk hshape
      replace hsh := Aside0.mk hsh
      replace hbr := Aside0.mk hbr
      clear hKS hrs
      go_wp2_with ((go_at_call 13; refine (hshape.out _).mono ?_; rintro e w3 ⟨rfl, hd3⟩; have hb3 := Aside0.mk hd3.below; clear hd3))
      go_roundw
      case rel => exact ⟨i + 1, rfl, ⟨hlt, hbr.out.trans (hb3.out.mono hbr.out.size)⟩⟩
      case measure => simp [intOf]; omega
    · obtain rfl : i = 17 := by omega
      replace hbr := Aside0.mk hbr
      have hI1 := Aside0.mk (hI.out.below hb1.out)
      have hr1 := Aside0.mk (Kd.C_below hr1.out (Below.refl _ _))
      have hmk := nl_make
      go_wp2_with fail
      obtain ⟨wo, rfl⟩ : ∃ wo : World, wo = wr := ⟨_, rfl⟩
      have hg0 := Aside0.mk (blk_new wo (.cells (nlPart 0).toArray 5))
      have hb0 := Aside0.mk (hbr.out.alloc hbr.out.size (.cells (nlPart 0).toArray 5))
      clear hmk
      go_loopw [42] (fun s42 wr => ∃ i : Nat, s42 = .int .i64 i ∧ Aside0 (i ≤ 65536 ∧ wr.heap[wo.heap.size]? = some (.cells (nlPart i).toArray 5 (0, 0)) ∧ Below w1.heap.size w1 wr)) (fun s42 _ => 65536 - (intOf s42).toNat)
      case atStart => exact ⟨0, rfl, ⟨Nat.zero_le _, hg0.out, hb0.out⟩⟩
      case round =>
        obtain ⟨i, rfl, HREL⟩ := hrel
        obtain ⟨hin, hg, hbz⟩ := HREL.out
        clear HREL
        by_cases hlt : i < 65536
        · have hltI : (i : Int) < 65536 := by omega
          have hi0 : (0 : Int) ≤ (i : Int) := by omega
          have hcell : wr.cell? ⟨wo.heap.size, i, none⟩ = some (.int .u8 0) := (blk_cell hg i).trans (nlPart_get hlt)
          have hfro : wr.frozen? ⟨wo.heap.size, i, none⟩ = false := blk_frozen hg i
          replace hg := Aside0.mk hg
          replace hbz := Aside0.mk hbz
          go_wp2
          go_roundw
          case rel => exact ⟨i + 1, rfl, ⟨hlt, by rw [← nlPart_set hlt]; exact blk_set hg.out i _, hbz.out.setCell (by have := hbr.out.size; simpa using this) _⟩⟩
          case measure => simp [intOf]; omega
        · obtain rfl : i = 65536 := by omega
          have hcv : ∀ W : World, W.heap[wo.heap.size]? = some (.cells (nlPart 65536).toArray 5 (0, 0)) → (convert 35 9 (.slice (some ⟨wo.heap.size, 0, none⟩) 65536 65536)).run Tryd.prog W = .ok (.string (ba nl65536)) W := fun W hW => by
            have h := run_convert_bytes_back (P := Tryd.prog) W 35 9 5 ⟨wo.heap.size, 0, none⟩ 65536 nl65536 Tryd.underlying35 Tryd.underlying5 Tryd.underlying9 (fun j hj => by
              rw [add_plain0, Nat.zero_add, blk_cell hW]
              exact nlPart_at hj)
            rw [nl_len] at h
            exact h
          have hcv1 := hcv wr hg
          replace hcv := Aside0.mk hcv
          replace hg := Aside0.mk hg
          replace hbz := Aside0.mk hbz
          have hIr := Aside0.mk (hI1.out.below hbz.out)
          obtain ⟨KP, hKP⟩ := ParseP_ev nl65536
          rw [parse_nl] at hKP
          have hp1 := fun W hW => script_Parse.calls KP (ba nl65536) [] 1 20 W hW (hKP KP (Nat.le_refl _))
          obtain ⟨KQ, hKQ⟩ := ParseP_ev (nl65536 ++ [10])
          rw [parse_long] at hKQ
          have hp2 := fun W hW => script_Parse.calls KQ (ba (nl65536 ++ [10])) [] 0 16 W hW (hKQ KQ (Nat.le_refl _))
          clear hKP hKQ
          replace hp1 := Aside0.mk hp1
          replace hp2 := Aside0.mk hp2
          have hp3 : ∀ W, Inv W → Calls Tryd.prog 7 #[.string (ba nl65536 ++ ⟨#[10]⟩)] W fun e w' => ∃ v0_ : Value, e = .returned (.tuple #[v0_, .int .i64 0, .int .i64 16]) ∧ Kd.S k37 37 w' W.heap.size (fun _ => True) v0_ [] ∧ Below W.heap.size W w' := by
            rw [show ba nl65536 ++ (⟨#[10]⟩ : ByteArray) = ba (nl65536 ++ [10]) from ba_append _ [10]]; exact hp2.out
          replace hp3 := Aside0.mk hp3
          clear hp2
          have hsz : (ba nl65536).size = 65536 := by rw [ba_size, nl_len]
          go_wp2_with fail
          refine (hp1.out _ hIr.out).mono ?_
          rintro e w5 ⟨v5, rfl, ho5, hb5⟩
          obtain ⟨a5, c5, rfl⟩ := Kd.S_slice ho5
          clear ho5 hcv1
          have hg5 := (hb5.block _ (blk_lt hg.out)).trans hg.out
          have hcv5 := hcv.out w5 hg5
          have hbz5 := hbz.out.trans (hb5.mono hbz.out.size)
          have hIr5 := Aside0.mk (hI1.out.below hbz5)
          replace hg5 := Aside0.mk hg5
          replace hbz5 := Aside0.mk hbz5
          clear hb5
          go_wp2_with fail
          refine (hp3.out _ hIr5.out).mono ?_
          rintro e w6 ⟨v6, rfl, ho6, hb6⟩
          obtain ⟨a6, c6, rfl⟩ := Kd.S_slice ho6
          have hbz6 := Aside0.mk (hbz5.out.trans (hb6.mono hbz5.out.size))
          clear ho6 hcv5 hb6 hsz
          go_wp2_with fail
          refine (repeat_walk w6.heap.size _ (blk_new w6 (.cells map3.toArray 37))).mono ?_
          rintro e w7 ⟨g, rfl, hgg, hg7, hb7⟩
          have hbz7 : Below w1.heap.size w1 w7 := (hbz6.out.alloc hbz6.out.size _).trans (hb7.mono (by have := hbz6.out.size; simp; omega))
          have hgw : w1.heap.size ≤ g := Nat.le_trans (Nat.le_trans hbz6.out.size (by simp)) hgg
          have hown := most_own w7 w1.heap.size g 16384 hgw (by decide) hg7
          clear hgg hg7 hb7 hbz6
          obtain ⟨P0, hP0⟩ : ∃ P0 : List S37, P0 = (List.replicate 16384 mapC).map encP := ⟨_, rfl⟩
          have hP1 : P0 ++ [encP mapC] = (List.replicate 16385 mapC).map encP := by
            rw [hP0, show (16385 : Nat) = 16384 + 1 from rfl, List.replicate_succ', List.map_append]; rfl
          have hP0l : P0.length = 16384 := by rw [hP0, List.length_map, List.length_replicate]
          rw [← hP0] at hown
          obtain ⟨ML, hML⟩ : ∃ ML, ML = Wel.Scr.linesOf (List.replicate 16384 mapC) := ⟨_, rfl⟩
          have hMLl : (ba ML).size = 65536 := by rw [ba_size, hML, maps_len]
          have hpr1 : (ML, 0) = Wel.Scr.print (List.replicate 16384 mapC) := by rw [maps_print, if_pos (by decide), hML]
          have hpr2 : (([], 16) : List UInt8 × Nat) = Wel.Scr.print (List.replicate 16385 mapC) := by rw [maps_print, if_neg (by decide)]
          have hw1 := fun W (hW : Below w7.heap.size w7 W) (hr : Kd.C k37 W (some ⟨g, 0, none⟩) 16384 P0) => maps_walk 16384 (some ⟨g, 0, none⟩) 16384 W (hI1.out.below (hbz7.trans (hW.mono hbz7.size))) (by rw [← hP0]; exact hr) (Nat.le_refl _) (by decide) _ hpr1
          have hw2 := fun W A c (hW : Below w1.heap.size w1 W) (hr : Kd.C k37 W A 16385 (P0 ++ [encP mapC])) (hc : 16385 ≤ c) => maps_walk 16385 A c W (hI1.out.below hW) (by rw [← hP1]; exact hr) hc (by decide) _ hpr2
          have hrd : Kd.C k37 w7 (some ⟨g, 0, none⟩) 16384 P0 := by
            obtain ⟨A, c, e1, _, h⟩ := OwnRow.reads hown
            rw [hP0l] at e1 h
            injection e1 with e1
            rw [e1]
            exact ReadsRow.imp_ h (Below.refl _ _) fun p c hp => hp.K w7
          clear hML hpr1 hpr2 hP0 hP1
          replace hw1 := Aside0.mk hw1
          replace hw2 := Aside0.mk hw2
          replace hown := Aside0.mk hown
          replace hrd := Aside0.mk hrd
          replace hbz7 := Aside0.mk hbz7
          replace hP0l := Aside0.mk hP0l
          have hone3 := Aside0.mk map3_one
          obtain ⟨KA, hKA⟩ := awake_ev
          have haw := Aside0.mk fun W hW => wellspringlaw26_awake.calls KA true W hW (hKA KA (Nat.le_refl _))
          clear hKA
          have hz0 : (16384 + 1) * 64 ≤ 140737488355328 := by decide
          replace hz0 := Aside0.mk hz0
          go_wp2_with (first
            | (go_at_call 10; refine (hw1.out _ (Below.refl _ _) hrd.out).mono ?_; rintro e w8 ⟨rfl, hb8⟩; have hbz8 := Aside0.mk (hbz7.out.trans (hb8.mono hbz7.out.size)); have hown8 := Aside0.mk (OwnRow.below hown.out hb8); clear hb8)
            | (at_builtin; refine OwnRow.append (w0 := w1) w1.heap.size rfl (.tmp 73) (.tmp 75) 23 37 _ 3 64 rfl Tryd.underlying23 info37 rfl (by decide) (by decide) _ _ (encP mapC) map3 rfl rfl ⟨rfl, rfl⟩ rfl hone3.out hown8.out hbz8.out hbz8.out.size ?cB ?_))
          case cB => rw [hP0l.out]; exact hz0.out
          intro v9 w9 hown9 hb9 _ _
          obtain ⟨A9, c9, rfl, hc9, hr9⟩ := OwnRow.reads hown9
          have hl9 : (P0 ++ [encP mapC]).length = 16385 := by rw [List.length_append, hP0l.out]; rfl
          rw [hl9] at hc9 hr9
          rw [hl9]
          have hr9' : Kd.C k37 w9 A9 16385 (P0 ++ [encP mapC]) := ReadsRow.imp_ hr9 (Below.refl _ _) fun p c hp => hp.K w9
          replace hr9' := Aside0.mk hr9'
          replace hb9 := Aside0.mk hb9
          replace hc9 := Aside0.mk hc9
          clear hown9 hr9 hl9
          obtain ⟨ad, e, hx0⟩ := Kd.at_string (Kd.C_below hr1.out hb9.out) 0 (by decide) (by decide)
          obtain ⟨ad', e', hx16⟩ := Kd.at_string (Kd.C_below hr1.out hb9.out) 16 (by decide) (by decide)
          cases e
          cases e'
          have r0 : rdOf ByteArray.empty (Wel.Scr.forms.map fun f => ba f.1) 0 = ba [98, 101, 103, 105, 110] := rfl
          have r16 : rdOf ByteArray.empty (Wel.Scr.forms.map fun f => ba f.1) 16 = ba [109, 97, 112] := rfl
          rw [r0] at hx0
          rw [r16] at hx16
          replace hx16 : w9.cell? (ad.add 16) = some (.string (ba [109, 97, 112])) := hx16
          replace hx0 : w9.cell? (ad.add 0) = some (.string (ba [98, 101, 103, 105, 110])) := hx0
          rw [add_zero0] at hx0
          obtain ⟨ab, ao, asp⟩ := ad
          obtain rfl := cell_spot0 hx0
          rw [add_plain0] at hx16
          have ht0 : (ba [98, 101, 103, 105, 110]).toList = [98, 101, 103, 105, 110] := ba_toList _
          have ht1 : (ba [109, 97, 112]).toList = [109, 97, 112] := ba_toList _
          clear r0 r16
          replace hx0 := Aside0.mk hx0
          replace hx16 := Aside0.mk hx16
          have hIw := fun W (h : Below w1.heap.size w1 W) => hI1.out.below h
          replace hIw := Aside0.mk hIw
          go_wp2_with (first
            | (go_at_call 10; refine (hw2.out _ A9 c9 hb9.out hr9'.out hc9.out).mono ?_; rintro e w10 ⟨rfl, hb10⟩; have hx0' := cell_below hx0.out hb10; have hx16' := cell_below hx16.out hb10; have hbz10 := Aside0.mk (hb9.out.trans (hb10.mono hb9.out.size)); clear hb10)
            | (go_at_call 6; refine (haw.out _ (hIw.out _ hbz10.out)).mono ?_; rintro e w11 ⟨rfl, hb11⟩; replace hb11 := Aside0.mk hb11))
          go_ret
          exact ⟨by first | rfl | simp, hb1.out.trans ((hbz10.out.trans (hb11.out.mono hbz10.out.size)).mono hb1.out.size)⟩
end Go.Proofs.YtmndhgiblpfcgaaDoor.W
end

section
/-
ScriptWords: the words are the document's, a text of 65,536 bytes is read and a longer one is not, and as many bytes are printed and not more: the given card is proved.
-/
namespace Go.Proofs.YtmndhgiblpfcgaaDoor.W
open Go.ChangeShapes Go.WideShapes Go.ChangeAt Go.RowKit
set_option linter.unusedVariables false

theorem swords_reads (os : Os) {H : Type} (enc : TypeId × Value → H) : ∃ places, DataW.whole enc Tryd.prog ((laidWorld os).forCall (fun _ _ => 0) ⟨#[], #[], []⟩).memory Tryd.f5.params.toList Rows.scriptWordsSpec.vars false (#[] : Array Value).toList 8 = some ([], [], places) :=
  ⟨[], by kernel_rfl⟩

set_option maxRecDepth 100000 in
theorem swords_lifted (os : Os) (started : os.Started) (H : Type) (enc : TypeId × Value → H) (F : Stop.Interp) :
    ReturnsInHanded {} Tryd.checked os 5 .any ((OpenSpec.ofChange Rows.scriptWordsSpec).preRow enc Tryd.prog Tryd.f5 Rows.scriptWordsRow.domain false Rows.scriptWordsRow.laid) (((OpenSpec.ofChange Rows.scriptWordsSpec).at F).post enc Tryd.prog Tryd.f5 false true false false) := by
  obtain ⟨places, hx⟩ := swords_reads os enc
  refine returnsInHanded_of_row (C := Tryd.checked) (s := OpenSpec.ofChange Rows.scriptWordsSpec) own0 started (by kernel_rfl) Tryd.func5
    (witness_row_atRef (enc := enc) (C := Tryd.checked) false (laidWorld os) #[] rfl (by kernel_rfl) (by kernel_rfl) (by kernel_rfl)
      (OpenSpec.preRow_of_cond 8 hx (by kernel_rfl) (fun k hk => by cases hk) (by kernel_rfl) (laid_met os _))) ?_
  intro W base args ds gs before hval0 hW _ _ hz hL hsh _
  have hW' := hW
  obtain ⟨p, q, hA0, hV0, rfl, _, _⟩ := hW
  have hA : DataW.TrodAll enc Tryd.prog W 0 (fun _ => true) true Tryd.f5.params.toList args.toList ds p := hA0
  rw [Tryd.params5] at hA
  obtain ⟨rfl, rfl, rfl⟩ := trodAll_none hA
  obtain ⟨rfl, rfl⟩ := trodVars_none hV0
  clear hA0 hV0 hval0
  have hI : Inv W := inv_of_laid hsh hL (.tail _ (.tail _ (.head _))) (.tail _ (.tail _ (.tail _ (.tail _ (.tail _ (.head _)))))) (.tail _ (.tail _ (.tail _ (.tail _ (.head _)))))
  refine (swords_walk W hI).mono ?_
  rintro e W' ⟨rfl, bel⟩
  have e1 : ((OpenSpec.ofChange Rows.scriptWordsSpec).at F).fn H ([] ++ []) = { results := [.lit (.bool true)], args := [] } := rfl
  refine ⟨_, rfl, _, _, _, [], [], [], hW', ?_, ?_, ?_, bel.frame _, fun h => by cases h⟩
  · rw [e1]; exact trodAll_mk1 (shut_bool Tryd.underlying4 true)
  · rw [e1]; exact trodAll_mk0
  · rw [e1]; rfl
theorem swords_said : Rows.ScriptWordsSaid :=
  OpenClaim.holds_of_cond 5 Tryd.f5 rfl rfl rfl rfl rfl rfl rfl ⟨rfl, rfl, rfl, rfl, rfl⟩ rfl rfl rfl rfl rfl (by kernel_rfl) Tryd.func5 (by kernel_rfl)
    (of_decide_eq_true (by kernel_rfl)) (by unfold Func.isWrapper; first | (rw [if_pos (by decide +kernel)]; kernel_rfl) | (rw [if_neg (by decide +kernel)]; exact ⟨rfl, rfl⟩))
    (fun os started H enc _ F => by rw [OpenClaim.pre_eq_preRow]; exact swords_lifted os started H enc F)
theorem swords_plain (f : FuncId) (fn : Func) (hf : Tryd.pinned.checked.prog.funcNamed "wellspring/wellspringlaw26.ScriptWords" = some f) (hfn : Tryd.pinned.checked.prog.funcs[f]? = some fn) :
    true = Tryd.pinned.checked.prog.looks [] ∧ ∀ (j : Nat) t, fn.params[j]? = some t → Tryd.pinned.checked.prog.wantsStandIn t = false := by
  obtain rfl : f = 5 := Option.some.inj ((show Tryd.prog.funcNamed "wellspring/wellspringlaw26.ScriptWords" = some 5 by kernel_rfl).symm.trans hf) |>.symm
  obtain rfl : fn = Tryd.f5 := (Option.some.inj (Tryd.func5.symm.trans hfn)).symm
  refine ⟨by kernel_rfl, fun j t ht => ?_⟩
  rw [Tryd.params5] at ht
  simp at ht
theorem scriptWords_card : Rows.ScriptWordsCardSaid :=
  Claim7.holds_tied_plain_at .later [] _ _ _ _ swords_said (fun _ h => by cases h) (by kernel_rfl) (fun _ h => by cases h) scriptWords_row_tie rfl ⟨rfl, rfl⟩ (by kernel_rfl) rfl swords_plain (by kernel_rfl)
end Go.Proofs.YtmndhgiblpfcgaaDoor.W
end
