/-
ScriptPrints: of any commands the program's lines are the document's, or why there are none, and parsed they are as they were (the given card, without a condition).
(This text: part 8 of 8, merged out of: Law26, F6, F3, Law26a, Prints, PrintsCard.)
-/
import Derived.Test.YtmndhgiblpfcgaaDoorZpr5
import Derived.Test.YtmndhgiblpfcgaaDoorZpr7
import Derived.Test.YtmndhgiblpfcgaaDoorZpr1
import Derived.Test.YtmndhgiblpfcgaaDoorZpr6
import Derived.Test.YtmndhgiblpfcgaaDoorZpr3
import Derived.Test.YtmndhgiblpfcgaaDoorZpr4
section
/-
Chapter 26's laws, plain: what the printed functions of the script layer come to.
-/
namespace Go.Proofs.YtmndhgiblpfcgaaDoor.W
open Go.RowKit Go.Proofs.YtmndhgiblpfcgaaDoorW.PrintWords
set_option linter.unusedVariables false
set_option linter.unusedSimpArgs false

theorem rd_intl (l : List Int) (i : Nat) (h : i < l.length) : rd l (i : Int) = l[i] := by
  unfold rd
  rw [Int.toNat_natCast, List.getD_eq_getElem?_getD, List.getElem?_eq_getElem h]; rfl
theorem drop_inj_at {α : Type} [DecidableEq α] {a b : List α} {i : Nat} (ha : i < a.length) (hb : i < b.length) : decide (a.drop i = b.drop i) = (decide (a[i] = b[i]) && decide (a.drop (i + 1) = b.drop (i + 1))) := by
  rw [List.drop_eq_getElem_cons ha, List.drop_eq_getElem_cons hb, Bool.eq_iff_iff]
  simp only [decide_eq_true_eq, Bool.and_eq_true, List.cons.injEq]
theorem EqU64_ev (a b : List Int) (ha : a.length ≤ 9223372036854775807) : Ev (fun k => slices_Equal_uint64_uint64.f k a b) (decide (a = b)) := by
  unfold slices_Equal_uint64_uint64.f
  by_cases hl : a.length = b.length
  · refine Ev.congr (fun k => if_pos (by omega)) ?_
    have loop : ∀ (d i : Nat), i + d = a.length → Ev (fun k => slices_Equal_uint64_uint64.l0 k a b (a.length : Int) (i : Int)) (decide (a.drop i = b.drop i)) := by
      intro d
      induction d with
      | zero =>
        intro i hi
        refine ev_now fun k => ?_
        simp only [slices_Equal_uint64_uint64.l0]
        rw [if_neg (by omega), List.drop_of_length_le (by omega), List.drop_of_length_le (by omega)]; simp
      | succ d ih =>
        intro i hi
        have h1 : i < a.length := by omega
        have h2 : i < b.length := by omega
        have w1 : wrap64 ((i : Int) + 1) = ((i + 1 : Nat) : Int) := by rw [wrap64_id (by omega) (by omega)]; omega
        rw [drop_inj_at h1 h2]
        by_cases he : a[i] = b[i]
        · rw [decide_eq_true he, Bool.true_and]
          refine Ev.step (fun k => ?_) (ih (i + 1) (by omega))
          simp only [slices_Equal_uint64_uint64.l0]
          rw [if_pos (by omega), if_pos (by omega), if_pos (by omega), if_pos (by omega), rd_intl a i h1, rd_intl b i h2, if_pos he, w1]
        · rw [decide_eq_false he, Bool.false_and]
          refine ev_now fun k => ?_
          simp only [slices_Equal_uint64_uint64.l0]
          rw [if_pos (by omega), if_pos (by omega), if_pos (by omega), if_pos (by omega), rd_intl a i h1, rd_intl b i h2, if_neg he]
    have := loop a.length 0 (by omega)
    simpa using this
  · refine Ev.congr (fun k => if_neg (by omega)) ?_
    have e : decide (a = b) = false := decide_eq_false fun e => hl (by rw [e])
    rw [e]; exact ev_const
theorem Same02_ev (a b : List Int) (ha : a.length ≤ 9223372036854775807) : Ev (fun k => wellspringref02_Same.f k a b) (decide (a = b)) := by
  unfold wellspringref02_Same.f
  by_cases hl : a.length = b.length
  · refine Ev.congr (fun k => if_pos (by omega)) ?_
    have loop : ∀ (d i : Nat), i + d = a.length → Ev (fun k => wellspringref02_Same.l0 k a b (i : Int)) (decide (a.drop i = b.drop i)) := by
      intro d
      induction d with
      | zero =>
        intro i hi
        refine ev_now fun k => ?_
        simp only [wellspringref02_Same.l0]
        rw [if_neg (by omega), List.drop_of_length_le (by omega), List.drop_of_length_le (by omega)]; simp
      | succ d ih =>
        intro i hi
        have h1 : i < a.length := by omega
        have h2 : i < b.length := by omega
        have w1 : wrap64 ((i : Int) + 1) = ((i + 1 : Nat) : Int) := by rw [wrap64_id (by omega) (by omega)]; omega
        rw [drop_inj_at h1 h2]
        by_cases he : a[i] = b[i]
        · rw [decide_eq_true he, Bool.true_and]
          refine Ev.step (fun k => ?_) (ih (i + 1) (by omega))
          simp only [wellspringref02_Same.l0]
          rw [if_pos (by omega), if_pos (by omega), if_pos (by omega), rd_intl a i h1, rd_intl b i h2, if_pos he, w1]
        · rw [decide_eq_false he, Bool.false_and]
          refine ev_now fun k => ?_
          simp only [wellspringref02_Same.l0]
          rw [if_pos (by omega), if_pos (by omega), if_pos (by omega), rd_intl a i h1, rd_intl b i h2, if_neg he]
    have := loop a.length 0 (by omega)
    simpa using this
  · refine Ev.congr (fun k => if_neg (by omega)) ?_
    have e : decide (a = b) = false := decide_eq_false fun e => hl (by rw [e])
    rw [e]; exact ev_const
/-- Two lists of commands, one the program's, one the document's: of the same they are the same. -/
theorem Same26_same (l : List Wel.Scr.Cmd) (hl : l.length ≤ 9223372036854775807) (hs : ∀ c, c ∈ l → c.nums.length ≤ 9223372036854775807 ∧ c.bytes.length ≤ 9223372036854775807) : Ev (fun k => wellspringlaw26_Same.f k (l.map encP) (l.map encR)) true := by
  unfold wellspringlaw26_Same.f
  refine Ev.congr (fun k => if_pos (by simp)) ?_
  have loop : ∀ (d i : Nat), i + d = l.length → Ev (fun k => wellspringlaw26_Same.l0 k (l.map encP) (l.map encR) (((l.map encP).length : Nat) : Int) (i : Int)) true := by
    intro d
    induction d with
    | zero =>
      intro i hi
      refine ev_now fun k => ?_
      simp only [wellspringlaw26_Same.l0, List.length_map]
      rw [if_neg (by omega)]
    | succ d ih =>
      intro i hi
      have h1 : i < l.length := by omega
      have w1 : wrap64 ((i : Int) + 1) = ((i + 1 : Nat) : Int) := by rw [wrap64_id (by omega) (by omega)]; omega
      have e1 : rd_T37 (l.map encP) (i : Int) = encP l[i] := rd_enc l i h1
      have e2 : rd_T40 (l.map encR) (i : Int) = encR l[i] := by
        unfold rd_T40
        rw [Int.toNat_natCast, List.getD_eq_getElem?_getD, List.getElem?_map, List.getElem?_eq_getElem h1]; rfl
      obtain ⟨b1, b2⟩ := hs l[i] (List.getElem_mem h1)
      have q1 := EqU64_ev (nats l[i].nums) (nats l[i].nums) (by rw [nats_length]; exact b1)
      have q2 := Same02_ev (ints l[i].bytes) (ints l[i].bytes) (by rw [ints_length]; exact b2)
      simp only [decide_true] at q1 q2
      refine Ev.step (fun k => ?_) (Ev.bind (f := fun k (t : Bool) => if t = true then ((wellspringref02_Same.f k (ints l[i].bytes) (ints l[i].bytes)).bind fun t250 => (if t250 = true then (wellspringlaw26_Same.l0 k (l.map encP) (l.map encR) (((l.map encP).length : Nat) : Int) ((i + 1 : Nat) : Int)) else (some false))) else some false) q1 ?_)
      · simp only [wellspringlaw26_Same.l0]
        rw [if_pos (by simp; omega), if_pos (by omega), if_pos (by simp; omega), if_pos (by simp; omega), e1, e2, w1]
        exact if_pos rfl
      · simp only [if_true]
        refine Ev.bind q2 ?_
        simp only [if_true]
        exact ih (i + 1) (by omega)
  exact loop l.length 0 (by omega)

/-! ### The program's Parse -/
theorem nl_sep (s : List UInt8) : Wel.Scr.splitB 10 s = [s] ∧ Lib.cut s [10] = (s, [], false) ∨ ∃ a r, Wel.Scr.splitB 10 s = a :: Wel.Scr.splitB 10 r ∧ Lib.cut s [10] = (a, r, true) ∧ a.length + r.length + 1 = s.length := by
  have h := cut_one 10 s
  have hj := Wel.Scr.joinB_split 10 s
  cases hs : Wel.Scr.splitB 10 s with
  | nil => exact absurd hs (Wel.Scr.splitB_ne _ _)
  | cons a t =>
    cases t with
    | nil =>
      rw [hs] at h hj
      have e : a = s := hj
      subst e
      exact .inl ⟨rfl, h⟩
    | cons b t =>
      rw [hs] at h hj
      have hp := Wel.Scr.splitB_parts (c := 10) (l := s)
      rw [hs] at hp
      refine .inr ⟨a, Wel.Scr.joinB 10 (b :: t), ?_, h, ?_⟩
      · rw [Wel.Scr.splitB_join (by simp) fun x hx => hp x (List.mem_cons_of_mem _ hx)]
      · have := congrArg List.length hj
        simp only [Wel.Scr.joinB, List.length_append, List.length_cons] at this
        omega
def parseP (s : List UInt8) : List S37 × Int × Int := ((Wel.Scr.parse s).1.map encP, ((Wel.Scr.parse s).2.1 : Int), ((Wel.Scr.parse s).2.2 : Int))
theorem ParseP_ev (s : List UInt8) : Ev (fun k => script_Parse.f k (ba s)) (parseP s) := by
  unfold script_Parse.f parseP Wel.Scr.parse
  by_cases hl : 65536 < s.length
  · refine Ev.congr (fun k => if_pos (by rw [ba_size]; omega)) ?_
    rw [if_pos hl]; exact ev_const
  · refine Ev.congr (fun k => if_neg (by rw [ba_size]; omega)) ?_
    rw [if_neg hl]
    have loop : ∀ (d : Nat) (r : List UInt8) (n : Nat) (acc : List Wel.Scr.Cmd), r.length ≤ d → d ≤ 65536 → n + d ≤ 65537 → acc.length ≤ n →
        Ev (fun k => script_Parse.l0 k (ba r) (acc.map encP) (n : Int)) ((Wel.Scr.parseL n acc (Wel.Scr.splitB 10 r)).1.map encP, ((Wel.Scr.parseL n acc (Wel.Scr.splitB 10 r)).2.1 : Int), ((Wel.Scr.parseL n acc (Wel.Scr.splitB 10 r)).2.2 : Int)) := by
      intro d
      induction d with
      | zero =>
        intro r n acc hr hd hn ha
        obtain rfl : r = [] := List.length_eq_zero_iff.1 (by omega)
        refine ev_now fun k => ?_
        simp only [script_Parse.l0]
        rw [if_pos (by rw [ba_toList])]
        simp [Wel.Scr.splitB, Wel.Scr.parseL]
      | succ d ih =>
        intro r n acc hr hd hn ha
        by_cases h0 : r = []
        · subst h0
          refine ev_now fun k => ?_
          simp only [script_Parse.l0]
          rw [if_pos (by rw [ba_toList])]
          simp [Wel.Scr.splitB, Wel.Scr.parseL]
        · have w1 : wrap64 ((n : Int) + 1) = ((n + 1 : Nat) : Int) := by rw [wrap64_id (by omega) (by omega)]; omega
          have hcut : strings_Cut.f (ba r) (⟨#[10]⟩ : ByteArray) = some (ba (Lib.cut r [10]).1, ba (Lib.cut r [10]).2.1, (Lib.cut r [10]).2.2) := by
            unfold strings_Cut.f
            rw [if_pos (by rw [ba_size]; omega), ba_data]
          have hrd : ∀ a : List UInt8, a.length ≤ 65536 → script_read.f (ba a) = some (readR a) := fun a ha => by
            rw [script_read.f, if_pos (by rw [ba_size]; exact ha), ba_data]
          have step : ∀ k, script_Parse.l0 (k + 1) (ba r) (acc.map encP) (n : Int) = ((script_read.f (ba (Lib.cut r [10]).1)).bind fun bt145 => (if bt145.2.2.2 = 0 then (script_Parse.j1 k (acc.map encP) (n : Int) (ba (Lib.cut r [10]).2.1) bt145.2.2.2 (!(Lib.cut r [10]).2.2) bt145.1 bt145.2.1 bt145.2.2.1) else (script_Parse.j1 k (acc.map encP) (n : Int) (ba (Lib.cut r [10]).2.1) bt145.2.2.2 false bt145.1 bt145.2.1 bt145.2.2.1))) := fun k => by
            simp only [script_Parse.l0]
            rw [if_neg (by rw [ba_toList]; exact h0), hcut]
            rfl
          have jbad : ∀ (x8 : ByteArray) (x11 : Int) (y : ByteArray) (y1 y2 : List Int), Ev (fun k => script_Parse.j1 k (acc.map encP) (n : Int) x8 x11 true y y1 y2) (([] : List S37), (n : Int), (14 : Int)) := fun x8 x11 y y1 y2 => ev_now fun k => by
            simp only [script_Parse.j1]
            rw [if_pos trivial, if_neg (by decide)]
          have jerr : ∀ (x8 : ByteArray) (x11 : Int) (y : ByteArray) (y1 y2 : List Int), x11 ≠ 0 → Ev (fun k => script_Parse.j1 k (acc.map encP) (n : Int) x8 x11 false y y1 y2) (([] : List S37), (n : Int), x11) := fun x8 x11 y y1 y2 hx => ev_now fun k => by
            simp only [script_Parse.j1]
            rw [if_neg (by decide), if_neg hx]
          rcases nl_sep r with ⟨hsp, hc⟩ | ⟨a, r', hsp, hc, hlen⟩
          · rw [hc] at step
            simp only [Bool.not_false] at step
            rw [hsp]
            refine Ev.step step ?_
            rw [hrd r (by omega)]
            simp only [Option.bind_some, Wel.Scr.parseL, h0, if_false, readR]
            by_cases he : (Wel.Scr.read r).2 = 0
            · simp only [he, if_true]
              refine Ev.congr (fun k => if_pos (by rfl)) ?_
              exact jbad _ _ _ _ _
            · simp only [he, if_false]
              refine Ev.congr (fun k => if_neg (by omega)) ?_
              exact jerr _ _ _ _ _ (by omega)
          · rw [hc] at step
            simp only [Bool.not_true] at step
            rw [hsp]
            refine Ev.step step ?_
            rw [hrd a (by omega)]
            simp only [Option.bind_some, readR]
            cases hsr : Wel.Scr.splitB 10 r' with
            | nil => exact absurd hsr (Wel.Scr.splitB_ne _ _)
            | cons b t =>
              simp only [Wel.Scr.parseL]
              by_cases he : (Wel.Scr.read a).2 = 0
              · simp only [he, ne_eq, not_true_eq_false, if_false]
                refine Ev.congr (fun k => if_pos (by rfl)) ?_
                have hih := ih r' (n + 1) (acc ++ [(Wel.Scr.read a).1]) (by omega) (by omega) (by omega) (by simp; omega)
                rw [hsr] at hih
                refine Ev.step (fun k => ?_) hih
                simp only [script_Parse.j1]
                rw [if_neg (by decide), if_pos (by rfl), if_pos (by rw [List.length_map]; omega), w1]
                congr 1
                simp [encP]
              · simp only [he, ne_eq, not_false_eq_true, if_true]
                refine Ev.congr (fun k => if_neg (by omega)) ?_
                exact jerr _ _ _ _ _ (by omega)
    have h := loop s.length s 1 [] (Nat.le_refl _) (by omega) (by omega) (by simp)
    exact h
end Go.Proofs.YtmndhgiblpfcgaaDoor.W
end

section
namespace Go.Proofs.YtmndhgiblpfcgaaDoor.W
open Go.RowKit Go.Proofs.YtmndhgiblpfcgaaDoorW.PrintWords Go.Proofs.YtmndhgiblpfcgaaDoorW.PrintLast Go.Proofs.YtmndhgiblpfcgaaDoorW.PrintMore
attribute [local go_sem] max2_int min2_int max_two min_two max_three min_three max_four min_four
set_option linter.unusedVariables false
set_option linter.unusedSimpArgs false

/-! ### wellspringlaw26_awake: function 6 -/
def wellspringlaw26_awake.f (k : Nat)  : Option (Bool) := (script_Parse.f k (⟨#[98, 101, 103, 105, 110, 32, 55, 32, 50, 32, 48, 49, 48, 50, 102, 102, 10]⟩ : ByteArray)).bind fun bt164 => (if bt164.2.2 = 0 then (if bt164.2.1 = 0 then (if (bt164.1.length : Int) = 1 then (if 0 < (bt164.1.length : Int) then (if ((rd_T37 bt164.1 0).f0).toList = ([98, 101, 103, 105, 110] : List UInt8) then ((slices_Equal_uint64_uint64.f k ((rd_T37 bt164.1 0).f1) (([7, 2] : List Int))).bind fun t174 => (if t174 = true then ((wellspringref02_Same.f k ((rd_T37 bt164.1 0).f2) (([1, 2, 255] : List Int))).bind fun t179 => (some t179)) else (some false))) else (some false)) else (none)) else (some false)) else (some false)) else (some false))
theorem wellspringlaw26_awake.mono : ∀ k, LeO (wellspringlaw26_awake.f k ) (wellspringlaw26_awake.f (k + 1) ) := by
 intro  k
 unfold wellspringlaw26_awake.f
 repeat' first
   | (with_reducible exact script_Parse.mono _ _)
   | (with_reducible exact slices_Equal_uint64_uint64.mono _ _ _)
   | (with_reducible exact wellspringref02_Same.mono _ _ _)
   | (with_reducible exact LeO.refl _)
   | (with_reducible exact LeO.none _)
   | (with_reducible refine LeO.ite ?_ ?_)
   | (with_reducible refine LeO.bind ?_ (fun _ => ?_))
   | exact script_Parse.mono _ _
   | exact slices_Equal_uint64_uint64.mono _ _ _
   | exact wellspringref02_Same.mono _ _ _
   | exact LeO.none _
   | refine LeO.ite ?_ ?_
   | refine LeO.bind ?_ (fun _ => ?_)
set_option maxHeartbeats 8000000 in
set_option maxRecDepth 100000 in
theorem wellspringlaw26_awake.calls (k : Nat)  (r : Bool) (w : World) (hI : Inv w) (h : wellspringlaw26_awake.f k  = some r) :
  Calls Tryd.prog 6 #[] w fun e w' => e = .returned (.bool r) ∧ Below w.heap.size w w' := by
 have HB := Aside0.mk (Below.refl w.heap.size w)
 have H : ((script_Parse.f k (⟨#[98, 101, 103, 105, 110, 32, 55, 32, 50, 32, 48, 49, 48, 50, 102, 102, 10]⟩ : ByteArray)).bind fun bt164 => (if bt164.2.2 = 0 then (if bt164.2.1 = 0 then (if (bt164.1.length : Int) = 1 then (if 0 < (bt164.1.length : Int) then (if ((rd_T37 bt164.1 0).f0).toList = ([98, 101, 103, 105, 110] : List UInt8) then ((slices_Equal_uint64_uint64.f k ((rd_T37 bt164.1 0).f1) (([7, 2] : List Int))).bind fun t174 => (if t174 = true then ((wellspringref02_Same.f k ((rd_T37 bt164.1 0).f2) (([1, 2, 255] : List Int))).bind fun t179 => (some t179)) else (some false))) else (some false)) else (none)) else (some false)) else (some false)) else (some false))) = some r := h
 clear h
 replace H := Option.bind_eq_some_iff.mp H
 obtain ⟨⟨t164, t165, t166⟩, A10, H⟩ := H
 replace H : (if t166 = 0 then (if t165 = 0 then (if (t164.length : Int) = 1 then (if 0 < (t164.length : Int) then (if ((rd_T37 t164 0).f0).toList = ([98, 101, 103, 105, 110] : List UInt8) then ((slices_Equal_uint64_uint64.f k ((rd_T37 t164 0).f1) (([7, 2] : List Int))).bind fun t174 => (if t174 = true then ((wellspringref02_Same.f k ((rd_T37 t164 0).f2) (([1, 2, 255] : List Int))).bind fun t179 => (some t179)) else (some false))) else (some false)) else (none)) else (some false)) else (some false)) else (some false)) = some r := H
 have A1 := Aside0.mk A10
 clear A10
 by_cases c2 : t166 = 0
 ·rw [if_pos c2] at H
  have c2b0 : (t166 == 0) = true := beq_iff_eq.mpr c2
  have c2b1 : (t166 != 0) = false := bne_eq_false_iff_eq.mpr c2
  clear c2
  by_cases c3 : t165 = 0
  ·rw [if_pos c3] at H
   have c3b0 : (t165 == 0) = true := beq_iff_eq.mpr c3
   have c3b1 : (t165 != 0) = false := bne_eq_false_iff_eq.mpr c3
   clear c3
   by_cases c4 : (t164.length : Int) = 1
   ·rw [if_pos c4] at H
    have c4b0 : ((t164.length : Int) == 1) = true := beq_iff_eq.mpr c4
    have c4b1 : ((t164.length : Int) != 1) = false := bne_eq_false_iff_eq.mpr c4
    clear c4
    by_cases c5 : 0 < (t164.length : Int)
    ·rw [if_pos c5] at H
     have c5b0 : decide (0 < (t164.length : Int)) = true := decide_eq_true c5
     have c5b1 : decide (0 < t164.length) = true := decide_eq_true (by omega)
     clear c5
     by_cases c6 : ((rd_T37 t164 0).f0).toList = ([98, 101, 103, 105, 110] : List UInt8)
     ·rw [if_pos c6] at H
      have c6b0 : (((rd_T37 t164 0).f0).toList == ([98, 101, 103, 105, 110] : List UInt8)) = true := beq_iff_eq.mpr c6
      have c6b1 : (((rd_T37 t164 0).f0).toList != ([98, 101, 103, 105, 110] : List UInt8)) = false := bne_eq_false_iff_eq.mpr c6
      clear c6
      obtain ⟨y171, hy171⟩ : ∃ y_ : List Int, y_ = (([7, 2] : List Int)) := ⟨_, rfl⟩
      replace H : ((slices_Equal_uint64_uint64.f k ((rd_T37 t164 0).f1) y171).bind fun t174 => (if t174 = true then ((wellspringref02_Same.f k ((rd_T37 t164 0).f2) (([1, 2, 255] : List Int))).bind fun t179 => (some t179)) else (some false))) = some r := by first | (rw [hy171]; with_reducible exact H) | (have H2_ := (Option.bind_some _ _).symm.trans H; rw [hy171]; with_reducible exact H2_) | (have H2_ := (Option.bind_some _ _).symm.trans H; with_reducible exact H2_) | with_reducible exact H | (rw [hy171]; exact H) | exact H
      have Ny171 := Aside0.mk hy171
      clear hy171
      replace H := Option.bind_eq_some_iff.mp H
      obtain ⟨t174, A70, H⟩ := H
      replace H : (if t174 = true then ((wellspringref02_Same.f k ((rd_T37 t164 0).f2) (([1, 2, 255] : List Int))).bind fun t179 => (some t179)) else (some false)) = some r := H
      have A7 := Aside0.mk A70
      clear A70
      by_cases c8 : t174 = true
      ·subst c8
       have H1 : ((wellspringref02_Same.f k ((rd_T37 t164 0).f2) (([1, 2, 255] : List Int))).bind fun t179 => (some t179)) = some r := by rw [if_pos rfl] at H; exact H
       clear H
       have H := H1
       clear H1
       obtain ⟨y176, hy176⟩ : ∃ y_ : List Int, y_ = (([1, 2, 255] : List Int)) := ⟨_, rfl⟩
       replace H : ((wellspringref02_Same.f k ((rd_T37 t164 0).f2) y176).bind fun t179 => (some t179)) = some r := by first | (rw [hy176]; with_reducible exact H) | (have H2_ := (Option.bind_some _ _).symm.trans H; rw [hy176]; with_reducible exact H2_) | (have H2_ := (Option.bind_some _ _).symm.trans H; with_reducible exact H2_) | with_reducible exact H | (rw [hy176]; exact H) | exact H
       have Ny176 := Aside0.mk hy176
       clear hy176
       replace H := Option.bind_eq_some_iff.mp H
       obtain ⟨t179, A90, H⟩ := H
       replace H : (some t179) = some r := H
       have A9 := Aside0.mk A90
       clear A90
       obtain rfl := Option.some.inj H
       go_enter Tryd.func6, Tryd.ntmps6
       go_wp2_with (first | ((with_reducible refine gate_callee (f := 7) rfl ?_); refine goesL_ (some 5) rfl rfl Tryd.func7 (by kernel_rfl) rfl #[.string (⟨#[98, 101, 103, 105, 110, 32, 55, 32, 50, 32, 48, 49, 48, 50, 102, 102, 10]⟩ : ByteArray)] rfl (by (try simp only [List.map_toArray, List.map_cons, List.map_nil]); first | done | rfl | (simp only [List.length_drop, List.length_take]; rfl)) ?_; (with_reducible refine (script_Parse.calls k (⟨#[98, 101, 103, 105, 110, 32, 55, 32, 50, 32, 48, 49, 48, 50, 102, 102, 10]⟩ : ByteArray) t164 t165 t166 _ (by exact hI.below (by repeat (first | (with_reducible first | exact HB.out | exact (Below.refl _ _) | apply below_alloc | apply pw_below_drewN | apply below_drew1) | exact HB.out))) A1.out).mono ?_); rintro e w10 ⟨v167, rfl, ho0, hb⟩; refine ⟨_, rfl, ?_⟩; have n0_ := Aside0.mk (Kd.S_lower ho0 (below_size (by repeat (first | (with_reducible first | exact HB.out | apply below_alloc | apply pw_below_drewN | apply below_drew1) | exact HB.out)))); have n1_ := Aside0.mk (below_step (by repeat (first | (with_reducible first | exact HB.out | apply below_alloc | apply pw_below_drewN | apply below_drew1) | exact HB.out)) hb); clear HB; have HO168 := n0_; have HB := n1_; clear n0_ n1_; (try clear hb); (try clear hb2); (try clear hk); (try clear hi); (try clear ho0); obtain ⟨Ao11, co11, eo11⟩ := Kd.S_slice HO168.out; subst eo11; have p169 : 0 ≤ (0 : Int) := (by omega); have q169 : 0 < (t164.length : Int) := of_decide_eq_true (by first | (with_reducible assumption) | assumption); obtain ⟨ad169, A169_1, c169_1, A169_2, c169_2, e169, hx169_0, hx169_1, hx169_2, hl169_1, hi169_1, hl169_2, hi169_2⟩ := at_T37 (Kd.S_reads' HO168.out).2.2 0 p169 q169; cases e169; obtain ⟨ce169, hce169, hMe169, hcc169⟩ := Kd.S_get HO168.out z37 0 p169 (by first | exact q169 | exact of_decide_eq_true (by first | (with_reducible assumption) | assumption) | (have e_ := (Kd.S_reads' HO168.out).1; omega)); obtain ⟨ve169_1, ve169_2, rfl, ge169_1, ge169_2⟩ := k37_openM hMe169; have hv169_1 := hcc169 1 _ rfl; rw [add_field _ _ 1 (by omega)] at hv169_1; replace hv169_1 := Option.some.inj (hv169_1.symm.trans hx169_1); rw [hv169_1] at ge169_1; have HL169_1 := Aside0.mk (show Kd.R (Kd.int .u64) 48 _ _ _ _ ((rd_T37 t164 0).f1) from ge169_1); clear hv169_1 ge169_1; have hv169_2 := hcc169 2 _ rfl; rw [add_field _ _ 2 (by omega)] at hv169_2; replace hv169_2 := Option.some.inj (hv169_2.symm.trans hx169_2); rw [hv169_2] at ge169_2; have HL169_2 := Aside0.mk (show Kd.R (Kd.int .u8) 5 _ _ _ _ ((rd_T37 t164 0).f2) from ge169_2); clear hv169_2 ge169_2; clear hcc169 hce169; have qi169 : (0 < t164.length) = True := eq_true (by omega); (try rw [show ((0 : Int)).toNat = 0 from rfl] at hx169_0); (try rw [show 0 * 3 = 0 from rfl] at hx169_0); (try rw [Addr.add_zero'] at hx169_0); (try rw [show ((0 : Int)).toNat = 0 from rfl] at hx169_1); (try rw [show 0 * 3 = 0 from rfl] at hx169_1); (try rw [Addr.add_zero'] at hx169_1); (try rw [show ((0 : Int)).toNat = 0 from rfl] at hx169_2); (try rw [show 0 * 3 = 0 from rfl] at hx169_2); (try rw [Addr.add_zero'] at hx169_2); have HR169_1 := Aside0.mk hi169_1; have HC169_1 := Aside0.mk hl169_1; clear hi169_1 hl169_1; have HR169_2 := Aside0.mk hi169_2; have HC169_2 := Aside0.mk hl169_2; clear hi169_2 hl169_2; replace p169 := eq_true p169; replace q169 := eq_true q169; have p170 : 0 ≤ (0 : Int) := (by omega); have q170 : 0 < (t164.length : Int) := of_decide_eq_true (by first | (with_reducible assumption) | assumption); obtain ⟨ad170, A170_1, c170_1, A170_2, c170_2, e170, hx170_0, hx170_1, hx170_2, hl170_1, hi170_1, hl170_2, hi170_2⟩ := at_T37 (Kd.S_reads' HO168.out).2.2 0 p170 q170; obtain rfl : ad169 = ad170 := (by injection e170); obtain ⟨ce170, hce170, hMe170, hcc170⟩ := Kd.S_get HO168.out z37 0 p170 (by first | exact q170 | exact of_decide_eq_true (by first | (with_reducible assumption) | assumption) | (have e_ := (Kd.S_reads' HO168.out).1; omega)); obtain ⟨ve170_1, ve170_2, rfl, ge170_1, ge170_2⟩ := k37_openM hMe170; have hv170_1 := hcc170 1 _ rfl; rw [add_field _ _ 1 (by omega)] at hv170_1; replace hv170_1 := Option.some.inj (hv170_1.symm.trans hx170_1); rw [hv170_1] at ge170_1; have HL170_1 := Aside0.mk (show Kd.R (Kd.int .u64) 48 _ _ _ _ ((rd_T37 t164 0).f1) from ge170_1); clear hv170_1 ge170_1; have hv170_2 := hcc170 2 _ rfl; rw [add_field _ _ 2 (by omega)] at hv170_2; replace hv170_2 := Option.some.inj (hv170_2.symm.trans hx170_2); rw [hv170_2] at ge170_2; have HL170_2 := Aside0.mk (show Kd.R (Kd.int .u8) 5 _ _ _ _ ((rd_T37 t164 0).f2) from ge170_2); clear hv170_2 ge170_2; clear hcc170 hce170; have qi170 : (0 < t164.length) = True := eq_true (by omega); (try rw [show ((0 : Int)).toNat = 0 from rfl] at hx170_0); (try rw [show 0 * 3 = 0 from rfl] at hx170_0); (try rw [Addr.add_zero'] at hx170_0); (try rw [show ((0 : Int)).toNat = 0 from rfl] at hx170_1); (try rw [show 0 * 3 = 0 from rfl] at hx170_1); (try rw [Addr.add_zero'] at hx170_1); (try rw [show ((0 : Int)).toNat = 0 from rfl] at hx170_2); (try rw [show 0 * 3 = 0 from rfl] at hx170_2); (try rw [Addr.add_zero'] at hx170_2); have HR170_1 := Aside0.mk hi170_1; have HC170_1 := Aside0.mk hl170_1; clear hi170_1 hl170_1; have HR170_2 := Aside0.mk hi170_2; have HC170_2 := Aside0.mk hl170_2; clear hi170_2 hl170_2; replace p170 := eq_true p170; replace q170 := eq_true q170; have ea_ := Option.some.inj (hx169_1.symm.trans hx170_1); injection ea_ with ea_ en_ ec_; subst ea_; subst ec_; clear en_; have ea_ := Option.some.inj (hx169_2.symm.trans hx170_2); injection ea_ with ea_ en_ ec_; subst ea_; subst ec_; clear en_) | ((with_reducible refine gate_dst (N := 32) rfl ?_); (try (refine gate_guard (by rfl) ?_; dsimp only)); refine Kd.R_lit (Kd.int .u64) _ 48 ?hg (N := 32) ?hd (xs := ([7, 2] : List Int)) (inner := [.int .u64 7, .int .u64 2]) (ok := fun _ => True) (okp := fun _ => True) ?hr ?hp (fun _ hk => hk) trivial (Below.refl _ _) (Nat.le_refl _) (by simp) ?_; (case hd => rfl); (case hg => rfl); (case hr => first | (go_simp; done) | (go_simp; rfl)); (case hp => exact (Reps.one (show Kd.M (Kd.int .u64) _ _ _ 7 [.int .u64 7] from rfl) (Reps.one (show Kd.M (Kd.int .u64) _ _ _ 2 [.int .u64 2] from rfl) (Reps.none _ _)))); intro v172 w12 ho13 hb hg_ hnew_; clear hg_ hnew_; (first | rw [← Ny171.out] at ho13 | (simp only [Int.reduceToNat] at ho13; rw [← Ny171.out] at ho13)); have n0_ := Aside0.mk (Kd.S_elder' (by (with_reducible repeat (first | apply Kd.S_alloc | apply Kd.S_drewN | apply Kd.S_drew)); exact HO168.out) (Kd.R_base ho13) hb); have n1_ := Aside0.mk (Kd.R_elder' (by (with_reducible repeat (first | apply Kd.R_alloc | apply Kd.R_drewN | apply Kd.R_drew)); exact HL169_1.out) (Kd.R_base ho13) hb); have n2_ := Aside0.mk (Kd.R_below (by (with_reducible repeat (first | apply Kd.R_alloc | apply Kd.R_drewN | apply Kd.R_drew)); exact HL169_2.out) hb); have n3_ := Aside0.mk (Kd.R_elder' (by (with_reducible repeat (first | apply Kd.R_alloc | apply Kd.R_drewN | apply Kd.R_drew)); exact HL170_1.out) (Kd.R_base ho13) hb); have n4_ := Aside0.mk (Kd.R_below (by (with_reducible repeat (first | apply Kd.R_alloc | apply Kd.R_drewN | apply Kd.R_drew)); exact HL170_2.out) hb); have n5_ := Aside0.mk (Kd.R_lower (Kd.R_new' (Kd.R_new' ho13 (Kd.R_lt (by (with_reducible repeat (first | apply Kd.R_alloc | apply Kd.R_drewN | apply Kd.R_drew)); exact HL169_1.out))) (Kd.R_lt (by (with_reducible repeat (first | apply Kd.R_alloc | apply Kd.R_drewN | apply Kd.R_drew)); exact HL170_1.out))) (below_size (by repeat (first | (with_reducible first | exact HB.out | apply below_alloc | apply pw_below_drewN | apply below_drew1) | exact HB.out)))); have n6_ := Aside0.mk (Kd.C_below (by repeat (first | (with_reducible exact HR169_1.out) | (with_reducible refine Kd.C_alloc ?_ _) | (with_reducible refine Kd.C_drewN ?_ _) | (with_reducible refine Kd.C_drew ?_) | exact HR169_1.out)) hb); have n7_ := Aside0.mk (Kd.C_below (by repeat (first | (with_reducible exact HR169_2.out) | (with_reducible refine Kd.C_alloc ?_ _) | (with_reducible refine Kd.C_drewN ?_ _) | (with_reducible refine Kd.C_drew ?_) | exact HR169_2.out)) hb); have n8_ := Aside0.mk (Kd.C_below (by repeat (first | (with_reducible exact HR170_1.out) | (with_reducible refine Kd.C_alloc ?_ _) | (with_reducible refine Kd.C_drewN ?_ _) | (with_reducible refine Kd.C_drew ?_) | exact HR170_1.out)) hb); have n9_ := Aside0.mk (Kd.C_below (by repeat (first | (with_reducible exact HR170_2.out) | (with_reducible refine Kd.C_alloc ?_ _) | (with_reducible refine Kd.C_drewN ?_ _) | (with_reducible refine Kd.C_drew ?_) | exact HR170_2.out)) hb); have n10_ := Aside0.mk (below_step (by repeat (first | (with_reducible first | exact HB.out | apply below_alloc | apply pw_below_drewN | apply below_drew1) | exact HB.out)) hb); clear HO168; clear HL169_1; clear HL169_2; clear HL170_1; clear HL170_2; clear HR169_1; clear HR169_2; clear HR170_1; clear HR170_2; clear HB; have HO168 := n0_; have HL169_1 := n1_; have HL169_2 := n2_; have HL170_1 := n3_; have HL170_2 := n4_; have HO173 := n5_; have HR169_1 := n6_; have HR169_2 := n7_; have HR170_1 := n8_; have HR170_2 := n9_; have HB := n10_; clear n0_ n1_ n2_ n3_ n4_ n5_ n6_ n7_ n8_ n9_ n10_; clear hb ho13; obtain ⟨Ao14, co14, eo14⟩ := Kd.R_slice HO173.out; subst eo14) | (go_at_call 15; (with_reducible refine (slices_Equal_uint64_uint64.calls k _ _ ((rd_T37 t164 0).f1) _ _ y171 true _ ?side1 ?side2 ?side3 ?side4 A7.out).mono ?_); (case side1 => repeat (first | exact (by repeat (first | (with_reducible exact HR170_1.out) | (with_reducible refine Kd.C_alloc ?_ _) | (with_reducible refine Kd.C_drewN ?_ _) | (with_reducible refine Kd.C_drew ?_) | exact HR170_1.out)) | (with_reducible refine Kd.C_alloc ?_ _) | (with_reducible refine Kd.C_drewN ?_ _) | (with_reducible refine Kd.C_drew ?_))); (case side2 => exact HC170_1.out); (case side3 => repeat (first | exact (Kd.R_reads' HO173.out).2.2 | (with_reducible refine Kd.C_alloc ?_ _) | (with_reducible refine Kd.C_drewN ?_ _) | (with_reducible refine Kd.C_drew ?_))); (case side4 => exact (Kd.R_reads' HO173.out).2.1); rintro e w' ⟨rfl, ⟨nd, rfl⟩⟩; have p175 : 0 ≤ (0 : Int) := (by omega); have q175 : 0 < (t164.length : Int) := of_decide_eq_true (by first | (with_reducible assumption) | assumption); obtain ⟨ad175, A175_1, c175_1, A175_2, c175_2, e175, hx175_0, hx175_1, hx175_2, hl175_1, hi175_1, hl175_2, hi175_2⟩ := at_T37 (Kd.S_reads' HO168.out).2.2 0 p175 q175; obtain rfl : ad169 = ad175 := (by injection e175); obtain ⟨ce175, hce175, hMe175, hcc175⟩ := Kd.S_get HO168.out z37 0 p175 (by first | exact q175 | exact of_decide_eq_true (by first | (with_reducible assumption) | assumption) | (have e_ := (Kd.S_reads' HO168.out).1; omega)); obtain ⟨ve175_1, ve175_2, rfl, ge175_1, ge175_2⟩ := k37_openM hMe175; have hv175_1 := hcc175 1 _ rfl; rw [add_field _ _ 1 (by omega)] at hv175_1; replace hv175_1 := Option.some.inj (hv175_1.symm.trans hx175_1); rw [hv175_1] at ge175_1; have HL175_1 := Aside0.mk (show Kd.R (Kd.int .u64) 48 _ _ _ _ ((rd_T37 t164 0).f1) from ge175_1); clear hv175_1 ge175_1; have hv175_2 := hcc175 2 _ rfl; rw [add_field _ _ 2 (by omega)] at hv175_2; replace hv175_2 := Option.some.inj (hv175_2.symm.trans hx175_2); rw [hv175_2] at ge175_2; have HL175_2 := Aside0.mk (show Kd.R (Kd.int .u8) 5 _ _ _ _ ((rd_T37 t164 0).f2) from ge175_2); clear hv175_2 ge175_2; clear hcc175 hce175; have qi175 : (0 < t164.length) = True := eq_true (by omega); (try rw [show ((0 : Int)).toNat = 0 from rfl] at hx175_0); (try rw [show 0 * 3 = 0 from rfl] at hx175_0); (try rw [Addr.add_zero'] at hx175_0); (try rw [show ((0 : Int)).toNat = 0 from rfl] at hx175_1); (try rw [show 0 * 3 = 0 from rfl] at hx175_1); (try rw [Addr.add_zero'] at hx175_1); (try rw [show ((0 : Int)).toNat = 0 from rfl] at hx175_2); (try rw [show 0 * 3 = 0 from rfl] at hx175_2); (try rw [Addr.add_zero'] at hx175_2); have HR175_1 := Aside0.mk hi175_1; have HC175_1 := Aside0.mk hl175_1; clear hi175_1 hl175_1; have HR175_2 := Aside0.mk hi175_2; have HC175_2 := Aside0.mk hl175_2; clear hi175_2 hl175_2; replace p175 := eq_true p175; replace q175 := eq_true q175) | ((with_reducible refine gate_dst (N := 40) rfl ?_); (try (refine gate_guard (by rfl) ?_; dsimp only)); refine Kd.R_lit (Kd.int .u8) _ 5 ?hg (N := 40) ?hd (xs := ([1, 2, 255] : List Int)) (inner := [.int .u8 1, .int .u8 2, .int .u8 255]) (ok := fun _ => True) (okp := fun _ => True) ?hr ?hp (fun _ hk => hk) trivial (Below.refl _ _) (Nat.le_refl _) (by simp) ?_; (case hd => rfl); (case hg => rfl); (case hr => first | (go_simp; done) | (go_simp; rfl)); (case hp => exact (Reps.one (show Kd.M (Kd.int .u8) _ _ _ 1 [.int .u8 1] from rfl) (Reps.one (show Kd.M (Kd.int .u8) _ _ _ 2 [.int .u8 2] from rfl) (Reps.one (show Kd.M (Kd.int .u8) _ _ _ 255 [.int .u8 255] from rfl) (Reps.none _ _))))); intro v177 w15 ho16 hb hg_ hnew_; clear hg_ hnew_; (first | rw [← Ny176.out] at ho16 | (simp only [Int.reduceToNat] at ho16; rw [← Ny176.out] at ho16)); have n0_ := Aside0.mk (Kd.S_elder' (by (with_reducible repeat (first | apply Kd.S_alloc | apply Kd.S_drewN | apply Kd.S_drew)); exact HO168.out) (Kd.R_base ho16) hb); have n1_ := Aside0.mk (Kd.R_below (by (with_reducible repeat (first | apply Kd.R_alloc | apply Kd.R_drewN | apply Kd.R_drew)); exact HL169_1.out) hb); have n2_ := Aside0.mk (Kd.R_elder' (by (with_reducible repeat (first | apply Kd.R_alloc | apply Kd.R_drewN | apply Kd.R_drew)); exact HL169_2.out) (Kd.R_base ho16) hb); have n3_ := Aside0.mk (Kd.R_below (by (with_reducible repeat (first | apply Kd.R_alloc | apply Kd.R_drewN | apply Kd.R_drew)); exact HL170_1.out) hb); have n4_ := Aside0.mk (Kd.R_elder' (by (with_reducible repeat (first | apply Kd.R_alloc | apply Kd.R_drewN | apply Kd.R_drew)); exact HL170_2.out) (Kd.R_base ho16) hb); have n5_ := Aside0.mk (Kd.R_below (by (with_reducible repeat (first | apply Kd.R_alloc | apply Kd.R_drewN | apply Kd.R_drew)); exact HO173.out) hb); have n6_ := Aside0.mk (Kd.R_below (by (with_reducible repeat (first | apply Kd.R_alloc | apply Kd.R_drewN | apply Kd.R_drew)); exact HL175_1.out) hb); have n7_ := Aside0.mk (Kd.R_elder' (by (with_reducible repeat (first | apply Kd.R_alloc | apply Kd.R_drewN | apply Kd.R_drew)); exact HL175_2.out) (Kd.R_base ho16) hb); have n8_ := Aside0.mk (Kd.R_lower (Kd.R_new' (Kd.R_new' (Kd.R_new' ho16 (Kd.R_lt (by (with_reducible repeat (first | apply Kd.R_alloc | apply Kd.R_drewN | apply Kd.R_drew)); exact HL169_2.out))) (Kd.R_lt (by (with_reducible repeat (first | apply Kd.R_alloc | apply Kd.R_drewN | apply Kd.R_drew)); exact HL170_2.out))) (Kd.R_lt (by (with_reducible repeat (first | apply Kd.R_alloc | apply Kd.R_drewN | apply Kd.R_drew)); exact HL175_2.out))) (below_size (by repeat (first | (with_reducible first | exact HB.out | apply below_alloc | apply pw_below_drewN | apply below_drew1) | exact HB.out)))); have n9_ := Aside0.mk (Kd.C_below (by repeat (first | (with_reducible exact HR169_1.out) | (with_reducible refine Kd.C_alloc ?_ _) | (with_reducible refine Kd.C_drewN ?_ _) | (with_reducible refine Kd.C_drew ?_) | exact HR169_1.out)) hb); have n10_ := Aside0.mk (Kd.C_below (by repeat (first | (with_reducible exact HR169_2.out) | (with_reducible refine Kd.C_alloc ?_ _) | (with_reducible refine Kd.C_drewN ?_ _) | (with_reducible refine Kd.C_drew ?_) | exact HR169_2.out)) hb); have n11_ := Aside0.mk (Kd.C_below (by repeat (first | (with_reducible exact HR170_1.out) | (with_reducible refine Kd.C_alloc ?_ _) | (with_reducible refine Kd.C_drewN ?_ _) | (with_reducible refine Kd.C_drew ?_) | exact HR170_1.out)) hb); have n12_ := Aside0.mk (Kd.C_below (by repeat (first | (with_reducible exact HR170_2.out) | (with_reducible refine Kd.C_alloc ?_ _) | (with_reducible refine Kd.C_drewN ?_ _) | (with_reducible refine Kd.C_drew ?_) | exact HR170_2.out)) hb); have n13_ := Aside0.mk (Kd.C_below (by repeat (first | (with_reducible exact HR175_1.out) | (with_reducible refine Kd.C_alloc ?_ _) | (with_reducible refine Kd.C_drewN ?_ _) | (with_reducible refine Kd.C_drew ?_) | exact HR175_1.out)) hb); have n14_ := Aside0.mk (Kd.C_below (by repeat (first | (with_reducible exact HR175_2.out) | (with_reducible refine Kd.C_alloc ?_ _) | (with_reducible refine Kd.C_drewN ?_ _) | (with_reducible refine Kd.C_drew ?_) | exact HR175_2.out)) hb); have n15_ := Aside0.mk (below_step (by repeat (first | (with_reducible first | exact HB.out | apply below_alloc | apply pw_below_drewN | apply below_drew1) | exact HB.out)) hb); clear HO168; clear HL169_1; clear HL169_2; clear HL170_1; clear HL170_2; clear HO173; clear HL175_1; clear HL175_2; clear HR169_1; clear HR169_2; clear HR170_1; clear HR170_2; clear HR175_1; clear HR175_2; clear HB; have HO168 := n0_; have HL169_1 := n1_; have HL169_2 := n2_; have HL170_1 := n3_; have HL170_2 := n4_; have HO173 := n5_; have HL175_1 := n6_; have HL175_2 := n7_; have HO178 := n8_; have HR169_1 := n9_; have HR169_2 := n10_; have HR170_1 := n11_; have HR170_2 := n12_; have HR175_1 := n13_; have HR175_2 := n14_; have HB := n15_; clear n0_ n1_ n2_ n3_ n4_ n5_ n6_ n7_ n8_ n9_ n10_ n11_ n12_ n13_ n14_ n15_; clear hb ho16; obtain ⟨Ao17, co17, eo17⟩ := Kd.R_slice HO178.out; subst eo17) | (go_at_call 16; (with_reducible refine (wellspringref02_Same.calls k _ _ ((rd_T37 t164 0).f2) _ _ y176 t179 _ ?side1 ?side2 ?side3 ?side4 A9.out).mono ?_); (case side1 => repeat (first | exact (by repeat (first | (with_reducible exact HR175_2.out) | (with_reducible refine Kd.C_alloc ?_ _) | (with_reducible refine Kd.C_drewN ?_ _) | (with_reducible refine Kd.C_drew ?_) | exact HR175_2.out)) | (with_reducible refine Kd.C_alloc ?_ _) | (with_reducible refine Kd.C_drewN ?_ _) | (with_reducible refine Kd.C_drew ?_))); (case side2 => exact HC175_2.out); (case side3 => repeat (first | exact (Kd.R_reads' HO178.out).2.2 | (with_reducible refine Kd.C_alloc ?_ _) | (with_reducible refine Kd.C_drewN ?_ _) | (with_reducible refine Kd.C_drew ?_))); (case side4 => exact (Kd.R_reads' HO178.out).2.1); rintro e w' ⟨rfl, ⟨nd, rfl⟩⟩))
       go_ret
       exact ⟨by first | rfl | (simp [errW_none, errW_some] <;> rfl) | (simp [*, errW_none, errW_some] <;> rfl), by repeat (first | (with_reducible first | exact HB.out | apply below_alloc | apply pw_below_drewN | apply below_drew1) | exact HB.out)⟩
      ·replace c8 := Bool.eq_false_iff.mpr c8
       subst c8
       have H1 : (some false) = some r := by rw [if_neg (show ¬ (false = true) by decide)] at H; exact H
       clear H
       have H := H1
       clear H1
       obtain rfl := Option.some.inj H
       go_enter Tryd.func6, Tryd.ntmps6
       go_wp2_with (first | ((with_reducible refine gate_callee (f := 7) rfl ?_); refine goesL_ (some 5) rfl rfl Tryd.func7 (by kernel_rfl) rfl #[.string (⟨#[98, 101, 103, 105, 110, 32, 55, 32, 50, 32, 48, 49, 48, 50, 102, 102, 10]⟩ : ByteArray)] rfl (by (try simp only [List.map_toArray, List.map_cons, List.map_nil]); first | done | rfl | (simp only [List.length_drop, List.length_take]; rfl)) ?_; (with_reducible refine (script_Parse.calls k (⟨#[98, 101, 103, 105, 110, 32, 55, 32, 50, 32, 48, 49, 48, 50, 102, 102, 10]⟩ : ByteArray) t164 t165 t166 _ (by exact hI.below (by repeat (first | (with_reducible first | exact HB.out | exact (Below.refl _ _) | apply below_alloc | apply pw_below_drewN | apply below_drew1) | exact HB.out))) A1.out).mono ?_); rintro e w18 ⟨v167, rfl, ho0, hb⟩; refine ⟨_, rfl, ?_⟩; have n0_ := Aside0.mk (Kd.S_lower ho0 (below_size (by repeat (first | (with_reducible first | exact HB.out | apply below_alloc | apply pw_below_drewN | apply below_drew1) | exact HB.out)))); have n1_ := Aside0.mk (below_step (by repeat (first | (with_reducible first | exact HB.out | apply below_alloc | apply pw_below_drewN | apply below_drew1) | exact HB.out)) hb); clear HB; have HO168 := n0_; have HB := n1_; clear n0_ n1_; (try clear hb); (try clear hb2); (try clear hk); (try clear hi); (try clear ho0); obtain ⟨Ao19, co19, eo19⟩ := Kd.S_slice HO168.out; subst eo19; have p169 : 0 ≤ (0 : Int) := (by omega); have q169 : 0 < (t164.length : Int) := of_decide_eq_true (by first | (with_reducible assumption) | assumption); obtain ⟨ad169, A169_1, c169_1, A169_2, c169_2, e169, hx169_0, hx169_1, hx169_2, hl169_1, hi169_1, hl169_2, hi169_2⟩ := at_T37 (Kd.S_reads' HO168.out).2.2 0 p169 q169; cases e169; obtain ⟨ce169, hce169, hMe169, hcc169⟩ := Kd.S_get HO168.out z37 0 p169 (by first | exact q169 | exact of_decide_eq_true (by first | (with_reducible assumption) | assumption) | (have e_ := (Kd.S_reads' HO168.out).1; omega)); obtain ⟨ve169_1, ve169_2, rfl, ge169_1, ge169_2⟩ := k37_openM hMe169; have hv169_1 := hcc169 1 _ rfl; rw [add_field _ _ 1 (by omega)] at hv169_1; replace hv169_1 := Option.some.inj (hv169_1.symm.trans hx169_1); rw [hv169_1] at ge169_1; have HL169_1 := Aside0.mk (show Kd.R (Kd.int .u64) 48 _ _ _ _ ((rd_T37 t164 0).f1) from ge169_1); clear hv169_1 ge169_1; have hv169_2 := hcc169 2 _ rfl; rw [add_field _ _ 2 (by omega)] at hv169_2; replace hv169_2 := Option.some.inj (hv169_2.symm.trans hx169_2); rw [hv169_2] at ge169_2; have HL169_2 := Aside0.mk (show Kd.R (Kd.int .u8) 5 _ _ _ _ ((rd_T37 t164 0).f2) from ge169_2); clear hv169_2 ge169_2; clear hcc169 hce169; have qi169 : (0 < t164.length) = True := eq_true (by omega); (try rw [show ((0 : Int)).toNat = 0 from rfl] at hx169_0); (try rw [show 0 * 3 = 0 from rfl] at hx169_0); (try rw [Addr.add_zero'] at hx169_0); (try rw [show ((0 : Int)).toNat = 0 from rfl] at hx169_1); (try rw [show 0 * 3 = 0 from rfl] at hx169_1); (try rw [Addr.add_zero'] at hx169_1); (try rw [show ((0 : Int)).toNat = 0 from rfl] at hx169_2); (try rw [show 0 * 3 = 0 from rfl] at hx169_2); (try rw [Addr.add_zero'] at hx169_2); have HR169_1 := Aside0.mk hi169_1; have HC169_1 := Aside0.mk hl169_1; clear hi169_1 hl169_1; have HR169_2 := Aside0.mk hi169_2; have HC169_2 := Aside0.mk hl169_2; clear hi169_2 hl169_2; replace p169 := eq_true p169; replace q169 := eq_true q169; have p170 : 0 ≤ (0 : Int) := (by omega); have q170 : 0 < (t164.length : Int) := of_decide_eq_true (by first | (with_reducible assumption) | assumption); obtain ⟨ad170, A170_1, c170_1, A170_2, c170_2, e170, hx170_0, hx170_1, hx170_2, hl170_1, hi170_1, hl170_2, hi170_2⟩ := at_T37 (Kd.S_reads' HO168.out).2.2 0 p170 q170; obtain rfl : ad169 = ad170 := (by injection e170); obtain ⟨ce170, hce170, hMe170, hcc170⟩ := Kd.S_get HO168.out z37 0 p170 (by first | exact q170 | exact of_decide_eq_true (by first | (with_reducible assumption) | assumption) | (have e_ := (Kd.S_reads' HO168.out).1; omega)); obtain ⟨ve170_1, ve170_2, rfl, ge170_1, ge170_2⟩ := k37_openM hMe170; have hv170_1 := hcc170 1 _ rfl; rw [add_field _ _ 1 (by omega)] at hv170_1; replace hv170_1 := Option.some.inj (hv170_1.symm.trans hx170_1); rw [hv170_1] at ge170_1; have HL170_1 := Aside0.mk (show Kd.R (Kd.int .u64) 48 _ _ _ _ ((rd_T37 t164 0).f1) from ge170_1); clear hv170_1 ge170_1; have hv170_2 := hcc170 2 _ rfl; rw [add_field _ _ 2 (by omega)] at hv170_2; replace hv170_2 := Option.some.inj (hv170_2.symm.trans hx170_2); rw [hv170_2] at ge170_2; have HL170_2 := Aside0.mk (show Kd.R (Kd.int .u8) 5 _ _ _ _ ((rd_T37 t164 0).f2) from ge170_2); clear hv170_2 ge170_2; clear hcc170 hce170; have qi170 : (0 < t164.length) = True := eq_true (by omega); (try rw [show ((0 : Int)).toNat = 0 from rfl] at hx170_0); (try rw [show 0 * 3 = 0 from rfl] at hx170_0); (try rw [Addr.add_zero'] at hx170_0); (try rw [show ((0 : Int)).toNat = 0 from rfl] at hx170_1); (try rw [show 0 * 3 = 0 from rfl] at hx170_1); (try rw [Addr.add_zero'] at hx170_1); (try rw [show ((0 : Int)).toNat = 0 from rfl] at hx170_2); (try rw [show 0 * 3 = 0 from rfl] at hx170_2); (try rw [Addr.add_zero'] at hx170_2); have HR170_1 := Aside0.mk hi170_1; have HC170_1 := Aside0.mk hl170_1; clear hi170_1 hl170_1; have HR170_2 := Aside0.mk hi170_2; have HC170_2 := Aside0.mk hl170_2; clear hi170_2 hl170_2; replace p170 := eq_true p170; replace q170 := eq_true q170; have ea_ := Option.some.inj (hx169_1.symm.trans hx170_1); injection ea_ with ea_ en_ ec_; subst ea_; subst ec_; clear en_; have ea_ := Option.some.inj (hx169_2.symm.trans hx170_2); injection ea_ with ea_ en_ ec_; subst ea_; subst ec_; clear en_) | ((with_reducible refine gate_dst (N := 32) rfl ?_); (try (refine gate_guard (by rfl) ?_; dsimp only)); refine Kd.R_lit (Kd.int .u64) _ 48 ?hg (N := 32) ?hd (xs := ([7, 2] : List Int)) (inner := [.int .u64 7, .int .u64 2]) (ok := fun _ => True) (okp := fun _ => True) ?hr ?hp (fun _ hk => hk) trivial (Below.refl _ _) (Nat.le_refl _) (by simp) ?_; (case hd => rfl); (case hg => rfl); (case hr => first | (go_simp; done) | (go_simp; rfl)); (case hp => exact (Reps.one (show Kd.M (Kd.int .u64) _ _ _ 7 [.int .u64 7] from rfl) (Reps.one (show Kd.M (Kd.int .u64) _ _ _ 2 [.int .u64 2] from rfl) (Reps.none _ _)))); intro v172 w20 ho21 hb hg_ hnew_; clear hg_ hnew_; (first | rw [← Ny171.out] at ho21 | (simp only [Int.reduceToNat] at ho21; rw [← Ny171.out] at ho21)); have n0_ := Aside0.mk (Kd.S_elder' (by (with_reducible repeat (first | apply Kd.S_alloc | apply Kd.S_drewN | apply Kd.S_drew)); exact HO168.out) (Kd.R_base ho21) hb); have n1_ := Aside0.mk (Kd.R_elder' (by (with_reducible repeat (first | apply Kd.R_alloc | apply Kd.R_drewN | apply Kd.R_drew)); exact HL169_1.out) (Kd.R_base ho21) hb); have n2_ := Aside0.mk (Kd.R_below (by (with_reducible repeat (first | apply Kd.R_alloc | apply Kd.R_drewN | apply Kd.R_drew)); exact HL169_2.out) hb); have n3_ := Aside0.mk (Kd.R_elder' (by (with_reducible repeat (first | apply Kd.R_alloc | apply Kd.R_drewN | apply Kd.R_drew)); exact HL170_1.out) (Kd.R_base ho21) hb); have n4_ := Aside0.mk (Kd.R_below (by (with_reducible repeat (first | apply Kd.R_alloc | apply Kd.R_drewN | apply Kd.R_drew)); exact HL170_2.out) hb); have n5_ := Aside0.mk (Kd.R_lower (Kd.R_new' (Kd.R_new' ho21 (Kd.R_lt (by (with_reducible repeat (first | apply Kd.R_alloc | apply Kd.R_drewN | apply Kd.R_drew)); exact HL169_1.out))) (Kd.R_lt (by (with_reducible repeat (first | apply Kd.R_alloc | apply Kd.R_drewN | apply Kd.R_drew)); exact HL170_1.out))) (below_size (by repeat (first | (with_reducible first | exact HB.out | apply below_alloc | apply pw_below_drewN | apply below_drew1) | exact HB.out)))); have n6_ := Aside0.mk (Kd.C_below (by repeat (first | (with_reducible exact HR169_1.out) | (with_reducible refine Kd.C_alloc ?_ _) | (with_reducible refine Kd.C_drewN ?_ _) | (with_reducible refine Kd.C_drew ?_) | exact HR169_1.out)) hb); have n7_ := Aside0.mk (Kd.C_below (by repeat (first | (with_reducible exact HR169_2.out) | (with_reducible refine Kd.C_alloc ?_ _) | (with_reducible refine Kd.C_drewN ?_ _) | (with_reducible refine Kd.C_drew ?_) | exact HR169_2.out)) hb); have n8_ := Aside0.mk (Kd.C_below (by repeat (first | (with_reducible exact HR170_1.out) | (with_reducible refine Kd.C_alloc ?_ _) | (with_reducible refine Kd.C_drewN ?_ _) | (with_reducible refine Kd.C_drew ?_) | exact HR170_1.out)) hb); have n9_ := Aside0.mk (Kd.C_below (by repeat (first | (with_reducible exact HR170_2.out) | (with_reducible refine Kd.C_alloc ?_ _) | (with_reducible refine Kd.C_drewN ?_ _) | (with_reducible refine Kd.C_drew ?_) | exact HR170_2.out)) hb); have n10_ := Aside0.mk (below_step (by repeat (first | (with_reducible first | exact HB.out | apply below_alloc | apply pw_below_drewN | apply below_drew1) | exact HB.out)) hb); clear HO168; clear HL169_1; clear HL169_2; clear HL170_1; clear HL170_2; clear HR169_1; clear HR169_2; clear HR170_1; clear HR170_2; clear HB; have HO168 := n0_; have HL169_1 := n1_; have HL169_2 := n2_; have HL170_1 := n3_; have HL170_2 := n4_; have HO173 := n5_; have HR169_1 := n6_; have HR169_2 := n7_; have HR170_1 := n8_; have HR170_2 := n9_; have HB := n10_; clear n0_ n1_ n2_ n3_ n4_ n5_ n6_ n7_ n8_ n9_ n10_; clear hb ho21; obtain ⟨Ao22, co22, eo22⟩ := Kd.R_slice HO173.out; subst eo22) | (go_at_call 15; (with_reducible refine (slices_Equal_uint64_uint64.calls k _ _ ((rd_T37 t164 0).f1) _ _ y171 false _ ?side1 ?side2 ?side3 ?side4 A7.out).mono ?_); (case side1 => repeat (first | exact (by repeat (first | (with_reducible exact HR170_1.out) | (with_reducible refine Kd.C_alloc ?_ _) | (with_reducible refine Kd.C_drewN ?_ _) | (with_reducible refine Kd.C_drew ?_) | exact HR170_1.out)) | (with_reducible refine Kd.C_alloc ?_ _) | (with_reducible refine Kd.C_drewN ?_ _) | (with_reducible refine Kd.C_drew ?_))); (case side2 => exact HC170_1.out); (case side3 => repeat (first | exact (Kd.R_reads' HO173.out).2.2 | (with_reducible refine Kd.C_alloc ?_ _) | (with_reducible refine Kd.C_drewN ?_ _) | (with_reducible refine Kd.C_drew ?_))); (case side4 => exact (Kd.R_reads' HO173.out).2.1); rintro e w' ⟨rfl, ⟨nd, rfl⟩⟩))
       go_ret
       exact ⟨by first | rfl | (simp [errW_none, errW_some] <;> rfl) | (simp [*, errW_none, errW_some] <;> rfl), by repeat (first | (with_reducible first | exact HB.out | apply below_alloc | apply pw_below_drewN | apply below_drew1) | exact HB.out)⟩
     ·rw [if_neg c6] at H
      have c6b0 : (((rd_T37 t164 0).f0).toList == ([98, 101, 103, 105, 110] : List UInt8)) = false := beq_eq_false_iff_ne.mpr c6
      have c6b1 : (((rd_T37 t164 0).f0).toList != ([98, 101, 103, 105, 110] : List UInt8)) = true := bne_iff_ne.mpr c6
      obtain rfl := Option.some.inj H
      go_enter Tryd.func6, Tryd.ntmps6
      go_wp2_with (first | ((with_reducible refine gate_callee (f := 7) rfl ?_); refine goesL_ (some 5) rfl rfl Tryd.func7 (by kernel_rfl) rfl #[.string (⟨#[98, 101, 103, 105, 110, 32, 55, 32, 50, 32, 48, 49, 48, 50, 102, 102, 10]⟩ : ByteArray)] rfl (by (try simp only [List.map_toArray, List.map_cons, List.map_nil]); first | done | rfl | (simp only [List.length_drop, List.length_take]; rfl)) ?_; (with_reducible refine (script_Parse.calls k (⟨#[98, 101, 103, 105, 110, 32, 55, 32, 50, 32, 48, 49, 48, 50, 102, 102, 10]⟩ : ByteArray) t164 t165 t166 _ (by exact hI.below (by repeat (first | (with_reducible first | exact HB.out | exact (Below.refl _ _) | apply below_alloc | apply pw_below_drewN | apply below_drew1) | exact HB.out))) A1.out).mono ?_); rintro e w23 ⟨v167, rfl, ho0, hb⟩; refine ⟨_, rfl, ?_⟩; have n0_ := Aside0.mk (Kd.S_lower ho0 (below_size (by repeat (first | (with_reducible first | exact HB.out | apply below_alloc | apply pw_below_drewN | apply below_drew1) | exact HB.out)))); have n1_ := Aside0.mk (below_step (by repeat (first | (with_reducible first | exact HB.out | apply below_alloc | apply pw_below_drewN | apply below_drew1) | exact HB.out)) hb); clear HB; have HO168 := n0_; have HB := n1_; clear n0_ n1_; (try clear hb); (try clear hb2); (try clear hk); (try clear hi); (try clear ho0); obtain ⟨Ao24, co24, eo24⟩ := Kd.S_slice HO168.out; subst eo24; have p169 : 0 ≤ (0 : Int) := (by omega); have q169 : 0 < (t164.length : Int) := of_decide_eq_true (by first | (with_reducible assumption) | assumption); obtain ⟨ad169, A169_1, c169_1, A169_2, c169_2, e169, hx169_0, hx169_1, hx169_2, hl169_1, hi169_1, hl169_2, hi169_2⟩ := at_T37 (Kd.S_reads' HO168.out).2.2 0 p169 q169; cases e169; obtain ⟨ce169, hce169, hMe169, hcc169⟩ := Kd.S_get HO168.out z37 0 p169 (by first | exact q169 | exact of_decide_eq_true (by first | (with_reducible assumption) | assumption) | (have e_ := (Kd.S_reads' HO168.out).1; omega)); obtain ⟨ve169_1, ve169_2, rfl, ge169_1, ge169_2⟩ := k37_openM hMe169; have hv169_1 := hcc169 1 _ rfl; rw [add_field _ _ 1 (by omega)] at hv169_1; replace hv169_1 := Option.some.inj (hv169_1.symm.trans hx169_1); rw [hv169_1] at ge169_1; have HL169_1 := Aside0.mk (show Kd.R (Kd.int .u64) 48 _ _ _ _ ((rd_T37 t164 0).f1) from ge169_1); clear hv169_1 ge169_1; have hv169_2 := hcc169 2 _ rfl; rw [add_field _ _ 2 (by omega)] at hv169_2; replace hv169_2 := Option.some.inj (hv169_2.symm.trans hx169_2); rw [hv169_2] at ge169_2; have HL169_2 := Aside0.mk (show Kd.R (Kd.int .u8) 5 _ _ _ _ ((rd_T37 t164 0).f2) from ge169_2); clear hv169_2 ge169_2; clear hcc169 hce169; have qi169 : (0 < t164.length) = True := eq_true (by omega); (try rw [show ((0 : Int)).toNat = 0 from rfl] at hx169_0); (try rw [show 0 * 3 = 0 from rfl] at hx169_0); (try rw [Addr.add_zero'] at hx169_0); (try rw [show ((0 : Int)).toNat = 0 from rfl] at hx169_1); (try rw [show 0 * 3 = 0 from rfl] at hx169_1); (try rw [Addr.add_zero'] at hx169_1); (try rw [show ((0 : Int)).toNat = 0 from rfl] at hx169_2); (try rw [show 0 * 3 = 0 from rfl] at hx169_2); (try rw [Addr.add_zero'] at hx169_2); have HR169_1 := Aside0.mk hi169_1; have HC169_1 := Aside0.mk hl169_1; clear hi169_1 hl169_1; have HR169_2 := Aside0.mk hi169_2; have HC169_2 := Aside0.mk hl169_2; clear hi169_2 hl169_2; replace p169 := eq_true p169; replace q169 := eq_true q169))
      go_ret
      exact ⟨by first | rfl | (simp [errW_none, errW_some] <;> rfl) | (simp [*, errW_none, errW_some] <;> rfl), by repeat (first | (with_reducible first | exact HB.out | apply below_alloc | apply pw_below_drewN | apply below_drew1) | exact HB.out)⟩
    ·rw [if_neg c5] at H
     exact absurd H (by simp)
   ·rw [if_neg c4] at H
    have c4b0 : ((t164.length : Int) == 1) = false := beq_eq_false_iff_ne.mpr c4
    have c4b1 : ((t164.length : Int) != 1) = true := bne_iff_ne.mpr c4
    obtain rfl := Option.some.inj H
    go_enter Tryd.func6, Tryd.ntmps6
    go_wp2_with (first | ((with_reducible refine gate_callee (f := 7) rfl ?_); refine goesL_ (some 5) rfl rfl Tryd.func7 (by kernel_rfl) rfl #[.string (⟨#[98, 101, 103, 105, 110, 32, 55, 32, 50, 32, 48, 49, 48, 50, 102, 102, 10]⟩ : ByteArray)] rfl (by (try simp only [List.map_toArray, List.map_cons, List.map_nil]); first | done | rfl | (simp only [List.length_drop, List.length_take]; rfl)) ?_; (with_reducible refine (script_Parse.calls k (⟨#[98, 101, 103, 105, 110, 32, 55, 32, 50, 32, 48, 49, 48, 50, 102, 102, 10]⟩ : ByteArray) t164 t165 t166 _ (by exact hI.below (by repeat (first | (with_reducible first | exact HB.out | exact (Below.refl _ _) | apply below_alloc | apply pw_below_drewN | apply below_drew1) | exact HB.out))) A1.out).mono ?_); rintro e w25 ⟨v167, rfl, ho0, hb⟩; refine ⟨_, rfl, ?_⟩; have n0_ := Aside0.mk (Kd.S_lower ho0 (below_size (by repeat (first | (with_reducible first | exact HB.out | apply below_alloc | apply pw_below_drewN | apply below_drew1) | exact HB.out)))); have n1_ := Aside0.mk (below_step (by repeat (first | (with_reducible first | exact HB.out | apply below_alloc | apply pw_below_drewN | apply below_drew1) | exact HB.out)) hb); clear HB; have HO168 := n0_; have HB := n1_; clear n0_ n1_; (try clear hb); (try clear hb2); (try clear hk); (try clear hi); (try clear ho0); obtain ⟨Ao26, co26, eo26⟩ := Kd.S_slice HO168.out; subst eo26))
    go_ret
    exact ⟨by first | rfl | (simp [errW_none, errW_some] <;> rfl) | (simp [*, errW_none, errW_some] <;> rfl), by repeat (first | (with_reducible first | exact HB.out | apply below_alloc | apply pw_below_drewN | apply below_drew1) | exact HB.out)⟩
  ·rw [if_neg c3] at H
   have c3b0 : (t165 == 0) = false := beq_eq_false_iff_ne.mpr c3
   have c3b1 : (t165 != 0) = true := bne_iff_ne.mpr c3
   obtain rfl := Option.some.inj H
   go_enter Tryd.func6, Tryd.ntmps6
   go_wp2_with (first | ((with_reducible refine gate_callee (f := 7) rfl ?_); refine goesL_ (some 5) rfl rfl Tryd.func7 (by kernel_rfl) rfl #[.string (⟨#[98, 101, 103, 105, 110, 32, 55, 32, 50, 32, 48, 49, 48, 50, 102, 102, 10]⟩ : ByteArray)] rfl (by (try simp only [List.map_toArray, List.map_cons, List.map_nil]); first | done | rfl | (simp only [List.length_drop, List.length_take]; rfl)) ?_; (with_reducible refine (script_Parse.calls k (⟨#[98, 101, 103, 105, 110, 32, 55, 32, 50, 32, 48, 49, 48, 50, 102, 102, 10]⟩ : ByteArray) t164 t165 t166 _ (by exact hI.below (by repeat (first | (with_reducible first | exact HB.out | exact (Below.refl _ _) | apply below_alloc | apply pw_below_drewN | apply below_drew1) | exact HB.out))) A1.out).mono ?_); rintro e w27 ⟨v167, rfl, ho0, hb⟩; refine ⟨_, rfl, ?_⟩; have n0_ := Aside0.mk (Kd.S_lower ho0 (below_size (by repeat (first | (with_reducible first | exact HB.out | apply below_alloc | apply pw_below_drewN | apply below_drew1) | exact HB.out)))); have n1_ := Aside0.mk (below_step (by repeat (first | (with_reducible first | exact HB.out | apply below_alloc | apply pw_below_drewN | apply below_drew1) | exact HB.out)) hb); clear HB; have HO168 := n0_; have HB := n1_; clear n0_ n1_; (try clear hb); (try clear hb2); (try clear hk); (try clear hi); (try clear ho0)))
   go_ret
   exact ⟨by first | rfl | (simp [errW_none, errW_some] <;> rfl) | (simp [*, errW_none, errW_some] <;> rfl), by repeat (first | (with_reducible first | exact HB.out | apply below_alloc | apply pw_below_drewN | apply below_drew1) | exact HB.out)⟩
 ·rw [if_neg c2] at H
  have c2b0 : (t166 == 0) = false := beq_eq_false_iff_ne.mpr c2
  have c2b1 : (t166 != 0) = true := bne_iff_ne.mpr c2
  obtain rfl := Option.some.inj H
  go_enter Tryd.func6, Tryd.ntmps6
  go_wp2_with (first | ((with_reducible refine gate_callee (f := 7) rfl ?_); refine goesL_ (some 5) rfl rfl Tryd.func7 (by kernel_rfl) rfl #[.string (⟨#[98, 101, 103, 105, 110, 32, 55, 32, 50, 32, 48, 49, 48, 50, 102, 102, 10]⟩ : ByteArray)] rfl (by (try simp only [List.map_toArray, List.map_cons, List.map_nil]); first | done | rfl | (simp only [List.length_drop, List.length_take]; rfl)) ?_; (with_reducible refine (script_Parse.calls k (⟨#[98, 101, 103, 105, 110, 32, 55, 32, 50, 32, 48, 49, 48, 50, 102, 102, 10]⟩ : ByteArray) t164 t165 t166 _ (by exact hI.below (by repeat (first | (with_reducible first | exact HB.out | exact (Below.refl _ _) | apply below_alloc | apply pw_below_drewN | apply below_drew1) | exact HB.out))) A1.out).mono ?_); rintro e w28 ⟨v167, rfl, ho0, hb⟩; refine ⟨_, rfl, ?_⟩; have n0_ := Aside0.mk (Kd.S_lower ho0 (below_size (by repeat (first | (with_reducible first | exact HB.out | apply below_alloc | apply pw_below_drewN | apply below_drew1) | exact HB.out)))); have n1_ := Aside0.mk (below_step (by repeat (first | (with_reducible first | exact HB.out | apply below_alloc | apply pw_below_drewN | apply below_drew1) | exact HB.out)) hb); clear HB; have HO168 := n0_; have HB := n1_; clear n0_ n1_; (try clear hb); (try clear hb2); (try clear hk); (try clear hi); (try clear ho0)))
  go_ret
  exact ⟨by first | rfl | (simp [errW_none, errW_some] <;> rfl) | (simp [*, errW_none, errW_some] <;> rfl), by repeat (first | (with_reducible first | exact HB.out | apply below_alloc | apply pw_below_drewN | apply below_drew1) | exact HB.out)⟩

end Go.Proofs.YtmndhgiblpfcgaaDoor.W
end

section
namespace Go.Proofs.YtmndhgiblpfcgaaDoor.W
open Go.RowKit Go.Proofs.YtmndhgiblpfcgaaDoorW.PrintWords Go.Proofs.YtmndhgiblpfcgaaDoorW.PrintLast Go.Proofs.YtmndhgiblpfcgaaDoorW.PrintMore
attribute [local go_sem] max2_int min2_int max_two min_two max_three min_three max_four min_four
set_option linter.unusedVariables false
set_option linter.unusedSimpArgs false

/-! ### wellspringlaw26_ScriptParses: function 3 -/
def wellspringlaw26_ScriptParses.j0 : Nat → ByteArray → List (S37) → Int → Bool → Option (Bool)
 | 0, _, _, _, _ => none
 | k + 1, x0, x3, x8, x41 => if x41 = true then (some false) else (if x8 = 0 then ((script_Print.f x3).bind fun bt271 => (if bt271.2 = 0 then (some (bt271.1.toList == x0.toList)) else (some false))) else (some true))
def wellspringlaw26_ScriptParses.f (k : Nat) (a0 : ByteArray) : Option (Bool) := (wellspringlaw26_awake.f k).bind fun t259 => (if t259 = true then (if (a0.size : Int) > 3000 then (some true) else ((script_Parse.f k a0).bind fun bt260 => ((wellspringref26_Parse.f k a0).bind fun bt265 => (if bt260.2.1 = bt265.2.1 then (if bt260.2.2 = bt265.2.2 then ((wellspringlaw26_Same.f k bt260.1 bt265.1).bind fun t270 => (wellspringlaw26_ScriptParses.j0 k a0 bt260.1 bt265.2.2 (!t270))) else (wellspringlaw26_ScriptParses.j0 k a0 bt260.1 bt265.2.2 true)) else (wellspringlaw26_ScriptParses.j0 k a0 bt260.1 bt265.2.2 true))))) else (some false))
theorem wellspringlaw26_ScriptParses.mono_l : ∀ k, (∀ y0 y1 y2 y3, LeO (wellspringlaw26_ScriptParses.j0 k y0 y1 y2 y3) (wellspringlaw26_ScriptParses.j0 (k + 1) y0 y1 y2 y3))
 | 0 => fun _ _ _ _ r h => by simp [wellspringlaw26_ScriptParses.j0] at h
 | k + 1 => by
  have ih0 := wellspringlaw26_ScriptParses.mono_l k
  ·intro y0 y1 y2 y3
   unfold wellspringlaw26_ScriptParses.j0
   repeat' first
   | (with_reducible exact ih0 _ _ _ _)
   | (with_reducible exact script_Parse.mono _ _)
   | (with_reducible exact wellspringlaw26_Same.mono _ _ _)
   | (with_reducible exact wellspringlaw26_awake.mono _)
   | (with_reducible exact wellspringref26_Parse.mono _ _)
   | (with_reducible exact LeO.refl _)
   | (with_reducible exact LeO.none _)
   | (with_reducible refine LeO.ite ?_ ?_)
   | (with_reducible refine LeO.bind ?_ (fun _ => ?_))
   | exact ih0 _ _ _ _
   | exact script_Parse.mono _ _
   | exact wellspringlaw26_Same.mono _ _ _
   | exact wellspringlaw26_awake.mono _
   | exact wellspringref26_Parse.mono _ _
   | exact LeO.none _
   | refine LeO.ite ?_ ?_
   | refine LeO.bind ?_ (fun _ => ?_)
theorem wellspringlaw26_ScriptParses.mono : ∀ a0 k, LeO (wellspringlaw26_ScriptParses.f k a0) (wellspringlaw26_ScriptParses.f (k + 1) a0) := by
 intro a0 k
 have ih0 := wellspringlaw26_ScriptParses.mono_l k
 unfold wellspringlaw26_ScriptParses.f
 repeat' first
   | (with_reducible exact ih0 _ _ _ _)
   | (with_reducible exact script_Parse.mono _ _)
   | (with_reducible exact wellspringlaw26_Same.mono _ _ _)
   | (with_reducible exact wellspringlaw26_awake.mono _)
   | (with_reducible exact wellspringref26_Parse.mono _ _)
   | (with_reducible exact LeO.refl _)
   | (with_reducible exact LeO.none _)
   | (with_reducible refine LeO.ite ?_ ?_)
   | (with_reducible refine LeO.bind ?_ (fun _ => ?_))
   | exact ih0 _ _ _ _
   | exact script_Parse.mono _ _
   | exact wellspringlaw26_Same.mono _ _ _
   | exact wellspringlaw26_awake.mono _
   | exact wellspringref26_Parse.mono _ _
   | exact LeO.none _
   | refine LeO.ite ?_ ?_
   | refine LeO.bind ?_ (fun _ => ?_)
set_option maxHeartbeats 8000000 in
set_option maxRecDepth 100000 in
theorem wellspringlaw26_ScriptParses.calls (k : Nat) (a0 : ByteArray) (r : Bool) (w : World) (hI : Inv w) (h : wellspringlaw26_ScriptParses.f k a0 = some r) :
  Calls Tryd.prog 3 #[.string a0] w fun e w' => e = .returned (.bool r) ∧ Below w.heap.size w w' := by
 have HB := Aside0.mk (Below.refl w.heap.size w)
 have H : ((wellspringlaw26_awake.f k).bind fun t259 => (if t259 = true then (if (a0.size : Int) > 3000 then (some true) else ((script_Parse.f k a0).bind fun bt260 => ((wellspringref26_Parse.f k a0).bind fun bt265 => (if bt260.2.1 = bt265.2.1 then (if bt260.2.2 = bt265.2.2 then ((wellspringlaw26_Same.f k bt260.1 bt265.1).bind fun t270 => (wellspringlaw26_ScriptParses.j0 k a0 bt260.1 bt265.2.2 (!t270))) else (wellspringlaw26_ScriptParses.j0 k a0 bt260.1 bt265.2.2 true)) else (wellspringlaw26_ScriptParses.j0 k a0 bt260.1 bt265.2.2 true))))) else (some false))) = some r := h
 clear h
 replace H := Option.bind_eq_some_iff.mp H
 obtain ⟨t259, A20, H⟩ := H
 replace H : (if t259 = true then (if (a0.size : Int) > 3000 then (some true) else ((script_Parse.f k a0).bind fun bt260 => ((wellspringref26_Parse.f k a0).bind fun bt265 => (if bt260.2.1 = bt265.2.1 then (if bt260.2.2 = bt265.2.2 then ((wellspringlaw26_Same.f k bt260.1 bt265.1).bind fun t270 => (wellspringlaw26_ScriptParses.j0 k a0 bt260.1 bt265.2.2 (!t270))) else (wellspringlaw26_ScriptParses.j0 k a0 bt260.1 bt265.2.2 true)) else (wellspringlaw26_ScriptParses.j0 k a0 bt260.1 bt265.2.2 true))))) else (some false)) = some r := H
 have A2 := Aside0.mk A20
 clear A20
 by_cases c3 : t259 = true
 ·subst c3
  have H1 : (if (a0.size : Int) > 3000 then (some true) else ((script_Parse.f k a0).bind fun bt260 => ((wellspringref26_Parse.f k a0).bind fun bt265 => (if bt260.2.1 = bt265.2.1 then (if bt260.2.2 = bt265.2.2 then ((wellspringlaw26_Same.f k bt260.1 bt265.1).bind fun t270 => (wellspringlaw26_ScriptParses.j0 k a0 bt260.1 bt265.2.2 (!t270))) else (wellspringlaw26_ScriptParses.j0 k a0 bt260.1 bt265.2.2 true)) else (wellspringlaw26_ScriptParses.j0 k a0 bt260.1 bt265.2.2 true))))) = some r := by rw [if_pos rfl] at H; exact H
  clear H
  have H := H1
  clear H1
  by_cases c4 : (a0.size : Int) > 3000
  ·rw [if_pos c4] at H
   have c4b0 : decide (3000 < (a0.size : Int)) = true := decide_eq_true c4
   have c4b1 : decide (3000 < a0.size) = true := decide_eq_true (by omega)
   clear c4
   obtain rfl := Option.some.inj H
   go_enter Tryd.func3, Tryd.ntmps3
   go_wp2_with (first | ((with_reducible refine gate_callee (f := 6) rfl ?_); refine goesL_ (some 11) rfl rfl Tryd.func6 (by kernel_rfl) rfl #[] rfl (by (try simp only [List.map_toArray, List.map_cons, List.map_nil]); first | done | rfl | (simp only [List.length_drop, List.length_take]; rfl)) ?_; (with_reducible refine (wellspringlaw26_awake.calls k  true _ (by exact hI.below (by repeat (first | (with_reducible first | exact HB.out | exact (Below.refl _ _) | apply below_alloc | apply pw_below_drewN | apply below_drew1) | exact HB.out))) A2.out).mono ?_); rintro e w5 ⟨rfl, hb⟩; refine ⟨_, rfl, ?_⟩; have n0_ := Aside0.mk (below_step (by repeat (first | (with_reducible first | exact HB.out | apply below_alloc | apply pw_below_drewN | apply below_drew1) | exact HB.out)) hb); clear HB; have HB := n0_; clear n0_; (try clear hb); (try clear hb2); (try clear hk); (try clear hi)))
   go_ret
   exact ⟨by first | rfl | (simp [errW_none, errW_some] <;> rfl) | (simp [*, errW_none, errW_some] <;> rfl), by repeat (first | (with_reducible first | exact HB.out | apply below_alloc | apply pw_below_drewN | apply below_drew1) | exact HB.out)⟩
  ·rw [if_neg c4] at H
   have c4b0 : decide (3000 < (a0.size : Int)) = false := decide_eq_false c4
   have c4b1 : decide (3000 < a0.size) = false := decide_eq_false (by omega)
   clear c4
   replace H := Option.bind_eq_some_iff.mp H
   obtain ⟨⟨t260, t261, t262⟩, A60, H⟩ := H
   replace H : ((wellspringref26_Parse.f k a0).bind fun bt265 => (if t261 = bt265.2.1 then (if t262 = bt265.2.2 then ((wellspringlaw26_Same.f k t260 bt265.1).bind fun t270 => (wellspringlaw26_ScriptParses.j0 k a0 t260 bt265.2.2 (!t270))) else (wellspringlaw26_ScriptParses.j0 k a0 t260 bt265.2.2 true)) else (wellspringlaw26_ScriptParses.j0 k a0 t260 bt265.2.2 true))) = some r := H
   have A6 := Aside0.mk A60
   clear A60
   replace H := Option.bind_eq_some_iff.mp H
   obtain ⟨⟨t265, t266, t267⟩, A70, H⟩ := H
   replace H : (if t261 = t266 then (if t262 = t267 then ((wellspringlaw26_Same.f k t260 t265).bind fun t270 => (wellspringlaw26_ScriptParses.j0 k a0 t260 t267 (!t270))) else (wellspringlaw26_ScriptParses.j0 k a0 t260 t267 true)) else (wellspringlaw26_ScriptParses.j0 k a0 t260 t267 true)) = some r := H
   have A7 := Aside0.mk A70
   clear A70
   have HC8 := Aside0.mk H
   clear H
   go_enter Tryd.func3, Tryd.ntmps3
   go_upto_region 7 with (first | ((with_reducible refine gate_callee (f := 6) rfl ?_); refine goesL_ (some 11) rfl rfl Tryd.func6 (by kernel_rfl) rfl #[] rfl (by (try simp only [List.map_toArray, List.map_cons, List.map_nil]); first | done | rfl | (simp only [List.length_drop, List.length_take]; rfl)) ?_; (with_reducible refine (wellspringlaw26_awake.calls k  true _ (by exact hI.below (by repeat (first | (with_reducible first | exact HB.out | exact (Below.refl _ _) | apply below_alloc | apply pw_below_drewN | apply below_drew1) | exact HB.out))) A2.out).mono ?_); rintro e w9 ⟨rfl, hb⟩; refine ⟨_, rfl, ?_⟩; have n0_ := Aside0.mk (below_step (by repeat (first | (with_reducible first | exact HB.out | apply below_alloc | apply pw_below_drewN | apply below_drew1) | exact HB.out)) hb); clear HB; have HB := n0_; clear n0_; (try clear hb); (try clear hb2); (try clear hk); (try clear hi)) | ((with_reducible refine gate_callee (f := 7) rfl ?_); refine goesL_ (some 18) rfl rfl Tryd.func7 (by kernel_rfl) rfl #[.string a0] rfl (by (try simp only [List.map_toArray, List.map_cons, List.map_nil]); first | done | rfl | (simp only [List.length_drop, List.length_take]; rfl)) ?_; (with_reducible refine (script_Parse.calls k a0 t260 t261 t262 _ (by exact hI.below (by repeat (first | (with_reducible first | exact HB.out | exact (Below.refl _ _) | apply below_alloc | apply pw_below_drewN | apply below_drew1) | exact HB.out))) A6.out).mono ?_); rintro e w10 ⟨v263, rfl, ho0, hb⟩; refine ⟨_, rfl, ?_⟩; have n0_ := Aside0.mk (Kd.S_lower ho0 (below_size (by repeat (first | (with_reducible first | exact HB.out | apply below_alloc | apply pw_below_drewN | apply below_drew1) | exact HB.out)))); have n1_ := Aside0.mk (below_step (by repeat (first | (with_reducible first | exact HB.out | apply below_alloc | apply pw_below_drewN | apply below_drew1) | exact HB.out)) hb); clear HB; have HO264 := n0_; have HB := n1_; clear n0_ n1_; (try clear hb); (try clear hb2); (try clear hk); (try clear hi); (try clear ho0)) | ((with_reducible refine gate_callee (f := 8) rfl ?_); refine goesL_ (some 24) rfl rfl Tryd.func8 (by kernel_rfl) rfl #[.string a0] rfl (by (try simp only [List.map_toArray, List.map_cons, List.map_nil]); first | done | rfl | (simp only [List.length_drop, List.length_take]; rfl)) ?_; (with_reducible refine (wellspringref26_Parse.calls k a0 t265 t266 t267 _ A7.out).mono ?_); rintro e w11 ⟨v268, rfl, ho0, hb⟩; refine ⟨_, rfl, ?_⟩; have n0_ := Aside0.mk (Kd.S_below (by (with_reducible repeat (first | apply Kd.S_alloc | apply Kd.S_drewN | apply Kd.S_drew)); exact HO264.out) hb); have n1_ := Aside0.mk (Kd.S_lower ho0 (below_size (by repeat (first | (with_reducible first | exact HB.out | apply below_alloc | apply pw_below_drewN | apply below_drew1) | exact HB.out)))); have n2_ := Aside0.mk (below_step (by repeat (first | (with_reducible first | exact HB.out | apply below_alloc | apply pw_below_drewN | apply below_drew1) | exact HB.out)) hb); clear HO264; clear HB; have HO264 := n0_; have HO269 := n1_; have HB := n2_; clear n0_ n1_ n2_; (try clear hb); (try clear hb2); (try clear hk); (try clear hi); (try clear ho0)))
   (try simp only [Act.put, List.setIfInBounds_toArray, List.set_cons_zero, List.set_cons_succ])
   go_cut [41] (fun v41 wc => ∃ (kq : Nat) (x41_7 : Bool), v41 = .bool x41_7 ∧ Aside0 (wellspringlaw26_ScriptParses.j0 kq a0 t260 t267 x41_7 = some r) ∧ Aside0 (kq ≤ k) ∧ Aside0 (Kd.S k37 37 wc w.heap.size (fun _ => True) v263 t260) ∧ Aside0 (Below w.heap.size w wc))
   case first =>
    have H := HC8.out
    clear HC8
    by_cases c12 : t261 = t266
    ·rw [if_pos c12] at H
     have c12b0 : (t261 == t266) = true := beq_iff_eq.mpr c12
     have c12b1 : (t261 != t266) = false := bne_eq_false_iff_eq.mpr c12
     clear c12
     (first | rw [c12b0] | (simp only [i64_w, i32_w]; rw [c12b0]) | skip)
     by_cases c13 : t262 = t267
     ·rw [if_pos c13] at H
      have c13b0 : (t262 == t267) = true := beq_iff_eq.mpr c13
      have c13b1 : (t262 != t267) = false := bne_eq_false_iff_eq.mpr c13
      clear c13
      replace H := Option.bind_eq_some_iff.mp H
      obtain ⟨t270, A140, H⟩ := H
      replace H : (wellspringlaw26_ScriptParses.j0 k a0 t260 t267 (!t270)) = some r := H
      have A14 := Aside0.mk A140
      clear A140
      have H' := Aside0.mk H
      clear H
      obtain ⟨Ao15, co15, eo15⟩ := Kd.S_slice HO264.out
      subst eo15
      obtain ⟨Ao16, co16, eo16⟩ := Kd.S_slice HO269.out
      subst eo16
      go_wp2_with (first | (go_at_call 9; (with_reducible refine (wellspringlaw26_Same.calls k _ _ t260 _ _ t265 t270 _ ?side1 ?side2 ?side3 ?side4 A14.out).mono ?_); (case side1 => repeat (first | exact (Kd.S_reads' HO264.out).2.2 | (with_reducible refine Kd.C_alloc ?_ _) | (with_reducible refine Kd.C_drewN ?_ _) | (with_reducible refine Kd.C_drew ?_))); (case side2 => exact (Kd.S_reads' HO264.out).2.1); (case side3 => repeat (first | exact (Kd.S_reads' HO269.out).2.2 | (with_reducible refine Kd.C_alloc ?_ _) | (with_reducible refine Kd.C_drewN ?_ _) | (with_reducible refine Kd.C_drew ?_))); (case side4 => exact (Kd.S_reads' HO269.out).2.1); rintro e w17 ⟨rfl, hb⟩; have n0_ := Aside0.mk (Kd.S_below (by (with_reducible repeat (first | apply Kd.S_alloc | apply Kd.S_drewN | apply Kd.S_drew)); exact HO264.out) hb); have n1_ := Aside0.mk (Kd.S_below (by (with_reducible repeat (first | apply Kd.S_alloc | apply Kd.S_drewN | apply Kd.S_drew)); exact HO269.out) hb); have n2_ := Aside0.mk (below_step (by repeat (first | (with_reducible first | exact HB.out | apply below_alloc | apply pw_below_drewN | apply below_drew1) | exact HB.out)) hb); clear HO264; clear HO269; clear HB; have HO264 := n0_; have HO269 := n1_; have HB := n2_; clear n0_ n1_ n2_; (try clear hb); (try clear hb2); (try clear hk); (try clear hi)))
      go_meet
      case rel => exact ⟨_, (!t270), (by first | rfl | (simp; done) | (simp [*]; done)), H', ⟨by first | omega | exact Nat.le_refl _⟩, ⟨by (with_reducible repeat (first | apply Kd.S_alloc | apply Kd.S_drewN | apply Kd.S_drew)); exact HO264.out⟩, ⟨by repeat (first | (with_reducible first | exact HB.out | apply below_alloc | apply pw_below_drewN | apply below_drew1) | exact HB.out)⟩⟩
     ·rw [if_neg c13] at H
      have c13b0 : (t262 == t267) = false := beq_eq_false_iff_ne.mpr c13
      have c13b1 : (t262 != t267) = true := bne_iff_ne.mpr c13
      have H' := Aside0.mk H
      clear H
      go_wp2
      go_meet
      case rel => exact ⟨_, (true), (by first | rfl | (simp; done) | (simp [*]; done)), H', ⟨by first | omega | exact Nat.le_refl _⟩, ⟨by (with_reducible repeat (first | apply Kd.S_alloc | apply Kd.S_drewN | apply Kd.S_drew)); exact HO264.out⟩, ⟨by repeat (first | (with_reducible first | exact HB.out | apply below_alloc | apply pw_below_drewN | apply below_drew1) | exact HB.out)⟩⟩
    ·rw [if_neg c12] at H
     have c12b0 : (t261 == t266) = false := beq_eq_false_iff_ne.mpr c12
     have c12b1 : (t261 != t266) = true := bne_iff_ne.mpr c12
     (first | rw [c12b0] | (simp only [i64_w, i32_w]; rw [c12b0]) | skip)
     have H' := Aside0.mk H
     clear H
     go_wp2
     go_meet
     case rel => exact ⟨_, (true), (by first | rfl | (simp; done) | (simp [*]; done)), H', ⟨by first | omega | exact Nat.le_refl _⟩, ⟨by (with_reducible repeat (first | apply Kd.S_alloc | apply Kd.S_drewN | apply Kd.S_drew)); exact HO264.out⟩, ⟨by repeat (first | (with_reducible first | exact HB.out | apply below_alloc | apply pw_below_drewN | apply below_drew1) | exact HB.out)⟩⟩
   case rest =>
    clear HC8
    try clear c1
    try clear p2
    try clear c3
    try clear c4
    try clear c4b0
    try clear c4b1
    try clear c6
    try clear c7
    try clear c8
    try clear c12
    try clear c12b0
    try clear c12b1
    try clear c13
    try clear c13b0
    try clear c13b1
    obtain ⟨kq, x41_7, rfl, HA, HJ7, HO_3, HB⟩ := hcut
    cases kq with
    | zero => exact absurd HA.out (by simp [wellspringlaw26_ScriptParses.j0])
    | succ kj7 =>
     have H := HA.out
     clear HA
     simp only [wellspringlaw26_ScriptParses.j0] at H
     by_cases c18 : x41_7 = true
     ·subst c18
      have H1 : (some false) = some r := by rw [if_pos rfl] at H; exact H
      clear H
      have H := H1
      clear H1
      obtain rfl := Option.some.inj H
      go_wp2
      go_ret
      exact ⟨by first | rfl | (simp [errW_none, errW_some] <;> rfl) | (simp [*, errW_none, errW_some] <;> rfl), by repeat (first | (with_reducible first | exact HB.out | apply below_alloc | apply pw_below_drewN | apply below_drew1) | exact HB.out)⟩
     ·replace c18 := Bool.eq_false_iff.mpr c18
      subst c18
      have H1 : (if t267 = 0 then ((script_Print.f t260).bind fun bt271 => (if bt271.2 = 0 then (some (bt271.1.toList == a0.toList)) else (some false))) else (some true)) = some r := by rw [if_neg (show ¬ (false = true) by decide)] at H; exact H
      clear H
      have H := H1
      clear H1
      by_cases c19 : t267 = 0
      ·rw [if_pos c19] at H
       have c19b0 : (t267 == 0) = true := beq_iff_eq.mpr c19
       have c19b1 : (t267 != 0) = false := bne_eq_false_iff_eq.mpr c19
       clear c19
       replace H := Option.bind_eq_some_iff.mp H
       obtain ⟨⟨t271, t272⟩, A200, H⟩ := H
       replace H : (if t272 = 0 then (some (t271.toList == a0.toList)) else (some false)) = some r := H
       have A20 := Aside0.mk A200
       clear A200
       by_cases c21 : t272 = 0
       ·rw [if_pos c21] at H
        have c21b0 : (t272 == 0) = true := beq_iff_eq.mpr c21
        have c21b1 : (t272 != 0) = false := bne_eq_false_iff_eq.mpr c21
        clear c21
        obtain rfl := Option.some.inj H
        obtain ⟨Ao22, co22, eo22⟩ := Kd.S_slice HO_3.out
        subst eo22
        go_wp2_with (first | ((with_reducible refine gate_callee (f := 10) rfl ?_); refine goesL_ (some 46) rfl rfl Tryd.func10 (by kernel_rfl) rfl #[.slice Ao22 t260.length co22] rfl (by (try simp only [List.map_toArray, List.map_cons, List.map_nil]); first | done | rfl | (simp only [List.length_drop, List.length_take]; rfl)) ?_; (with_reducible refine (script_Print.calls _ _ t260 t271 t272 _ ?side1 ?side2 (by exact hI.below (by repeat (first | (with_reducible first | exact HB.out | exact (Below.refl _ _) | apply below_alloc | apply pw_below_drewN | apply below_drew1) | exact HB.out))) A20.out).mono ?_); (case side1 => repeat (first | exact (Kd.S_reads' HO_3.out).2.2 | (with_reducible refine Kd.C_alloc ?_ _) | (with_reducible refine Kd.C_drewN ?_ _) | (with_reducible refine Kd.C_drew ?_))); (case side2 => exact (Kd.S_reads' HO_3.out).2.1); rintro e w23 ⟨rfl, hb⟩; refine ⟨_, rfl, ?_⟩; have n0_ := Aside0.mk (Kd.S_below (by (with_reducible repeat (first | apply Kd.S_alloc | apply Kd.S_drewN | apply Kd.S_drew)); exact HO_3.out) hb); have n1_ := Aside0.mk (below_step (by repeat (first | (with_reducible first | exact HB.out | apply below_alloc | apply pw_below_drewN | apply below_drew1) | exact HB.out)) hb); clear HO_3; clear HB; have HO_3 := n0_; have HB := n1_; clear n0_ n1_; (try clear hb); (try clear hb2); (try clear hk); (try clear hi)))
        go_ret
        exact ⟨by first | rfl | (simp [errW_none, errW_some] <;> rfl) | (simp [*, errW_none, errW_some] <;> rfl), by repeat (first | (with_reducible first | exact HB.out | apply below_alloc | apply pw_below_drewN | apply below_drew1) | exact HB.out)⟩
       ·rw [if_neg c21] at H
        have c21b0 : (t272 == 0) = false := beq_eq_false_iff_ne.mpr c21
        have c21b1 : (t272 != 0) = true := bne_iff_ne.mpr c21
        obtain rfl := Option.some.inj H
        obtain ⟨Ao24, co24, eo24⟩ := Kd.S_slice HO_3.out
        subst eo24
        go_wp2_with (first | ((with_reducible refine gate_callee (f := 10) rfl ?_); refine goesL_ (some 46) rfl rfl Tryd.func10 (by kernel_rfl) rfl #[.slice Ao24 t260.length co24] rfl (by (try simp only [List.map_toArray, List.map_cons, List.map_nil]); first | done | rfl | (simp only [List.length_drop, List.length_take]; rfl)) ?_; (with_reducible refine (script_Print.calls _ _ t260 t271 t272 _ ?side1 ?side2 (by exact hI.below (by repeat (first | (with_reducible first | exact HB.out | exact (Below.refl _ _) | apply below_alloc | apply pw_below_drewN | apply below_drew1) | exact HB.out))) A20.out).mono ?_); (case side1 => repeat (first | exact (Kd.S_reads' HO_3.out).2.2 | (with_reducible refine Kd.C_alloc ?_ _) | (with_reducible refine Kd.C_drewN ?_ _) | (with_reducible refine Kd.C_drew ?_))); (case side2 => exact (Kd.S_reads' HO_3.out).2.1); rintro e w25 ⟨rfl, hb⟩; refine ⟨_, rfl, ?_⟩; have n0_ := Aside0.mk (Kd.S_below (by (with_reducible repeat (first | apply Kd.S_alloc | apply Kd.S_drewN | apply Kd.S_drew)); exact HO_3.out) hb); have n1_ := Aside0.mk (below_step (by repeat (first | (with_reducible first | exact HB.out | apply below_alloc | apply pw_below_drewN | apply below_drew1) | exact HB.out)) hb); clear HO_3; clear HB; have HO_3 := n0_; have HB := n1_; clear n0_ n1_; (try clear hb); (try clear hb2); (try clear hk); (try clear hi)))
        go_ret
        exact ⟨by first | rfl | (simp [errW_none, errW_some] <;> rfl) | (simp [*, errW_none, errW_some] <;> rfl), by repeat (first | (with_reducible first | exact HB.out | apply below_alloc | apply pw_below_drewN | apply below_drew1) | exact HB.out)⟩
      ·rw [if_neg c19] at H
       have c19b0 : (t267 == 0) = false := beq_eq_false_iff_ne.mpr c19
       have c19b1 : (t267 != 0) = true := bne_iff_ne.mpr c19
       obtain rfl := Option.some.inj H
       go_wp2
       go_ret
       exact ⟨by first | rfl | (simp [errW_none, errW_some] <;> rfl) | (simp [*, errW_none, errW_some] <;> rfl), by repeat (first | (with_reducible first | exact HB.out | apply below_alloc | apply pw_below_drewN | apply below_drew1) | exact HB.out)⟩
 ·replace c3 := Bool.eq_false_iff.mpr c3
  subst c3
  have H1 : (some false) = some r := by rw [if_neg (show ¬ (false = true) by decide)] at H; exact H
  clear H
  have H := H1
  clear H1
  obtain rfl := Option.some.inj H
  go_enter Tryd.func3, Tryd.ntmps3
  go_wp2_with (first | ((with_reducible refine gate_callee (f := 6) rfl ?_); refine goesL_ (some 11) rfl rfl Tryd.func6 (by kernel_rfl) rfl #[] rfl (by (try simp only [List.map_toArray, List.map_cons, List.map_nil]); first | done | rfl | (simp only [List.length_drop, List.length_take]; rfl)) ?_; (with_reducible refine (wellspringlaw26_awake.calls k  false _ (by exact hI.below (by repeat (first | (with_reducible first | exact HB.out | exact (Below.refl _ _) | apply below_alloc | apply pw_below_drewN | apply below_drew1) | exact HB.out))) A2.out).mono ?_); rintro e w26 ⟨rfl, hb⟩; refine ⟨_, rfl, ?_⟩; have n0_ := Aside0.mk (below_step (by repeat (first | (with_reducible first | exact HB.out | apply below_alloc | apply pw_below_drewN | apply below_drew1) | exact HB.out)) hb); clear HB; have HB := n0_; clear n0_; (try clear hb); (try clear hb2); (try clear hk); (try clear hi)))
  go_ret
  exact ⟨by first | rfl | (simp [errW_none, errW_some] <;> rfl) | (simp [*, errW_none, errW_some] <;> rfl), by repeat (first | (with_reducible first | exact HB.out | apply below_alloc | apply pw_below_drewN | apply below_drew1) | exact HB.out)⟩

end Go.Proofs.YtmndhgiblpfcgaaDoor.W
end

section
/-
Chapter 26's first law, plain: the printed ScriptParses answers true.
-/
namespace Go.Proofs.YtmndhgiblpfcgaaDoor.W
open Go.RowKit Go.Proofs.YtmndhgiblpfcgaaDoorW.PrintWords
set_option linter.unusedVariables false
set_option linter.unusedSimpArgs false

def awakeC : Wel.Scr.Cmd := ⟨[98, 101, 103, 105, 110], [7, 2], [1, 2, 255]⟩
theorem awake_line : Wel.Scr.linesOf [awakeC] = [98, 101, 103, 105, 110, 32, 55, 32, 50, 32, 48, 49, 48, 50, 102, 102, 10] := by
  have e : Wel.Scr.linesOf [awakeC] = Wel.Scr.line awakeC := by simp [Wel.Scr.linesOf]
  have t7 : Wel.Scr.tens 7 = [55] := by rw [Wel.Scr.tens, dif_pos (by decide)]; rfl
  have t2 : Wel.Scr.tens 2 = [50] := by rw [Wel.Scr.tens, dif_pos (by decide)]; rfl
  rw [e, awakeC, line_eq]
  have n : numsL [7, 2] = [32, 55, 32, 50] := by simp [numsL, t7, t2]
  rw [n]
  rfl
theorem awake_parse : Wel.Scr.parse [98, 101, 103, 105, 110, 32, 55, 32, 50, 32, 48, 49, 48, 50, 102, 102, 10] = ([awakeC], 0, 0) := by
  rw [← awake_line]
  refine Wel.Scr.parse_lines (fun c hc => ?_) (by rw [awake_line]; decide)
  obtain rfl := List.mem_singleton.1 hc
  exact ⟨rfl, by intro n hn; simp [awakeC] at hn; omega⟩
theorem awake_ev : Ev (fun k => wellspringlaw26_awake.f k) true := by
  unfold wellspringlaw26_awake.f
  have hp := ParseP_ev [98, 101, 103, 105, 110, 32, 55, 32, 50, 32, 48, 49, 48, 50, 102, 102, 10]
  unfold parseP at hp
  rw [awake_parse] at hp
  refine Ev.bind hp ?_
  have e0 : rd_T37 ([awakeC].map encP) 0 = encP awakeC := rfl
  have q1 := EqU64_ev [7, 2] [7, 2] (by decide)
  have q2 := Same02_ev [1, 2, 255] [1, 2, 255] (by decide)
  simp only [decide_true] at q1 q2
  simp only [e0]
  refine Ev.congr (fun k => if_pos rfl) (Ev.congr (fun k => if_pos rfl) (Ev.congr (fun k => if_pos rfl) (Ev.congr (fun k => if_pos (by decide)) (Ev.congr (fun k => if_pos (ba_toList _)) ?_))))
  refine Ev.bind q1 ?_
  refine Ev.congr (fun k => if_pos rfl) ?_
  refine Ev.bind q2 ?_
  exact ev_const
end Go.Proofs.YtmndhgiblpfcgaaDoor.W
end

section
/-
Chapter 26's second law (ScriptPrints): the walk.
-/
namespace Go.Proofs.YtmndhgiblpfcgaaDoor.W
open Go.RowKit Go.Proofs.YtmndhgiblpfcgaaDoorW.PrintWords Go.Proofs.YtmndhgiblpfcgaaDoorW.PrintLast Go.Proofs.YtmndhgiblpfcgaaDoorW.PrintMore
set_option linter.unusedVariables false
set_option linter.unusedSimpArgs false

def lineL (c : Wel.Scr.Cmd) : List UInt8 := if Wel.Scr.check c = 0 then Wel.Scr.line c else []
theorem lineR_eq (c : Wel.Scr.Cmd) : lineR c = (ba (lineL c), (Wel.Scr.check c : Int)) := by
  unfold lineR lineL
  split <;> rfl
def wantL (l : List Wel.Scr.Cmd) : List UInt8 := l.flatMap lineL
theorem wantL_snoc {l : List Wel.Scr.Cmd} {i : Nat} (h : i < l.length) : wantL (l.take (i + 1)) = wantL (l.take i) ++ lineL l[i] := by
  unfold wantL
  rw [List.take_succ_eq_append_getElem h, List.flatMap_append]; simp
theorem firstBad_snoc {l : List Wel.Scr.Cmd} {i : Nat} (h : i < l.length) : Wel.Scr.firstBad (l.take (i + 1)) = if Wel.Scr.firstBad (l.take i) = 0 then Wel.Scr.check l[i] else Wel.Scr.firstBad (l.take i) := by
  rw [List.take_succ_eq_append_getElem h]
  generalize l.take i = a
  induction a with
  | nil =>
    simp only [List.nil_append, Wel.Scr.firstBad, if_true]
    by_cases hc : Wel.Scr.check l[i] = 0
    · simp [hc]
    · simp [hc]
  | cons c a ih =>
    simp only [List.cons_append, Wel.Scr.firstBad]
    by_cases hc : Wel.Scr.check c = 0
    · simp [hc, ih]
    · simp [hc]
theorem wantL_ok : ∀ {l : List Wel.Scr.Cmd}, (∀ c, c ∈ l → Wel.Scr.check c = 0) → wantL l = Wel.Scr.linesOf l
  | [], _ => rfl
  | c :: l, h => by
    have e1 : wantL (c :: l) = lineL c ++ wantL l := rfl
    have e2 : Wel.Scr.linesOf (c :: l) = Wel.Scr.line c ++ Wel.Scr.linesOf l := rfl
    rw [e1, e2, wantL_ok fun d hd => h d (List.mem_cons_of_mem _ hd), lineL, if_pos (h c (List.mem_cons_self ..))]
def tooBig (c : Wel.Scr.Cmd) : Prop := 20 < c.nums.length ∨ 300 < c.bytes.length ∨ 40 < c.word.length

theorem lineL_len {c : Wel.Scr.Cmd} (h : ¬ tooBig c) (ho : Wel.Scr.okNums c) : (lineL c).length ≤ 1100 := by
  unfold lineL
  split
  · obtain ⟨word, nums, bs⟩ := c
    unfold tooBig at h
    simp only at h
    rw [line_eq]
    have h5 := numsL_len (l := nums) ho
    have h6 : (Wel.Scr.hexOr bs).length ≤ 2 * bs.length + 1 := by
      unfold Wel.Scr.hexOr
      split
      · simp
      · rw [Wel.Scr.hex_length]; omega
    simp only [List.length_append, List.length_cons, List.length_nil]
    split
    · simp only [List.length_cons]; omega
    · simp only [List.length_nil]; omega
  · simp
theorem wantL_len {l : List Wel.Scr.Cmd} (h : ∀ c, c ∈ l → ¬ tooBig c) (ho : ∀ c, c ∈ l → Wel.Scr.okNums c) : (wantL l).length ≤ 1100 * l.length := by
  induction l with
  | nil => exact Nat.le_refl _
  | cons c l ih =>
    have h1 := ih (fun d hd => h d (List.mem_cons_of_mem _ hd)) (fun d hd => ho d (List.mem_cons_of_mem _ hd))
    have h2 := lineL_len (h c (List.mem_cons_self ..)) (ho c (List.mem_cons_self ..))
    have e : wantL (c :: l) = lineL c ++ wantL l := rfl
    rw [e, List.length_append, List.length_cons]; omega

set_option maxHeartbeats 2000000 in
set_option maxRecDepth 100000 in
theorem prints_walk (l : List Wel.Scr.Cmd) (A : Option Addr) (c : Nat) (w : World) (hI : Inv w) (hr : Kd.C k37 w A l.length (l.map encP)) (hc : l.length ≤ c) (hl : l.length * 64 ≤ 140737488351232) (hs : ∀ c, c ∈ l → Wel.Scr.okNums c) :
    Calls Tryd.prog 4 #[.slice A l.length c] w fun e w' => e = .returned (.bool true) ∧ Below w.heap.size w w' := by
  obtain ⟨K, hK⟩ := awake_ev
  have haw := Aside0.mk fun W hW => wellspringlaw26_awake.calls K true W hW (hK K (Nat.le_refl _))
  clear hK
  replace hI := Aside0.mk hI
  replace hr := Aside0.mk hr
  replace hs := Aside0.mk hs
  go_enter Tryd.func4, Tryd.ntmps4
  go_wp2_with (first
    | (go_at_call 6; refine (haw.out _ hI.out).mono ?_; rintro e w1 ⟨rfl, hb1⟩; replace hb1 := Aside0.mk hb1))
  have hI1 := Aside0.mk (hI.out.below hb1.out)
  have hr1 := Aside0.mk (Kd.C_below hr.out hb1.out)
  go_loopw [3, 4, 5, 19] (fun s3 s4 s5 s19 wr => ∃ (i : Nat), s19 = .int .i64 i ∧ s3 = .string (ba (wantL (l.take i))) ∧ s4 = .int .i64 (Wel.Scr.firstBad (l.take i)) ∧ Aside0 (i ≤ l.length ∧ Below w1.heap.size w1 wr ∧ OwnRow (k40.K w1) 40 3 wr w1.heap.size s5 ((l.take i).map encR) ∧ (∀ c, c ∈ l.take i → ¬ tooBig c))) (fun _ _ _ s19 _ => l.length - (intOf s19).toNat)
  case atStart => exact ⟨0, rfl, rfl, rfl, ⟨Nat.zero_le _, Below.refl _ _, OwnRow.none_ _ _ _ _ _, fun c hc => by simp at hc⟩⟩
  case round =>
    obtain ⟨i, rfl, rfl, rfl, HREL⟩ := hrel
    obtain ⟨hin, hbr, hown, hnb⟩ := HREL.out
    clear HREL
    replace hown := Aside0.mk hown
    replace hnb := Aside0.mk hnb
    by_cases hlt : i < l.length
    · have hltI : (i : Int) < (l.length : Int) := by omega
      have hi0 : (0 : Int) ≤ (i : Int) := by omega
      obtain ⟨ad, A1, c1, A2, c2, e, g0, g1, g2, hc1, hk1, hc2, hk2⟩ := at_T37 hr1.out (i : Int) (by omega) (by omega)
      cases e
      have hr1' := Kd.C_below hk1 hbr
      have hr2' := Kd.C_below hk2 hbr
      replace g0 := cell_below g0 hbr
      replace g1 := cell_below g1 hbr
      replace g2 := cell_below g2 hbr
      rw [rd_enc l i hlt] at g0 g1 g2 hc1 hr1' hc2 hr2' hk1 hk2
      rw [Int.toNat_natCast] at g0 g1 g2
      have hok := hs.out l[i] (List.getElem_mem hlt)
      generalize hx : l[i] = x at g0 g1 g2 hc1 hr1' hc2 hr2' hok hk1 hk2
      replace hx := Aside0.mk hx
      replace g0 : wr.cell? (ad.add (i * 3)) = some (.string (ba x.word)) := g0
      replace g1 : wr.cell? ⟨(ad.add (i * 3)).block, (ad.add (i * 3)).off + 1, none⟩ = some (.slice A1 (nats x.nums).length c1) := g1
      replace g2 : wr.cell? ⟨(ad.add (i * 3)).block, (ad.add (i * 3)).off + 2, none⟩ = some (.slice A2 (ints x.bytes).length c2) := g2
      replace hc1 := Aside0.mk hc1
      replace hc2 := Aside0.mk hc2
      replace hr1' := Aside0.mk hr1'
      replace hr2' := Aside0.mk hr2'
      replace hbr := Aside0.mk hbr
      replace hok := Aside0.mk hok
      by_cases hn : 20 < (nats x.nums).length
      · have hnI : (20 : Int) < ((nats x.nums).length : Int) := by omega
        clear hn
        go_wp2
        go_ret
        exact ⟨rfl, hb1.out.trans ((hbr.out.mono hb1.out.size).alloc (by have := hb1.out.size; have := hbr.out.size; omega) _)⟩
      have hnI : ¬ (20 : Int) < ((nats x.nums).length : Int) := by omega
      by_cases hbb : 300 < (ints x.bytes).length
      · have hbI : (300 : Int) < ((ints x.bytes).length : Int) := by omega
        clear hbb
        go_wp2
        go_ret
        exact ⟨rfl, hb1.out.trans ((hbr.out.mono hb1.out.size).alloc (by have := hb1.out.size; have := hbr.out.size; omega) _)⟩
      have hbI : ¬ (300 : Int) < ((ints x.bytes).length : Int) := by omega
      by_cases hw : 40 < (ba x.word).size
      · have hwI : (40 : Int) < ((ba x.word).size : Int) := by omega
        clear hw
        go_wp2
        go_ret
        exact ⟨rfl, hb1.out.trans ((hbr.out.mono hb1.out.size).alloc (by have := hb1.out.size; have := hbr.out.size; omega) _)⟩
      have hwI : ¬ (40 : Int) < ((ba x.word).size : Int) := by omega
      have hnot : ¬ tooBig x := by
        rw [nats_length] at hn
        rw [ints_length] at hbb
        rw [ba_size] at hw
        unfold tooBig; omega
      obtain ⟨KL, hKL⟩ := Line_ev x hok.out (by unfold tooBig at hnot; omega) (by unfold tooBig at hnot; omega) (by unfold tooBig at hnot; omega)
      have hline := fun W (hW : Below wr.heap.size wr W) => wellspringref26_Line.calls KL (ba x.word) A1 c1 (nats x.nums) A2 c2 (ints x.bytes) (ba (lineL x)) (Wel.Scr.check x : Int) W (Kd.C_below hr1'.out hW) hc1.out (Kd.C_below hr2'.out hW) hc2.out (by rw [← lineR_eq]; exact hKL KL (Nat.le_refl _))
      replace hline := Aside0.mk hline
      clear hKL hn hbb hw
      replace hnot := Aside0.mk hnot
      have hwl : (wantL (l.take i)).length ≤ 1100 * l.length := by
        have h1 := wantL_len hnb.out (fun d hd => hs.out d (List.mem_of_mem_take hd))
        rw [List.length_take] at h1; omega
      have hll := lineL_len hnot.out hok.out
      have hws := Aside0.mk (wantL_snoc hlt)
      have hfs := Aside0.mk (firstBad_snoc hlt)
      rw [hx.out] at hws hfs
      have htk := Aside0.mk (List.take_succ_eq_append_getElem hlt)
      rw [hx.out] at htk
      generalize wantL (l.take i) = WL at hwl hws
      generalize lineL x = LL at hline hll hws
      have hcat : ¬ 9223372036854775807 < (ba WL).size + (ba LL).size := by rw [ba_size, ba_size]; omega
      have hcat2 : (ba WL).size + (ba LL).size ≤ 9223372036854775807 := by omega
      replace hwl := Aside0.mk hwl
      replace hll := Aside0.mk hll
      generalize Wel.Scr.firstBad (l.take i) = q at hfs
      generalize Wel.Scr.check x = ck at hline hfs
      have hkx := Aside0.mk (k40_mk w1 (encR x) hc1.out hk1 hc2.out hk2)
      have hone : ∀ u ∈ ([.string (ba x.word), .slice A1 (nats x.nums).length c1, .slice A2 (ints x.bytes).length c2] : List Value), u.oneCell' = true := by
        intro u hu
        simp only [List.mem_cons, List.mem_nil_iff, or_false] at hu
        rcases hu with rfl | rfl | rfl <;> rfl
      replace hone := Aside0.mk hone
      by_cases hz : q = 0
      · subst hz
        rw [if_pos rfl] at hfs
        go_wp2_with (first
          | (go_at_call 11; refine (hline.out _ ((Below.refl _ _).alloc (Nat.le_refl _) _)).mono ?_; rintro e w3 ⟨rfl, hb3⟩; have hrow3 := (hb3.block _ (by simp)).trans (blk_new wr (.cells #[.string (ba x.word), .slice A1 (nats x.nums).length c1, .slice A2 (ints x.bytes).length c2] 37)); have q0 := (blk_cell hrow3 0).trans rfl; have q1 := (blk_cell hrow3 1).trans rfl; have q2 := (blk_cell hrow3 2).trans rfl; replace hrow3 := Aside0.mk hrow3; have hb4 := Aside0.mk ((hbr.out.alloc hbr.out.size (.cells #[.string (ba x.word), .slice A1 (nats x.nums).length c1, .slice A2 (ints x.bytes).length c2] 37)).trans (hb3.mono (by have := hbr.out.size; simp; omega))); have ho3 := Aside0.mk (OwnRow.below hown.out (((Below.refl _ wr).alloc (Nat.le_refl _) (.cells #[.string (ba x.word), .slice A1 (nats x.nums).length c1, .slice A2 (ints x.bytes).length c2] 37)).trans (hb3.mono (by simp)))))
          | (at_builtin; refine OwnRow.append (w0 := w1) w1.heap.size rfl (.tmp 50) (.tmp 52) 27 40 _ 3 64 rfl Tryd.underlying27 info40 rfl (by decide) (by decide) _ _ (encR x) [.string (ba x.word), .slice A1 (nats x.nums).length c1, .slice A2 (ints x.bytes).length c2] rfl rfl hkx.out rfl hone.out ho3.out hb4.out hb4.out.size ?cB ?_))
        case cB => rw [List.length_map, List.length_take]; omega
        intro v5 w5 hown5 hb5 _ _
        replace hown5 := Aside0.mk hown5
        replace hb5 := Aside0.mk hb5
        go_wp2
        go_roundw
        case rel =>
          refine ⟨i + 1, rfl, by rw [hws.out, ← ba_append], by rw [hfs.out], ⟨hlt, hb5.out, ?_, ?_⟩⟩
          · rw [htk.out, List.map_append, List.map_take]; exact hown5.out
          · rw [htk.out]
            intro d hd
            rcases List.mem_append.1 hd with hd | hd
            · exact hnb.out d hd
            · rw [List.mem_singleton.1 hd]; exact hnot.out
        case measure => simp [intOf]; omega
      · have hzB : ((q : Int) == 0) = false := by rw [beq_eq_false_iff_ne]; omega
        rw [if_neg hz] at hfs
        replace hz := Aside0.mk hz
        go_wp2_with (first
          | (go_at_call 11; refine (hline.out _ ((Below.refl _ _).alloc (Nat.le_refl _) _)).mono ?_; rintro e w3 ⟨rfl, hb3⟩; have hrow3 := (hb3.block _ (by simp)).trans (blk_new wr (.cells #[.string (ba x.word), .slice A1 (nats x.nums).length c1, .slice A2 (ints x.bytes).length c2] 37)); have q0 := (blk_cell hrow3 0).trans rfl; have q1 := (blk_cell hrow3 1).trans rfl; have q2 := (blk_cell hrow3 2).trans rfl; replace hrow3 := Aside0.mk hrow3; have hb4 := Aside0.mk ((hbr.out.alloc hbr.out.size (.cells #[.string (ba x.word), .slice A1 (nats x.nums).length c1, .slice A2 (ints x.bytes).length c2] 37)).trans (hb3.mono (by have := hbr.out.size; simp; omega))); have ho3 := Aside0.mk (OwnRow.below hown.out (((Below.refl _ wr).alloc (Nat.le_refl _) (.cells #[.string (ba x.word), .slice A1 (nats x.nums).length c1, .slice A2 (ints x.bytes).length c2] 37)).trans (hb3.mono (by simp)))))
          | (at_builtin; refine OwnRow.append (w0 := w1) w1.heap.size rfl (.tmp 50) (.tmp 52) 27 40 _ 3 64 rfl Tryd.underlying27 info40 rfl (by decide) (by decide) _ _ (encR x) [.string (ba x.word), .slice A1 (nats x.nums).length c1, .slice A2 (ints x.bytes).length c2] rfl rfl hkx.out rfl hone.out ho3.out hb4.out hb4.out.size ?cB ?_))
        case cB => rw [List.length_map, List.length_take]; omega
        intro v5 w5 hown5 hb5 _ _
        replace hown5 := Aside0.mk hown5
        replace hb5 := Aside0.mk hb5
        go_wp2
        go_roundw
        case rel =>
          refine ⟨i + 1, rfl, by rw [hws.out, ← ba_append], by rw [hfs.out], ⟨hlt, hb5.out, ?_, ?_⟩⟩
          · rw [htk.out, List.map_append, List.map_take]; exact hown5.out
          · rw [htk.out]
            intro d hd
            rcases List.mem_append.1 hd with hd | hd
            · exact hnb.out d hd
            · rw [List.mem_singleton.1 hd]; exact hnot.out
        case measure => simp [intOf]; omega
    · obtain rfl : i = l.length := by omega
      have hltI : ¬ (l.length : Int) < (l.length : Int) := by omega
      rw [List.take_length] at hown hnb
      rw [List.take_length]
      by_cases hmany : 40 < l.length
      · have hmI : (40 : Int) < (l.length : Int) := by omega
        replace hbr := Aside0.mk hbr
        clear hmany
        go_wp2
        go_ret
        exact ⟨rfl, hb1.out.trans (hbr.out.mono hb1.out.size)⟩
      have hmI : ¬ (40 : Int) < (l.length : Int) := by omega
      have hIr := Aside0.mk (hI1.out.below hbr)
      have hrr := Aside0.mk (Kd.C_below hr1.out hbr)
      have hsm : ∀ c, c ∈ l → cmdSmall c := fun c hc => by
        have h1 := hnb.out c hc
        unfold tooBig at h1
        exact ⟨by omega, by omega, by omega, hs.out c hc⟩
      have hprint := fun W (hW : Below wr.heap.size wr W) => print_walk l A c W (hIr.out.below hW) (Kd.C_below hrr.out hW) hc (by omega) hsm _ rfl
      replace hbr := Aside0.mk hbr
      by_cases hfb : Wel.Scr.firstBad l = 0
      · have hchk := Wel.Scr.firstBad_zero.1 hfb
        have hwl : wantL l = Wel.Scr.linesOf l := wantL_ok hchk
        have hlen : (Wel.Scr.linesOf l).length ≤ 65536 := by
          have := wantL_len hnb.out hs.out
          rw [hwl] at this; omega
        have hpr : Wel.Scr.print l = (Wel.Scr.linesOf l, 0) := by rw [Wel.Scr.print_eq, if_neg (by rw [hfb]; simp), if_pos hlen]
        rw [hpr] at hprint
        have hpl : Wel.Scr.parse (Wel.Scr.linesOf l) = (l, 0, 0) := Wel.Scr.parse_lines (fun c hc => ⟨hchk c hc, hs.out c hc⟩) hlen
        obtain ⟨KP, hKP⟩ := ParseP_ev (Wel.Scr.linesOf l)
        have hpp : parseP (Wel.Scr.linesOf l) = (l.map encP, 0, 0) := by rw [parseP, hpl]; rfl
        have hparse := fun W (hW : Below wr.heap.size wr W) => script_Parse.calls KP (ba (Wel.Scr.linesOf l)) (l.map encP) 0 0 W (hIr.out.below hW) (by rw [← hpp]; exact hKP KP (Nat.le_refl _))
        obtain ⟨KS, hKS⟩ := Same26_same l (by omega) fun c hc => ⟨by have := (hsm c hc).2.1; omega, by have := (hsm c hc).2.2.1; omega⟩
        obtain ⟨Ad, cd, rfl, hcd, hrd⟩ := OwnRow.reads hown.out
        rw [List.length_map] at hcd hrd
        rw [List.length_map]
        have hsame := fun W (hW : Below wr.heap.size wr W) A0 c0 (h0 : Kd.C k37 W A0 l.length (l.map encP)) (hc0 : l.length ≤ c0) => wellspringlaw26_Same.calls KS A0 c0 (l.map encP) Ad cd (l.map encR) true W (by rw [List.length_map]; exact h0) (by rw [List.length_map]; exact hc0) (by rw [List.length_map]; exact ReadsRow.imp_ hrd hW fun p c h => k40.K_below (hbr.out.trans (hW.mono hbr.out.size)) h) (by rw [List.length_map]; exact hcd) (hKS KS (Nat.le_refl _))
        rw [List.length_map, List.length_map] at hsame
        rw [hwl]
        replace hprint := Aside0.mk hprint
        replace hparse := Aside0.mk hparse
        replace hsame := Aside0.mk hsame
        have hqI : (((0 : Nat) : Int) != 0) = false := rfl
        clear hpr hsm hwl hpl hpp hKP hKS hchk hcd hrd
        rw [hfb]
        replace hfb := Aside0.mk hfb
        generalize Wel.Scr.linesOf l = S at hprint hparse hlen
        go_wp2_with (first
          | (go_at_call 10; refine (hprint.out _ (Below.refl _ _)).mono ?_; rintro e w6 ⟨rfl, hb6⟩; replace hb6 := Aside0.mk hb6)
          | (go_at_call 7; refine (hparse.out _ hb6.out).mono ?_; rintro e w7 ⟨v7, rfl, ho7, hb7⟩; replace hb7 := Aside0.mk (hb6.out.trans (hb7.mono hb6.out.size)); obtain ⟨A7, c7, rfl, hl7, hr7⟩ := Kd.S_reads ho7; rw [List.length_map] at hl7 hr7; rw [List.length_map]; clear ho7; replace hl7 := Aside0.mk hl7; replace hr7 := Aside0.mk hr7)
          | (go_at_call 9; refine (hsame.out _ hb7.out A7 c7 hr7.out hl7.out).mono ?_; rintro e w8 ⟨rfl, hb8⟩; replace hb8 := Aside0.mk hb8))
        go_ret
        exact ⟨by first | rfl | simp, hb1.out.trans ((hbr.out.trans ((hb7.out.trans (hb8.out.mono hb7.out.size)).mono hbr.out.size)).mono hb1.out.size)⟩
      · have hpr : Wel.Scr.print l = ([], Wel.Scr.firstBad l) := by rw [Wel.Scr.print_eq, if_pos hfb]
        rw [hpr] at hprint
        replace hprint := Aside0.mk hprint
        clear hpr hsm
        generalize Wel.Scr.firstBad l = q at hfb hprint
        have hqI : ((q : Int) != 0) = true := by rw [bne_iff_ne]; omega
        have hqJ : ¬ ((q : Int) = 0) := by omega
        go_wp2_with (first
          | (go_at_call 10; refine (hprint.out _ (Below.refl _ _)).mono ?_; rintro e w6 ⟨rfl, hb6⟩; replace hb6 := Aside0.mk hb6))
        go_ret
        exact ⟨by rw [ba_toList]; rfl, hb1.out.trans ((hbr.out.trans (hb6.out.mono hbr.out.size)).mono hb1.out.size)⟩
end Go.Proofs.YtmndhgiblpfcgaaDoor.W
end

section
/-
ScriptPrints: of any commands the program's lines are the document's, or why there are none, and parsed they are as they were: the given card is proved, without a condition.
-/
namespace Go.Proofs.YtmndhgiblpfcgaaDoor.W
open Go.ChangeShapes Go.WideShapes Go.ChangeAt Go.RowKit
set_option linter.unusedVariables false

theorem cmd_bytes : Tryd.prog.bytesOf 37 = 64 := by kernel_rfl
theorem laidOut0 : laidOutB Tryd.prog = true := by kernel_rfl
theorem reach_cmds {H : Type} {ts : List TypeId} {ds es sp : List (DataW H)} (hsz : (DataW.weightsEach Tryd.prog (23 :: ts) (.slice es sp :: ds)).all (· ≤ reachBytes) = true) : (es.length + sp.length) * 64 ≤ 140737488351232 := by
  have h2 : (es.length + sp.length) * Tryd.prog.bytesOf 37 ≤ reachBytes := of_decide_eq_true (List.all_eq_true.1 hsz ((es.length + sp.length) * Tryd.prog.bytesOf 37) (by simp [DataW.weights, DataW.weightsEach, Tryd.underlying23]))
  rw [cmd_bytes] at h2
  simpa [reachBytes] using h2
theorem prints_reads (os : Os) {H : Type} (enc : TypeId × Value → H) : ∃ places, DataW.whole enc Tryd.prog ((laidWorld os).forCall (fun _ _ => 0) ⟨#[], #[.slice none 0 0], []⟩).memory Tryd.f4.params.toList Rows.scriptPrintsSpec.vars false #[Value.slice none 0 0].toList 8 = some ([.nil], [], places) :=
  ⟨[], by kernel_rfl⟩

set_option maxRecDepth 100000 in
theorem prints_lifted (os : Os) (started : os.Started) (H : Type) (enc : TypeId × Value → H) (F : Stop.Interp) :
    ReturnsInHanded {} Tryd.checked os 4 .any ((OpenSpec.ofChange Rows.scriptPrintsSpec).preRow enc Tryd.prog Tryd.f4 Rows.scriptPrintsRow.domain false Rows.scriptPrintsRow.laid) (((OpenSpec.ofChange Rows.scriptPrintsSpec).at F).post enc Tryd.prog Tryd.f4 false true false false) := by
  obtain ⟨places, hx⟩ := prints_reads os enc
  refine returnsInHanded_of_row (C := Tryd.checked) (s := OpenSpec.ofChange Rows.scriptPrintsSpec) own0 started (by kernel_rfl) Tryd.func4
    (witness_row_atRef (enc := enc) (C := Tryd.checked) false (laidWorld os) #[.slice none 0 0] rfl (by kernel_rfl) (by kernel_rfl) (by kernel_rfl)
      (OpenSpec.preRow_of_cond 8 hx (by kernel_rfl) (fun k hk => by cases hk) (by kernel_rfl) (laid_met os _))) ?_
  intro W base args ds gs before hval0 hW _ _ hz hL hsh _
  have hval : ∀ (j : Nat) t v, Tryd.f4.params[j]? = some t → args[j]? = some v → Value.okWide Tryd.prog W .any base t v := hval0
  have hW' := hW
  obtain ⟨p, q, hA0, hV0, rfl, _, _⟩ := hW
  have hA : DataW.TrodAll enc Tryd.prog W 0 (fun _ => true) true Tryd.f4.params.toList args.toList ds p := hA0
  rw [Tryd.params4] at hA hval
  obtain ⟨v0, d0, rfl, rfl, h0⟩ := trodAll_one hA
  obtain ⟨rfl, rfl⟩ := trodVars_none hV0
  obtain ⟨a0, len0, cap0, rfl⟩ := okWide_slice Tryd.underlying23 (hval 0 23 v0 rfl rfl)
  clear hA0 hV0 hval0
  have k0 := h0
  have lt0 : ∀ x ∈ p, x.block < W.heap.size := by obtain ⟨m, hm⟩ := k0; exact DataW.trod_lt m _ _ _ hm
  have hI : Inv W := inv_of_laid hsh hL (.tail _ (.tail _ (.head _))) (.tail _ (.tail _ (.tail _ (.tail _ (.tail _ (.head _)))))) (.tail _ (.tail _ (.tail _ (.tail _ (.head _)))))
  obtain ⟨fuel, hf⟩ := h0
  obtain ⟨A, c, l, e0, hlc, hcm, hr, hok, hd⟩ := open_cmds (v := .slice a0 len0 cap0) (fun _ => rfl) hf
  have hb : l.length * 64 ≤ 140737488351232 := by
    rcases hd with ⟨_, rfl⟩ | ⟨es, sp, e1, e2⟩
    · omega
    · simp only at e1
      subst e1
      have := reach_cmds (ts := []) (ds := []) hz
      rw [e2] at this
      have : l.length * 64 ≤ c * 64 := Nat.mul_le_mul_right _ hlc
      omega
  injection e0 with e01 e02 e03
  subst e01 e02 e03
  refine (prints_walk l a0 cap0 W hI hr hlc hb hok).mono ?_
  rintro e W' ⟨rfl, bel⟩
  have e1 : ((OpenSpec.ofChange Rows.scriptPrintsSpec).at F).fn H ([d0] ++ []) = { results := [.lit (.bool true)], args := [d0] } := rfl
  refine ⟨_, rfl, _, _, _, [], p, [], hW', ?_, ?_, ?_, bel.frame _, fun h => by cases h⟩
  · rw [e1]; exact trodAll_mk1 (shut_bool Tryd.underlying4 true)
  · rw [e1]; exact trodAll_mk1 (Below.trod laidOut0 (by kernel_rfl) (of_decide_eq_true (by kernel_rfl)) k0 bel lt0)
  · rw [e1]; rfl
theorem prints_said : Rows.ScriptPrintsSaid :=
  OpenClaim.holds_of_cond 4 Tryd.f4 rfl rfl rfl rfl rfl rfl rfl ⟨rfl, rfl, rfl, rfl, rfl⟩ rfl rfl rfl rfl rfl (by kernel_rfl) Tryd.func4 (by kernel_rfl)
    (of_decide_eq_true (by kernel_rfl)) (by unfold Func.isWrapper; first | (rw [if_pos (by decide +kernel)]; kernel_rfl) | (rw [if_neg (by decide +kernel)]; exact ⟨rfl, rfl⟩))
    (fun os started H enc _ F => by rw [OpenClaim.pre_eq_preRow]; exact prints_lifted os started H enc F)
theorem prints_plain (f : FuncId) (fn : Func) (hf : Tryd.pinned.checked.prog.funcNamed "wellspring/wellspringlaw26.ScriptPrints" = some f) (hfn : Tryd.pinned.checked.prog.funcs[f]? = some fn) :
    true = Tryd.pinned.checked.prog.looks [] ∧ ∀ (j : Nat) t, fn.params[j]? = some t → Tryd.pinned.checked.prog.wantsStandIn t = false := by
  obtain rfl : f = 4 := Option.some.inj ((show Tryd.prog.funcNamed "wellspring/wellspringlaw26.ScriptPrints" = some 4 by kernel_rfl).symm.trans hf) |>.symm
  obtain rfl : fn = Tryd.f4 := (Option.some.inj (Tryd.func4.symm.trans hfn)).symm
  refine ⟨by kernel_rfl, fun j t ht => ?_⟩
  rw [Tryd.params4] at ht
  obtain rfl : t = 23 := by simpa using Array.mem_of_getElem? ht
  exact (show Tryd.prog.wantsStandIn 23 = false by kernel_rfl)
theorem scriptPrints_card : Rows.ScriptPrintsCardSaid :=
  Claim7.holds_tied_plain_at .later [] _ _ _ _ prints_said (fun _ h => by cases h) (by kernel_rfl) (fun _ h => by cases h) scriptPrints_row_tie rfl ⟨rfl, rfl⟩ (by kernel_rfl) rfl prints_plain (by kernel_rfl)
end Go.Proofs.YtmndhgiblpfcgaaDoor.W
end
