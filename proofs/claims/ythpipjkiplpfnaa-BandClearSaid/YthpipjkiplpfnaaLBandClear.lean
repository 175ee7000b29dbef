/- Whatever objects are put one behind the other: the bands lie clear of each other, and each slot is as wide as can be. -/
import Derived.Test.YthpipjkiplpfnaaLPBandClear
import Derived.Test.YthpipjkiplpfnaaLSBandClear
import Derived.Test.YthpipjkiplpfnaaMBandClear4
namespace Go.Proofs.Ythpipjkiplpfnaa.LBandClear
open Go.RowKit Go.Proofs.Ythpipjkiplpfnaa.PBandClear Go.Proofs.YthpipjkiplpfnaaW.PrintWords Go.Proofs.YthpipjkiplpfnaaW.PrintLast
set_option linter.unusedVariables false
set_option linter.unusedSimpArgs false
set_option linter.unusedSectionVars false

theorem awake_tells : Ev (fun k => quirelaw15_awake.f k) true := Ev.of (fun k => quirelaw15_awake.mono k) (k := 60) (by decide +kernel)

theorem putY_ge (l : List S24) (s : Int) (d : Nat) : ∀ i y, y ≤ putY l s d i y := by
  induction d with
  | zero => intro i y; exact Int.le_refl _
  | succ d ih =>
    intro i y
    simp only [putY]
    have g := mx_ge y ((at' l i).f1 + (at' l i).f2)
    split
    · have := ih (i + 1) (mx y ((at' l i).f1 + (at' l i).f2)); omega
    · exact ih (i + 1) y
theorem putY_all (l : List S24) (s : Int) (d : Nat) : ∀ i y j, i ≤ j → j < i + d → (at' l j).f0 = s → (at' l j).f1 + (at' l j).f2 ≤ putY l s d i y := by
  induction d with
  | zero => intro i y j h1 h2; omega
  | succ d ih =>
    intro i y j h1 h2 hs
    simp only [putY]
    by_cases e : j = i
    · subst e
      rw [if_pos hs]
      have g := mx_ge y ((at' l j).f1 + (at' l j).f2)
      have := putY_ge l s d (j + 1) (mx y ((at' l j).f1 + (at' l j).f2))
      omega
    · exact ih (i + 1) _ j (by omega) (by omega) hs
theorem putY_le (l : List S24) (s M : Int) (d : Nat) : ∀ i y, y ≤ M → (∀ j, i ≤ j → j < i + d → (at' l j).f1 + (at' l j).f2 ≤ M) → putY l s d i y ≤ M := by
  induction d with
  | zero => intro i y h _; exact h
  | succ d ih =>
    intro i y h hall
    simp only [putY]
    have h0 := hall i (by omega) (by omega)
    have g := mx_ge y ((at' l i).f1 + (at' l i).f2)
    refine ih (i + 1) _ ?_ (fun j h1 h2 => hall j (by omega) (by omega))
    split <;> omega
theorem clearY_ge (l : List S24) (d : Nat) : ∀ i y, y ≤ clearY l d i y := by
  induction d with
  | zero => intro i y; exact Int.le_refl _
  | succ d ih =>
    intro i y
    simp only [clearY]
    have g := mx_ge y ((at' l i).f1 + (at' l i).f2)
    have := ih (i + 1) (mx y ((at' l i).f1 + (at' l i).f2)); omega
theorem clearY_all (l : List S24) (d : Nat) : ∀ i y j, i ≤ j → j < i + d → (at' l j).f1 + (at' l j).f2 ≤ clearY l d i y := by
  induction d with
  | zero => intro i y j h1 h2; omega
  | succ d ih =>
    intro i y j h1 h2
    simp only [clearY]
    by_cases e : j = i
    · subst e
      have g := mx_ge y ((at' l j).f1 + (at' l j).f2)
      have := clearY_ge l d (j + 1) (mx y ((at' l j).f1 + (at' l j).f2))
      omega
    · exact ih (i + 1) _ j (by omega) (by omega)

/-- n bands that have been put into a column w wide -/
structure Placed (w : Int) (l : List S24) (n : Nat) : Prop where
  len : l.length = n
  one : ∀ i, i < n → isSide (at' l i).f0 ∧ 0 ≤ (at' l i).f1 ∧ (at' l i).f1 + (at' l i).f2 ≤ 1000 + 200 * (n : Int) ∧ 0 ≤ (at' l i).f2 ∧ (at' l i).f2 ≤ 200 ∧ 0 ≤ (at' l i).f3 ∧ 2 * (at' l i).f3 ≤ w - 10
theorem Placed.fine {w : Int} {l : List S24} {n : Nat} (h : Placed w l n) (hn : n ≤ 12) (h0 : 10 ≤ w) (h1 : w ≤ 4095) : fine l := by
  intro i
  by_cases hi : i < n
  · obtain ⟨a, b, c, d, e, f, g⟩ := h.one i hi
    unfold badB inD
    rw [if_pos a, if_pos (by omega)]
  · have : at' l i = z24 := by
      have := h.len
      unfold at'
      rw [List.getD_eq_getElem?_getD, List.getElem?_eq_none (by omega)]
      rfl
    rw [this]
    exact badB_z
theorem Placed.wrong {w : Int} {l : List S24} {n : Nat} (h : Placed w l n) (hn : n ≤ 12) (h0 : 10 ≤ w) (h1 : w ≤ 4095) : wrongOf l = 0 := wrongOf_fine (by have := h.len; omega) (h.fine hn h0 h1)
theorem at_snoc_lt (l : List S24) (b : S24) (i : Nat) (h : i < l.length) : at' (l ++ [b]) i = at' l i := by
  unfold at'
  rw [List.getD_eq_getElem?_getD, List.getD_eq_getElem?_getD, List.getElem?_append_left h]
theorem at_snoc_eq (l : List S24) (b : S24) : at' (l ++ [b]) l.length = b := by simp [at']
theorem Placed.snoc {w : Int} {l : List S24} {n : Nat} (h : Placed w l n) (b : S24) (hb : isSide b.f0 ∧ 0 ≤ b.f1 ∧ b.f1 + b.f2 ≤ 1000 + 200 * ((n : Int) + 1) ∧ 0 ≤ b.f2 ∧ b.f2 ≤ 200 ∧ 0 ≤ b.f3 ∧ 2 * b.f3 ≤ w - 10) : Placed w (l ++ [b]) (n + 1) := by
  have hl := h.len
  refine ⟨by simp [hl], fun i hi => ?_⟩
  by_cases e : i < n
  · rw [at_snoc_lt l b i (by omega)]
    obtain ⟨a, b, c, d, e, f, g⟩ := h.one i e
    exact ⟨a, b, by omega, d, e, f, g⟩
  · have : i = l.length := by omega
    subst this
    rw [at_snoc_eq]
    obtain ⟨a, b, c, d, e, f, g⟩ := hb
    exact ⟨a, b, by omega, d, e, f, g⟩

theorem overlap_tells (a b c d : Int) (h1 : -9000000 ≤ a) (h2 : a ≤ 9000000) (h3 : -9000000 ≤ b) (h4 : b ≤ 9000000) (h5 : -9000000 ≤ c) (h6 : c ≤ 9000000) (h7 : -9000000 ≤ d) (h8 : d ≤ 9000000) :
    quirelaw15_overlap.f a b c d = some (decide (0 < b ∧ 0 < d ∧ a < c + d ∧ c < a + b)) := by
  unfold quirelaw15_overlap.f
  rw [w64 (x := c + d) (by omega) (by omega), w64 (x := a + b) (by omega) (by omega)]
  by_cases e1 : b > 0
  · by_cases e2 : d > 0
    · by_cases e3 : a < c + d
      · rw [if_pos e1, if_pos e2, if_pos e3]
        congr 1
        exact decide_eq_decide.2 ⟨fun q => ⟨e1, e2, e3, q⟩, fun q => q.2.2.2⟩
      · rw [if_pos e1, if_pos e2, if_neg e3, decide_eq_false (fun q => e3 q.2.2.1)]
    · rw [if_pos e1, if_neg e2, decide_eq_false (fun q => e2 q.2.1)]
  · rw [if_neg e1, decide_eq_false (fun q => e1 q.1)]

theorem Placed.over {w : Int} {l : List S24} {n : Nat} (h : Placed w l n) (hn : n ≤ 12) (j : Nat) (hj : j < n) (Y p : Int) (hY0 : 0 ≤ Y) (hY1 : Y ≤ 100000) (p0 : 1 ≤ p) (p1 : p ≤ 255) :
    quirelaw15_overlap.f Y p (at' l j).f1 (at' l j).f2 = some (decide (0 < p ∧ 0 < (at' l j).f2 ∧ Y < (at' l j).f1 + (at' l j).f2 ∧ (at' l j).f1 < Y + p)) := by
  obtain ⟨_, f1, f2, f3, f4, _, _⟩ := h.one j hj
  exact overlap_tells Y p (at' l j).f1 (at' l j).f2 (by omega) (by omega) (by omega) (by omega) (by omega) (by omega) (by omega) (by omega)
theorem taken_half {l : List S24} {w : Int} {n : Nat} (h : Placed w l n) (s y p : Int) (d : Nat) : ∀ i m, i + d ≤ n → 0 ≤ m → 2 * m ≤ w - 10 → 0 ≤ taken l s y p d i m ∧ 2 * taken l s y p d i m ≤ w - 10 := by
  induction d with
  | zero => intro i m _ h0 h1; exact ⟨h0, h1⟩
  | succ d ih =>
    intro i m hi h0 h1
    simp only [taken]
    obtain ⟨_, _, _, _, _, f3, f4⟩ := h.one i (by omega)
    have g := mx_ge m (at' l i).f3
    refine ih _ _ (by omega) ?_ ?_ <;> split <;> omega

theorem slot_rd (w : Int) (l : List S24) (p : Int) (n : Nat) : ∀ (i : Nat) (y : Int), i < n → (slotsOf w l p n y).getD i z43 = slotOf w l (y + (i : Int) * p) p := by
  induction n with
  | zero => intro i y h; omega
  | succ n ih =>
    intro i y h
    simp only [slotsOf]
    cases i with
    | zero => simp
    | succ i =>
      rw [List.getD_cons_succ, ih i (y + p) (by omega)]
      congr 1
      have : ((i + 1 : Nat) : Int) * p = (i : Int) * p + p := by rw [Int.natCast_add, Int.add_mul]; simp
      rw [this]
      omega

section
variable (w : Int) (hw0 : 10 ≤ w) (hw1 : w ≤ 4095) (y : Int) (y0 : 0 ≤ y) (y1 : y ≤ 4095) (p : Int) (p0 : 1 ≤ p) (p1 : p ≤ 255)
include hw0 hw1 y0 y1 p0 p1

theorem last_loop (l : List S24) (n : Nat) (hn : n ≤ 12) (h : Placed w l n) (c : Int) (hc : y ≤ c) (d : Nat) : ∀ i : Nat, l.length = i + d → (∀ j, j < l.length → (at' l j).f1 + (at' l j).f2 ≤ c) → Ev (fun k => quirelaw15_BandClear.l4 k y true l c 0 (i : Int)) true := by
  induction d with
  | zero =>
    intro i hi hall
    refine up ?_
    have e : ¬ ((i : Int) < (l.length : Int)) := by omega
    have e2 : decide (c ≥ y) = true := decide_eq_true hc
    simp only [quirelaw15_BandClear.l4, if_neg e, if_true, e2]
    exact Ev.now _
  | succ d ih =>
    intro i hi hall
    have e : (i : Int) < (l.length : Int) := by omega
    have e0 : (0 : Int) ≤ (i : Int) := by omega
    have hwi : wrap64 ((i : Int) + 1) = ((i + 1 : Nat) : Int) := by have := h.len; rw [w64 (by omega) (by omega)]; omega
    have hle := hall i (by omega)
    obtain ⟨_, f1, f2, f3, f4, _, _⟩ := h.one i (by have := h.len; omega)
    have hw2 : wrap64 ((at' l i).f1 + (at' l i).f2) = (at' l i).f1 + (at' l i).f2 := w64 (by omega) (by omega)
    have e3 : ¬ ((at' l i).f1 + (at' l i).f2 > c) := by omega
    refine up ?_
    simp only [quirelaw15_BandClear.l4, if_pos e, if_pos e0, rd_at, hw2, if_neg e3, hwi]
    exact ih (i + 1) (by omega) hall

theorem inner_loop (l : List S24) (n : Nat) (hn : n ≤ 12) (h : Placed w l n) (sl : List S43) (i : Nat) (hi : i < 256) (hsl : sl.length = 256) (Y A B : Int) (hYe : Unit → wrap64 (y + wrap64 ((i : Int) * p)) = Y) (hY0 : 0 ≤ Y) (hY1 : Y ≤ 100000) (hA : 0 ≤ A) (hB : 0 ≤ B) (hAB : A + B ≤ w - 10)
    (h0 : (rd_T43 sl (i : Int)).f0 = A) (h1 : (rd_T43 sl (i : Int)).f1 = w - A - B)
    (hnext : Ev (fun k => quirelaw15_BandClear.l2 k w y p true l sl ((i + 1 : Nat) : Int)) true) (d : Nat) : ∀ (j : Nat) (a b : Int), l.length = j + d → taken l 0 Y p d j a = A → taken l 2 Y p d j b = B →
    Ev (fun k => quirelaw15_BandClear.l3 k w y p true l sl (i : Int) a b (j : Int)) true := by
  have hlen := h.len
  have hwi : wrap64 ((i : Int) + 1) = ((i + 1 : Nat) : Int) := by rw [w64 (by omega) (by omega)]; omega
  induction d with
  | zero =>
    intro j a b hj ha hb
    simp only [taken] at ha hb
    subst ha
    subst hb
    have e : ¬ ((j : Int) < (l.length : Int)) := by omega
    have e1 : (0 : Int) ≤ (i : Int) := by omega
    have e2 : (i : Int) < (sl.length : Int) := by omega
    have e3 : ¬ (w - a - b < 10) := by omega
    have e4 : wrap64 (a + (w - a - b)) = wrap64 (w - b) := by congr 1; omega
    refine up ?_
    simp only [quirelaw15_BandClear.l3, if_neg e, if_pos e1, if_pos e2, h0, h1, if_neg e3, if_true, hwi]
    rw [e4]
    simp only [if_true]
    exact hnext
  | succ d ih =>
    intro j a b hj ha hb
    have e : (j : Int) < (l.length : Int) := by omega
    have e0 : (0 : Int) ≤ (j : Int) := by omega
    have hwj : wrap64 ((j : Int) + 1) = ((j + 1 : Nat) : Int) := by rw [w64 (by omega) (by omega)]; omega
    obtain ⟨sd, f1, f2, f3, f4, _, _⟩ := h.one j (by omega)
    have ho := h.over hn j (by omega) Y p hY0 hY1 p0 p1
    simp only [taken] at ha hb
    refine up ?_
    simp only [quirelaw15_BandClear.l3, if_pos e, if_pos e0, hYe (), rd_at, ho, Option.bind_some, hwj]
    by_cases hb2 : beside (at' l j) Y p
    · have c : (0 < p ∧ 0 < (at' l j).f2 ∧ Y < (at' l j).f1 + (at' l j).f2 ∧ (at' l j).f1 < Y + p) := ⟨by omega, hb2.1, hb2.2.1, hb2.2.2⟩
      simp only [decide_eq_true c, if_true]
      rcases sd with sd | sd
      · rw [if_pos ⟨sd, hb2⟩] at ha
        rw [if_neg (fun q => by have := q.1; omega)] at hb
        simp only [if_pos sd]
        exact ih (j + 1) _ _ (by omega) ha hb
      · rw [if_neg (fun q => by have := q.1; omega)] at ha
        rw [if_pos ⟨sd, hb2⟩] at hb
        have sn : ¬ ((at' l j).f0 = 0) := by omega
        simp only [if_neg sn]
        exact ih (j + 1) _ _ (by omega) ha hb
    · have c : ¬ (0 < p ∧ 0 < (at' l j).f2 ∧ Y < (at' l j).f1 + (at' l j).f2 ∧ (at' l j).f1 < Y + p) := fun q => hb2 ⟨q.2.1, q.2.2.1, q.2.2.2⟩
      rw [if_neg (fun q => hb2 q.2)] at ha hb
      simp only [decide_eq_false c, Bool.false_eq_true, if_false]
      exact ih (j + 1) _ _ (by omega) ha hb

theorem slot_loop (l : List S24) (n : Nat) (hn : n ≤ 12) (h : Placed w l n) (d : Nat) : ∀ i : Nat, 256 = i + d → Ev (fun k => quirelaw15_BandClear.l2 k w y p true l (slotsOf w l p 256 y) (i : Int)) true := by
  have hsl := slotsOf_length w l p 256 y
  have hlen := h.len
  induction d with
  | zero =>
    intro i hi
    have e : ¬ ((i : Int) < ((slotsOf w l p 256 y).length : Int)) := by omega
    refine up ?_
    simp only [quirelaw15_BandClear.l2, if_neg e]
    refine (Clear_tells l y).bind ?_
    unfold ClearOf
    rw [if_neg (fun q => q (h.wrong hn hw0 hw1)), if_pos ⟨y0, y1⟩]
    exact last_loop w hw0 hw1 y y0 y1 p p0 p1 l n hn h _ (clearY_ge l l.length 0 y) l.length 0 (by omega) (fun j hj => clearY_all l l.length 0 y j (by omega) (by omega))
  | succ d ih =>
    intro i hi
    have e : (i : Int) < ((slotsOf w l p 256 y).length : Int) := by omega
    have hs : rd_T43 (slotsOf w l p 256 y) (i : Int) = slotOf w l (y + (i : Int) * p) p := slot_rd w l p 256 i y (by omega)
    have hip0 : 0 ≤ (i : Int) * p := Int.mul_nonneg (by omega) (by omega)
    have hip : (i : Int) * p ≤ 65280 := by
      have h1 : (i : Int) * p ≤ (i : Int) * 255 := Int.mul_le_mul_of_nonneg_left p1 (by omega)
      omega
    have hip1 : wrap64 ((i : Int) * p) = (i : Int) * p := w64 (by omega) (by omega)
    have hip2 : wrap64 (y + (i : Int) * p) = y + (i : Int) * p := w64 (by omega) (by omega)
    obtain ⟨ta0, ta1⟩ := taken_half h 0 (y + (i : Int) * p) p l.length 0 0 (by omega) (by omega) (by omega)
    obtain ⟨tb0, tb1⟩ := taken_half h 2 (y + (i : Int) * p) p l.length 0 0 (by omega) (by omega) (by omega)
    generalize hA : taken l 0 (y + (i : Int) * p) p l.length 0 0 = A at ta0 ta1
    generalize hB : taken l 2 (y + (i : Int) * p) p l.length 0 0 = B at tb0 tb1
    have hs0 : (rd_T43 (slotsOf w l p 256 y) (i : Int)).f0 = A := by rw [hs]; exact hA
    have hs1 : (rd_T43 (slotsOf w l p 256 y) (i : Int)).f1 = w - A - B := by
      rw [hs]
      unfold slotOf
      rw [hA, hB]
      have g := mx_ge 0 (w - A - B)
      show mx 0 (w - A - B) = _
      omega
    refine up ?_
    simp only [quirelaw15_BandClear.l2, if_pos e]
    exact inner_loop w hw0 hw1 y y0 y1 p p0 p1 l n hn h _ i (by omega) hsl (y + (i : Int) * p) A B (fun _ => by rw [hip1, hip2]) (by omega) (by omega) ta0 tb0 (by omega) hs0 hs1 (ih (i + 1) (by omega)) l.length 0 0 0 (by omega) hA hB

/-- the bands that stand are clear of the one that comes -/
theorem clear_loop (os : List S40) (l : List S24) (n i : Nat) (hn : n ≤ 11) (h : Placed w l n) (b : S24) (hb0 : 0 ≤ b.f1) (hb1 : b.f1 ≤ 9000) (hb2 : 0 ≤ b.f2) (hb3 : b.f2 ≤ 200)
    (hclear : ∀ j, j < n → (at' l j).f0 = b.f0 → (at' l j).f1 + (at' l j).f2 ≤ b.f1) (hrec : Ev (fun k => quirelaw15_BandClear.l0 k w os y p true (l ++ [b]) (wrap64 ((i : Int) + 1))) true) (d : Nat) :
    ∀ j : Nat, l.length = j + d → Ev (fun k => quirelaw15_BandClear.l1 k w os y p true l (i : Int) (j : Int) b.f0 b.f1 b.f2 b.f3) true := by
  have hlen := h.len
  induction d with
  | zero =>
    intro j hj
    have e : ¬ ((j : Int) < (l.length : Int)) := by omega
    have e1 : l.length < 4398046511104 := by omega
    refine up ?_
    simp only [quirelaw15_BandClear.l1, if_neg e, if_pos e1]
    exact hrec
  | succ d ih =>
    intro j hj
    have e : (j : Int) < (l.length : Int) := by omega
    have e0 : (0 : Int) ≤ (j : Int) := by omega
    have hwj : wrap64 ((j : Int) + 1) = ((j + 1 : Nat) : Int) := by rw [w64 (by omega) (by omega)]; omega
    obtain ⟨sd, f1, f2, f3, f4, _, _⟩ := h.one j (by omega)
    have hgo := ih (j + 1) (by omega)
    refine up ?_
    simp only [quirelaw15_BandClear.l1, if_pos e, if_pos e0, rd_at, hwj]
    by_cases s : (at' l j).f0 = b.f0
    · have hc := hclear j (by omega) s
      have ho := overlap_tells (at' l j).f1 (at' l j).f2 b.f1 b.f2 (by omega) (by omega) (by omega) (by omega) (by omega) (by omega) (by omega) (by omega)
      have c : ¬ (0 < (at' l j).f2 ∧ 0 < b.f2 ∧ (at' l j).f1 < b.f1 + b.f2 ∧ b.f1 < (at' l j).f1 + (at' l j).f2) := by omega
      simp only [if_pos s, ho, Option.bind_some, decide_eq_false c, Bool.false_eq_true, if_false]
      exact hgo
    · simp only [if_neg s]
      exact hgo

theorem put_loop (os : List S40) (hos : os.length ≤ 12) (d : Nat) : ∀ (i : Nat) (l : List S24), os.length = i + d → Placed w l i → Ev (fun k => quirelaw15_BandClear.l0 k w os y p true l (i : Int)) true := by
  induction d with
  | zero =>
    intro i l hi h
    have e : ¬ ((i : Int) < (os.length : Int)) := by omega
    have hlen := h.len
    refine up ?_
    simp only [quirelaw15_BandClear.l0, if_neg e]
    refine (Slots_tells w l y p 256).bind ?_
    unfold SlotsOf
    rw [if_neg (fun q => q (h.wrong (by omega) hw0 hw1)), if_pos ⟨⟨by omega, hw1⟩, ⟨y0, y1⟩, p0, p1, by omega, by omega⟩]
    have hsl : ((slotsOf w l p (256 : Int).toNat y).length : Int) = 256 := by rw [slotsOf_length]; rfl
    have e2 : (((slotsOf w l p (256 : Int).toNat y).length : Int) != 256) = false := by rw [hsl]; rfl
    simp only [if_true, e2]
    refine up ?_
    simp only [quirelaw15_BandClear.j5, Bool.false_eq_true, if_false]
    exact slot_loop w hw0 hw1 y y0 y1 p p0 p1 l i (by omega) h 256 0 (by omega)
  | succ d ih =>
    intro i l hi h
    have hlen := h.len
    have e : (i : Int) < (os.length : Int) := by omega
    have e0 : (0 : Int) ≤ (i : Int) := by omega
    have hwi : wrap64 ((i : Int) + 1) = ((i + 1 : Nat) : Int) := by rw [w64 (by omega) (by omega)]; omega
    refine up ?_
    simp only [quirelaw15_BandClear.l0, if_pos e, if_pos e0]
    generalize rd_T40 os (i : Int) = o
    have bad : Ev (fun k => quirelaw15_BandClear.j2 k w os y p true l (i : Int) true o.f0 o.f1 o.f2 o.f3) true := up (by simp only [quirelaw15_BandClear.j2, if_true]; exact Ev.now _)
    have main : isSide o.f0 → 0 ≤ o.f1 → o.f1 ≤ 1000 → 0 ≤ o.f2 → o.f2 ≤ 200 → 0 ≤ o.f3 → o.f3 ≤ 4095 → Ev (fun k => quirelaw15_BandClear.j2 k w os y p true l (i : Int) false o.f0 o.f1 o.f2 o.f3) true := by
      intro s a1 a2 a3 a4 a5 a6
      have hy1 := putY_ge l o.f0 l.length 0 o.f1
      have hy2 := putY_le l o.f0 (1000 + 200 * (i : Int)) l.length 0 o.f1 (by omega) (fun j _ hj => (h.one j (by omega)).2.2.1)
      have hmn := mn_le o.f3 (mx 0 (w - 10) / 2)
      have hmx := mx_ge 0 (w - 10)
      have hwd : wideOf w o.f3 = mn o.f3 (mx 0 (w - 10) / 2) := rfl
      have htd : wrap64 (Int.tdiv (wrap64 (w - 10)) 2) = (w - 10) / 2 := by
        rw [w64 (x := w - 10) (by omega) (by omega), Int.tdiv_eq_ediv_of_nonneg (by omega), w64 (by omega) (by omega)]
      refine up ?_
      simp only [quirelaw15_BandClear.j2, Bool.false_eq_true, if_false]
      refine (Put_tells w l o.f0 o.f1 o.f2 o.f3).bind ?_
      unfold PutOf
      rw [if_neg (fun q => q (h.wrong (by omega) hw0 hw1)), if_neg (fun q => q s), if_pos ⟨⟨by omega, hw1⟩, ⟨a1, by omega⟩, ⟨a3, by omega⟩, ⟨a5, a6⟩⟩]
      have c1 : ¬ (putY l o.f0 l.length 0 o.f1 < o.f1) := by omega
      have c2 : ¬ (wideOf w o.f3 > o.f3) := by omega
      have next : Ev (fun k => quirelaw15_BandClear.j3 k w os y p true l (i : Int) false o.f0 (putY l o.f0 l.length 0 o.f1) o.f2 (wideOf w o.f3)) true := by
        refine up ?_
        simp only [quirelaw15_BandClear.j3, Bool.false_eq_true, if_false]
        refine clear_loop w hw0 hw1 y y0 y1 p p0 p1 os l i i (by omega) h ⟨o.f0, putY l o.f0 l.length 0 o.f1, o.f2, wideOf w o.f3⟩ (by show (0 : Int) ≤ putY _ _ _ _ _; omega) (by show putY _ _ _ _ _ ≤ _; omega) a3 a4 (fun j hj hs => putY_all l o.f0 l.length 0 o.f1 j (by omega) (by omega) hs) ?_ l.length 0 (by omega)
        rw [hwi]
        exact ih (i + 1) _ (by omega) (h.snoc _ ⟨s, by show (0 : Int) ≤ putY _ _ _ _ _; omega, by show putY _ _ _ _ _ + o.f2 ≤ _; omega, a3, a4, by show 0 ≤ wideOf w o.f3; omega, by show 2 * wideOf w o.f3 ≤ _; omega⟩)
      simp only [if_true, if_neg c1, if_neg c2]
      by_cases c3 : wideOf w o.f3 < o.f3
      · have c4 : (wideOf w o.f3 != wrap64 (Int.tdiv (wrap64 (w - 10)) 2)) = false := by rw [htd]; simp only [bne_eq_false_iff_eq]; omega
        simp only [if_pos c3, c4]
        exact next
      · simp only [if_neg c3]
        exact next
    have rest : isSide o.f0 → Ev (fun k => if o.f1 < 0 then quirelaw15_BandClear.j2 k w os y p true l (i : Int) true o.f0 o.f1 o.f2 o.f3 else if o.f1 > 1000 then quirelaw15_BandClear.j2 k w os y p true l (i : Int) true o.f0 o.f1 o.f2 o.f3 else if o.f2 < 0 then quirelaw15_BandClear.j2 k w os y p true l (i : Int) true o.f0 o.f1 o.f2 o.f3 else if o.f2 > 200 then quirelaw15_BandClear.j2 k w os y p true l (i : Int) true o.f0 o.f1 o.f2 o.f3 else if o.f3 < 0 then quirelaw15_BandClear.j2 k w os y p true l (i : Int) true o.f0 o.f1 o.f2 o.f3 else quirelaw15_BandClear.j2 k w os y p true l (i : Int) (decide (o.f3 > 4095)) o.f0 o.f1 o.f2 o.f3) true := by
      intro s
      by_cases q1 : o.f1 < 0
      · simp only [if_pos q1]; exact bad
      by_cases q2 : o.f1 > 1000
      · simp only [if_neg q1, if_pos q2]; exact bad
      by_cases q3 : o.f2 < 0
      · simp only [if_neg q1, if_neg q2, if_pos q3]; exact bad
      by_cases q4 : o.f2 > 200
      · simp only [if_neg q1, if_neg q2, if_neg q3, if_pos q4]; exact bad
      by_cases q5 : o.f3 < 0
      · simp only [if_neg q1, if_neg q2, if_neg q3, if_neg q4, if_pos q5]; exact bad
      by_cases q6 : o.f3 > 4095
      · simp only [if_neg q1, if_neg q2, if_neg q3, if_neg q4, if_neg q5, decide_eq_true q6]; exact bad
      simp only [if_neg q1, if_neg q2, if_neg q3, if_neg q4, if_neg q5, decide_eq_false q6]
      exact main s (by omega) (by omega) (by omega) (by omega) (by omega) (by omega)
    by_cases s0 : o.f0 = 0
    · simp only [if_pos s0]
      exact rest (.inl s0)
    · by_cases s2 : o.f0 = 2
      · simp only [if_neg s0, if_pos s2]
        exact rest (.inr s2)
      · simp only [if_neg s0, if_neg s2]
        exact bad
end

theorem clears (w : Int) (os : List S40) (y p : Int) : ∃ k, quirelaw15_BandClear.f k w os y p = some true := by
  refine Ev.rounds ?_
  unfold quirelaw15_BandClear.f
  refine awake_tells.bind ?_
  have bad : Ev (fun k => quirelaw15_BandClear.j0 k w os y p true true) true := up (by simp only [quirelaw15_BandClear.j0, if_true]; exact Ev.now _)
  by_cases q1 : w < 10
  · simp only [if_pos q1]; exact bad
  by_cases q2 : w > 4095
  · simp only [if_neg q1, if_pos q2]; exact bad
  by_cases q3 : (os.length : Int) > 12
  · simp only [if_neg q1, if_neg q2, if_pos q3]; exact bad
  by_cases q4 : y < 0
  · simp only [if_neg q1, if_neg q2, if_neg q3, if_pos q4]; exact bad
  by_cases q5 : y > 4095
  · simp only [if_neg q1, if_neg q2, if_neg q3, if_neg q4, if_pos q5]; exact bad
  by_cases q6 : p < 1
  · simp only [if_neg q1, if_neg q2, if_neg q3, if_neg q4, if_neg q5, if_pos q6]; exact bad
  by_cases q7 : p > 255
  · simp only [if_neg q1, if_neg q2, if_neg q3, if_neg q4, if_neg q5, if_neg q6, decide_eq_true q7]; exact bad
  simp only [if_neg q1, if_neg q2, if_neg q3, if_neg q4, if_neg q5, if_neg q6, decide_eq_false q7]
  refine up ?_
  simp only [quirelaw15_BandClear.j0, Bool.false_eq_true, if_false]
  exact put_loop w (by omega) (by omega) y (by omega) (by omega) p (by omega) (by omega) os (by omega) os.length 0 [] (by omega) ⟨rfl, fun i hi => by omega⟩
theorem BandClear (w : Int) (os : List S40) (y p : Int) {p1 p2 p3 p4 p5 : Prop} (_ : p1) (_ : p2) (_ : p3) (_ : p4) (_ : p5) : ∃ k, quirelaw15_BandClear.f k w os y p = some true := clears w os y p
end Go.Proofs.Ythpipjkiplpfnaa.LBandClear
