/- Heights, a filled column and filled columns are told as by the reference, or just the reference's error: for every list of slabs and every four whole numbers; no further condition. -/
import Derived.Test.YtoodiihimjalfaaLCColumnFills
import Derived.Test.YtoodiihimjalfaaLDColumnFills
import Derived.Test.YtoodiihimjalfaaLHColumnFills
import Derived.Test.YtoodiihimjalfaaMColumnFills
namespace Go.Proofs.Ytoodiihimjalfaa.LColumnFills
open Go.RowKit Go.Proofs.Ytoodiihimjalfaa.PColumnFills Go.Proofs.YtoodiihimjalfaaW.PrintWords Go.Proofs.YtoodiihimjalfaaW.PrintLast
set_option linter.unusedVariables false
set_option linter.unusedSimpArgs false

def HeightOf (l : List S37) (a b : Int) : Int × Int :=
  if wrongOf l ≠ 0 then (0, wrongOf l) else if rangeOf l a b ≠ 0 then (0, 5) else (hgt l a.toNat (b.toNat - a.toNat), 0)

theorem Height_any (l : List S37) (a b : Int) : Ev (fun k => column_Height.f k l a b) (HeightOf l a b) := by
  simp only [column_Height.f]
  refine Ev.bind (wrong_tells l) ?_
  unfold HeightOf
  by_cases e : wrongOf l = 0
  · obtain ⟨hl, hf⟩ := wrongOf_zero e
    simp only [e, if_true, ne_eq, not_true, if_false, rangeOf]
    by_cases c1 : a < 0
    · simp only [if_pos c1, c1, true_or, if_true]; exact Ev.now _
    by_cases c2 : b < a
    · simp only [if_neg c1, if_pos c2, c2, true_or, or_true, if_true]; exact Ev.now _
    by_cases c3 : b > (l.length : Int)
    · simp only [if_neg c1, if_neg c2, if_pos c3, show (l.length : Int) < b from c3, or_true, if_true]; exact Ev.now _
    · have c4 : (0 : Int) ≤ a := by omega
      have c5 : a ≤ b := by omega
      have c6 : b ≤ (l.length : Int) := by omega
      have c7 : ¬ (a < 0 ∨ b < a ∨ (l.length : Int) < b) := by omega
      simp only [if_neg c1, if_neg c2, if_neg c3, if_pos c4, if_pos c5, if_pos c6, if_neg c7, not_true, if_false]
      exact Ev.bind (high_part l hl hf a.toNat b.toNat (by omega) (by omega)) (Ev.now _)
  · simp only [e, if_false, ne_eq, not_false_eq_true, if_true]; exact Ev.now _

def FillOf (l : List S37) (a h : Int) : Int × Int × Bool × Int :=
  if wrongOf l ≠ 0 then (0, 0, false, wrongOf l) else if 0 ≤ a ∧ a ≤ (l.length : Int) ∧ 0 ≤ h ∧ h ≤ 4095 then
    (((fillOf l a.toNat h).1 : Int), hgt l a.toNat ((fillOf l a.toNat h).1 - a.toNat), (fillOf l a.toNat h).2, 0) else (0, 0, false, 5)

theorem Fill_any (l : List S37) (a h : Int) : Ev (fun k => column_Fill.f k l a h) (FillOf l a h) := by
  simp only [column_Fill.f]
  refine Ev.bind (wrong_tells l) ?_
  unfold FillOf
  by_cases e : wrongOf l = 0
  · obtain ⟨hl, hf⟩ := wrongOf_zero e
    simp only [e, if_true, ne_eq, not_true, if_false, fits_tells, Option.bind_some]
    have bad : ∀ q, q = true → Ev (fun k => column_Fill.j0 k l a h q) ((0 : Int), (0 : Int), false, (5 : Int)) := by
      intro q hq
      subst hq
      refine up ?_
      simp only [column_Fill.j0, if_true]
      exact Ev.now _
    by_cases c1 : a < 0
    · rw [if_neg (show ¬ (0 ≤ a ∧ a ≤ (l.length : Int) ∧ 0 ≤ h ∧ h ≤ 4095) by omega)]
      simp only [if_pos c1]; exact bad _ rfl
    by_cases c2 : a > (l.length : Int)
    · rw [if_neg (show ¬ (0 ≤ a ∧ a ≤ (l.length : Int) ∧ 0 ≤ h ∧ h ≤ 4095) by omega)]
      simp only [if_neg c1, if_pos c2]; exact bad _ rfl
    by_cases c3 : 0 ≤ h ∧ h ≤ 4095
    · rw [if_pos (show (0 ≤ a ∧ a ≤ (l.length : Int) ∧ 0 ≤ h ∧ h ≤ 4095) by omega)]
      simp only [if_neg c1, if_neg c2, decide_eq_true c3, Bool.not_true]
      refine up ?_
      simp only [column_Fill.j0, Bool.false_eq_true, if_false]
      obtain ⟨n, rfl⟩ := Int.eq_ofNat_of_zero_le (show 0 ≤ a by omega)
      have r := fillOf_range l n h (by omega)
      refine Ev.bind (fill_tells l hl hf n (by omega) h) ?_
      have c4 : (0 : Int) ≤ (n : Int) := by omega
      have c5 : (n : Int) ≤ ((fillOf l n h).1 : Int) := by omega
      have c6 : ((fillOf l n h).1 : Int) ≤ (l.length : Int) := by omega
      simp only [if_pos c4, if_pos c5, if_pos c6, Int.toNat_natCast]
      exact Ev.bind (high_part l hl hf n _ r.1 r.2.1) (Ev.now _)
    · rw [if_neg (show ¬ (0 ≤ a ∧ a ≤ (l.length : Int) ∧ 0 ≤ h ∧ h ≤ 4095) by omega)]
      simp only [if_neg c1, if_neg c2, decide_eq_false c3, Bool.not_false]; exact bad _ rfl
  · simp only [e, if_false, ne_eq, not_false_eq_true, if_true]; exact Ev.now _

theorem j5_pass (l : List S37) (x1 x2 x3 x4 x12 x14 x15 : Int) (x16 : Bool) (x18 : List Int) (x19 : Bool) (x22 x23 x24 : Int)
    (hx : x22 ≠ 0 → x12 = 0) (hy : x23 ≠ 0 → x14 = 0 ∧ x15 = 0 ∧ x16 = false) (hz : x24 ≠ 0 → x18 = [] ∧ x19 = false)
    (h : Ev (fun k => quirelaw19_ColumnFills.j6 k l x1 x2 x3 x4 x12 x14 x15 x16 x18 x19 x22 x23 x24 false) true) :
    Ev (fun k => quirelaw19_ColumnFills.j5 k l x1 x2 x3 x4 x12 x22 x14 x15 x16 x23 x18 x19 x24 x22 x23 x24) true := by
  refine up ?_
  simp only [quirelaw19_ColumnFills.j5, if_true]
  by_cases a : x22 = 0
  · simp only [if_pos a]
    by_cases b : x23 = 0
    · simp only [if_pos b]
      by_cases c : x24 = 0
      · simp only [if_pos c]; exact h
      · obtain ⟨rfl, rfl⟩ := hz c
        simp only [if_neg c, List.length_nil, Int.natCast_zero, if_true]; exact h
    · obtain ⟨rfl, rfl, rfl⟩ := hy b
      simp only [if_neg b, if_true, Bool.false_eq_true, if_false]
      by_cases c : x24 = 0
      · simp only [if_pos c]; exact h
      · obtain ⟨rfl, rfl⟩ := hz c
        simp only [if_neg c, List.length_nil, Int.natCast_zero, if_true]; exact h
  · obtain rfl := hx a
    simp only [if_neg a, if_true]
    by_cases b : x23 = 0
    · simp only [if_pos b]
      by_cases c : x24 = 0
      · simp only [if_pos c]; exact h
      · obtain ⟨rfl, rfl⟩ := hz c
        simp only [if_neg c, List.length_nil, Int.natCast_zero, if_true]; exact h
    · obtain ⟨rfl, rfl, rfl⟩ := hy b
      simp only [if_neg b, if_true, Bool.false_eq_true, if_false]
      by_cases c : x24 = 0
      · simp only [if_pos c]; exact h
      · obtain ⟨rfl, rfl⟩ := hz c
        simp only [if_neg c, List.length_nil, Int.natCast_zero, if_true]; exact h

/-- the errors that the statement reckons -/
def fillErr (l : List S37) (a h : Int) : Int := if checkOf l a (l.length : Int) = 0 ∧ (h < 0 ∨ 4095 < h) then 5 else checkOf l a (l.length : Int)
def colsErr (l : List S37) (h c : Int) : Int := if checkOf l 0 (l.length : Int) = 0 ∧ (h < 0 ∨ 4095 < h ∨ c < 1 ∨ 8 < c) then 5 else checkOf l 0 (l.length : Int)

theorem height_err (l : List S37) (a b : Int) : (HeightOf l a b).2 = checkOf l a b := by
  unfold HeightOf checkOf
  by_cases e : wrongOf l = 0
  · simp only [e, ne_eq, not_true, if_false, if_true]
    unfold rangeOf
    split <;> simp
  · simp only [e, ne_eq, not_false_eq_true, if_true, if_false]

theorem fill_err (l : List S37) (a h : Int) : (FillOf l a h).2.2.2 = fillErr l a h := by
  unfold FillOf fillErr checkOf
  by_cases e : wrongOf l = 0
  · simp only [e, ne_eq, not_true, if_false, if_true]
    unfold rangeOf
    by_cases c : a < 0 ∨ (l.length : Int) < a
    · rw [if_neg (by omega), if_pos (show a < 0 ∨ (l.length : Int) < a ∨ (l.length : Int) < (l.length : Int) by omega)]
      simp
    · rw [if_neg (show ¬ (a < 0 ∨ (l.length : Int) < a ∨ (l.length : Int) < (l.length : Int)) by omega)]
      by_cases g : h < 0 ∨ 4095 < h
      · rw [if_neg (by omega), if_pos ⟨rfl, g⟩]
      · rw [if_pos (by omega), if_neg (by simp; omega)]
  · simp only [e, ne_eq, not_false_eq_true, if_true, if_false, false_and]

theorem cols_err (l : List S37) (h c : Int) : (ColumnsOf l h c).2.2 = colsErr l h c := by
  unfold ColumnsOf colsErr checkOf
  by_cases e : wrongOf l = 0
  · simp only [e, ne_eq, not_true, if_false, if_true]
    unfold rangeOf
    rw [if_neg (show ¬ ((0 : Int) < 0 ∨ (l.length : Int) < 0 ∨ (l.length : Int) < (l.length : Int)) by omega)]
    by_cases g : h < 0 ∨ 4095 < h ∨ c < 1 ∨ 8 < c
    · rw [if_neg (by omega), if_pos ⟨rfl, g⟩]
    · rw [if_pos (by omega), if_neg (by simp; omega)]
  · simp only [e, ne_eq, not_false_eq_true, if_true, if_false, false_and]

theorem tail (l : List S37) (a b h c : Int) :
    Ev (fun k => quirelaw19_ColumnFills.j5 k l a b h c (HeightOf l a b).1 (HeightOf l a b).2 (FillOf l a h).1 (FillOf l a h).2.1 (FillOf l a h).2.2.1 (FillOf l a h).2.2.2 (ColumnsOf l h c).1 (ColumnsOf l h c).2.1 (ColumnsOf l h c).2.2 (checkOf l a b) (fillErr l a h) (colsErr l h c)) true := by
  rw [height_err, fill_err, cols_err]
  have w2 := badS_cases
  refine j5_pass l a b h c _ _ _ _ _ _ _ _ _ ?_ ?_ ?_ ?_
  · intro hc
    rw [← height_err] at hc
    unfold HeightOf at hc ⊢
    split
    · rfl
    · split
      · rfl
      · rename_i h1 h2; rw [if_neg h1, if_neg h2] at hc; exact absurd rfl hc
  · intro hc
    rw [← fill_err] at hc
    unfold FillOf at hc ⊢
    split
    · exact ⟨rfl, rfl, rfl⟩
    · split
      · rename_i h1 h2; rw [if_neg h1, if_pos h2] at hc; exact absurd rfl hc
      · exact ⟨rfl, rfl, rfl⟩
  · intro hc
    rw [← cols_err] at hc
    unfold ColumnsOf at hc ⊢
    split
    · exact ⟨rfl, rfl⟩
    · split
      · rename_i h1 h2; rw [if_neg h1, if_pos h2] at hc; exact absurd rfl hc
      · exact ⟨rfl, rfl⟩
  · refine up ?_
    simp only [quirelaw19_ColumnFills.j6, Bool.false_eq_true, if_false]
    have st8 : Ev (fun k => quirelaw19_ColumnFills.j8 k l h c (ColumnsOf l h c).1 (ColumnsOf l h c).2.1 (colsErr l h c)) true := by
      refine up ?_
      simp only [quirelaw19_ColumnFills.j8]
      by_cases e : colsErr l h c = 0
      · simp only [if_pos e]
        have e0 := e
        rw [← cols_err] at e0
        unfold ColumnsOf at e0 ⊢
        by_cases w : wrongOf l = 0
        · obtain ⟨hl, hf⟩ := wrongOf_zero w
          by_cases g : 0 ≤ h ∧ h ≤ 4095 ∧ 1 ≤ c ∧ c ≤ 8
          · simp only [w, ne_eq, not_true, if_false, if_pos g]
            refine Ev.bind (refCols_tells l hl hf h c g.2.2.1 g.2.2.2) ?_
            refine Ev.bind (same_self _ (by rw [colsOf_length]; omega)) ?_
            simp only [if_true, beq_self_eq_true]
            exact Ev.now _
          · simp only [w, ne_eq, not_true, if_false, if_neg g] at e0
            exact absurd e0 (by decide)
        · simp only [w, ne_eq, not_false_eq_true, if_true] at e0
      · simp only [if_neg e]; exact Ev.now _
    have st7 : Ev (fun k => quirelaw19_ColumnFills.j7 k l a h c (FillOf l a h).1 (FillOf l a h).2.1 (FillOf l a h).2.2.1 (ColumnsOf l h c).1 (ColumnsOf l h c).2.1 (fillErr l a h) (colsErr l h c) false) true := by
      refine up ?_
      simp only [quirelaw19_ColumnFills.j7, Bool.false_eq_true, if_false]
      by_cases e : fillErr l a h = 0
      · simp only [if_pos e]
        have e0 := e
        rw [← fill_err] at e0
        unfold FillOf at e0 ⊢
        by_cases w : wrongOf l = 0
        · obtain ⟨hl, hf⟩ := wrongOf_zero w
          by_cases g : 0 ≤ a ∧ a ≤ (l.length : Int) ∧ 0 ≤ h ∧ h ≤ 4095
          · simp only [w, ne_eq, not_true, if_false, if_pos g]
            obtain ⟨n, rfl⟩ := Int.eq_ofNat_of_zero_le (show 0 ≤ a by omega)
            refine Ev.bind (refFill_tells l hl hf n (by omega) h) ?_
            simp only [Int.toNat_natCast, if_true, bne_self_eq_false, Bool.false_eq_true, if_false]
            exact st8
          · simp only [w, ne_eq, not_true, if_false, if_neg g] at e0
            exact absurd e0 (by decide)
        · simp only [w, ne_eq, not_false_eq_true, if_true] at e0
      · simp only [if_neg e]; exact st8
    by_cases e : checkOf l a b = 0
    · simp only [if_pos e]
      have e0 := e
      rw [← height_err] at e0
      unfold HeightOf at e0 ⊢
      by_cases w : wrongOf l = 0
      · obtain ⟨hl, hf⟩ := wrongOf_zero w
        by_cases g : rangeOf l a b = 0
        · simp only [w, g, ne_eq, not_true, if_false]
          have g' := g
          unfold rangeOf at g'
          have g2 : ¬ (a < 0 ∨ b < a ∨ (l.length : Int) < b) := by
            intro q; rw [if_pos q] at g'; exact absurd g' (by decide)
          obtain ⟨n, rfl⟩ := Int.eq_ofNat_of_zero_le (show 0 ≤ a by omega)
          obtain ⟨m, rfl⟩ := Int.eq_ofNat_of_zero_le (show 0 ≤ b by omega)
          refine Ev.bind (refHeight_tells l hl hf n m (by omega) (by omega)) ?_
          simp only [Int.toNat_natCast, bne_self_eq_false]
          exact st7
        · simp only [w, g, ne_eq, not_true, if_false, not_false_eq_true, if_true] at e0
          exact absurd e0 (by decide)
      · simp only [w, ne_eq, not_false_eq_true, if_true] at e0
    · simp only [if_neg e]; exact st7

theorem cmp_loop (l : List S37) (hl : l.length ≤ 4200) (a b h c x12 x13 x14 x15 : Int) (x16 : Bool) (x17 : Int) (x18 : List Int) (x19 : Bool) (x20 : Int)
    (fin : Ev (fun k => quirelaw19_ColumnFills.j5 k l a b h c x12 x13 x14 x15 x16 x17 x18 x19 x20 (checkOf l a b) (fillErr l a h) (colsErr l h c)) true) (d : Nat) :
    ∀ i : Nat, l.length = i + d → Ev (fun k => quirelaw19_ColumnFills.l0 k l a b h c l x12 x13 x14 x15 x16 x17 x18 x19 x20 (i : Int)) true := by
  induction d with
  | zero =>
    intro i hi
    refine up ?_
    have h1 : ¬ ((i : Int) < (l.length : Int)) := by omega
    simp only [quirelaw19_ColumnFills.l0, if_neg h1]
    refine Ev.bind (check_tells l a b) (Ev.bind (check_tells l a (l.length : Int)) (Ev.bind (check_tells l 0 (l.length : Int)) ?_))
    have st3 : ∀ y, y = fillErr l a h → Ev (fun k => quirelaw19_ColumnFills.j3 k l a b h c x12 x13 x14 x15 x16 x17 x18 x19 x20 (checkOf l a b) y (checkOf l 0 (l.length : Int))) true := by
      intro y hy
      subst hy
      have st4 : ∀ q, (q = true ↔ (checkOf l 0 (l.length : Int) = 0 ∧ (h < 0 ∨ 4095 < h ∨ c < 1 ∨ 8 < c))) → Ev (fun k => quirelaw19_ColumnFills.j4 k l a b h c x12 x13 x14 x15 x16 x17 x18 x19 x20 (checkOf l a b) (fillErr l a h) (checkOf l 0 (l.length : Int)) q) true := by
        intro q hq
        refine up ?_
        cases q with
        | true =>
          simp only [quirelaw19_ColumnFills.j4, if_true]
          have e : colsErr l h c = 5 := by unfold colsErr; rw [if_pos (hq.1 rfl)]
          rw [e] at fin; exact fin
        | false =>
          simp only [quirelaw19_ColumnFills.j4, Bool.false_eq_true, if_false]
          have e : colsErr l h c = checkOf l 0 (l.length : Int) := by unfold colsErr; rw [if_neg (fun g => absurd (hq.2 g) (by decide))]
          rw [e] at fin; exact fin
      refine up ?_
      simp only [quirelaw19_ColumnFills.j3]
      by_cases z : checkOf l 0 (l.length : Int) = 0
      · simp only [if_pos z]
        by_cases c1 : h < 0
        · simp only [if_pos c1]; exact st4 _ (by simp [z, c1])
        by_cases c2 : h > 4095
        · simp only [if_neg c1, if_pos c2]; exact st4 _ (by simp [z]; omega)
        by_cases c3 : c < 1
        · simp only [if_neg c1, if_neg c2, if_pos c3]; exact st4 _ (by simp [z]; omega)
        · simp only [if_neg c1, if_neg c2, if_neg c3]; exact st4 _ (by simp [z]; omega)
      · simp only [if_neg z]; exact st4 _ (by simp [z])
    have st2 : ∀ q, (q = true ↔ (checkOf l a (l.length : Int) = 0 ∧ (h < 0 ∨ 4095 < h))) → Ev (fun k => quirelaw19_ColumnFills.j2 k l a b h c x12 x13 x14 x15 x16 x17 x18 x19 x20 (checkOf l a b) (checkOf l a (l.length : Int)) (checkOf l 0 (l.length : Int)) q) true := by
      intro q hq
      refine up ?_
      cases q with
      | true =>
        simp only [quirelaw19_ColumnFills.j2, if_true]
        exact st3 _ (by unfold fillErr; rw [if_pos (hq.1 rfl)])
      | false =>
        simp only [quirelaw19_ColumnFills.j2, Bool.false_eq_true, if_false]
        exact st3 _ (by unfold fillErr; rw [if_neg (fun g => absurd (hq.2 g) (by decide))])
    by_cases z : checkOf l a (l.length : Int) = 0
    · simp only [if_pos z]
      by_cases c1 : h < 0
      · simp only [if_pos c1]
        have := st2 true (by simp [z, c1])
        rw [z] at this; simpa only [z] using this
      · simp only [if_neg c1]
        have := st2 (decide (h > 4095)) (by simp [z]; omega)
        rw [z] at this; simpa only [z] using this
    · simp only [if_neg z]; exact st2 _ (by simp [z])
  | succ d ih =>
    intro i hi
    have hrec := ih (i + 1) (by omega)
    have h1 : (i : Int) < (l.length : Int) := by omega
    have h0 : (0 : Int) ≤ (i : Int) := by omega
    have hw : wrap64 ((i : Int) + 1) = ((i + 1 : Nat) : Int) := by rw [w64 (by omega) (by omega)]; omega
    refine up ?_
    simp only [quirelaw19_ColumnFills.l0, if_pos h1, if_pos h0, beq_self_eq_true, Bool.not_true, Bool.or_false, Bool.false_eq_true, if_false, hw]
    exact hrec

theorem fills (l : List S37) (a b h c : Int) : ∃ k, quirelaw19_ColumnFills.f k l a b h c = some true := by
  refine Ev.rounds ?_
  simp only [quirelaw19_ColumnFills.f]
  have out : Ev (fun k => quirelaw19_ColumnFills.j0 k l a b h c true) true := by
    refine up ?_
    simp only [quirelaw19_ColumnFills.j0, if_true]
    exact Ev.now _
  have go : l.length ≤ 4200 → Ev (fun k => quirelaw19_ColumnFills.j0 k l a b h c false) true := by
    intro hl
    refine up ?_
    have hn : ([] : List S37).length + l.length < 5864062014805 := by simp; omega
    simp only [quirelaw19_ColumnFills.j0, Bool.false_eq_true, if_false, Option.bind_some, if_pos hn, List.nil_append]
    refine Ev.bind (Height_any l a b) (Ev.bind (Fill_any l a h) (Ev.bind (Columns_tells l h c) ?_))
    exact cmp_loop l hl a b h c _ _ _ _ _ _ _ _ _ (tail l a b h c) l.length 0 (by omega)
  by_cases c1 : (l.length : Int) > 4200
  · simp only [decide_eq_true c1]
    by_cases c2 : (l.length : Int) > 100
    · simp only [if_pos c2]
      by_cases c3 : (l.length : Int) ≤ 4096
      · simp only [if_pos c3]; exact out
      · simp only [if_neg c3]; exact out
    · omega
  · simp only [decide_eq_false c1]
    by_cases c2 : (l.length : Int) > 100
    · simp only [if_pos c2]
      by_cases c3 : (l.length : Int) ≤ 4096
      · simp only [if_pos c3]; exact out
      · simp only [if_neg c3]; exact go (by omega)
    · simp only [if_neg c2]; exact go (by omega)

theorem ColumnFills (l : List S37) (a b h c : Int) {p q r s t u : Prop} (_ : p) (_ : q) (_ : r) (_ : s) (_ : t) (_ : u) : ∃ k, quirelaw19_ColumnFills.f k l a b h c = some true := fills l a b h c

end Go.Proofs.Ytoodiihimjalfaa.LColumnFills
