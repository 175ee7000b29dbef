/- What column.Columns answers, as a plain function of lists: for every list of slabs. -/
import Derived.Test.YtoodiihimjalfaaLABalanceLeast
namespace Go.Proofs.Ytoodiihimjalfaa.LBalanceLeast
open Go.RowKit Go.Proofs.Ytoodiihimjalfaa.PBalanceLeast Go.Proofs.YtoodiihimjalfaaW.PrintWords Go.Proofs.YtoodiihimjalfaaW.PrintLast
set_option linter.unusedVariables false
set_option linter.unusedSimpArgs false

/-- n columns filled from slab at on -/
def colsOf (l : List S37) (h : Int) : Nat → Nat → List Int × Bool
  | 0, _ => ([], false)
  | n + 1, at_ => (((fillOf l at_ h).1 : Int) :: (colsOf l h n (fillOf l at_ h).1).1, (fillOf l at_ h).2 || (colsOf l h n (fillOf l at_ h).1).2)

theorem colsOf_length (l : List S37) (h : Int) (n : Nat) : ∀ a, (colsOf l h n a).1.length = n := by
  induction n with
  | zero => intro a; rfl
  | succ n ih => intro a; simp [colsOf, ih]

theorem cols_loop (l : List S37) (hl : l.length ≤ 4096) (hf : fine l) (h : Int) (m : Nat) (hm : m ≤ 8) (d : Nat) :
    ∀ (c a : Nat) (out : List Int) (had : Bool), m = c + d → a ≤ l.length → out.length = c →
      Ev (fun k => column_Columns.l0 k l h out had (a : Int) (m : Int) (c : Int)) (out ++ (colsOf l h d a).1, had || (colsOf l h d a).2, 0) := by
  induction d with
  | zero =>
    intro c a out had hc ha ho
    refine up ?_
    have c1 : ¬ (c : Int) < (m : Int) := by omega
    simp only [column_Columns.l0, if_neg c1, colsOf, List.append_nil, Bool.or_false]
    exact Ev.now _
  | succ d ih =>
    intro c a out had hc ha ho
    have r := fillOf_range l a h ha
    have c1 : (c : Int) < (m : Int) := by omega
    have hw : wrap64 ((c : Int) + 1) = ((c + 1 : Nat) : Int) := by rw [w64 (by omega) (by omega)]; omega
    have ho' : out.length < 17592186044416 := by omega
    have e1 : out ++ ((fillOf l a h).1 : Int) :: (colsOf l h d (fillOf l a h).1).1 = (out ++ [((fillOf l a h).1 : Int)]) ++ (colsOf l h d (fillOf l a h).1).1 := by simp
    refine up ?_
    simp only [column_Columns.l0, if_pos c1]
    refine Ev.bind (fill_tells l hl hf a ha h) ?_
    simp only [if_pos ho', hw, colsOf]
    rw [e1]
    cases had with
    | true =>
      simp only [if_true]
      have := ih (c + 1) (fillOf l a h).1 (out ++ [((fillOf l a h).1 : Int)]) true (by omega) r.2.1 (by simp [ho])
      simpa using this
    | false =>
      simp only [Bool.false_eq_true, if_false]
      have := ih (c + 1) (fillOf l a h).1 (out ++ [((fillOf l a h).1 : Int)]) (fillOf l a h).2 (by omega) r.2.1 (by simp [ho])
      simpa using this

/-- what Columns tells -/
def ColumnsOf (l : List S37) (h c : Int) : List Int × Bool × Int :=
  if wrongOf l ≠ 0 then ([], false, wrongOf l) else if 0 ≤ h ∧ h ≤ 4095 ∧ 1 ≤ c ∧ c ≤ 8 then ((colsOf l h c.toNat 0).1, (colsOf l h c.toNat 0).2, 0) else ([], false, 5)

theorem Columns_tells (l : List S37) (h c : Int) : Ev (fun k => column_Columns.f k l h c) (ColumnsOf l h c) := by
  simp only [column_Columns.f]
  refine Ev.bind (wrong_tells l) ?_
  unfold ColumnsOf
  by_cases e : wrongOf l = 0
  · obtain ⟨hl, hf⟩ := wrongOf_zero e
    simp only [e, if_true, ne_eq, not_true, if_false, fits_tells, Option.bind_some, not_false_eq_true]
    have bad : ∀ q, q = true → Ev (fun k => column_Columns.j0 k l h c [] false q) (([] : List Int), false, (5 : Int)) := by
      intro q hq
      subst hq
      refine up ?_
      simp only [column_Columns.j0, if_true]
      exact Ev.now _
    by_cases a : 0 ≤ h ∧ h ≤ 4095
    · simp only [decide_eq_true a, if_true]
      by_cases c1 : c < 1
      · rw [if_neg (show ¬ (0 ≤ h ∧ h ≤ 4095 ∧ 1 ≤ c ∧ c ≤ 8) by omega)]
        simp only [if_pos c1]; exact bad _ rfl
      · by_cases c2 : c > 8
        · rw [if_neg (show ¬ (0 ≤ h ∧ h ≤ 4095 ∧ 1 ≤ c ∧ c ≤ 8) by omega)]
          simp only [if_neg c1, decide_eq_true c2]; exact bad _ rfl
        · rw [if_pos (show (0 ≤ h ∧ h ≤ 4095 ∧ 1 ≤ c ∧ c ≤ 8) by omega)]
          simp only [if_neg c1, decide_eq_false c2]
          refine up ?_
          simp only [column_Columns.j0, Bool.false_eq_true, if_false]
          obtain ⟨n, rfl⟩ := Int.eq_ofNat_of_zero_le (show 0 ≤ c by omega)
          have := cols_loop l hl hf h n (by omega) n 0 0 [] false (by omega) (by omega) rfl
          simpa using this
    · rw [if_neg (show ¬ (0 ≤ h ∧ h ≤ 4095 ∧ 1 ≤ c ∧ c ≤ 8) by omega)]
      simp only [decide_eq_false a, Bool.false_eq_true, if_false]; exact bad _ rfl
  · simp only [e, if_false, ne_eq, not_false_eq_true, if_true]
    exact Ev.now _

end Go.Proofs.Ytoodiihimjalfaa.LBalanceLeast
