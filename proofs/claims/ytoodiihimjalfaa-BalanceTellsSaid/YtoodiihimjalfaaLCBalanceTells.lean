/- What the reference's Check, Height, Fill, Columns and quirekit.SameInts answer, as plain functions of lists: for every list of slabs. -/
import Derived.Test.YtoodiihimjalfaaLBBalanceTells
namespace Go.Proofs.Ytoodiihimjalfaa.LBalanceTells
open Go.RowKit Go.Proofs.Ytoodiihimjalfaa.PBalanceTells Go.Proofs.YtoodiihimjalfaaW.PrintWords Go.Proofs.YtoodiihimjalfaaW.PrintLast
set_option linter.unusedVariables false
set_option linter.unusedSimpArgs false

/-- what Check tells of from, to -/
def rangeOf (l : List S37) (a b : Int) : Int := if a < 0 ∨ b < a ∨ (l.length : Int) < b then 5 else 0
def checkOf (l : List S37) (a b : Int) : Int := if wrongOf l = 0 then rangeOf l a b else wrongOf l

theorem check_loop_ (l : List S37) (hl : l.length ≤ 4096) (x y : Int) (d : Nat) : ∀ i : Nat, l.length = i + d →
    Ev (fun k => quireref19_Check.l0 k l x y (i : Int)) (if firstBad (l.drop i) = 0 then rangeOf l x y else firstBad (l.drop i)) := by
  induction d with
  | zero =>
    intro i hi
    refine up ?_
    have h1 : ¬ ((i : Int) < (l.length : Int)) := by omega
    simp only [quireref19_Check.l0, if_neg h1]
    rw [List.drop_of_length_le (by omega)]
    simp only [firstBad, if_true, rangeOf]
    by_cases c1 : x < 0
    · simp only [c1, if_true, true_or]; exact Ev.now _
    by_cases c2 : y < x
    · simp only [c1, c2, if_true, if_false, true_or, or_true]; exact Ev.now _
    by_cases c3 : (l.length : Int) < y
    · have c3' : y > (l.length : Int) := c3
      simp only [c1, c2, c3, if_pos c3', if_true, if_false, true_or, or_true]; exact Ev.now _
    · have c3' : ¬ y > (l.length : Int) := c3
      simp only [c1, c2, c3, if_neg c3', if_false, or_false]; exact Ev.now _
  | succ d ih =>
    intro i hi
    have hrec := ih (i + 1) (by omega)
    have h1 : (i : Int) < (l.length : Int) := by omega
    have h0 : (0 : Int) ≤ (i : Int) := by omega
    have hw : wrap64 ((i : Int) + 1) = ((i + 1 : Nat) : Int) := by rw [w64 (by omega) (by omega)]; omega
    refine up ?_
    simp only [quireref19_Check.l0, if_pos h1, if_pos h0, rd_at]
    rw [drop_at l i (by omega)]
    generalize at' l i = s
    simp only [firstBad]
    have five : badS s = 5 → Ev (fun k => quireref19_Check.j1 k l x y (i : Int) true s.f0 s.f1 s.f2) (if (if badS s = 0 then firstBad (l.drop (i + 1)) else badS s) = 0 then rangeOf l x y else (if badS s = 0 then firstBad (l.drop (i + 1)) else badS s)) := by
      intro hb
      simp only [hb]
      refine up ?_
      simp only [quireref19_Check.j1, if_true]
      exact Ev.now _
    by_cases c1 : s.f0 < 0
    · simp only [if_pos c1]
      exact five (by unfold badS; rw [if_neg (by omega)])
    by_cases c2 : s.f0 > 4095
    · simp only [if_neg c1, if_pos c2]
      exact five (by unfold badS; rw [if_neg (by omega)])
    by_cases c3 : s.f1 < 0
    · simp only [if_neg c1, if_neg c2, if_pos c3]
      exact five (by unfold badS; rw [if_neg (by omega)])
    by_cases c4 : s.f1 > 4095
    · simp only [if_neg c1, if_neg c2, if_neg c3, decide_eq_true c4]
      exact five (by unfold badS; rw [if_neg (by omega)])
    simp only [if_neg c1, if_neg c2, if_neg c3, decide_eq_false c4]
    refine up ?_
    simp only [quireref19_Check.j1, Bool.false_eq_true, if_false, hw]
    have hr : 0 ≤ s.f0 ∧ s.f0 ≤ 4095 ∧ 0 ≤ s.f1 ∧ s.f1 ≤ 4095 := ⟨by omega, by omega, by omega, by omega⟩
    by_cases c5 : s.f2 < 0
    · have hb : badS s = 2 := by unfold badS; rw [if_pos hr, if_neg (by omega)]
      simp only [if_pos c5, hb]; exact Ev.now _
    by_cases c6 : s.f2 > 1
    · have hb : badS s = 2 := by unfold badS; rw [if_pos hr, if_neg (by omega)]
      simp only [if_neg c5, if_pos c6, hb]; exact Ev.now _
    have hb : badS s = 0 := by unfold badS; rw [if_pos hr, if_pos (by omega)]
    simp only [if_neg c5, if_neg c6, hb, if_true]
    exact hrec

theorem check_tells (l : List S37) (x y : Int) : Ev (fun k => quireref19_Check.f k l x y) (checkOf l x y) := by
  simp only [quireref19_Check.f]
  unfold checkOf wrongOf
  by_cases h : 4096 < l.length
  · have h1 : (l.length : Int) > 4096 := by omega
    simp only [if_pos h1, if_pos h]
    exact Ev.now _
  · have h1 : ¬ (l.length : Int) > 4096 := by omega
    simp only [if_neg h1, if_neg h]
    exact check_loop_ l (by omega) x y l.length 0 (by omega)

theorem refHeight_loop (l : List S37) (hl : l.length ≤ 4096) (hf : fine l) (a b : Nat) (hb : b ≤ l.length) (d : Nat) : ∀ i : Nat, a ≤ i → b = i + d →
    Ev (fun k => quireref19_Height.l0 k l (a : Int) (b : Int) (hgt l a (i - a)) (i : Int)) (hgt l a (b - a)) := by
  induction d with
  | zero =>
    intro i ha hi
    refine up ?_
    have h1 : ¬ ((i : Int) < (b : Int)) := by omega
    simp only [quireref19_Height.l0, if_neg h1]
    obtain rfl : i = b := by omega
    exact Ev.now _
  | succ d ih =>
    intro i ha hi
    have hrec := ih (i + 1) (by omega) (by omega)
    have h1 : (i : Int) < (b : Int) := by omega
    have h2 : (i : Int) < (l.length : Int) := by omega
    have h0 : (0 : Int) ≤ (i : Int) := by omega
    have hw : wrap64 ((i : Int) + 1) = ((i + 1 : Nat) : Int) := by rw [w64 (by omega) (by omega)]; omega
    have hbd := hgt_bound hf a (i - a)
    have f := fine_at hf i
    have e := hgt_step (l := l) a i ha
    refine up ?_
    simp only [quireref19_Height.l0, if_pos h1, if_pos h0, if_pos h2, rd_at, hw]
    by_cases c : i = a
    · have c' : ¬ (i : Int) > (a : Int) := by omega
      simp only [if_neg c']
      rw [w64 (by omega) (by omega)]
      rw [e, if_pos c, Int.add_zero] at hrec
      exact hrec
    · have c' : (i : Int) > (a : Int) := by omega
      simp only [if_pos c']
      rw [w64 (x := hgt l a (i - a) + (at' l i).f0) (by omega) (by omega), w64 (by omega) (by omega)]
      rw [e, if_neg c, ← Int.add_assoc] at hrec
      exact hrec

theorem refHeight_tells (l : List S37) (hl : l.length ≤ 4096) (hf : fine l) (a b : Nat) (hab : a ≤ b) (hb : b ≤ l.length) : Ev (fun k => quireref19_Height.f k l (a : Int) (b : Int)) (hgt l a (b - a)) := by
  have := refHeight_loop l hl hf a b hb (b - a) a (by omega) (by omega)
  rw [show a - a = 0 from by omega] at this
  exact this

theorem free_tells (l : List S37) (b : Nat) (hb : b ≤ l.length) : quireref19_free.f l (b : Int) = some (decide (b = l.length ∨ (at' l b).f2 = 0)) := by
  unfold quireref19_free.f
  by_cases c : b = l.length
  · rw [if_pos (by omega)]; simp [c]
  · rw [if_neg (by omega), if_pos (by omega), if_pos (by omega), rd_at]
    simp only [c, false_or]
    by_cases e : (at' l b).f2 = 0
    · simp [e]
    · simp [e]

theorem refFill_loop (l : List S37) (hl : l.length ≤ 4096) (hf : fine l) (a : Nat) (h : Int) (d : Nat) :
    ∀ i last al : Nat, a ≤ i → l.length = i + d → a < last → last ≤ l.length → (0 < al → a < al) → al ≤ l.length →
      Ev (fun k => quireref19_Fill.l0 k l (a : Int) h (((if 0 < al then al else a : Nat)) : Int) (last : Int) ((i + 1 : Nat) : Int)) (((run l a h d i last al).1 : Int), hgt l a ((run l a h d i last al).1 - a), (run l a h d i last al).2) := by
  have stop : ∀ i last al : Nat, a ≤ i → a < last → last ≤ l.length → (0 < al → a < al) → al ≤ l.length →
      Ev (fun k => quireref19_Fill.j1 k l (a : Int) h (((if 0 < al then al else a : Nat)) : Int) (last : Int) ((i + 1 : Nat) : Int) false)
        ((((if 0 < al then (al, false) else (last, true)) : Nat × Bool).1 : Int), hgt l a (((if 0 < al then (al, false) else (last, true)) : Nat × Bool).1 - a), ((if 0 < al then (al, false) else (last, true)) : Nat × Bool).2) := by
    intro i last al ha h1 h2 h3 h4
    refine up ?_
    simp only [quireref19_Fill.j1, Bool.false_eq_true, if_false]
    by_cases c : 0 < al
    · have c' : (al : Int) > (a : Int) := by have := h3 c; omega
      simp only [if_pos c, if_pos c']
      exact Ev.bind (refHeight_tells l hl hf a al (by have := h3 c; omega) h4) (Ev.now _)
    · have c' : ¬ (a : Int) > (a : Int) := by omega
      simp only [if_neg c, if_neg c']
      exact Ev.bind (refHeight_tells l hl hf a last (by omega) h2) (Ev.now _)
  induction d with
  | zero =>
    intro i last al ha hi h1 h2 h3 h4
    refine up ?_
    have c : ¬ ((i + 1 : Nat) : Int) ≤ (l.length : Int) := by omega
    simp only [quireref19_Fill.l0, if_neg c, run]
    exact stop i last al ha h1 h2 h3 h4
  | succ d ih =>
    intro i last al ha hi h1 h2 h3 h4
    have hw : wrap64 (((i + 1 : Nat) : Int) + 1) = ((i + 1 + 1 : Nat) : Int) := by rw [w64 (by omega) (by omega)]; omega
    refine up ?_
    have c : ((i + 1 : Nat) : Int) ≤ (l.length : Int) := by omega
    simp only [quireref19_Fill.l0, if_pos c, run]
    refine Ev.bind (refHeight_tells l hl hf a (i + 1) (by omega) (by omega)) ?_
    by_cases e : h < hgt l a (i + 1 - a)
    · have e' : ¬ hgt l a (i + 1 - a) ≤ h := by omega
      simp only [decide_eq_false e', if_pos e]
      exact stop i last al ha h1 h2 h3 h4
    · have e' : hgt l a (i + 1 - a) ≤ h := by omega
      simp only [decide_eq_true e', if_neg e]
      refine up ?_
      simp only [quireref19_Fill.j1, if_true, free_tells l (i + 1) (by omega), Option.bind_some, hw]
      by_cases g : i + 1 = l.length ∨ (at' l (i + 1)).f2 = 0
      · simp only [decide_eq_true g, if_true, if_pos g]
        have := ih (i + 1) (i + 1) (i + 1) (by omega) (by omega) (by omega) (by omega) (by omega) (by omega)
        rw [if_pos (show 0 < i + 1 by omega)] at this
        exact this
      · simp only [decide_eq_false g, if_neg g, Bool.false_eq_true, if_false]
        exact ih (i + 1) (i + 1) al (by omega) (by omega) (by omega) (by omega) h3 h4

theorem hgt_zero (l : List S37) (a : Nat) : hgt l a (a - a) = 0 := by rw [show a - a = 0 from by omega]; rfl

theorem refFill_tells (l : List S37) (hl : l.length ≤ 4096) (hf : fine l) (a : Nat) (ha : a ≤ l.length) (h : Int) :
    Ev (fun k => quireref19_Fill.f k l (a : Int) h) (((fillOf l a h).1 : Int), hgt l a ((fillOf l a h).1 - a), (fillOf l a h).2) := by
  unfold fillOf
  simp only [quireref19_Fill.f]
  by_cases c : a = l.length
  · have c' : (a : Int) = (l.length : Int) := by omega
    simp only [if_pos c, if_pos c', hgt_zero]
    exact Ev.now _
  · have c' : ¬ (a : Int) = (l.length : Int) := by omega
    have hw : wrap64 ((a : Int) + 1) = ((a + 1 : Nat) : Int) := by rw [w64 (by omega) (by omega)]; omega
    simp only [if_neg c, if_neg c', hw]
    exact refFill_loop l hl hf a h (l.length - a) a (a + 1) 0 (by omega) (by omega) (by omega) (by omega) (by omega) (by omega)

theorem refCols_loop (l : List S37) (hl : l.length ≤ 4096) (hf : fine l) (h : Int) (m : Nat) (hm : m ≤ 8) (d : Nat) :
    ∀ (c a : Nat) (out : List Int) (had : Bool), m = c + d → a ≤ l.length → out.length = c →
      Ev (fun k => quireref19_Columns.l0 k l h (m : Int) out (a : Int) had (c : Int)) (out ++ (colsOf l h d a).1, had || (colsOf l h d a).2) := by
  induction d with
  | zero =>
    intro c a out had hc ha ho
    refine up ?_
    have c1 : ¬ (c : Int) < (m : Int) := by omega
    simp only [quireref19_Columns.l0, if_neg c1, colsOf, List.append_nil, Bool.or_false]
    exact Ev.now _
  | succ d ih =>
    intro c a out had hc ha ho
    have r := fillOf_range l a h ha
    have c1 : (c : Int) < (m : Int) := by omega
    have hw : wrap64 ((c : Int) + 1) = ((c + 1 : Nat) : Int) := by rw [w64 (by omega) (by omega)]; omega
    have ho' : out.length < 17592186044416 := by omega
    have e1 : out ++ ((fillOf l a h).1 : Int) :: (colsOf l h d (fillOf l a h).1).1 = (out ++ [((fillOf l a h).1 : Int)]) ++ (colsOf l h d (fillOf l a h).1).1 := by simp
    refine up ?_
    simp only [quireref19_Columns.l0, if_pos c1]
    refine Ev.bind (refFill_tells l hl hf a ha h) ?_
    simp only [if_pos ho', hw, colsOf]
    rw [e1]
    cases had with
    | true =>
      simp only [if_true]
      have := ih (c + 1) (fillOf l a h).1 (out ++ [((fillOf l a h).1 : Int)]) true (by omega) r.2.1 (by simp [ho])
      simpa using this
    | false =>
      simp only [Bool.false_eq_true, if_false]
      have := ih (c + 1) (fillOf l a h).1 (out ++ [((fillOf l a h).1 : Int)]) (fillOf l a h).2 (by omega) r.2.1 (by simp [ho])
      simpa using this

theorem refCols_tells (l : List S37) (hl : l.length ≤ 4096) (hf : fine l) (h c : Int) (c0 : 1 ≤ c) (c1 : c ≤ 8) : Ev (fun k => quireref19_Columns.f k l h c) (colsOf l h c.toNat 0) := by
  obtain ⟨n, rfl⟩ := Int.eq_ofNat_of_zero_le (show 0 ≤ c by omega)
  have := refCols_loop l hl hf h n (by omega) n 0 0 [] false (by omega) (by omega) rfl
  rw [List.nil_append, Bool.false_or] at this
  exact this

end Go.Proofs.Ytoodiihimjalfaa.LBalanceTells
